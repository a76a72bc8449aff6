import PyProof.Rows.All
import Wide.All
import OpenK.AllK
import Wide.FinOn
import HandS.ForMost
import HandS.More
import HandS.Codes
import HandS.NoneIn
import HandS.Style
import HandS.DictComp
import HandS.SetKeys
import HandS.IsInst
import HandS.OwnEq
import HandS.DeepEq
import HandS.Deep
import HandS.Wide
import HandS.WideBits
import HandS.Flow
import HandS.Finally
import HandS.ForExc
import HandS.ExcInit
import HandS.ExcField
import HandS.TupAny
import HandS.Walk
import HandS.Conv
import HandS.DictTup
import PySem.Challenge.RW_endswell_k69_whole_waists_and_cuts
import KE.KEqDict
import PyProof.ListStr
import HandS.SetBool
import HandS.SetTxt0
import HandS.Strs
import KE.KDictZip
import KE.KDictKeyed
import KE.KTurns
import KE.KExcSuper
import HandS.Nested
import HandS.ExcValue
import KE.RegKSuper
set_option Elab.async false
set_option linter.all false
set_option maxRecDepth 100000
/-! The layer of this proof: the text by places, how a def is called, how heaps grow, what stands in them. -/
namespace K69
open PySem PySem.Spec PyProof.Rows L2

/-! ### the text -/
def topS (i : Nat) : Stmt := PySem.Challenge.pw_endswell_k69_whole_waists_and_cuts.main.body.getD i (.Pass ⟨0, 0, 0, 0⟩)

/-- a def of the module that stands under its name -/
structure Has (K : PySem.W.Frag) (mg : Str → Option Value) (x : Str) (st : Stmt) : Prop where
  ex : ∃ f fd, L2.Fun K x x st f fd ∧ mg x = some (.ref f)
/-- a def that may be called by its name -/
structure Cal (P : Program) (w : World) (K : PySem.W.Frag) (mg : Str → Option Value) (base : Heap) (k : Nat) (x : Str) (sp : Sp) : Prop where
  ex : ∃ (f : Addr) (fd : FuncData) (ps : List Str), FnOk P w K mg base L2.CX0 k f fd ps sp ∧ mg x = some (.ref f) ∧ PySem.W.keepIn K (.ref f) = true ∧ Binds K fd ps []
/-- a method of the class at C -/
structure Met (P : Program) (w : World) (K : PySem.W.Frag) (mg : Str → Option Value) (base : Heap) (k : Nat) (C : Addr) (m : Str) (sp : Sp) : Prop where
  ex : ∃ (f : Addr) (fd : FuncData) (ps : List Str), Cls K C ∧ Meth K C m f ∧ FnOk P w K mg base L2.CX0 k f fd ps sp ∧ Binds K fd ps []
/-- a class that may be made by its name -/
structure Mak (P : Program) (w : World) (K : PySem.W.Frag) (mg : Str → Option Value) (base : Heap) (k : Nat) (x : Str) (C : Addr) (sp : Sp) : Prop where
  ex : ∃ (f : Addr) (fd : FuncData) (ps : List Str), Mk K C f ∧ FnOk P w K mg base L2.CX0 k f fd ps sp ∧ mg x = some (.ref C) ∧ Binds K fd ps []
theorem passAny {X : Cx} {E : XK} : Passes L2.CX0 X E := fun _ _ _ _ _ _ _ h => h.elim
section
variable {P : Program} {w : World} {K : PySem.W.Frag} {mg : Str → Option Value} {base : Heap}
theorem Has.mk' {x : Str} {st : Stmt} {h : Heap} {f : Addr} {oc : Value} {od an : Option Addr} {osl : Array (Option Value)} {kV doc pm cdv ct : Value} (X : K.In h) (G : h.Ns mainGlobals mg)
    (a : PySem.W.nsIn K mainGlobals x = some (some (.ref f))) (l : K.lookup f = some ⟨oc, od, .func (PySem.W.fnOf x x (defArgs st) (defBody st) (defScope st) .none kV doc pm an cdv ct), osl⟩)
    (c : PySem.W.codeIn K cdv x = true) (k : PySem.W.keepIn K (.ref f) = true) : Has K mg x st := ⟨f, _, fun_mk l c k, PySem.W.mg_of X G a⟩
/-- the promise of a def, by its body -/
theorem Has.cal {x : Str} {st : Stmt} {N ps : List Str} {k : Nat} {sp : Sp} (F : Has K mg x st)
    (b : ∀ (kV doc pm : Value) (an : Option Addr) (cdv ct : Value) (us : List Value), us.length = ps.length → bindArgs (PySem.W.fnOf x x (defArgs st) (defBody st) (defScope st) .none kV doc pm an cdv ct) ⟨us, []⟩ = pure (ps.zip us))
    (S : FnScope N ps (defScope st)) (len : ∀ vs H Q E, sp vs H Q E → vs.length = ps.length)
    (hbody : ∀ (f : Addr) (cdv : Value) (A : Around) (outer : List Env) (s : Shared) (H : Hp) (vs : List V) (Q : VK) (E : XK), Room k (A.deeper (envOfC x (defScope st) s.heap.objs.size f cdv)) → sp vs H Q E →
      ∃ t, PSs (cxOf L2.CX0 P w K mg base N x (defScope st) f cdv A outer s H E).nox (defBody st) t ∧ t { nx := fun _ H' => Q .non H', rt := Q } (start N vs) H) : Cal P w K mg base (k + 1) x sp := by
  obtain ⟨f, fd, F, m⟩ := F.ex
  exact ⟨f, fd, ps, F.ok S len (hbody f), m, F.kp, F.binds b⟩
end
section
variable {X : Cx} {k j : Nat} {C : Addr} {x m : Str} {sp : Sp} {E : XK} {p pos apos : Pos} {e o : Expr} {es : List Expr} {ta : TE} {t : TA}
theorem kc (c : Cal X.prog X.w X.K X.mg X.base k x sp) (hr : Room j X.A) (ha : PA X (e :: es) t) (hk : k ≤ j := by decide) (hg : Gl X x := by rfl)
    (hdb : (x == ("__debug__" : Str)) = false := by decide) (he : starEach (e :: es) X.env = (false, eval e X.env) :: starEach es X.env := by rfl) (hpl : (backTo pos (starEach es X.env)).any (·.1) = false := by rfl) :
    PE X (.Call (.Name x p) (e :: es) [] pos) (tCall sp [] L2.E0 t) := by
  obtain ⟨f, fd, ps, F, hm, kp, b⟩ := c.ex
  exact pe_call F (hr.mono hk) hg hm kp b .nil passAny ha hdb he hpl
theorem kmk (c : Mak X.prog X.w X.K X.mg X.base k x C sp) (hr : Room j X.A) (ha : PA X (e :: es) t) (hk : k + 1 ≤ j := by decide) (hg : Gl X x := by rfl)
    (hdb : (x == ("__debug__" : Str)) = false := by decide) (he : starEach (e :: es) X.env = (false, eval e X.env) :: starEach es X.env := by rfl) (hpl : (backTo pos (starEach es X.env)).any (·.1) = false := by rfl) :
    PE X (.Call (.Name x p) (e :: es) [] pos) (tMake C sp [] L2.E0 t) := by
  obtain ⟨f, fd, ps, M, F, hm, b⟩ := c.ex
  exact pe_make M F (hr.mono hk) hg hm b .nil passAny ha hdb he hpl
theorem kmt0 {pl : Sem Bool} (c : Met X.prog X.w X.K X.mg X.base k C m sp) (hr : Room j X.A) (he : PE X o ta) (hk : k ≤ j := by decide)
    (ht : eval (.Call (.Attribute o m apos) [] [] pos) X.env = (do
      let ov ← eval o X.env
      standAt apos.atName
      let (f, first) ← holding [ov] (getMethod ov m pl)
      callWith pos f first (backTo pos (starEach [] X.env)) (backToKw pos (keywordEach [] X.env))) := by rfl) :
    PE X (.Call (.Attribute o m apos) [] [] pos) (tMeth C m sp [] L2.E0 ta tNil) := by
  obtain ⟨f, fd, ps, hc, hm, F, b⟩ := c.ex
  exact pe_meth0 (pl := pl) he hc hm F (hr.mono hk) b .nil passAny ht
end

/-! ### how heaps grow -/
def Ex (H H' : Hp) : Prop := ∀ a o, H a = some o → H' a = some o
theorem Ex.refl (H : Hp) : Ex H H := fun _ _ h => h
theorem Ex.trans {H H1 H2 : Hp} (a : Ex H H1) (b : Ex H1 H2) : Ex H H2 := fun x o h => b x o (a x o h)
theorem Ex.new {H : Hp} {p : Addr} {o : HO} (h : H p = none) : Ex H (upd H p o) := fun a u e => by
  rw [upd_ne (ne_of_none e h)]
  exact e
theorem Ex.back {H H' : Hp} {p : Addr} (e : Ex H H') (h : H' p = none) : H p = none := by
  cases h1 : H p with
  | none => rfl
  | some o => rw [e p o h1] at h; cases h
theorem Ex.up {H H' : Hp} {p : Addr} {o : HO} (e : Ex H H') (h : H p = none) : Ex H (upd H' p o) := fun a u ha => by
  rw [upd_ne (ne_of_none ha h)]
  exact e a u ha
theorem Ex.up2 {H H' : Hp} {p : Addr} {o : HO} (e : Ex H H') : Ex (upd H p o) (upd H' p o) := fun a u ha => by
  by_cases z : a = p
  · subst z; rw [upd_same] at ha ⊢; exact ha
  · rw [upd_ne z] at ha ⊢; exact e a u ha
theorem Ex.sql {K : PySem.W.Frag} {H H' : Hp} {a : Addr} {xs : List V} (e : Ex H H') (h : SqL K H a xs) : SqL K H' a xs := by
  rcases h with (h | ⟨o, h⟩) | h
  · exact .inl (.inl (e _ _ h))
  · exact .inl (.inr ⟨o, e _ _ h⟩)
  · exact .inr h
/-- from (G, H) to (G', H'): H the heap, G its part that stays for ever; m may change -/
structure Nxt (m : Option Addr) (G H G' H' : Hp) : Prop where
  hh : ∀ a o, m ≠ some a → H a = some o → H' a = some o
  gg : Ex G G'
  gh : Ex G' H'
  fr : ∀ a o, H a = some o → G' a = G a
section
variable {m : Option Addr} {G H G' H' G1 H1 G2 H2 G0 H0 : Hp} {p : Addr} {o o' : HO}
theorem Nxt.refl (e : Ex G H) : Nxt m G H G H := ⟨fun _ _ _ h => h, Ex.refl G, e, fun _ _ _ => rfl⟩
theorem Nxt.wk (s : Nxt none G H G' H') : Nxt m G H G' H' := ⟨fun a o _ h => s.hh a o (by simp) h, s.gg, s.gh, s.fr⟩
theorem Nxt.ex (s : Nxt none G H G' H') : Ex H H' := fun a o h => s.hh a o (by simp) h
theorem Nxt.trans (s : Nxt none G H G1 H1) (t : Nxt none G1 H1 G2 H2) : Nxt none G H G2 H2 :=
  ⟨fun a o z h => t.hh a o z (s.hh a o z h), s.gg.trans t.gg, t.gh, fun a o h => (t.fr a o (s.ex a o h)).trans (s.fr a o h)⟩
/-- where m stands in both -/
theorem Nxt.transM (s : Nxt (some p) G H G1 H1) (t : Nxt (some p) G1 H1 G2 H2) (hm : ∃ o, H1 p = some o) : Nxt (some p) G H G2 H2 :=
  ⟨fun a o z h => t.hh a o z (s.hh a o z h), s.gg.trans t.gg, t.gh, fun a o h => by
    by_cases z : p = a
    · subst z
      obtain ⟨u, hu⟩ := hm
      exact (t.fr _ u hu).trans (s.fr _ o h)
    · exact (t.fr a o (s.hh a o (fun q => z (Option.some.inj q)) h)).trans (s.fr a o h)⟩
theorem Nxt.flat (e : Ex G H) (x : Ex H H') : Nxt none G H G H' := ⟨fun a o _ h => x a o h, Ex.refl G, e.trans x, fun _ _ _ => rfl⟩
/-- what has come is not looked at any more -/
theorem Nxt.forget (s : Nxt m G H G' H') : Nxt m G H G H' := ⟨s.hh, Ex.refl G, s.gg.trans s.gh, fun _ _ _ => rfl⟩
/-- a new object that stays -/
theorem Nxt.new (s : Nxt m G0 H0 G H) (h : H p = none) (h0 : H0 p = none) : Nxt m G0 H0 (upd G p o) (upd H p o) :=
  ⟨fun a u z e => by rw [upd_ne (ne_of_none e h0)]; exact s.hh a u z e, fun a u e => by rw [upd_ne (ne_of_none e (s.gg.back (s.gh.back h)))]; exact s.gg a u e, s.gh.up2,
    fun a u e => by rw [upd_ne (ne_of_none e h0)]; exact s.fr a u e⟩
theorem Nxt.new1 (e : Ex G H) (h : H p = none) : Nxt none G H (upd G p o) (upd H p o) := (Nxt.refl e).new h h
/-- a new object of one's own -/
theorem Nxt.own (s : Nxt m G0 H0 G H) (h : H p = none) (h0 : H0 p = none) : Nxt m G0 H0 G (upd H p o) :=
  ⟨fun a u z e => by rw [upd_ne (ne_of_none e h0)]; exact s.hh a u z e, s.gg, s.gh.up (s.gh.back h), s.fr⟩
/-- .. changed -/
theorem Nxt.mut (s : Nxt m G0 H0 G H) (g : G p = none) (h0 : H0 p = none) : Nxt m G0 H0 G (upd H p o) :=
  ⟨fun a u z e => by rw [upd_ne (ne_of_none e h0)]; exact s.hh a u z e, s.gg, s.gh.up g, s.fr⟩
theorem Nxt.mutM (s : Nxt (some p) G0 H0 G H) (g : G p = none) : Nxt (some p) G0 H0 G (upd H p o) :=
  ⟨fun a u z e => by rw [upd_ne (fun q => z (by rw [q]))]; exact s.hh a u z e, s.gg, s.gh.up g, s.fr⟩
/-- .. finished: it stays from now on -/
theorem Nxt.frz (s : Nxt m G0 H0 G H) (g : G p = none) (h : H p = some o) (h0 : H0 p = none) : Nxt m G0 H0 (upd G p o) H :=
  ⟨s.hh, fun a u e => by rw [upd_ne (ne_of_none e (s.gg.back g))]; exact s.gg a u e, fun a u e => by
    by_cases z : a = p
    · subst z; rw [upd_same] at e; rw [h]; exact e
    · rw [upd_ne z] at e; exact s.gh a u e, fun a u e => by rw [upd_ne (ne_of_none e h0)]; exact s.fr a u e⟩
/-- something of one's own, behind a step -/
theorem Nxt.keep (s : Nxt none G H G' H') (g : G p = none) (h : H p = some o) : G' p = none ∧ H' p = some o := ⟨(s.fr p o h).trans g, s.ex p o h⟩
theorem Nxt.keepM {q : Addr} (s : Nxt (some q) G H G' H') (n : q ≠ p) (g : G p = none) (h : H p = some o) : G' p = none ∧ H' p = some o :=
  ⟨(s.fr p o h).trans g, s.hh p o (fun z => n (Option.some.inj z)) h⟩
theorem Nxt.isNone (s : Nxt m G H G' H') (hm : m ≠ some p) (h : H' p = Option.none) : H p = Option.none := by
  cases q : H p with
  | none => rfl
  | some u => rw [s.hh p u hm q] at h; cases h
theorem Nxt.none0 (s : Nxt Option.none G H G' H') (h : H' p = Option.none) : H p = Option.none := s.isNone (by simp) h
end

/-! ### what stands in a heap -/
abbrev Turns := List (Str × Str)
abbrev Row := Str × Turns
abbrev Book := List (Str × Row)
def kvS (ts : Turns) : List (Key × V) := ts.map fun p => (Sum.inr p.1, V.str p.2)
def kvR (rs : List (Str × Addr)) : List (Key × V) := rs.map fun p => (Sum.inr p.1, V.ref p.2)
/-- at a: the row's tuple, its turns a dict -/
def RowAt (G : Hp) (a : Addr) (r : Row) : Prop := ∃ d, G a = some (.tup [.str r.1, .ref d]) ∧ G d = some (.dK (kvS r.2))
abbrev RowsAt (G : Hp) : List (Str × Addr) → Book → Prop := Paired fun p q => p.1 = q.1 ∧ RowAt G p.2 q.2
def BookAt (G : Hp) (b : Addr) (bk : Book) : Prop := ∃ rs, G b = some (.dK (kvR rs)) ∧ RowsAt G rs bk
/-- a world: [book, start] -/
def WorldAt (G : Hp) (a : Addr) (bk : Book) (s : Str) : Prop := ∃ b, G a = some (.lst [.ref b, .str s]) ∧ BookAt G b bk
def dFs (b : Addr) (s : Str) : List (Str × V) := [("rows", .ref b), ("first", .str s)]
def DeskAt (C : Addr) (G : Hp) (a : Addr) (bk : Book) (s : Str) : Prop := ∃ b dx, G a = some (.ins C dx (dFs b s)) ∧ G dx = some (.own a) ∧ BookAt G b bk
section
variable {G G' : Hp} {a b C : Addr} {r : Row} {bk : Book} {s : Str} {rs : List (Str × Addr)}
theorem RowAt.mono (h : RowAt G a r) (e : Ex G G') : RowAt G' a r := let ⟨d, x, y⟩ := h; ⟨d, e _ _ x, e _ _ y⟩
theorem RowsAt.mono (h : RowsAt G rs bk) (e : Ex G G') : RowsAt G' rs bk := Paired.mapP h fun _ _ z => ⟨z.1, z.2.mono e⟩
theorem BookAt.mono (h : BookAt G b bk) (e : Ex G G') : BookAt G' b bk := let ⟨rs, x, y⟩ := h; ⟨rs, e _ _ x, RowsAt.mono y e⟩
theorem WorldAt.mono (h : WorldAt G a bk s) (e : Ex G G') : WorldAt G' a bk s := let ⟨b, x, y⟩ := h; ⟨b, e _ _ x, y.mono e⟩
theorem DeskAt.mono (h : DeskAt C G a bk s) (e : Ex G G') : DeskAt C G' a bk s := let ⟨b, dx, x, y, z⟩ := h; ⟨b, dx, e _ _ x, e _ _ y, z.mono e⟩
theorem valV_kvS (ts : Turns) (w : Str) : valV (kvS ts) (Sum.inr w : Key) = (ts.lookup w).map V.str := by
  induction ts with
  | nil => rfl
  | cons p r ih =>
    obtain ⟨x, y⟩ := p
    show valV ((Sum.inr x, V.str y) :: kvS r) (Sum.inr w : Key) = _
    rw [List.lookup_cons]
    by_cases h : x = w
    · subst h
      rw [valV_pos rfl]
      simp
    · rw [valV_neg (fun z => h (Sum.inr.inj z)), ih]
      have : (w == x) = false := by simpa using fun z : w = x => h z.symm
      rw [this]
theorem valV_kvR (rs : List (Str × Addr)) (w : Str) : valV (kvR rs) (Sum.inr w : Key) = (rs.lookup w).map V.ref := by
  induction rs with
  | nil => rfl
  | cons p r ih =>
    obtain ⟨x, y⟩ := p
    show valV ((Sum.inr x, V.ref y) :: kvR r) (Sum.inr w : Key) = _
    rw [List.lookup_cons]
    by_cases h : x = w
    · subst h
      rw [valV_pos rfl]
      simp
    · rw [valV_neg (fun z => h (Sum.inr.inj z)), ih]
      have : (w == x) = false := by simpa using fun z : w = x => h z.symm
      rw [this]
/-- a row of a book -/
theorem RowsAt.get (h : RowsAt G rs bk) {s : Str} {r : Row} (e : bk.lookup s = some r) : ∃ a, valV (kvR rs) (Sum.inr s : Key) = some (.ref a) ∧ RowAt G a r := by
  rw [valV_kvR]
  induction h with
  | nil => cases e
  | @cons p q ps qs hq t ih =>
    obtain ⟨x, a⟩ := p
    obtain ⟨y, r'⟩ := q
    obtain ⟨rfl, hr⟩ := hq
    rw [List.lookup_cons] at e ⊢
    cases hb : s == x with
    | true => rw [hb] at e; cases e; exact ⟨a, rfl, hr⟩
    | false => rw [hb] at e; exact ih e
theorem RowsAt.keys (h : RowsAt G rs bk) : rs.map (·.1) = bk.map (·.1) := by
  induction h with
  | nil => rfl
  | cons hq t ih => rw [List.map_cons, List.map_cons, ih, hq.1]
theorem RowsAt.len (h : RowsAt G rs bk) : rs.length = bk.length := by
  have := congrArg List.length h.keys
  simpa using this
theorem kvR_keys (rs : List (Str × Addr)) : (kvR rs).map (·.1) = (rs.map (·.1)).map Sum.inr := by simp [kvR]
theorem kvS_keys (ts : Turns) : (kvS ts).map (·.1) = (ts.map (·.1)).map Sum.inr := by simp [kvS]
end
end K69
set_option Elab.async false
set_option linter.all false
set_option maxRecDepth 100000
/-! Readings, step by step: each rule's question, its plain parts answered. -/
namespace K69
open PySem PySem.Spec PyProof.Rows L2
section
variable {K : PySem.W.Frag} {σ : L2.St} {H : Hp} {Q : VK} {QT : Bool → Hp → Prop} {QA : List V → Hp → Prop} {QS : L2.St → Hp → Prop} {D : Ends} {ta tb tc te tv td ty tx : TE} {t u : TS} {c c' : TT} {ar : TA} {v x y : V} {r r' : R2} {i j l : Nat} {a : Addr} {g : TG} {gs : TGs}
theorem g_seq (h : t { D with nx := u D } σ H) : tSeq t u D σ H := h
theorem g_asg (h : te σ H fun x H1 => g x σ H1 D.nx) : tAsg te g D σ H := h
theorem g_name (h : QS (σ.set i (some v)) H) : gName i v σ H QS := h
theorem g_gnil (h : QS σ H) : gNil [] σ H QS := ⟨rfl, h⟩
theorem g_gcons {vs : List V} (h : g v σ H fun σ' H' => gs vs σ' H' QS) : gCons g gs (v :: vs) σ H QS := ⟨v, vs, rfl, h⟩
theorem g_gtup {xs : List V} {n : Nat} (h : SqT K H a xs) (hl : xs.length = n) (k : gs xs σ H QS) : gTup K n gs (.ref a) σ H QS := ⟨a, xs, rfl, h, hl, k⟩
theorem g_glst {xs : List V} {n : Nat} (h : SqL K H a xs) (hl : xs.length = n) (k : gs xs σ H QS) : gLst K n gs (.ref a) σ H QS := ⟨a, xs, rfl, h, hl, k⟩
theorem g_ret (h : te σ H D.rt) : tRet te D σ H := h
theorem g_drop (h : te σ H fun _ H1 => D.nx σ H1) : tDrop te D σ H := h
theorem g_next (h : D.nx σ H) : tNext D σ H := h
theorem g_ifS (h : c σ H fun b H1 => if b = true then t D σ H1 else u D σ H1) : tIfS c t u D σ H := h
theorem g_var (e : σ[i]? = some (some v)) (h : Q v H) : tVar i σ H Q := ⟨v, e, h⟩
theorem g_C (h : Q v H) : tC v σ H Q := h
theorem g_op (h : ta σ H fun x H1 => tb σ H1 fun y H2 => r x y H2 Q) : tOp r ta tb σ H Q := h
theorem g_un {r : V → Hp → VK → Prop} (h : ta σ H fun x H1 => r x H1 Q) : tUn r ta σ H Q := h
theorem g_nil (h : QA [] H) : tNil σ H QA := h
theorem g_cons (h : ta σ H fun x H1 => ar σ H1 fun xs H2 => QA (x :: xs) H2) : tCons ta ar σ H QA := h
theorem g_fld0 {f : Str} (h : ta σ H fun x H1 => ∃ a C dx fs v, x = .ref a ∧ H1 a = some (.ins C dx fs) ∧ Cls K C ∧ NoAttr K C f ∧ fs.lookup f = some v ∧ Q v H1) : tFld K ta f σ H Q := h
theorem g_dget (h : td σ H fun x H1 => ty σ H1 fun y H2 => ∃ a v, x = .ref a ∧ DGet H2 a y (some v) ∧ Q v H2) : tDGet td ty σ H Q := h
theorem g_din (h : ty σ H fun y H1 => td σ H1 fun x H2 => ∃ a o, x = .ref a ∧ DGet H2 a y o ∧ Q (.bl o.isSome) H2) : tDIn ty td σ H Q := h
theorem g_dnotin (h : ty σ H fun y H1 => td σ H1 fun x H2 => ∃ a o, x = .ref a ∧ DGet H2 a y o ∧ Q (.bl (!o.isSome)) H2) : tDNotIn ty td σ H Q := h
theorem g_cb {r : List V → Hp → VK → Prop} (h : ar σ H fun vs H1 => r vs H1 Q) : tCB r ar σ H Q := h
theorem g_call {sp : Sp} {dvs : List V} {E : XK} (h : ar σ H fun vs H1 => sp (vs ++ dvs) H1 Q E) : tCall sp dvs E ar σ H Q := h
theorem g_bm {T : String} {r : V → List V → Hp → VK → Prop} (h : ta σ H fun x H1 => tyV K T x H1 ∧ ar σ H1 fun xs H2 => r x xs H2 Q) : tBM K T r ta ar σ H Q := h
theorem g_bm0 {T : String} {r : V → List V → Hp → VK → Prop} (h : ta σ H fun x H1 => tyV K T x H1 ∧ r x [] H1 Q) : tBM0 K T r ta σ H Q := h
theorem g_B (h : te σ H fun x H1 => ∃ k, x = .bl k ∧ QT k H1) : tB te σ H QT := h
theorem g_test (h : te σ H fun x H1 => ∃ k, x = .bl k ∧ QT k H1) : tTest te σ H QT := h
theorem g_bl {b : Bool} {P : Bool → Prop} (h : P b) : ∃ k, V.bl b = .bl k ∧ P k := ⟨b, rfl, h⟩
theorem g_and (h : c σ H fun b H1 => if b = true then c' σ H1 QT else QT false H1) : tAnd c c' σ H QT := h
theorem g_or (h : c σ H fun b H1 => if b = true then QT true H1 else c' σ H1 QT) : tOr c c' σ H QT := h
theorem g_not (h : c σ H fun b H1 => QT (!b) H1) : tNot c σ H QT := h
theorem g_andV (h : ta σ H fun x H1 => ∃ b, x = .bl b ∧ if b = true then tb σ H1 Q else Q (.bl false) H1) : tAndV ta tb σ H Q := h
theorem g_orV (h : ta σ H fun x H1 => ∃ b, x = .bl b ∧ if b = true then Q (.bl true) H1 else tb σ H1 Q) : tOrV ta tb σ H Q := h
theorem g_notV (h : ta σ H fun x H1 => ∃ b, x = .bl b ∧ Q (.bl (!b)) H1) : tNotV ta σ H Q := h
theorem g_if (h : c σ H fun b H1 => if b = true then ta σ H1 Q else tb σ H1 Q) : tIf c ta tb σ H Q := h
theorem g_isN (h : ta σ H fun x H1 => Q (.bl (decide (x = .non))) H1) : tIsN ta σ H Q := h
theorem g_notN (h : ta σ H fun x H1 => Q (.bl (!decide (x = .non))) H1) : tNotN ta σ H Q := h
theorem g_ite {A B : Prop} (h : A) : if true = true then A else B := iteT h
theorem g_itf {A B : Prop} (h : B) : if false = true then A else B := iteF h
theorem g_itnt {A B : Prop} (h : B) : if (!true) = true then A else B := iteF h
theorem g_itnf {A B : Prop} (h : A) : if (!false) = true then A else B := iteT h
theorem g_chain (h : ta σ H fun x H1 => tb σ H1 fun y H2 => r x y H2 fun z H3 => ∃ k, z = .bl k ∧ (if k = true then tc σ H3 fun w' H4 => r' y w' H4 Q else Q (.bl false) H3)) : tChain r r' ta tb tc σ H Q := h
theorem g_while (h : ∃ W : Nat → L2.St → Hp → Prop, (∃ m, W m σ H) ∧ ∀ m σ H, W m σ H →
  c σ H fun b H1 => if b = true then ∃ N : L2.St → Hp → Prop, (∀ σ' H', N σ' H' → ∃ m', m' < m ∧ W m' σ' H') ∧ t { D with nx := N, ct := N, bk := D.nx } σ H1 else D.nx σ H1) : tWhile c t D σ H := h
theorem g_for {wi : TI} (h : wi σ H fun J H1 => ∃ W : Nat → Nat → L2.St → Hp → Prop, (∃ m, W 0 m σ H1) ∧ ∀ i m σ H, W i m σ H → (J.stop i H ∧ D.nx σ H) ∨ (J.go i H ∧ ∃ N : L2.St → Hp → Prop, (∀ σ' H', N σ' H' → ∃ m', m' < m ∧ W (i + 1) m' σ' H') ∧
  ∀ x H', J.yld i H x H' → g x σ H' fun σ2 H2 => t { D with nx := N, ct := N, bk := D.nx } σ2 H2)) : tFor wi g t D σ H := h
theorem g_istr {R : It → Hp → Prop} (h : te σ H fun v H1 => ∃ x, v = .str x ∧ R (Its x) H1) : iStr te σ H R := h
theorem g_ilist {R : It → Hp → Prop} (h : te σ H fun x H1 => ∃ a, x = .ref a ∧ (∃ xs, SqL K H1 a xs) ∧ R (Itl K a) H1) : iList K te σ H R := h
theorem g_itup {R : It → Hp → Prop} (h : te σ H fun x H1 => ∃ a, x = .ref a ∧ (∃ xs, SqT K H1 a xs) ∧ R (Itt K a) H1) : iTup K te σ H R := h
theorem g_ikeys {R : It → Hp → Prop} (h : td σ H fun x H1 => ∃ d o, x = .ref d ∧ ((∃ kvs, H1 d = some (.frz o (.dK kvs)) ∧ R (Itk d o kvs) H1) ∨ ∃ kvs, H1 d = some (.frz o (.dT kvs)) ∧ R (Itkt d o kvs) H1)) : iKeys td σ H R := h
theorem g_ivals {R : It → Hp → Prop} (h : td σ H fun x H1 => ∃ d o kvs, x = .ref d ∧ H1 d = some (.frz o (.dK kvs)) ∧ R (Itd d o kvs) H1) : iVals td σ H R := h
theorem g_iitems {R : It → Hp → Prop} (h : td σ H fun x H1 => ∃ d o kvs, x = .ref d ∧ H1 d = some (.frz o (.dK kvs)) ∧ R (Iti d o kvs) H1) : iItems td σ H R := h
theorem g_irng1 {R : It → Hp → Prop} (h : ar σ H fun vs H1 => ∃ j : Int, vs = [.int j] ∧ -(2 ^ 62) ≤ j ∧ j < 2 ^ 62 ∧ R (Itr 0 j.toNat) H1) : iRng1 ar σ H R := h
theorem g_izip {R : It → Hp → Prop} (h : ar σ H fun vs H1 => ∃ a b xs ys, vs = [.ref a, .ref b] ∧ SqL K H1 a xs ∧ SqL K H1 b ys ∧ R (Itz K a b) H1) : iZip K ar σ H R := h
theorem g_refK {P : Addr → Prop} (h : P a) : ∃ b, V.ref a = .ref b ∧ P b := ⟨a, rfl, h⟩
theorem g_ix (h : td σ H fun x H1 => ty σ H1 fun y H2 => r x y H2 Q) : tOp r td ty σ H Q := h
theorem g_rI {C : Int → Int → Prop} {f : Int → Int → V} {i j : Int} (hc : C i j) (h : Q (f i j) H) : rI C f (.int i) (.int j) H Q := ⟨i, j, rfl, rfl, hc, h⟩
theorem g_rI0 {f : Int → Int → V} {i j : Int} (h : Q (f i j) H) : rI0 f (.int i) (.int j) H Q := ⟨i, j, rfl, rfl, h⟩
theorem g_rU {f : Int → V} {i : Int} (h : Q (f i) H) : rU f (.int i) H Q := ⟨i, rfl, h⟩
theorem g_eqS {a b : Str} (h : Q (.bl (decide (a = b))) H) : rEq (.str a) (.str b) H Q := ⟨rfl, by
  have e : decide (V.str a = V.str b) = decide (a = b) := by
    by_cases z : a = b
    · subst z; simp
    · rw [decide_eq_false z, decide_eq_false (fun q => z (V.str.inj q))]
  rw [e]; exact h⟩
theorem g_eqI {a b : Int} (h : Q (.bl (decide (a = b))) H) : rEq (.int a) (.int b) H Q := ⟨rfl, by
  have e : decide (V.int a = V.int b) = decide (a = b) := by
    by_cases z : a = b
    · subst z; simp
    · rw [decide_eq_false z, decide_eq_false (fun q => z (V.int.inj q))]
  rw [e]; exact h⟩
theorem g_neS {a b : Str} (h : Q (.bl (!decide (a = b))) H) : rNe (.str a) (.str b) H Q := ⟨rfl, by
  have e : decide (V.str a = V.str b) = decide (a = b) := by
    by_cases z : a = b
    · subst z; simp
    · rw [decide_eq_false z, decide_eq_false (fun q => z (V.str.inj q))]
  rw [e]; exact h⟩
theorem g_neI {a b : Int} (h : Q (.bl (!decide (a = b))) H) : rNe (.int a) (.int b) H Q := ⟨rfl, by
  have e : decide (V.int a = V.int b) = decide (a = b) := by
    by_cases z : a = b
    · subst z; simp
    · rw [decide_eq_false z, decide_eq_false (fun q => z (V.int.inj q))]
  rw [e]; exact h⟩
theorem g_ixT {xs : List V} {i : Int} (h : H a = some (.tup xs)) (e : atI xs i = some v) (q : Q v H) : rIxT K (.ref a) (.int i) H Q := ⟨a, xs, i, v, rfl, rfl, SqT.of h, e, q⟩
theorem g_ixL {xs : List V} {i : Int} (h : H a = some (.lst xs)) (e : atI xs i = some v) (q : Q v H) : rIxL K (.ref a) (.int i) H Q := ⟨a, xs, i, v, rfl, rfl, SqL.of h, e, q⟩
theorem g_fldK {PV : V → Prop} {Cd dx : Addr} {fs : List (Str × V)} {f : Str} (h : H a = some (.ins Cd dx fs)) (cl : Cls K Cd) (n : NoAttr K Cd f) (l : fs.lookup f = some v) (q : PV v) :
    ∃ a' C dx fs v', V.ref a = .ref a' ∧ H a' = some (.ins C dx fs) ∧ Cls K C ∧ NoAttr K C f ∧ fs.lookup f = some v' ∧ PV v' := ⟨a, Cd, dx, fs, v, rfl, h, cl, n, l, q⟩
theorem g_dg {PV : V → Prop} (h : DGet H a y (some v)) (q : PV v) : ∃ a' v', V.ref a = .ref a' ∧ DGet H a' y (some v') ∧ PV v' := ⟨a, v, rfl, h, q⟩
theorem g_dgs {PV : V → Prop} {kvs : List (Key × V)} {s : Str} (e : Rd H a (.dK kvs)) (h : valV kvs (Sum.inr s : Key) = some v) (q : PV v) : ∃ a' v', V.ref a = .ref a' ∧ DGet H a' (.str s) (some v') ∧ PV v' := ⟨a, v, rfl, .inl ⟨kvs, Sum.inr s, e, rfl, h.symm⟩, q⟩
theorem g_eqB {a b : Bool} (h : Q (.bl (decide (a = b))) H) : rEq (.bl a) (.bl b) H Q := ⟨rfl, by
  have e : decide (V.bl a = V.bl b) = decide (a = b) := by cases a <;> cases b <;> rfl
  rw [e]; exact h⟩
theorem g_neB {a b : Bool} (h : Q (.bl (!decide (a = b))) H) : rNe (.bl a) (.bl b) H Q := ⟨rfl, by
  have e : decide (V.bl a = V.bl b) = decide (a = b) := by cases a <;> cases b <;> rfl
  rw [e]; exact h⟩
theorem g_isi {b : String} {T : String} {k : Bool} (h : TyX K H x (.type T)) (e : kitB T b = some k) (q : Q (.bl k) H) : rIsi K [x, .ty b] H Q := ⟨x, .ty b, .type T, .type b, k, rfl, .ty b, h, kit_ty e, q⟩
theorem g_par2 (h : ar σ H fun vs H1 => ∃ v w, vs = [v, w] ∧ D.nx ((σ.set i (some v)).set j (some w)) H1) : tPar i j ar D σ H := h
theorem g_par3 (h : ar σ H fun vs H1 => ∃ u v w, vs = [u, v, w] ∧ D.nx (((σ.set i (some u)).set j (some v)).set l (some w)) H1) : tPar3 i j l ar D σ H := h
theorem g_vw {v w : V} {P : V → V → Prop} (h : P v w) : ∃ v' w', [v, w] = [v', w'] ∧ P v' w' := ⟨v, w, rfl, h⟩
theorem g_uvw {u v w : V} {P : V → V → V → Prop} (h : P u v w) : ∃ u' v' w', [u, v, w] = [u', v', w'] ∧ P u' v' w' := ⟨u, v, w, rfl, h⟩
theorem g_dput (h : tv σ H fun v H1 => td σ H1 fun x H2 => ty σ H2 fun y H3 => ∃ a H4, x = .ref a ∧ DPut H3 a y v H4 ∧ D.nx σ H4) : sDPut td ty tv D σ H := h
theorem g_aug {ti : TIp} (e : σ[i]? = some (some v)) (h : te σ H fun y H1 => ti v y H1 fun z H2 => D.nx (σ.set i (some z)) H2) : tAug i te ti D σ H := ⟨v, e, h⟩
theorem g_ipI {f : Int → Int → Int} {i j : Int} (h : Q (.int (f i j)) H) : ipI f (.int i) (.int j) H Q := ⟨i, j, rfl, rfl, h⟩
theorem g_sl {r : V → Option Int → Option Int → Hp → VK → Prop} {tl th : TO} (h : te σ H fun x H1 => tl σ H1 fun l H2 => th σ H2 fun u H3 => r x l u H3 Q) : tSl r te tl th σ H Q := h
theorem g_nopart {QO : Option Int → Hp → Prop} (h : QO none H) : tNoPart σ H QO := h
theorem g_part {QO : Option Int → Hp → Prop} (h : te σ H fun x H1 => ∃ i, x = .int i ∧ QO (some i) H1) : tPart te σ H QO := h
theorem g_int {i : Int} {P : Int → Prop} (h : P i) : ∃ k, V.int i = .int k ∧ P k := ⟨i, rfl, h⟩
theorem g_nin {p : Addr} {xs : List V} {b : Bool} (h : SqL K H p xs ∨ SqT K H p xs) (hx : flatV x = true) (ha : xs.all flatV = true) (e : inV x xs = b) (q : Q (.bl (!b)) H) : rIn K true x (.ref p) H Q := by
  subst e
  exact ⟨p, xs, rfl, h, hx, ha, q⟩
theorem g_in {p : Addr} {xs : List V} {b : Bool} (h : SqL K H p xs ∨ SqT K H p xs) (hx : flatV x = true) (ha : xs.all flatV = true) (e : inV x xs = b) (q : Q (.bl b) H) : rIn K false x (.ref p) H Q := by
  subst e
  exact ⟨p, xs, rfl, h, hx, ha, q⟩
theorem flatS (l : List Str) : (l.map V.str).all flatV = true := by
  rw [List.all_eq_true]
  intro v hv
  obtain ⟨s, _, rfl⟩ := List.mem_map.mp hv
  rfl
theorem inV_str (s : Str) (l : List Str) : inV (.str s) (l.map V.str) = decide (s ∈ l) := by
  induction l with
  | nil => rfl
  | cons a l ih =>
    show (eqV (.str a) (.str s) || inV (.str s) (l.map V.str)) = _
    rw [ih]
    by_cases h : a = s
    · subst h
      have : eqV (.str a) (.str a) = true := by simp [eqV]
      rw [this]; simp
    · have : eqV (.str a) (.str s) = false := by simp [eqV, h]
      rw [this]
      by_cases z : s ∈ l
      · simp [z]
      · have : ¬ s = a := fun q => h q.symm
        simp [z, this]
theorem g_tup (h : ar σ H fun xs H1 => xs.length ≤ sizeLine ∧ ∀ p, H1 p = none → Q (.ref p) (upd H1 p (.tup xs))) : tTup ar σ H Q := h
theorem g_lst (h : ar σ H fun xs H1 => xs.length ≤ sizeLine ∧ ∀ p, H1 p = none → Q (.ref p) (upd H1 p (.lst xs))) : tLst ar σ H Q := h
theorem g_dnew (h : ∀ p, H p = none → Q (.ref p) (upd H p (.dK []))) : tDNewK σ H Q := h
theorem g_yes (h : QT true H) : tYes σ H QT := h
theorem g_lstr {tl : TE} {R : It → Hp → Prop} (h : tl σ H fun x H1 => ∃ a, x = .ref a ∧ (∃ xs, SqL K H1 a xs) ∧ R (Itl K a) H1) : iList K tl σ H R := h
theorem g_gsub {to ti : TE} {s : TSet} (h : to σ H fun o H1 => ti σ H1 fun i H2 => s o i v H2 fun H3 => QS σ H3) : gSub to ti s v σ H QS := h
/-- an item of a dict that is tracked, or locked -/
theorem DGet.rd {kvs : List (Key × V)} {k : Key} (e : Rd H a (.dK kvs)) : DGet H a (kV k) (valV kvs k) := .inl ⟨kvs, k, e, rfl, rfl⟩
theorem DGet.s {kvs : List (Key × V)} {s : Str} {o : Option V} (e : Rd H a (.dK kvs)) (h : valV kvs (Sum.inr s : Key) = o) : DGet H a (.str s) o := .inl ⟨kvs, Sum.inr s, e, rfl, h.symm⟩
theorem DPut.s {kvs : List (Key × V)} {s : Str} (e : H a = some (.dK kvs)) (hl : kvs.length < sizeLine) : DPut H a (.str s) v (upd H a (.dK (putK kvs (Sum.inr s) v))) := .inl ⟨kvs, Sum.inr s, e, rfl, hl, rfl⟩
end
end K69
set_option Elab.async false
set_option linter.all false
set_option maxRecDepth 100000
/-! Comprehensions over anything that is walked, by what the growing result is. -/
namespace K69
open PySem PySem.Spec PyProof.Rows L2
section
variable {J : It} {n : Nat} {Gd : Hp → Prop} {Y : Nat → Hp → V → Hp → Prop} {g : TG} {tt : TT} {te tk tv : TE} {vs : List Nat} {σ : L2.St} {G1 H1 : Hp} {D : Addr} {Qd : Hp → Prop}
/-- a list comprehension: R says what the list so far is -/
theorem lc_gen (w : Walk J n Gd Y) (e1 : Ex G1 H1) (hD : H1 D = none) (hn : n < sizeLine) (R : Nat → List V → Hp → Prop) (h0 : R 0 [] G1) (hG : ∀ H', Ex H1 H' → Gd H')
    (hs : ∀ i x G H H' acc (Kt : VK) (Kf : Hp → Prop), i < n → Nxt none G1 H1 G H → G D = none → H D = some (.lst acc) → acc.length ≤ i → R i acc G → Y i H x H' →
      (∀ y G4 H4, Nxt none G H G4 H4 → R (i + 1) (acc ++ [y]) G4 → Kt y H4) → (∀ G3 H3, Nxt none G H G3 H3 → R (i + 1) acc G3 → Kf H3) →
      g x (wipe σ vs) H' fun σ2 H2 => wipe σ2 vs = wipe σ vs ∧ tt σ2 H2 fun b H3 => if b = true then te σ2 H3 Kt else Kf H3)
    (hd : ∀ G' H' acc, Nxt none G1 H1 G' H' → G' D = none → H' D = some (.lst acc) → acc.length ≤ n → R n acc G' → Qd H') :
    ∃ W : Nat → Nat → Hp → Prop, (∃ m, W 0 m (upd H1 D (.lst []))) ∧ ∀ i m H, W i m H →
      (J.stop i H ∧ Qd H) ∨ (J.go i H ∧ ∃ Nx : Hp → Prop, (∀ H', Nx H' → ∃ m', m' < m ∧ W (i + 1) m' H') ∧ ∀ x H', J.yld i H x H' → g x (wipe σ vs) H' fun σ2 H2 => wipe σ2 vs = wipe σ vs ∧ tt σ2 H2 fun b H3 =>
        if b = true then te σ2 H3 fun y H4 => ∃ acc, H4 D = some (.lst acc) ∧ acc.length < sizeLine ∧ Nx (upd H4 D (.lst (acc ++ [y]))) else Nx H3) := by
  have gD : G1 D = none := e1.back hD
  refine lc_it w (fun i H => ∃ G acc, Nxt none G1 H1 G H ∧ G D = none ∧ H D = some (.lst acc) ∧ acc.length ≤ i ∧ R i acc G)
    ⟨G1, [], (Nxt.refl e1).own hD hD, gD, upd_same, Nat.le_refl _, h0⟩ (fun i H _ ⟨G, acc, N, _⟩ => hG H N.ex) ?_ ?_
  · rintro i x H H' hi ⟨G, acc, N, g0, hh, hl, r⟩ y
    refine hs i x G H H' acc _ _ hi N g0 hh hl r y (fun y G4 H4 S r4 => ?_) (fun G3 H3 S r3 => ?_)
    · obtain ⟨a, b⟩ := S.keep g0 hh
      refine ⟨acc, b, by omega, G4, acc ++ [y], (N.trans S).mut a hD, a, upd_same, by simp; omega, r4⟩
    · obtain ⟨a, b⟩ := S.keep g0 hh
      exact ⟨G3, acc, N.trans S, a, b, by omega, r3⟩
  · rintro H ⟨G, acc, N, g0, hh, hl, r⟩
    exact hd G H acc N g0 hh hl r
/-- a dict comprehension over it -/
theorem dc_it (w : Walk J n Gd Y) (Pv : Nat → Hp → Prop) (h0 : Pv 0 (upd H1 D (.dK []))) (hG : ∀ i H, i ≤ n → Pv i H → Gd H)
    (hs : ∀ i x H H', i < n → Pv i H → Y i H x H' → g x (wipe σ vs) H' fun σ2 H2 => wipe σ2 vs = wipe σ vs ∧ tt σ2 H2 fun b H3 =>
      if b = true then tk σ2 H3 fun y H4 => tv σ2 H4 fun z H5 => ∃ kvs k, y = kV k ∧ H5 D = some (.dK kvs) ∧ kvs.length < sizeLine ∧ Pv (i + 1) (upd H5 D (.dK (putK kvs k z))) else Pv (i + 1) H3) (hd : ∀ H, Pv n H → Qd H) :
    ∃ W : Nat → Nat → Hp → Prop, (∃ m, W 0 m (upd H1 D (.dK []))) ∧ ∀ i m H, W i m H →
      (J.stop i H ∧ Qd H) ∨ (J.go i H ∧ ∃ Nx : Hp → Prop, (∀ H', Nx H' → ∃ m', m' < m ∧ W (i + 1) m' H') ∧ ∀ x H', J.yld i H x H' → g x (wipe σ vs) H' fun σ2 H2 => wipe σ2 vs = wipe σ vs ∧ tt σ2 H2 fun b H3 =>
        if b = true then tk σ2 H3 fun y H4 => tv σ2 H4 fun z H5 => ∃ kvs k, y = kV k ∧ H5 D = some (.dK kvs) ∧ kvs.length < sizeLine ∧ Nx (upd H5 D (.dK (putK kvs k z))) else Nx H3) := by
  refine ⟨fun i m H => n - i = m ∧ i ≤ n ∧ Pv i H, ⟨n, rfl, Nat.zero_le _, h0⟩, ?_⟩
  rintro i m H ⟨hm, hi, p⟩
  have hg := hG i H hi p
  by_cases z : i < n
  · refine Or.inr ⟨w.goes i H z hg, Pv (i + 1), fun H' p' => ⟨n - (i + 1), by omega, rfl, z, p'⟩, fun x H' y => ?_⟩
    exact hs i x H H' z p (w.yields i H x H' z hg y)
  · obtain rfl : i = n := by omega
    exact Or.inl ⟨w.stops H hg, hd H p⟩
/-- .. by what the dict so far is -/
theorem dc_gen (w : Walk J n Gd Y) (e1 : Ex G1 H1) (hD : H1 D = none) (hn : n < sizeLine) (R : Nat → List (Key × V) → Hp → Prop) (h0 : R 0 [] G1) (hG : ∀ H', Ex H1 H' → Gd H')
    (hs : ∀ i x G H H' acc (Kt : V → V → Hp → Prop) (Kf : Hp → Prop), i < n → Nxt none G1 H1 G H → G D = none → H D = some (.dK acc) → acc.length ≤ i → R i acc G → Y i H x H' →
      (∀ k z G4 H4, Nxt none G H G4 H4 → R (i + 1) (putK acc k z) G4 → Kt (kV k) z H4) → (∀ G3 H3, Nxt none G H G3 H3 → R (i + 1) acc G3 → Kf H3) →
      g x (wipe σ vs) H' fun σ2 H2 => wipe σ2 vs = wipe σ vs ∧ tt σ2 H2 fun b H3 => if b = true then tk σ2 H3 fun y H4 => tv σ2 H4 fun z H5 => Kt y z H5 else Kf H3)
    (hd : ∀ G' H' acc, Nxt none G1 H1 G' H' → G' D = none → H' D = some (.dK acc) → acc.length ≤ n → R n acc G' → Qd H') :
    ∃ W : Nat → Nat → Hp → Prop, (∃ m, W 0 m (upd H1 D (.dK []))) ∧ ∀ i m H, W i m H →
      (J.stop i H ∧ Qd H) ∨ (J.go i H ∧ ∃ Nx : Hp → Prop, (∀ H', Nx H' → ∃ m', m' < m ∧ W (i + 1) m' H') ∧ ∀ x H', J.yld i H x H' → g x (wipe σ vs) H' fun σ2 H2 => wipe σ2 vs = wipe σ vs ∧ tt σ2 H2 fun b H3 =>
        if b = true then tk σ2 H3 fun y H4 => tv σ2 H4 fun z H5 => ∃ kvs k, y = kV k ∧ H5 D = some (.dK kvs) ∧ kvs.length < sizeLine ∧ Nx (upd H5 D (.dK (putK kvs k z))) else Nx H3) := by
  have gD : G1 D = none := e1.back hD
  refine dc_it w (fun i H => ∃ G acc, Nxt none G1 H1 G H ∧ G D = none ∧ H D = some (.dK acc) ∧ acc.length ≤ i ∧ R i acc G)
    ⟨G1, [], (Nxt.refl e1).own hD hD, gD, upd_same, Nat.le_refl _, h0⟩ (fun i H _ ⟨G, acc, N, _⟩ => hG H N.ex) ?_ ?_
  · rintro i x H H' hi ⟨G, acc, N, g0, hh, hl, r⟩ y
    refine hs i x G H H' acc (fun y z H5 => _) _ hi N g0 hh hl r y (fun k z G4 H4 S r4 => ?_) (fun G3 H3 S r3 => ?_)
    · obtain ⟨a, b⟩ := S.keep g0 hh
      have := length_putK acc k z
      refine ⟨acc, k, rfl, b, by omega, G4, putK acc k z, (N.trans S).mut a hD, a, upd_same, by omega, r4⟩
    · obtain ⟨a, b⟩ := S.keep g0 hh
      exact ⟨G3, acc, N.trans S, a, b, by omega, r3⟩
  · rintro H ⟨G, acc, N, g0, hh, hl, r⟩
    exact hd G H acc N g0 hh hl r
end
section
variable {wi : TI} {g : TG} {tt : TT} {te tk tv : TE} {vs : List Nat} {σ : L2.St} {H : Hp} {Q : VK}
theorem g_lc (h : wi σ H fun J H1 => ∀ D, H1 D = none → ∃ W : Nat → Nat → Hp → Prop, (∃ m, W 0 m (upd H1 D (.lst []))) ∧ ∀ i m H, W i m H →
  (J.stop i H ∧ Q (.ref D) H) ∨ (J.go i H ∧ ∃ Nx : Hp → Prop, (∀ H', Nx H' → ∃ m', m' < m ∧ W (i + 1) m' H') ∧ ∀ x H', J.yld i H x H' → g x (wipe σ vs) H' fun σ2 H2 => wipe σ2 vs = wipe σ vs ∧ tt σ2 H2 fun b H3 =>
    if b = true then te σ2 H3 fun y H4 => ∃ acc, H4 D = some (.lst acc) ∧ acc.length < sizeLine ∧ Nx (upd H4 D (.lst (acc ++ [y]))) else Nx H3)) : tLc wi g tt te vs σ H Q := h
theorem g_dc (h : wi σ H fun J H1 => ∀ D, H1 D = none → ∃ W : Nat → Nat → Hp → Prop, (∃ m, W 0 m (upd H1 D (.dK []))) ∧ ∀ i m H, W i m H →
  (J.stop i H ∧ Q (.ref D) H) ∨ (J.go i H ∧ ∃ Nx : Hp → Prop, (∀ H', Nx H' → ∃ m', m' < m ∧ W (i + 1) m' H') ∧ ∀ x H', J.yld i H x H' → g x (wipe σ vs) H' fun σ2 H2 => wipe σ2 vs = wipe σ vs ∧ tt σ2 H2 fun b H3 =>
    if b = true then tk σ2 H3 fun y H4 => tv σ2 H4 fun z H5 => ∃ kvs k, y = kV k ∧ H5 D = some (.dK kvs) ∧ kvs.length < sizeLine ∧ Nx (upd H5 D (.dK (putK kvs k z))) else Nx H3)) : tDc wi g tt tk tv vs σ H Q := h
end
/-! ### two clauses -/
section
variable {J J1 : It} {n n1 : Nat} {Gd Gd1 : Hp → Prop} {Y Y1 : Nat → Hp → V → Hp → Prop} {wi wi1 : TI} {g g1 : TG} {tt tt1 : TT} {te : TE} {vs vs1 : List Nat} {σ : L2.St} {H1 : Hp} {D : Addr} {Qd : Hp → Prop} {H : Hp} {Q : VK}
theorem lc2_out (w : Walk J n Gd Y) (Pv : Nat → Hp → Prop) (h0 : Pv 0 (upd H1 D (.lst []))) (hG : ∀ i H, i ≤ n → Pv i H → Gd H)
    (hs : ∀ i x H H', i < n → Pv i H → Y i H x H' → g x (wipe σ vs) H' fun σ2 H2 => wipe σ2 vs = wipe σ vs ∧ tt σ2 H2 fun b H3 => if b = true then wi1 σ2 H3 fun J1 H4 => ∃ W1 : Nat → Nat → Hp → Prop, (∃ m, W1 0 m H4) ∧ ∀ j k H, W1 j k H →
      (J1.stop j H ∧ Pv (i + 1) H) ∨ (J1.go j H ∧ ∃ Nx1 : Hp → Prop, (∀ H', Nx1 H' → ∃ k', k' < k ∧ W1 (j + 1) k' H') ∧ ∀ x H', J1.yld j H x H' → g1 x (wipe σ2 vs1) H' fun σ3 H5 => wipe σ3 vs1 = wipe σ2 vs1 ∧ tt1 σ3 H5 fun b H6 =>
        if b = true then te σ3 H6 fun y H7 => ∃ acc, H7 D = some (.lst acc) ∧ acc.length < sizeLine ∧ Nx1 (upd H7 D (.lst (acc ++ [y]))) else Nx1 H6) else Pv (i + 1) H3)
    (hd : ∀ H, Pv n H → Qd H) :
    ∃ W : Nat → Nat → Hp → Prop, (∃ m, W 0 m (upd H1 D (.lst []))) ∧ ∀ i m H, W i m H →
      (J.stop i H ∧ Qd H) ∨ (J.go i H ∧ ∃ Nx : Hp → Prop, (∀ H', Nx H' → ∃ m', m' < m ∧ W (i + 1) m' H') ∧ ∀ x H', J.yld i H x H' → g x (wipe σ vs) H' fun σ2 H2 => wipe σ2 vs = wipe σ vs ∧ tt σ2 H2 fun b H3 => if b = true then wi1 σ2 H3 fun J1 H4 => ∃ W1 : Nat → Nat → Hp → Prop, (∃ m, W1 0 m H4) ∧ ∀ j k H, W1 j k H →
        (J1.stop j H ∧ Nx H) ∨ (J1.go j H ∧ ∃ Nx1 : Hp → Prop, (∀ H', Nx1 H' → ∃ k', k' < k ∧ W1 (j + 1) k' H') ∧ ∀ x H', J1.yld j H x H' → g1 x (wipe σ2 vs1) H' fun σ3 H5 => wipe σ3 vs1 = wipe σ2 vs1 ∧ tt1 σ3 H5 fun b H6 =>
          if b = true then te σ3 H6 fun y H7 => ∃ acc, H7 D = some (.lst acc) ∧ acc.length < sizeLine ∧ Nx1 (upd H7 D (.lst (acc ++ [y]))) else Nx1 H6) else Nx H3) := by
  refine ⟨fun i m H => n - i = m ∧ i ≤ n ∧ Pv i H, ⟨n, rfl, Nat.zero_le _, h0⟩, ?_⟩
  rintro i m H ⟨hm, hi, p⟩
  have hg := hG i H hi p
  by_cases z : i < n
  · exact Or.inr ⟨w.goes i H z hg, Pv (i + 1), fun H' p' => ⟨n - (i + 1), by omega, rfl, z, p'⟩, fun x H' y => hs i x H H' z p (w.yields i H x H' z hg y)⟩
  · obtain rfl : i = n := by omega
    exact Or.inl ⟨w.stops H hg, hd H p⟩
theorem lc2_in {σ2 : L2.St} {Nx : Hp → Prop} (w : Walk J1 n1 Gd1 Y1) (Pw : Nat → Hp → Prop) (h0 : Pw 0 H) (hG : ∀ i H, i ≤ n1 → Pw i H → Gd1 H)
    (hs : ∀ i x H H', i < n1 → Pw i H → Y1 i H x H' → g1 x (wipe σ2 vs1) H' fun σ3 H5 => wipe σ3 vs1 = wipe σ2 vs1 ∧ tt1 σ3 H5 fun b H6 =>
      if b = true then te σ3 H6 fun y H7 => ∃ acc, H7 D = some (.lst acc) ∧ acc.length < sizeLine ∧ Pw (i + 1) (upd H7 D (.lst (acc ++ [y]))) else Pw (i + 1) H6) (hd : ∀ H, Pw n1 H → Nx H) :
    ∃ W1 : Nat → Nat → Hp → Prop, (∃ m, W1 0 m H) ∧ ∀ j k H, W1 j k H →
      (J1.stop j H ∧ Nx H) ∨ (J1.go j H ∧ ∃ Nx1 : Hp → Prop, (∀ H', Nx1 H' → ∃ k', k' < k ∧ W1 (j + 1) k' H') ∧ ∀ x H', J1.yld j H x H' → g1 x (wipe σ2 vs1) H' fun σ3 H5 => wipe σ3 vs1 = wipe σ2 vs1 ∧ tt1 σ3 H5 fun b H6 =>
        if b = true then te σ3 H6 fun y H7 => ∃ acc, H7 D = some (.lst acc) ∧ acc.length < sizeLine ∧ Nx1 (upd H7 D (.lst (acc ++ [y]))) else Nx1 H6) := by
  refine ⟨fun i m H => n1 - i = m ∧ i ≤ n1 ∧ Pw i H, ⟨n1, rfl, Nat.zero_le _, h0⟩, ?_⟩
  rintro i m H ⟨hm, hi, p⟩
  have hg := hG i H hi p
  by_cases z : i < n1
  · exact Or.inr ⟨w.goes i H z hg, Pw (i + 1), fun H' p' => ⟨n1 - (i + 1), by omega, rfl, z, p'⟩, fun x H' y => hs i x H H' z p (w.yields i H x H' z hg y)⟩
  · obtain rfl : i = n1 := by omega
    exact Or.inl ⟨w.stops H hg, hd H p⟩
theorem g_lc2 (h : wi σ H fun J H1 => ∀ D, H1 D = none → ∃ W : Nat → Nat → Hp → Prop, (∃ m, W 0 m (upd H1 D (.lst []))) ∧ ∀ i m H, W i m H →
      (J.stop i H ∧ Q (.ref D) H) ∨ (J.go i H ∧ ∃ Nx : Hp → Prop, (∀ H', Nx H' → ∃ m', m' < m ∧ W (i + 1) m' H') ∧ ∀ x H', J.yld i H x H' → g x (wipe σ vs) H' fun σ2 H2 => wipe σ2 vs = wipe σ vs ∧ tt σ2 H2 fun b H3 => if b = true then wi1 σ2 H3 fun J1 H4 => ∃ W1 : Nat → Nat → Hp → Prop, (∃ m, W1 0 m H4) ∧ ∀ j k H, W1 j k H →
        (J1.stop j H ∧ Nx H) ∨ (J1.go j H ∧ ∃ Nx1 : Hp → Prop, (∀ H', Nx1 H' → ∃ k', k' < k ∧ W1 (j + 1) k' H') ∧ ∀ x H', J1.yld j H x H' → g1 x (wipe σ2 vs1) H' fun σ3 H5 => wipe σ3 vs1 = wipe σ2 vs1 ∧ tt1 σ3 H5 fun b H6 =>
          if b = true then te σ3 H6 fun y H7 => ∃ acc, H7 D = some (.lst acc) ∧ acc.length < sizeLine ∧ Nx1 (upd H7 D (.lst (acc ++ [y]))) else Nx1 H6) else Nx H3)) : tLc2 wi g tt wi1 g1 tt1 te vs vs1 σ H Q := h
end
/-! ### several locks -/
def tLocks : List Addr → TE → TE
  | [], t => t
  | d :: L, t => fun σ H Q => ∃ u, H d = some u ∧ Mut (some u) ∧ ∀ od, tLocks L t σ (upd H d (.frz od u)) fun v H' => H' d = some (.frz od u) ∧ Q v (upd H' d u)
def tLockAll (t : TE) : TE := fun σ H Q => ∃ L, tLocks L t σ H Q
theorem pe_locks {X : Cx} {e : Expr} {t : TE} (h : PE X e t) : PE X e (tLockAll t) := by
  have one : ∀ L, PE X e (tLocks L t) := by
    intro L
    induction L with
    | nil => exact h
    | cons d L ih =>
      refine ⟨fun pins s σ H Q I hw => (pe_lock ih).run pins s σ H Q I ?_⟩
      obtain ⟨u, hd, mu, k⟩ := hw
      exact ⟨d, u, hd, mu, k⟩
  exact ⟨fun pins s σ H Q I ⟨L, hw⟩ => (one L).run pins s σ H Q I hw⟩
theorem locks_intro {t : TE} {σ : L2.St} : ∀ (L : List Addr) (H : Hp) (Q : VK), L.Nodup → (∀ d ∈ L, ∃ u, H d = some u ∧ Mut (some u)) →
    (∀ HL, (∀ d ∈ L, ∀ u, H d = some u → ∃ od, HL d = some (.frz od u)) → (∀ a, a ∉ L → HL a = H a) → t σ HL fun v H' => (∀ d ∈ L, H' d = HL d) ∧ Q v (fun a => if a ∈ L then H a else H' a)) → tLocks L t σ H Q
  | [], H, Q, _, _, k => by
    have := k H (fun _ h => nomatch h) (fun _ _ => rfl)
    have e : (fun (v : V) (H' : Hp) => (∀ d ∈ ([] : List Addr), H' d = H d) ∧ Q v (fun a => if a ∈ ([] : List Addr) then H a else H' a)) = Q := by
      funext v H'
      simp
    rw [e] at this
    exact this
  | d :: L, H, Q, nd, hd, k => by
    obtain ⟨u, hu, mu⟩ := hd d List.mem_cons_self
    obtain ⟨nd1, nd2⟩ := List.nodup_cons.mp nd
    refine ⟨u, hu, mu, fun od => locks_intro L _ _ nd2 (fun a ha => ?_) fun HL h1 h2 => ?_⟩
    · have ne : a ≠ d := fun z => nd1 (z ▸ ha)
      rw [upd_ne ne]
      exact hd a (List.mem_cons_of_mem _ ha)
    · have hLd : HL d = some (.frz od u) := by rw [h2 d nd1, upd_same]
      have := k HL (fun a ha v hv => ?_) (fun a ha => ?_)
      · have e : (fun (v : V) (H' : Hp) => (∀ a ∈ d :: L, H' a = HL a) ∧ Q v (fun a => if a ∈ d :: L then H a else H' a)) = fun v H' => (∀ a ∈ L, H' a = HL a) ∧ (fun a => if a ∈ L then (upd H d (.frz od u)) a else H' a) d = some (.frz od u) ∧ Q v (upd (fun a => if a ∈ L then (upd H d (.frz od u)) a else H' a) d u) := by
          funext v H'
          have eq : (upd (fun a => if a ∈ L then (upd H d (.frz od u)) a else H' a) d u) = fun a => if a ∈ d :: L then H a else H' a := by
            funext a
            by_cases z : a = d
            · subst z; rw [upd_same]; simp [hu]
            · rw [upd_ne z]
              by_cases q : a ∈ L
              · simp [q, upd_ne z]
              · simp [q, z]
          rw [eq]
          simp only [if_neg nd1, hLd.symm, List.mem_cons, forall_eq_or_imp]
          refine propext ⟨fun h => ⟨h.1.2, h.1.1, h.2⟩, fun h => ⟨⟨h.2.1, h.1⟩, h.2.2⟩⟩
        rw [e] at this
        exact this
      · rcases List.mem_cons.mp ha with rfl | ha
        · rw [hu] at hv; cases hv; exact ⟨od, hLd⟩
        · have ne : a ≠ d := fun z => nd1 (z ▸ ha)
          exact h1 a ha v (by rw [upd_ne ne]; exact hv)
      · rw [List.mem_cons, not_or] at ha
        rw [h2 a ha.2, upd_ne ha.1]
theorem nodup_of (l : List Addr) : ∃ m : List Addr, m.Nodup ∧ ∀ a, a ∈ m ↔ a ∈ l := by
  induction l with
  | nil => exact ⟨[], List.nodup_nil, fun _ => Iff.rfl⟩
  | cons a l ih =>
    obtain ⟨m, h1, h2⟩ := ih
    by_cases h : a ∈ m
    · exact ⟨m, h1, fun b => by rw [List.mem_cons, h2]; exact ⟨.inr, fun q => q.elim (fun z => z ▸ (h2 a).mp h) id⟩⟩
    · exact ⟨a :: m, List.nodup_cons.mpr ⟨h, h1⟩, fun b => by rw [List.mem_cons, List.mem_cons, h2]⟩
/-! ### locks: what stands at d is only read for a while -/
def cut (G : Hp) (d : Addr) : Hp := fun a => if a = d then none else G a
section
variable {G H G0 H0 G2 H2 : Hp} {d : Addr} {u : HO} {od : Obj} {a : Addr} {o : HO}
theorem cut_ne (h : a ≠ d) : cut G d a = G a := by unfold cut; rw [if_neg h]
theorem cut_at (h : G a = some o) (n : a ≠ d) : cut G d a = some o := by rw [cut_ne n]; exact h
theorem cut_self : cut G d d = none := by unfold cut; rw [if_pos rfl]
theorem cut_ex (e : Ex G H) : Ex (cut G d) (upd H d o) := fun a u h => by
  by_cases z : a = d
  · subst z; rw [cut_self] at h; cases h
  · rw [cut_ne z] at h; rw [upd_ne z]; exact e a u h
/-- behind the lock -/
theorem Nxt.unlock (e : Ex G H) (hd : H d = some u) (hg : G d = some u ∨ G d = none) (s : Nxt none (cut G d) (upd H d (.frz od u)) G2 H2) :
    Nxt none G H (fun a => if a = d then G d else G2 a) (upd H2 d u) ∧ H2 d = some (.frz od u) ∧ G2 d = none := by
  have k : H2 d = some (.frz od u) := s.ex d _ upd_same
  have k2 : G2 d = none := (s.fr d _ upd_same).trans cut_self
  refine ⟨⟨fun a o _ h => ?_, fun a o h => ?_, fun a o h => ?_, fun a o h => ?_⟩, k, k2⟩
  · by_cases z : a = d
    · subst z; rw [upd_same]; rw [hd] at h; exact h
    · rw [upd_ne z]; exact s.ex a o (by rw [upd_ne z]; exact h)
  · by_cases z : a = d
    · subst z; simp only [if_pos rfl]; exact h
    · simp only [if_neg z]; exact s.gg a o (cut_at h z)
  · by_cases z : a = d
    · subst z
      simp only [if_pos rfl] at h
      rw [upd_same]
      rcases hg with q | q
      · rw [q] at h; exact h
      · rw [q] at h; cases h
    · simp only [if_neg z] at h; rw [upd_ne z]; exact s.gh a o h
  · by_cases z : a = d
    · subst z; simp
    · simp only [if_neg z]
      rw [s.fr a o (by rw [upd_ne z]; exact h), cut_ne z]
theorem unl_ex (k : G2 d = none) : Ex G2 (fun a => if a = d then G d else G2 a) := fun a u h => by
  by_cases z : a = d
  · subst z; rw [k] at h; cases h
  · show (if a = d then G d else G2 a) = some u
    rw [if_neg z]; exact h
end
end K69
set_option Elab.async false
set_option linter.all false
set_option maxRecDepth 100000
set_option maxHeartbeats 2000000
/-! Rules that the layer lacks. -/
namespace K69
open PySem PySem.Spec PyProof.Rows L2
theorem units65 {k : Nat} {A : Around} (r : Room k A) : A.units + 65 < cLine := by have := r.un; omega
section
variable {X : Cx}
/-- a == b of two dicts with flat values: the lengths differ, or all is alike -/
def rEqE : R2 := fun x y H Q => ∃ a b ks ls, x = .ref a ∧ y = .ref b ∧ H a = some (.dK ks) ∧ H b = some (.dK ls) ∧
  ((ks.length ≠ ls.length ∧ Q (.bl false) H) ∨ (ks.length = ls.length ∧ (∀ p ∈ ks, valV ls p.1 = some p.2 ∧ flatB p.2 = true) ∧ Q (.bl true) H))
theorem op_eq_dictE (hu : X.A.units < cLine) : OpR X (compareOp .Eq) rEqE := by
  intro pins s σ H x y v u Q I rx ry h
  obtain ⟨a, b, ks, ls, ex, ey, ea, eb, h⟩ := h
  rcases h with ⟨hne, q⟩ | ⟨hl, hp, q⟩
  · subst ex ey
    cases (show v = Value.ref a from rx)
    cases (show u = Value.ref b from ry)
    obtain ⟨_, na, va, qa, da⟩ := dk_of I.hok ea
    obtain ⟨_, nb, vb, qb, db⟩ := dk_of I.hok eb
    have e : (va.length == vb.length) = false := by
      rw [← qa.length, ← qb.length]
      simpa using hne
    exact PySem.W.keq_eq (r := true) na nb da db hu (fun z => by rw [z] at e; simp at e) (fin_bl I q (by rw [e]; rfl))
  · exact op_eq_dictA hu pins s σ H x y v u Q I rx ry ⟨a, b, ks, ls, ex, ey, ea, eb, hl, hp, q⟩
theorem g_eqE0 {H : Hp} {Q : VK} {d p : Addr} {kvs : List (Key × V)} {b : Bool} (h : H d = some (.dK kvs)) (h2 : H p = some (.dK [])) (e : kvs.isEmpty = b) (q : Q (.bl b) H) : rEqE (.ref d) (.ref p) H Q := by
  refine ⟨d, p, kvs, [], rfl, rfl, h, h2, ?_⟩
  subst e
  cases kvs with
  | nil => exact .inr ⟨rfl, (fun _ z => by simp at z), q⟩
  | cons a l => exact .inl ⟨by simp, q⟩
/-- powers of any size -/
theorem op_powW : OpR X (binaryOp .Pow) (rI (fun i j => 0 ≤ j ∧ (Builtin.Int.intBits i : Int) * j ≤ 2 ^ 27) fun i j => .int (i ^ j.toNat)) :=
  opI fun _ _ _ _ _ _ _ hc q => pow_int hc.1 hc.2 q
/-- the signs of a text -/
def signsV (x : Str) : List V := x.cps.toList.map fun c => V.str ⟨#[c]⟩
theorem call_list_strV (hcalm : X.calm = true) : CallR X (.type "list") (fun xs H Q => ∃ x : Str, xs = [.str x] ∧ x.length ≤ sizeLine ∧ ∀ p, H p = none → Q (.ref p) (upd H p (.lst (signsV x)))) := by
  intro pins s σ H xs us Q I r h
  obtain ⟨x, rfl, hz, q⟩ := h
  obtain ⟨u, rfl, rx⟩ := vals1 r
  obtain ⟨t, rfl⟩ := rx
  refine PySem.call_list_str (I.ok.hd hcalm) x t (hn := hz) fun h' tk acc n kp e it => ?_
  have hn : H s.heap.objs.size = none := I.hok.fresh (Nat.le_refl _)
  refine ⟨.ref s.heap.objs.size, _, I.laid (t' := tk) kp (Nat.le_refl _) ?_, rfl, q _ hn⟩
  have hl : (signsV x).length = x.cps.size := by simp [signsV]
  refine ⟨by rw [hl]; exact hz, acc.toList, n, ?_, by simpa using e⟩
  have sz : acc.size = x.cps.size := it.1
  have gen : ∀ (l : List V) (us : List Value), l.length = us.length → (∀ (i : Nat) (v : V) (u : Value), l[i]? = some v → us[i]? = some u → RelV v u) → Vals l us := by
    intro l
    induction l with
    | nil => intro us hl _; cases us with
      | nil => exact .nil
      | cons _ _ => simp at hl
    | cons a l ih => intro us hl hr; cases us with
      | nil => simp at hl
      | cons b us => exact .cons (hr 0 a b rfl rfl) (ih us (by simpa using hl) fun i v u h1 h2 => hr (i + 1) v u (by simpa using h1) (by simpa using h2))
  refine gen _ _ (by rw [hl, Array.length_toList, sz]) fun i v u h1 h2 => ?_
  obtain ⟨c, t', hc, hu⟩ := it.2 i u (by simpa using h2)
  have h1' : (signsV x)[i]? = some (V.str ⟨#[c]⟩) := by
    unfold signsV
    rw [List.getElem?_map, show x.cps.toList[i]? = some c by simpa using hc]
    rfl
  rw [h1'] at h1
  cases h1
  exact ⟨t', hu⟩
/-- name = {k: v for ..} on one line, the name a local -/
theorem ps_setDc {i : Nat} {y : Str} {py : Pos} {kx vx tg iter : Expr} {ifs : List Expr} {scope : Scope} {own : List (Str × Nat)} {pos spos : Pos} {wi : TI} {g : TG} {tt : TT} {tk tv : TE} (hc : X.calm = true) (hN : X.N.Nodup) (hy : X.N[i]? = some y) (hyl : X.env.scope.names.lookup y = some .local)
    (hsw : swapsWith (.DictComp kx vx [⟨tg, iter, ifs, 0⟩] scope pos) (some (.Name y py)) spos.line X.env = pure true) (hi : PI X tg iter wi) (ok : BlkOk X.N X.env.scope scope own)
    (hg : ∀ (s : Shared) (H : Hp) (C : Addr) (cl : List (Str × Addr)) (fp : List Addr), PG (X.blk s H scope (compEnvC scope cl C X.env) fp) tg g) (ht : ∀ (s : Shared) (H : Hp) (C : Addr) (cl : List (Str × Addr)) (fp : List Addr), PTs (X.blk s H scope (compEnvC scope cl C X.env) fp) ifs tt)
    (hk : ∀ (s : Shared) (H : Hp) (C : Addr) (cl : List (Str × Addr)) (fp : List Addr), PE (X.blk s H scope (compEnvC scope cl C X.env) fp) kx tk) (he : ∀ (s : Shared) (H : Hp) (C : Addr) (cl : List (Str × Addr)) (fp : List Addr), PE (X.blk s H scope (compEnvC scope cl C X.env) fp) vx tv)
    (hs : ∀ x, foldedSetIterable iter X.env x = pure x := by intro _; rfl) :
    PS X (.Assign [.Name y py] (.DictComp kx vx [⟨tg, iter, ifs, 0⟩] scope pos) spos) (tAsg (tDc wi g tt tk tv (own.map (·.2))) (gName i)) := by
  refine ⟨fun pins s σ H D I h => ?_⟩
  rw [exec_Assign_Name_used _ _ _ _ hsw]
  refine wpAny_bind (wpAny_standAt (wpAny_bind ?_))
  have hq : tDc wi g tt tk tv (own.map (·.2)) σ H (fun x H1 => gName i x σ H1 D.nx) := h
  show wpAny _ X.A (do let _ ← comprehension (.DictComp kx vx [⟨tg, iter, ifs, 0⟩] scope pos) scope X.env (firstIterPos [⟨tg, iter, ifs, 0⟩] pos) newDict false (eval iter X.env) (some (assign (.Name y py) X.env))) _ _ s
  refine wpAny_bind (thn (dc_core (Qf := fun _ s' => SP X pins D .next s') hc hN I hi ok hg ht hk he hs hq fun L C s1 m H1 I1 q hn f => ?_) fun _ _ z => wpAny_pure (wpAny_pure z))
  show wpAny _ _ (assign (.Name y py) X.env (.ref L)) _ _ _
  obtain ⟨f0, f1, _, f3, f4, f5⟩ := f
  refine wpAny_assign_Name (store_ok2 (v := V.ref L) I1 hN hy (.inl hyl) rfl (fun s2 I2 w => ?_) (.inr hyl))
  obtain ⟨a, sb, ha⟩ := w
  have ne : C ≠ a := by
    rcases ha with rfl | z
    · exact f1
    · intro e; exact f4 y a z e.symm
  exact ⟨m, hn.sameBut sb ne, fun h3 sb3 => ⟨_, H1, I2.turned (t' := s2.toks) (fun b o hb e => (sb3.2 b hb).trans e) f0 f1 f3 f4 f5, q⟩⟩
theorem sw_trueD {kx vx : Expr} {gs : List Comprehension} {scope : Scope} {pos py : Pos} {y : Str} {l : Nat} {env : Env} (hk : env.scope.kind = .function) (hy : env.scope.names.lookup y = some .local) (hl : (py.line == pos.line) = true)
    (ha : (scope.names.any fun (n, k) => n == y && (k == .local || k == .cell)) = false) : swapsWith (.DictComp kx vx gs scope pos) (some (.Name y py)) l env = pure true := by
  have hb : env.blockKind = .function := by unfold Env.blockKind; rw [hk]; rfl
  have kq : env.kindOf y = some .local := hy
  unfold swapsWith
  simp only [hb, kq, ha, Expr.pos, hl]
  rfl
end
end K69
/-! ### the rules whose reading names the written part, said with that part as a letter (within a comprehension's block) -/
namespace K69
open PySem PySem.Spec PyProof.Rows L2
section
variable {X : Cx} (K : PySem.W.Frag)
theorem kIxT (h : X.K = K := by rfl) : IxR X (rIxT K) := by subst h; exact ix_tup
theorem kIxL (h : X.K = K := by rfl) : IxR X (rIxL K) := by subst h; exact ix_list
theorem kIn (h : X.K = K := by rfl) : OpR X (compareOp .In) (rIn K false) := by subst h; exact op_in_seq
theorem kNotIn (h : X.K = K := by rfl) : OpR X (compareOp .NotIn) (rIn K true) := by subst h; exact op_notIn_seq
theorem kInD (hu : X.A.units + 65 < cLine) (h : X.K = K := by rfl) : OpR X (compareOp .In) (rInD K) := by subst h; exact op_inD hu
theorem kNotInD (hu : X.A.units + 65 < cLine) (h : X.K = K := by rfl) : OpR X (compareOp .NotIn) (rNotInD K) := by subst h; exact op_notInD hu
theorem kEqD (hu : X.A.units + 64 < cLine) (h : X.K = K := by rfl) : OpR X (compareOp .Eq) (rEqD K) := by subst h; exact op_eqD hu
theorem kNeD (hu : X.A.units + 64 < cLine) (h : X.K = K := by rfl) : OpR X (compareOp .NotEq) (rNeD K) := by subst h; exact op_neD hu
theorem kAll (hc : X.calm = true) (h : X.K = K := by rfl) : CallR X (.builtin "all") (rAll K) := by subst h; exact cr_all hc
theorem kAny (hc : X.calm = true) (h : X.K = K := by rfl) : CallR X (.builtin "any") (rAny K) := by subst h; exact cr_any hc
theorem kSum (hc : X.calm = true) (h : X.K = K := by rfl) : CallR X (.builtin "sum") (rSum K) := by subst h; exact cr_sum hc
theorem kSortS (h : X.K = K := by rfl) : CallR X (.builtin "sorted") (rSortedS K) := by subst h; exact cr_sortedS
theorem kIsi (h : X.K = K := by rfl) : CallR X (.builtin "isinstance") (rIsi K) := by subst h; exact call_isi
theorem kIsiT (h : X.K = K := by rfl) : CallR X (.builtin "isinstance") (rIsiT K) := by subst h; exact call_isiT
def rLenQ (K : PySem.W.Frag) : List V → Hp → VK → Prop := fun xs H Q => ∃ p ys, xs = [.ref p] ∧ (SqL K H p ys ∨ SqT K H p ys) ∧ Q (.int ys.length) H
theorem kLen (h : X.K = K := by rfl) : CallR X (.builtin "len") (rLenQ K) := by subst h; exact call_len_seq
def rListQ (K : PySem.W.Frag) : List V → Hp → VK → Prop := fun xs H Q => ∃ p ys, xs = [.ref p] ∧ (SqL K H p ys ∨ SqT K H p ys) ∧ ∀ l, H l = none → Q (.ref l) (upd H l (.lst ys))
theorem kList (h : X.K = K := by rfl) : CallR X (.type "list") (rListQ K) := by subst h; exact call_list_of
def rDictP (K : PySem.W.Frag) : List V → Hp → VK → Prop := fun xs H Q => ∃ (a : Addr) (ps : List Addr) (kvs : List (Key × V)), xs = [.ref a] ∧ SqL K H a (ps.map V.ref) ∧ Paired (fun p kv => SqT K H p [kV kv.1, kv.2]) ps kvs ∧ ∀ p, H p = none → Q (.ref p) (upd H p (.dK (mergeK [] kvs)))
theorem kDictP (hc : X.calm = true) (h : X.K = K := by rfl) : CallR X (.type "dict") (rDictP K) := by subst h; exact call_dictP hc
theorem kSlL (h : X.K = K := by rfl) : SlR X (rSlL K) := by subst h; exact sl_list
theorem kpList {tg l : Expr} {tl : TE} (hl : PE X l tl) (h : X.K = K := by rfl) : PI X tg l (iList K tl) := by subst h; exact pi_list hl
theorem kpTup {tg l : Expr} {tl : TE} (hl : PE X l tl) (h : X.K = K := by rfl) : PI X tg l (iTup K tl) := by subst h; exact pi_tup hl
theorem kpZip {e e2 : Expr} {ta : TA} {p pos tpos : Pos} {elts : List Expr} {kk : Nat} (hm : X.mg "zip" = none) (ha : PA X [e, e2] ta) (h : X.K = K := by rfl) (hg : Gl X "zip" := by rfl)
    (hs : starEach [e, e2] X.env = (false, eval e X.env) :: starEach [e2] X.env := by rfl) (hpl : (backTo pos (starEach [e2] X.env)).any (·.1) = false := by rfl) :
    PI X (.Tuple elts kk tpos) (.Call (.Name "zip" p) [e, e2] [] pos) (iZip K ta) := by subst h; exact pi_zip hg hm ha hs hpl
theorem kgTup {es : List Expr} {k : Nat} {t : TGs} {n : Nat} {pos : Pos} (hc : X.calm = true) (h : PGs X es t) (hK : X.K = K := by rfl)
    (hn : (assignEach es X.env).length = n := by rfl) (hst : (assignEach es X.env).findIdx? (·.1) = none := by rfl) : PG X (.Tuple es k pos) (gTup K n t) := by subst hK; exact pg_tup hc h hn hst
theorem kgLst {es : List Expr} {k : Nat} {t : TGs} {n : Nat} {pos : Pos} (hc : X.calm = true) (h : PGs X es t) (hK : X.K = K := by rfl)
    (hn : (assignEach es X.env).length = n := by rfl) (hst : (assignEach es X.env).findIdx? (·.1) = none := by rfl) : PG X (.Tuple es k pos) (gLst K n t) := by subst hK; exact pg_lst hc h hn hst
theorem kFld {e : Expr} {f : Str} {pos : Pos} {ta : TE} (he : PE X e ta) (h : X.K = K := by rfl) (hb : attributeBase e f X.env (eval e X.env) = eval e X.env := by rfl) : PE X (.Attribute e f pos) (tFld K ta f) := by subst h; exact pe_fld he hb
/-- a test by truth -/
def tTruK (K : PySem.W.Frag) (ta : TE) : TT := fun σ H Q => ta σ H fun x H' => ∃ k, TruV K x H' k ∧ Q k H'
theorem g_tru {ta : TE} {σ : L2.St} {H : Hp} {QT : Bool → Hp → Prop} (h : ta σ H fun x H' => ∃ k, TruV K x H' k ∧ QT k H') : tTruK K ta σ H QT := h
theorem kTruth {a : Expr} {ta : TE} (ha : PE X a ta) (hK : X.K = K := by rfl) (he : ∀ whole, isTrue a X.env whole = (do let v ← whole; standAt a.pos; holding [v] (truthy v)) := by intro _; rfl) : PT X a (tTruK K ta) := by subst hK; exact pt_truth ha he
variable {T name id : String} {o e : Expr} {es : List Expr} {to te : TE} {t : TA} {r : V → List V → Hp → VK → Prop} {apos cpos : Pos} {nm : Str}
theorem kBm (pa : PlainAttrs T) (slot : Slot T nm id) (hty : typeOf (.builtin id) = pure (.type "method_descriptor")) (hm : MtR X id r) (ho : PE X o to) (ha : PA X (e :: es) t) (hK : X.K = K := by rfl)
    (hbase : attributeBase o nm X.env (eval o X.env) = eval o X.env := by rfl)
    (hfew : ((backTo cpos (starEach (e :: es) X.env)).all (fun x => !x.1) && (backToKw cpos (keywordEach [] X.env)).all (fun x => x.1.isSome)
      && decide ((e :: es).length + ([] : List Keyword).length + (if ([] : List Keyword).isEmpty then 0 else 1) < 30)) = true := by rfl)
    (hline : (apos.endLine == cpos.line) = true := by rfl) (hs : starEach (e :: es) X.env = (false, eval e X.env) :: starEach es X.env := by rfl) (hpl : (backTo cpos (starEach es X.env)).any (·.1) = false := by rfl) :
    PE X (.Call (.Attribute o nm apos) (e :: es) [] cpos) (tBM K T r to t) := by subst hK; exact pe_bm pa slot hty hm ho ha hbase hfew hline hs hpl
theorem kBm0 (pa : PlainAttrs T) (slot : Slot T nm id) (hty : typeOf (.builtin id) = pure (.type "method_descriptor")) (hm : MtR X id r) (ho : PE X o to) (hK : X.K = K := by rfl)
    (hbase : attributeBase o nm X.env (eval o X.env) = eval o X.env := by rfl) (hline : (apos.endLine == cpos.line) = true := by rfl) : PE X (.Call (.Attribute o nm apos) [] [] cpos) (tBM0 K T r to) := by subst hK; exact pe_bm0 pa slot hty hm ho hbase hline
def rJoin (K : PySem.W.Frag) : V → List V → Hp → VK → Prop := fun x xs H Q => ∃ a p, ∃ ys : List Str, x = .str a ∧ xs = [.ref p] ∧ (SqL K H p (ys.map V.str) ∨ SqT K H p (ys.map V.str)) ∧ (ys.map (·.length)).sum + ys.length * a.length ≤ 16777216 ∧ Q (.str (Txt.join a ys)) H
theorem kJoin (ho : PE X o to) (he : PE X e te) (hK : X.K = K := by rfl) (hs : starEach [e] X.env = [(false, eval e X.env)] := by rfl) (hbase : attributeBase o "join" X.env (eval o X.env) = eval o X.env := by rfl) (hline : (apos.endLine == cpos.line) = true := by rfl) :
    PE X (.Call (.Attribute o "join" apos) [e] [] cpos) (tM1 (rJoin K) to te) := by subst hK; exact pe_join ho he hs hbase hline
end
end K69
set_option Elab.async false
set_option linter.all false
set_option maxRecDepth 100000
set_option maxHeartbeats 4000000
namespace K69
open PySem PySem.Spec PyProof.Rows L2
/-- what the walk asks of the text as the top has made it -/
structure Txt (K : PySem.W.Frag) (w : World) (mg : Str → Option Value) (C : Addr) : Prop where
  len : mg "len" = none
  isinstance : mg "isinstance" = none
  all : mg "all" = none
  any : mg "any" = none
  sorted : mg "sorted" = none
  range : mg "range" = none
  zip : mg "zip" = none
  sum : mg "sum" = none
  max : mg "max" = none
  min : mg "min" = none
  tstr : mg "str" = none
  tlist : mg "list" = none
  tdict : mg "dict" = none
  tint : mg "int" = none
  tbool : mg "bool" = none
  ttuple : mg "tuple" = none
  letters : ∃ u, mg "LETTERS" = some u ∧ RelV (.str "abcdefghijklmnopqrstuvwxyz") u
  turned : ∃ d es n, mg "TURNED" = some (.ref d) ∧ KDict K w d es n ∧ ∀ z : Str, z = "says" ∨ z = "hears" ∨ z = "done" → ∃ u, PySem.W.nsIn K d z = some (some u)
  desk : mg "Desk" = some (.ref C)
  insC : C8.InsC K C
  nR : NoAttr K C "rows"
  nF : NoAttr K C "first"
abbrev lets : Str := "abcdefghijklmnopqrstuvwxyz"
/-- one to eight letters -/
def spelt (s : Str) : Bool := decide (0 < s.length) && decide (s.length < 9) && s.cps.toList.all fun c => decide (c ∈ lets.cps.toList)
section
variable {P : Program} {w : World} {K : PySem.W.Frag} {mg : Str → Option Value} {base : Heap} {C : Addr}
local macro_rules | `(tactic| walk_at "lk") => `(tactic| first | assumption | exact upd_same | exact (by assumption : Ex _ _) _ _ (by assumption))
local macro_rules | `(tactic| walk_at "g1") => `(tactic| first
  | with_reducible refine g_seq ?_ | with_reducible refine g_asg ?_ | with_reducible refine g_name ?_ | with_reducible refine g_cons ?_ | with_reducible refine g_nil ?_
  | ((with_reducible refine' g_var ?e ?_); (case e => exact rfl)) | with_reducible refine g_C ?_ | with_reducible refine g_op ?_ | with_reducible refine g_fld0 ?_ | with_reducible refine g_dget ?_ | with_reducible refine g_cb ?_ | with_reducible refine g_call ?_
  | with_reducible refine g_ret ?_ | with_reducible refine g_ifS ?_ | with_reducible refine g_test ?_ | with_reducible refine g_B ?_ | with_reducible refine g_bl ?_ | with_reducible refine g_not ?_ | with_reducible refine g_or ?_ | with_reducible refine g_and ?_
  | with_reducible refine g_ite ?_ | with_reducible refine g_itf ?_ | with_reducible refine g_itnt ?_ | with_reducible refine g_itnf ?_ | with_reducible refine g_eqS ?_ | with_reducible refine g_neS ?_ | with_reducible refine g_neI ?_ | with_reducible refine g_eqB ?_ | with_reducible refine g_neB ?_ | with_reducible refine g_eqI ?_ | with_reducible refine g_rI0 ?_ | with_reducible refine g_ipI ?_ | with_reducible refine g_int ?_
  | with_reducible refine g_drop ?_ | with_reducible refine g_next ?_ | with_reducible refine g_bm ?_ | with_reducible refine g_bm0 ?_ | with_reducible refine g_din ?_ | with_reducible refine g_dnotin ?_ | with_reducible refine g_dput ?_ | ((with_reducible refine' g_aug ?e ?_); (case e => exact rfl))
  | with_reducible refine g_andV ?_ | with_reducible refine g_orV ?_ | with_reducible refine g_notV ?_ | with_reducible refine g_if ?_ | with_reducible refine g_isN ?_ | with_reducible refine g_notN ?_ | with_reducible refine g_sl ?_ | with_reducible refine g_nopart ?_ | with_reducible refine g_part ?_
  | with_reducible refine g_gcons ?_ | with_reducible refine g_gnil ?_ | with_reducible refine g_par2 ?_ | with_reducible refine g_par3 ?_ | with_reducible refine g_vw ?_ | with_reducible refine g_uvw ?_ | with_reducible refine g_yes ?_ | with_reducible refine g_un ?_ | with_reducible refine g_rU ?_ | with_reducible refine g_gsub ?_ | with_reducible refine g_chain ?_ | with_reducible refine g_for ?_ | with_reducible refine g_istr ?_ | with_reducible refine g_ilist ?_ | with_reducible refine g_itup ?_ | with_reducible refine g_ikeys ?_ | with_reducible refine g_ivals ?_ | with_reducible refine g_iitems ?_ | with_reducible refine g_irng1 ?_ | with_reducible refine g_izip ?_ | with_reducible refine g_while ?_ | with_reducible refine g_tru _ ?_ | with_reducible refine g_lc ?_ | with_reducible refine g_dc ?_ | with_reducible refine g_lc2 ?_ | with_reducible refine g_tup ?_ | with_reducible refine g_lst ?_ | with_reducible refine g_dnew ?_ | with_reducible refine g_sfld ?_ | with_reducible refine g_dget2 ?_ | with_reducible refine g_dzip ?_ | with_reducible refine g_dnewT ?_ | with_reducible refine g_dispT ?_ | with_reducible refine g_star ?_ | with_reducible refine g_disp ?_ | with_reducible refine g_prs ?_ | with_reducible refine g_prs0 ?_ | with_reducible refine g_sc ?_ | with_reducible refine g_make ?_ | with_reducible refine g_meth ?_
  | ((with_reducible refine' g_ixT ?h ?e ?_); (case h => walk_at "lk"); (case e => exact rfl)) | ((with_reducible refine' g_ixL ?h ?e ?_); (case h => walk_at "lk"); (case e => exact rfl))
  | ((with_reducible refine' g_fldK ?h ?c ?n ?l ?_); (case h => walk_at "lk"); (case c => exact C8.InsC.cl (Txt.insC (by assumption))); (case n => first | exact Txt.nR (by assumption) | exact Txt.nF (by assumption)); (case l => exact rfl)))
local macro_rules | `(tactic| walk_at "go") => `(tactic| (repeat walk_at "g1"))
local macro_rules | `(tactic| walk_at "ty") => `(tactic| first | exact .base (.str _) | exact .base .non | exact .base (.bl _) | exact .base (.int _) | exact .base (.tup (by assumption)) | exact .base (.lst (by assumption)) | exact .base (.dK (by assumption)) | exact .fDict (by assumption))
abbrev sis_spelt : Stmt := topS 7
abbrev Nis_spelt : List Str := ["value", "letter"]
theorem scis_spelt : FnScope Nis_spelt ["value"] (defScope sis_spelt) := ⟨rfl, rfl, rfl, by decide +kernel, rfl, by decide +kernel, by decide +kernel⟩
def sp_is_spelt : Sp := fun vs H Q _ => ∃ s : Str, vs = [.str s] ∧ s.length ≤ 1000 ∧ Q (.bl (spelt s)) H
theorem cal_is_spelt (F : Has K mg "is_spelt" sis_spelt) (T : Txt K w mg C) : Cal P w K mg base 1 "is_spelt" sp_is_spelt := by
  refine F.cal (fun _ _ _ _ _ _ us hl => match us, hl with | [_], _ => rfl) scis_spelt (fun vs H Q E h => ?_) (fun f cdv A outer s H vs Q E hr h => ?_)
  · obtain ⟨s, rfl, _⟩ := h; rfl
  · obtain ⟨s, rfl, hl, k⟩ := h
    have nd := scis_spelt.nd
    refine ⟨_, (pss_cons (ps_if (PW.pt (pw_or (pt_not (pt_val (pe_callB (kIsi K) (by rfl) T.isinstance (by decide +kernel) (pa_cons (pv 0) (pa_cons (pe_bltn (v := .ty "str") (by rfl) T.tstr (by decide +kernel) rfl) pa_nil))))) (pw_or1 (pt_not (pt_chain op_lt op_lt pe_int (pe_callB call_len_str (by rfl) T.len (by decide +kernel) (pa_cons (pv 0) pa_nil)) pe_int)))))
    (pss_one (ps_ret pe_bl)) pss_nil)
  (pss_cons (ps_for PassesOwn.never rfl (pi_str (pv 0)) (pg_name (i := 1) nd rfl (Or.inl rfl))
    (pss_one (ps_if (pt_cmpR op_notIn_sign (pv 1) (C8.pe_gc rfl T.letters) rfl)
      (pss_one (ps_ret pe_bl)) pss_nil)))
  (pss_one (ps_ret pe_bl)))), ?_⟩
    have hz : s.length ≤ sizeLine := Nat.le_trans hl (by decide)
    walk_at "go"
    refine g_isi (T := "str") (k := true) (by walk_at "ty") (by decide +kernel) ?_
    walk_at "go"
    refine ⟨_, rfl, hz, ?_⟩
    walk_at "go"
    refine ite2 (fun h1 => ?_) (fun h1 => ?_)
    · have h1 : 0 < s.length := by simpa using h1
      walk_at "go"
      refine ite2 (fun h2 => ?_) (fun h2 => ?_)
      · have h2 : ¬ s.length < 9 := by
          have h2 : ¬ ((s.length : Int) < 9) := by simpa using h2
          omega
        walk_at "go"
        have : spelt s = false := by unfold spelt; simp [h2]
        rw [← this]; exact k
      · have h2 : s.length < 9 := by
          have h2 : ((s.length : Int) < 9) := by simpa using h2
          omega
        walk_at "go"
        refine ⟨_, rfl, ?_⟩
        refine for_it walk_str (fun i σ' H' => H' = H ∧ (∃ x, σ' = [some (.str s), x]) ∧ ∀ c ∈ s.cps.toList.take i, c ∈ lets.cps.toList) ⟨rfl, ⟨_, rfl⟩, by simp⟩ (fun _ _ _ _ _ => trivial) ?_ ?_
        · rintro i x σ' H' H'' hi ⟨rfl, ⟨y, rfl⟩, ih⟩ ⟨rfl, c, hc, rfl⟩
          walk_at "go"
          refine ⟨c, _, rfl, rfl, ?_⟩
          walk_at "go"
          have hc' : s.cps.toList[i]? = some c := by simpa using hc
          refine ite2 (fun h3 => ?_) (fun h3 => ?_)
          · walk_at "go"
            have : spelt s = false := by
              unfold spelt
              have hn : (s.cps.toList.all fun c => decide (c ∈ lets.cps.toList)) = false := by
                rw [List.all_eq_false]
                exact ⟨c, List.mem_of_getElem? hc', by simpa using h3⟩
              rw [hn]; simp
            rw [← this]; exact k
          · walk_at "go"
            refine ⟨rfl, ⟨_, rfl⟩, fun d hd => ?_⟩
            rw [List.take_add_one, hc'] at hd
            rcases List.mem_append.mp hd with hd | hd
            · exact ih d hd
            · have : d = c := by simpa using hd
              subst this; simpa using h3
        · rintro σ' H' ⟨rfl, ⟨y, rfl⟩, ih⟩
          walk_at "go"
          have : spelt s = true := by
            unfold spelt
            rw [List.take_of_length_le (by simp)] at ih
            have hn : (s.cps.toList.all fun c => decide (c ∈ lets.cps.toList)) = true := List.all_eq_true.mpr fun c hc => by simpa using ih c hc
            rw [hn]
            simp [h1, h2]
          rw [← this]; exact k
    · have h1 : ¬ 0 < s.length := by simpa using h1
      walk_at "go"
      have : spelt s = false := by unfold spelt; simp [h1]
      rw [← this]; exact k
end
end K69
set_option Elab.async false
set_option linter.all false
set_option maxRecDepth 100000
/-! Texts in order: the one sorted list. -/
namespace K69
open PySem PySem.Spec PyProof.Rows L2
def leS (a b : Str) : Bool := !ltCps b.cps.toList a.cps.toList
theorem lt_irr : ∀ a : List Nat, ltCps a a = false
  | [] => rfl
  | a :: r => by simp [ltCps, lt_irr r]
theorem lt_tr : ∀ {a b c : List Nat}, ltCps a b = true → ltCps b c = true → ltCps a c = true
  | [], [], _, h, _ => by simp [ltCps] at h
  | [], _ :: _, [], _, h => by simp [ltCps] at h
  | [], _ :: _, _ :: _, _, _ => rfl
  | _ :: _, [], _, h, _ => by simp [ltCps] at h
  | _ :: _, _ :: _, [], _, h => by simp [ltCps] at h
  | a :: r, b :: t, c :: u, h1, h2 => by
    simp only [ltCps, Bool.or_eq_true, Bool.and_eq_true, decide_eq_true_eq, beq_iff_eq] at h1 h2 ⊢
    rcases h1 with h1 | ⟨rfl, h1⟩
    · rcases h2 with h2 | ⟨rfl, h2⟩
      · exact .inl (Nat.lt_trans h1 h2)
      · exact .inl h1
    · rcases h2 with h2 | ⟨rfl, h2⟩
      · exact .inl h2
      · exact .inr ⟨rfl, lt_tr h1 h2⟩
theorem lt_tri : ∀ a b : List Nat, ltCps a b = false → ltCps b a = false → a = b
  | [], [], _, _ => rfl
  | [], _ :: _, h, _ => by simp [ltCps] at h
  | _ :: _, [], _, h => by simp [ltCps] at h
  | a :: r, b :: t, h1, h2 => by
    simp only [ltCps, Bool.or_eq_false_iff, Bool.and_eq_false_imp, decide_eq_false_iff_not, beq_iff_eq] at h1 h2
    have e : a = b := Nat.le_antisymm (Nat.le_of_not_lt h2.1) (Nat.le_of_not_lt h1.1)
    subst e
    rw [lt_tri r t (h1.2 rfl) (h2.2 rfl)]
theorem str_ext {a b : Str} (h : a.cps.toList = b.cps.toList) : a = b := by
  obtain ⟨x⟩ := a
  obtain ⟨y⟩ := b
  have : x = y := Array.ext' h
  rw [this]
theorem leS_refl (a : Str) : leS a a = true := by simp [leS, lt_irr]
theorem leS_total (a b : Str) : (leS a b || leS b a) = true := by
  unfold leS
  cases h1 : ltCps b.cps.toList a.cps.toList with
  | false => rfl
  | true =>
    cases h2 : ltCps a.cps.toList b.cps.toList with
    | false => rfl
    | true => have := lt_tr h1 h2; rw [lt_irr] at this; cases this
theorem leS_trans {a b c : Str} (h1 : leS a b = true) (h2 : leS b c = true) : leS a c = true := by
  unfold leS at *
  simp only [Bool.not_eq_true'] at *
  cases h : ltCps c.cps.toList a.cps.toList with
  | false => rfl
  | true =>
    cases h3 : ltCps b.cps.toList a.cps.toList with
    | true => rw [h3] at h1; cases h1
    | false =>
      cases h4 : ltCps a.cps.toList b.cps.toList with
      | true => rw [lt_tr h h4] at h2; cases h2
      | false => rw [lt_tri _ _ h4 h3] at h; rw [h] at h2; cases h2
theorem leS_anti {a b : Str} (h1 : leS a b = true) (h2 : leS b a = true) : a = b := by
  unfold leS at *
  simp only [Bool.not_eq_true'] at *
  exact str_ext (lt_tri _ _ h2 h1)
theorem sortedS_iff : ∀ l : List Str, sortedS l = true ↔ l.Pairwise (fun a b => leS a b = true)
  | [] => by simp [sortedS]
  | [a] => by simp [sortedS, risingS]
  | a :: b :: r => by
    have ih := sortedS_iff (b :: r)
    have e : sortedS (a :: b :: r) = (leS a b && sortedS (b :: r)) := rfl
    rw [e, Bool.and_eq_true, ih, List.pairwise_cons (a := a)]
    constructor
    · rintro ⟨h1, h2⟩
      refine ⟨fun c hc => ?_, h2⟩
      rcases List.mem_cons.mp hc with rfl | hc
      · exact h1
      · exact leS_trans h1 ((List.pairwise_cons.mp h2).1 c hc)
    · rintro ⟨h1, h2⟩
      exact ⟨h1 b List.mem_cons_self, h2⟩
/-- two ordered lists of the same are one -/
theorem sorted_one : ∀ {l m : List Str}, l.Perm m → l.Pairwise (fun a b => leS a b = true) → m.Pairwise (fun a b => leS a b = true) → l = m
  | [], m, p, _, _ => (List.Perm.nil_eq p)
  | a :: l, [], p, _, _ => absurd p.length_eq (by simp)
  | a :: l, b :: m, p, h1, h2 => by
    have e : a = b := by
      have ha : a ∈ b :: m := p.mem_iff.mp List.mem_cons_self
      have hb : b ∈ a :: l := p.mem_iff.mpr List.mem_cons_self
      rcases List.mem_cons.mp ha with z | ha
      · exact z
      · rcases List.mem_cons.mp hb with z | hb
        · exact z.symm
        · exact leS_anti ((List.pairwise_cons.mp h1).1 b hb) ((List.pairwise_cons.mp h2).1 a ha)
    subst e
    rw [sorted_one (List.Perm.cons_inv p) (List.pairwise_cons.mp h1).2 (List.pairwise_cons.mp h2).2]
def srtS (l : List Str) : List Str := l.mergeSort leS
theorem srtS_perm (l : List Str) : (srtS l).Perm l := List.mergeSort_perm l leS
theorem srtS_sorted (l : List Str) : (srtS l).Pairwise (fun a b => leS a b = true) := List.pairwise_mergeSort (le := leS) (fun _ _ _ => leS_trans) leS_total l
theorem srtS_of {l ys : List Str} (p : ys.Perm l) (h : sortedS ys = true) : ys = srtS l := sorted_one (p.trans (srtS_perm l).symm) ((sortedS_iff ys).mp h) (srtS_sorted l)
theorem srtS_mem {l : List Str} {a : Str} : a ∈ srtS l ↔ a ∈ l := (srtS_perm l).mem_iff
theorem srtS_len (l : List Str) : (srtS l).length = l.length := (srtS_perm l).length_eq
theorem srtS_nd {l : List Str} : (srtS l).Nodup ↔ l.Nodup := (srtS_perm l).nodup_iff
theorem srtS_congr {l m : List Str} (p : l.Perm m) : srtS l = srtS m := sorted_one ((srtS_perm l).trans (p.trans (srtS_perm m).symm)) (srtS_sorted l) (srtS_sorted m)
theorem srtS_id {l : List Str} (h : l.Pairwise (fun a b => leS a b = true)) : srtS l = l := sorted_one (srtS_perm l) (srtS_sorted l) h
/-- entries in the order of their keys -/
def srtK {α : Type} (l : List (Str × α)) : List (Str × α) := l.mergeSort fun a b => leS a.1 b.1
section
variable {α : Type} {l m : List (Str × α)}
theorem srtK_perm (l : List (Str × α)) : (srtK l).Perm l := List.mergeSort_perm l _
theorem srtK_keys (l : List (Str × α)) : (srtK l).map (·.1) = srtS (l.map (·.1)) := by
  refine sorted_one (((srtK_perm l).map _).trans (srtS_perm _).symm) ?_ (srtS_sorted _)
  rw [List.pairwise_map]
  exact List.pairwise_mergeSort (le := fun a b : Str × α => leS a.1 b.1) (fun _ _ _ => leS_trans) (fun a b => leS_total a.1 b.1) l
theorem srtK_len (l : List (Str × α)) : (srtK l).length = l.length := (srtK_perm l).length_eq
theorem srtK_nd : ((srtK l).map (·.1)).Nodup ↔ (l.map (·.1)).Nodup := ((srtK_perm l).map _).nodup_iff
theorem mem_srtK {p : Str × α} : p ∈ srtK l ↔ p ∈ l := (srtK_perm l).mem_iff
theorem lookup_none {l : List (Str × α)} {s : Str} : l.lookup s = none ↔ s ∉ l.map (·.1) := by
  induction l with
  | nil => simp
  | cons p l ih =>
    obtain ⟨x, b⟩ := p
    rw [List.lookup_cons, List.map_cons, List.mem_cons]
    cases e : s == x with
    | true =>
      have : s = x := by simpa using e
      simp [this]
    | false =>
      have : s ≠ x := by simpa using e
      simp [this, ih]
theorem lookup_mem {l : List (Str × α)} {s : Str} {a : α} (h : l.lookup s = some a) : (s, a) ∈ l := by
  induction l with
  | nil => cases h
  | cons p l ih =>
    obtain ⟨x, b⟩ := p
    rw [List.lookup_cons] at h
    cases e : s == x with
    | true =>
      rw [e] at h
      cases h
      have : s = x := by simpa using e
      subst this
      exact List.mem_cons_self
    | false => rw [e] at h; exact List.mem_cons_of_mem _ (ih h)
theorem mem_lookup {l : List (Str × α)} {s : Str} {a : α} (nd : (l.map (·.1)).Nodup) (h : (s, a) ∈ l) : l.lookup s = some a := by
  cases e : l.lookup s with
  | none => exact absurd (List.mem_map.mpr ⟨_, h, rfl⟩) (lookup_none.mp e)
  | some b =>
    have hb := lookup_mem e
    have : ∀ (l : List (Str × α)), (l.map (·.1)).Nodup → (s, a) ∈ l → (s, b) ∈ l → a = b := by
      intro l
      induction l with
      | nil => intro _ h _; cases h
      | cons p l ih =>
        intro nd h1 h2
        rw [List.map_cons, List.nodup_cons] at nd
        rcases List.mem_cons.mp h1 with e1 | h1
        · rcases List.mem_cons.mp h2 with e2 | h2
          · rw [← e1] at e2; cases e2; rfl
          · rw [← e1] at nd; exact absurd (List.mem_map.mpr ⟨_, h2, rfl⟩) nd.1
        · rcases List.mem_cons.mp h2 with e2 | h2
          · rw [← e2] at nd; exact absurd (List.mem_map.mpr ⟨_, h1, rfl⟩) nd.1
          · exact ih nd.2 h1 h2
    rw [this l nd h hb]
theorem lookup_perm (nd : (l.map (·.1)).Nodup) (p : m.Perm l) (s : Str) : m.lookup s = l.lookup s := by
  have ndm : (m.map (·.1)).Nodup := (p.map _).nodup_iff.mpr nd
  cases e : l.lookup s with
  | none =>
    rw [lookup_none] at e ⊢
    rw [(p.map (·.1)).mem_iff]; exact e
  | some a => exact mem_lookup ndm (p.mem_iff.mpr (lookup_mem e))
theorem lookup_srtK (nd : (l.map (·.1)).Nodup) (s : Str) : (srtK l).lookup s = l.lookup s := lookup_perm nd (srtK_perm l) s
/-- an ordered list without doubles is told by its look-ups -/
theorem srtK_one (nl : (l.map (·.1)).Nodup) (nm : (m.map (·.1)).Nodup) (h : ∀ s, l.lookup s = m.lookup s) : srtK l = srtK m := by
  have kp : (l.map (·.1)).Perm (m.map (·.1)) := (List.perm_ext_iff_of_nodup nl nm).mpr fun s => by
    have := h s
    constructor
    · intro q
      cases e : m.lookup s with
      | none => rw [e] at this; exact absurd q (lookup_none.mp this)
      | some a => exact List.mem_map.mpr ⟨_, lookup_mem e, rfl⟩
    · intro q
      cases e : l.lookup s with
      | none => rw [e] at this; exact absurd q (lookup_none.mp this.symm)
      | some a => exact List.mem_map.mpr ⟨_, lookup_mem e, rfl⟩
  have hk : (srtK l).map (·.1) = (srtK m).map (·.1) := by rw [srtK_keys, srtK_keys, srtS_congr kp]
  refine List.ext_getElem? fun i => ?_
  have hi : ((srtK l)[i]?).map (·.1) = ((srtK m)[i]?).map (·.1) := by rw [← List.getElem?_map, ← List.getElem?_map, hk]
  cases e1 : (srtK l)[i]? with
  | none => rw [e1] at hi; cases e2 : (srtK m)[i]? with
    | none => rfl
    | some q => rw [e2] at hi; cases hi
  | some p =>
    rw [e1] at hi
    cases e2 : (srtK m)[i]? with
    | none => rw [e2] at hi; cases hi
    | some q =>
      rw [e2] at hi
      have e3 : p.1 = q.1 := by simpa using hi
      have m1 := mem_lookup (srtK_nd.mpr nl) (List.mem_of_getElem? e1 : (p.1, p.2) ∈ srtK l)
      have m2 := mem_lookup (srtK_nd.mpr nm) (List.mem_of_getElem? e2 : (q.1, q.2) ∈ srtK m)
      rw [lookup_srtK nl] at m1
      rw [lookup_srtK nm, ← e3, ← h, m1] at m2
      have e4 : p.2 = q.2 := Option.some.inj m2
      rw [show p = q from Prod.ext e3 e4]
end
end K69
set_option Elab.async false
set_option linter.all false
set_option maxRecDepth 100000
set_option maxHeartbeats 4000000
namespace K69
open PySem PySem.Spec PyProof.Rows L2
structure RowOk (r : Row) : Prop where
  kind : r.1 = "says" ∨ r.1 = "hears" ∨ r.1 = "done"
  done : r.1 = "done" ↔ r.2 = []
  sp : ∀ p ∈ r.2, spelt p.1 = true ∧ spelt p.2 = true
  nd : (r.2.map (·.1)).Nodup
  few : r.2.length ≤ 20
theorem spelt_len {s : Str} (h : spelt s = true) : s.length ≤ 1000 := by
  unfold spelt at h
  simp only [Bool.and_eq_true, decide_eq_true_eq] at h
  omega
theorem kvS_get {ts : Turns} {i : Nat} {k : Key} {v : V} (h : (kvS ts)[i]? = some (k, v)) : ∃ p, ts[i]? = some p ∧ k = Sum.inr p.1 ∧ v = .str p.2 := by
  unfold kvS at h
  rw [List.getElem?_map] at h
  cases e : ts[i]? with
  | none => rw [e] at h; cases h
  | some p => rw [e] at h; cases h; exact ⟨p, rfl, rfl, rfl⟩
theorem kvR_get {rs : List (Str × Addr)} {i : Nat} {k : Key} {v : V} (h : (kvR rs)[i]? = some (k, v)) : ∃ p, rs[i]? = some p ∧ k = Sum.inr p.1 ∧ v = .ref p.2 := by
  unfold kvR at h
  rw [List.getElem?_map] at h
  cases e : rs[i]? with
  | none => rw [e] at h; cases h
  | some p => rw [e] at h; cases h; exact ⟨p, rfl, rfl, rfl⟩
structure BookOk (bk : Book) : Prop where
  ne : bk ≠ []
  nd : (bk.map (·.1)).Nodup
  sp : ∀ p ∈ bk, spelt p.1 = true
  row : ∀ p ∈ bk, RowOk p.2
  cl : ∀ p ∈ bk, ∀ q ∈ p.2.2, q.2 ∈ bk.map (·.1)
  few : bk.length ≤ 26
/-- entries of any kind with text keys -/
def kvG {α : Type} (f : α → V) (l : List (Str × α)) : List (Key × V) := l.map fun p => (Sum.inr p.1, f p.2)
theorem valV_kvG {α : Type} (f : α → V) (l : List (Str × α)) (w : Str) : valV (kvG f l) (Sum.inr w : Key) = (l.lookup w).map f := by
  induction l with
  | nil => rfl
  | cons p r ih =>
    obtain ⟨x, y⟩ := p
    show valV ((Sum.inr x, f y) :: kvG f r) (Sum.inr w : Key) = _
    rw [List.lookup_cons]
    by_cases h : x = w
    · subst h
      rw [valV_pos rfl]
      simp
    · rw [valV_neg (fun z => h (Sum.inr.inj z)), ih]
      have : (w == x) = false := by simpa using fun z : w = x => h z.symm
      rw [this]
theorem putK_kvG {α : Type} (f : α → V) {l : List (Str × α)} {x : Str} {y : α} (h : x ∉ l.map (·.1)) : putK (kvG f l) (Sum.inr x : Key) (f y) = kvG f (l ++ [(x, y)]) := by
  rw [putK_new]
  · simp [kvG]
  · rw [valV_kvG, lookup_none.mpr h]; rfl
theorem take_nd {α : Type} {l : List (Str × α)} {i : Nat} {p : Str × α} (nd : (l.map (·.1)).Nodup) (h : l[i]? = some p) : p.1 ∉ (l.take i).map (·.1) := by
  intro m
  obtain ⟨q, hq, e⟩ := List.mem_map.mp m
  obtain ⟨j, hj⟩ := List.mem_iff_getElem?.mp hq
  have hji : j < i := by
    have := (List.getElem?_eq_some_iff.mp hj).1
    simp at this; omega
  rw [List.getElem?_take, if_pos hji] at hj
  have a : (l.map (·.1))[j]? = some q.1 := by rw [List.getElem?_map, hj]; rfl
  have b : (l.map (·.1))[i]? = some p.1 := by rw [List.getElem?_map, h]; rfl
  rw [e] at a
  have := nd_ix nd a b
  omega
theorem take_snoc {α : Type} {l : List α} {i : Nat} {p : α} (h : l[i]? = some p) : l.take (i + 1) = l.take i ++ [p] := by
  rw [List.take_add_one, h]; rfl
theorem putK_take {α : Type} (f : α → V) {l : List (Str × α)} {i : Nat} {p : Str × α} (nd : (l.map (·.1)).Nodup) (h : l[i]? = some p) : putK (kvG f (l.take i)) (Sum.inr p.1 : Key) (f p.2) = kvG f (l.take (i + 1)) := by
  rw [putK_kvG f (take_nd nd h), take_snoc h]
theorem RowAt.mk {G : Hp} {D p : Addr} {k : Str} {ts : Turns} (h : D ≠ p) : RowAt (upd (upd G D (.dK (kvS ts))) p (.tup [.str k, .ref D])) p (k, ts) := ⟨D, upd_same, by rw [upd_ne h, upd_same]⟩
theorem RowsAt.at {G : Hp} {rs : List (Str × Addr)} {bk : Book} (h : RowsAt G rs bk) {i : Nat} {p : Str × Addr} (e : rs[i]? = some p) : ∃ q, bk[i]? = some q ∧ p.1 = q.1 ∧ RowAt G p.2 q.2 := by
  induction h generalizing i with
  | nil => simp at e
  | cons hq t ih =>
    cases i with
    | zero => cases e; exact ⟨_, rfl, hq⟩
    | succ i => exact ih (by simpa using e)
theorem RowsAt.dicts {G : Hp} {rs : List (Str × Addr)} {bk : Book} (h : RowsAt G rs bk) : ∃ ds : List Addr, (∀ d ∈ ds, ∃ ts, G d = some (.dK (kvS ts))) ∧
    ∀ (i : Nat) (p : Str × Addr) (q : Str × Row), rs[i]? = some p → bk[i]? = some q → ∃ d ∈ ds, G p.2 = some (.tup [.str q.2.1, .ref d]) ∧ G d = some (.dK (kvS q.2.2)) := by
  induction h with
  | nil => exact ⟨[], (fun _ z => by simp at z), (fun i p q e => by simp at e)⟩
  | @cons p q ps qs hq t ih =>
    obtain ⟨ds, h1, h2⟩ := ih
    obtain ⟨_, d, ha, hd⟩ := hq
    refine ⟨d :: ds, fun c hc => ?_, fun i p' q' e1 e2 => ?_⟩
    · rcases List.mem_cons.mp hc with rfl | hc
      · exact ⟨_, hd⟩
      · exact h1 c hc
    · cases i with
      | zero => cases e1; cases e2; exact ⟨d, List.mem_cons_self, ha, hd⟩
      | succ i =>
        obtain ⟨c, hc, z⟩ := h2 i p' q' (by simpa using e1) (by simpa using e2)
        exact ⟨c, List.mem_cons_of_mem _ hc, z⟩
/-- a book's dict is none of its rows' -/
theorem book_ne {G : Hp} {b d : Addr} {rs : List (Str × Addr)} {ts : Turns} (hb : G b = some (.dK (kvR rs))) (hd : G d = some (.dK (kvS ts))) (ne : rs ≠ []) : d ≠ b := by
  intro e
  subst e
  rw [hb] at hd
  cases rs with
  | nil => exact ne rfl
  | cons p l => cases ts with
    | nil => cases hd
    | cons q m =>
      have e : V.ref p.2 = V.str q.2 := by
        have h1 := HO.dK.inj (Option.some.inj hd)
        exact (Prod.mk.inj (List.cons.inj h1).1).2
      cases e
section
variable {P : Program} {w : World} {K : PySem.W.Frag} {mg : Str → Option Value} {base : Heap} {C : Addr}
local macro_rules | `(tactic| walk_at "lk") => `(tactic| first | assumption | exact upd_same | exact (by assumption : Ex _ _) _ _ (by assumption))
local macro_rules | `(tactic| walk_at "g1") => `(tactic| first
  | with_reducible refine g_seq ?_ | with_reducible refine g_asg ?_ | with_reducible refine g_name ?_ | with_reducible refine g_cons ?_ | with_reducible refine g_nil ?_
  | ((with_reducible refine' g_var ?e ?_); (case e => exact rfl)) | with_reducible refine g_C ?_ | with_reducible refine g_op ?_ | with_reducible refine g_fld0 ?_ | with_reducible refine g_dget ?_ | with_reducible refine g_cb ?_ | with_reducible refine g_call ?_
  | with_reducible refine g_ret ?_ | with_reducible refine g_ifS ?_ | with_reducible refine g_test ?_ | with_reducible refine g_B ?_ | with_reducible refine g_bl ?_ | with_reducible refine g_not ?_ | with_reducible refine g_or ?_ | with_reducible refine g_and ?_
  | with_reducible refine g_ite ?_ | with_reducible refine g_itf ?_ | with_reducible refine g_itnt ?_ | with_reducible refine g_itnf ?_ | with_reducible refine g_eqS ?_ | with_reducible refine g_neS ?_ | with_reducible refine g_neI ?_ | with_reducible refine g_eqB ?_ | with_reducible refine g_neB ?_ | with_reducible refine g_eqI ?_ | with_reducible refine g_rI0 ?_ | with_reducible refine g_ipI ?_ | with_reducible refine g_int ?_
  | with_reducible refine g_drop ?_ | with_reducible refine g_next ?_ | with_reducible refine g_bm ?_ | with_reducible refine g_bm0 ?_ | with_reducible refine g_din ?_ | with_reducible refine g_dnotin ?_ | with_reducible refine g_dput ?_ | ((with_reducible refine' g_aug ?e ?_); (case e => exact rfl))
  | with_reducible refine g_andV ?_ | with_reducible refine g_orV ?_ | with_reducible refine g_notV ?_ | with_reducible refine g_if ?_ | with_reducible refine g_isN ?_ | with_reducible refine g_notN ?_ | with_reducible refine g_sl ?_ | with_reducible refine g_nopart ?_ | with_reducible refine g_part ?_
  | with_reducible refine g_gcons ?_ | with_reducible refine g_gnil ?_ | with_reducible refine g_par2 ?_ | with_reducible refine g_par3 ?_ | with_reducible refine g_vw ?_ | with_reducible refine g_uvw ?_ | with_reducible refine g_yes ?_ | with_reducible refine g_un ?_ | with_reducible refine g_rU ?_ | with_reducible refine g_gsub ?_ | with_reducible refine g_chain ?_ | with_reducible refine g_for ?_ | with_reducible refine g_istr ?_ | with_reducible refine g_ilist ?_ | with_reducible refine g_itup ?_ | with_reducible refine g_ikeys ?_ | with_reducible refine g_ivals ?_ | with_reducible refine g_iitems ?_ | with_reducible refine g_irng1 ?_ | with_reducible refine g_izip ?_ | with_reducible refine g_while ?_ | with_reducible refine g_tru _ ?_ | with_reducible refine g_lc ?_ | with_reducible refine g_dc ?_ | with_reducible refine g_lc2 ?_ | with_reducible refine g_tup ?_ | with_reducible refine g_lst ?_ | with_reducible refine g_dnew ?_ | with_reducible refine g_sfld ?_ | with_reducible refine g_dget2 ?_ | with_reducible refine g_dzip ?_ | with_reducible refine g_dnewT ?_ | with_reducible refine g_dispT ?_ | with_reducible refine g_star ?_ | with_reducible refine g_disp ?_ | with_reducible refine g_prs ?_ | with_reducible refine g_prs0 ?_ | with_reducible refine g_sc ?_ | with_reducible refine g_make ?_ | with_reducible refine g_meth ?_
  | ((with_reducible refine' g_ixT ?h ?e ?_); (case h => walk_at "lk"); (case e => exact rfl)) | ((with_reducible refine' g_ixL ?h ?e ?_); (case h => walk_at "lk"); (case e => exact rfl))
  | ((with_reducible refine' g_fldK ?h ?c ?n ?l ?_); (case h => walk_at "lk"); (case c => exact C8.InsC.cl (Txt.insC (by assumption))); (case n => first | exact Txt.nR (by assumption) | exact Txt.nF (by assumption)); (case l => exact rfl)))
local macro_rules | `(tactic| walk_at "go") => `(tactic| (repeat walk_at "g1"))
local macro_rules | `(tactic| walk_at "ty") => `(tactic| first | exact .base (.str _) | exact .base .non | exact .base (.bl _) | exact .base (.int _) | exact .base (.tup (by assumption)) | exact .base (.lst (by assumption)) | exact .base (.dK (by assumption)) | exact .fDict (by assumption))
abbrev sis_row : Stmt := topS 11
abbrev Nis_row : List Str := ["value", "word"]
theorem scis_row : FnScope Nis_row ["value"] (defScope sis_row) := ⟨rfl, rfl, rfl, by decide +kernel, rfl, by decide +kernel, by decide +kernel⟩
def sp_is_row : Sp := fun vs H Q _ => ∃ (a : Addr) (r : Row), vs = [.ref a] ∧ RowAt H a r ∧ RowOk r ∧ ∀ H', Ex H H' → Q (.bl true) H'
theorem cal_is_row (F : Has K mg "is_row" sis_row) (T : Txt K w mg C) (c_is_spelt : Cal P w K mg base 1 "is_spelt" sp_is_spelt) : Cal P w K mg base 2 "is_row" sp_is_row := by
  refine F.cal (fun _ _ _ _ _ _ us hl => match us, hl with | [_], _ => rfl) scis_row (fun vs H Q E h => ?_) (fun f cdv A outer s H vs Q E hr h => ?_)
  · obtain ⟨a, r, rfl, _⟩ := h; rfl
  · obtain ⟨a, r, rfl, ⟨d, ha, hd⟩, ok, k⟩ := h
    have nd := scis_row.nd
    have hu := hu_of hr
    obtain ⟨td, es, n, tm, tD, tz⟩ := T.turned
    refine ⟨_, (pss_cons (ps_if (PW.pt (pw_or (pt_not (pt_val (pe_callB (kIsi K) (by rfl) T.isinstance (by decide +kernel) (pa_cons (pv 0) (pa_cons (pe_bltn (v := .ty "tuple") (by rfl) T.ttuple (by decide +kernel) rfl) pa_nil))))) (pw_or (pt_cmpR op_ne (pe_callB (kLen K) (by rfl) T.len (by decide +kernel) (pa_cons (pv 0) pa_nil)) pe_int (nomark _)) (pw_or1 (pt_not (pt_val (pe_callB (kIsi K) (by rfl) T.isinstance (by decide +kernel) (pa_cons (pe_ix (kIxT K) (pv 0) pe_int (fun _ _ => rfl)) (pa_cons (pe_bltn (v := .ty "str") (by rfl) T.tstr (by decide +kernel) rfl) pa_nil)))))))))
    (pss_one (ps_ret pe_bl)) pss_nil)
  (pss_cons (ps_if (PW.pt (pw_or (pt_cmpR (op_notIn_kd tD) (pe_ix (kIxT K) (pv 0) pe_int (fun _ _ => rfl)) (pe_glob (v := .ref td) rfl tm rfl) rfl) (pw_or (pt_not (pt_val (pe_callB (kIsi K) (by rfl) T.isinstance (by decide +kernel) (pa_cons (pe_ix (kIxT K) (pv 0) pe_int (fun _ _ => rfl)) (pa_cons (pe_bltn (v := .ty "dict") (by rfl) T.tdict (by decide +kernel) rfl) pa_nil))))) (pw_or1 (pt_cmpR op_ne (pe_cmpR op_eq (pe_ix (kIxT K) (pv 0) pe_int (fun _ _ => rfl)) pe_str (nomark _)) (pe_cmpR (op_eq_dictE hr.units0) (pe_ix (kIxT K) (pv 0) pe_int (fun _ _ => rfl)) pe_dnewK (nomark _)) (nomark _))))))
    (pss_one (ps_ret pe_bl)) pss_nil)
  (pss_one (ps_ret (pe_callB (kAll K rfl) (by rfl) T.all (by decide +kernel) (pa_cons (pe_lock (pe_lc (own := [("word", 1)]) rfl nd (pi_keys (pe_ix (kIxT K) (pv 0) pe_int (fun _ _ => rfl))) (blkOk_by (N := Nis_row) (sc := defScope sis_row) (by decide +kernel)) (fun _ _ _ _ _ => (pg_name (i := 1) nd rfl (Or.inl rfl))) (fun _ _ _ _ _ => pts_nil) (fun _ _ _ _ _ => (pe_and (kc c_is_spelt hr (pa_cons (pv 1) pa_nil)) (pe_one (kc c_is_spelt hr (pa_cons (pe_dget hu (pe_ix (kIxT K) (pv 0) pe_int (fun _ _ => rfl)) (pv 1) (fun _ _ => rfl)) pa_nil))))))) pa_nil)))))), ?_⟩
    obtain ⟨u, hz⟩ := tz r.1 ok.kind
    walk_at "go"
    refine g_isi (T := "tuple") (k := true) (by walk_at "ty") (by decide +kernel) ?_
    walk_at "go"
    refine ⟨_, _, rfl, .inr (SqT.of ha), ?_⟩
    walk_at "go"
    refine g_itf ?_
    walk_at "go"
    refine g_isi (T := "str") (k := true) (by walk_at "ty") (by decide +kernel) ?_
    walk_at "go"
    refine ⟨_, _, rfl, rfl, hz, ?_⟩
    walk_at "go"
    refine g_itf ?_
    walk_at "go"
    refine g_isi (T := "dict") (k := true) (by walk_at "ty") (by decide +kernel) ?_
    walk_at "go"
    intro p hp
    have e1 : Ex H (upd H p (.dK [])) := Ex.new hp
    have hb : (kvS r.2).isEmpty = decide (r.1 = "done") := by
      by_cases z : r.2 = []
      · rw [decide_eq_true (ok.done.mpr z), z]; rfl
      · rw [decide_eq_false (fun q => z (ok.done.mp q))]
        cases h : r.2 with
        | nil => exact absurd h z
        | cons a l => rfl
    refine g_eqE0 (e1 _ _ hd) upd_same hb ?_
    walk_at "go"
    refine iteNS rfl ?_
    walk_at "go"
    have hd1 : (upd H p (.dK [])) d = some (.dK (kvS r.2)) := e1 _ _ hd
    have ha1 := e1 _ _ ha
    have hp1 : (upd H p (.dK [])) p ≠ none := by rw [upd_same]; simp
    generalize upd H p (.dK []) = H1 at e1 hd1 ha1 hp1 ⊢
    refine ⟨d, _, hd1, trivial, fun od => ?_⟩
    have nad : a ≠ d := ne_of ha1 hd1 (by intro z; cases z)
    have ha2 : (upd H1 d (.frz od (.dK (kvS r.2)))) a = some (.tup [.str r.1, .ref d]) := by rw [upd_ne nad]; exact ha1
    walk_at "go"
    refine ⟨d, od, rfl, .inl ⟨kvS r.2, upd_same, fun D hD => ?_⟩⟩
    refine lc_gen walk_keys (Ex.refl _) hD (by simp [kvS]; have := ok.few; exact small1000 (by omega)) (fun i acc _ => ∃ bs : List Bool, acc = bs.map V.bl ∧ bs.all id = true) ⟨[], rfl, rfl⟩ (fun H' e => e _ _ upd_same) ?_ ?_
    · rintro i x G H2 H3 acc Kt Kf hi N g0 hh hl ⟨bs, rfl, hbs⟩ ⟨rfl, k1, v1, hk, rfl⟩ ht hf
      obtain ⟨q, hq, rfl, rfl⟩ := kvS_get hk
      have mq : q ∈ r.2 := List.mem_of_getElem? hq
      have ha3 := N.ex _ _ ha2
      have hd3 : H3 d = some (.frz od (.dK (kvS r.2))) := N.ex _ _ upd_same
      walk_at "go"
      refine ⟨rfl, ?_⟩
      walk_at "go"
      refine ⟨q.1, rfl, spelt_len (ok.sp q mq).1, ?_⟩
      rw [(ok.sp q mq).1]
      walk_at "go"
      refine g_dgs (s := q.1) (.inr ⟨od, hd3⟩) (by rw [valV_kvS, mem_lookup ok.nd mq]; rfl) ?_
      walk_at "go"
      refine ⟨q.2, rfl, spelt_len (ok.sp q mq).2, ?_⟩
      rw [(ok.sp q mq).2]
      exact ht _ G H3 (Nxt.refl N.gh) ⟨bs ++ [true], by simp, by rw [List.all_append, hbs]; rfl⟩
    · intro G' H' acc N g0 hh hl ⟨bs, ea, hbs⟩
      subst ea
      refine ⟨N.ex _ _ upd_same, ?_⟩
      walk_at "go"
      refine ⟨D, bs, rfl, SqL.of (by rw [upd_ne (fun z => by subst z; rw [upd_same] at hD; cases hD)]; exact hh), ?_⟩
      rw [hbs]
      refine k _ (e1.trans fun b o hb => ?_)
      by_cases z : b = d
      · subst z; rw [upd_same]; rw [hd1] at hb; exact hb
      · rw [upd_ne z]; exact N.ex b o (by rw [upd_ne z]; exact hb)
abbrev sis_book : Stmt := topS 12
abbrev Nis_book : List Str := ["value", "state", "row", "kind", "turns", "goal"]
theorem scis_book : FnScope Nis_book ["value"] (defScope sis_book) := ⟨rfl, rfl, rfl, by decide +kernel, rfl, by decide +kernel, by decide +kernel⟩
def sp_is_book : Sp := fun vs H Q _ => ∃ (b : Addr) (bk : Book), vs = [.ref b] ∧ BookAt H b bk ∧ BookOk bk ∧ ∀ H', Ex H H' → Q (.bl true) H'
theorem cal_is_book (F : Has K mg "is_book" sis_book) (T : Txt K w mg C) (c_is_spelt : Cal P w K mg base 1 "is_spelt" sp_is_spelt) (c_is_row : Cal P w K mg base 2 "is_row" sp_is_row) : Cal P w K mg base 3 "is_book" sp_is_book := by
  refine F.cal (fun _ _ _ _ _ _ us hl => match us, hl with | [_], _ => rfl) scis_book (fun vs H Q E h => ?_) (fun f cdv A outer s H vs Q E hr h => ?_)
  · obtain ⟨a, r, rfl, _⟩ := h; rfl
  · obtain ⟨b, bk, rfl, ⟨rs, hb, hrs⟩, ok, k⟩ := h
    have nd := scis_book.nd
    have hu := hu_of hr
    have ne : rs ≠ [] := fun z => ok.ne (by have := hrs.len; rw [z] at this; exact List.eq_nil_of_length_eq_zero this.symm)
    have few : rs.length ≤ 26 := by rw [hrs.len]; exact ok.few
    have ksp : ∀ (i : Nat) (p : Str × Addr), rs[i]? = some p → spelt p.1 = true := fun i p e => by
      obtain ⟨q, hq, e1, _⟩ := hrs.at e
      rw [e1]
      exact ok.sp q (List.mem_of_getElem? hq)
    refine ⟨_, (pss_cons (ps_if (PW.pt (pw_or (pt_not (pt_val (pe_callB (kIsi K) (by rfl) T.isinstance (by decide +kernel) (pa_cons (pv 0) (pa_cons (pe_bltn (v := .ty "dict") (by rfl) T.tdict (by decide +kernel) rfl) pa_nil))))) (pw_or (pt_cmpR (op_eq_dictE hr.units0) (pv 0) pe_dnewK (nomark _)) (pw_or1 (pt_not (pt_val (pe_callB (kAll K rfl) (by rfl) T.all (by decide +kernel) (pa_cons (pe_lock (pe_lc (own := [("state", 1)]) rfl nd (pi_keys (pv 0)) (blkOk_by (N := Nis_book) (sc := defScope sis_book) (by decide +kernel)) (fun _ _ _ _ _ => (pg_name (i := 1) nd rfl (Or.inl rfl))) (fun _ _ _ _ _ => pts_nil) (fun _ _ _ _ _ => (kc c_is_spelt hr (pa_cons (pv 1) pa_nil))))) pa_nil))))))))
    (pss_one (ps_ret pe_bl)) pss_nil)
  (pss_cons (ps_if (pt_not (pt_val (pe_callB (kAll K rfl) (by rfl) T.all (by decide +kernel) (pa_cons (pe_lock (pe_lc (own := [("row", 2)]) rfl nd (pi_values (pv 0)) (blkOk_by (N := Nis_book) (sc := defScope sis_book) (by decide +kernel)) (fun _ _ _ _ _ => (pg_name (i := 2) nd rfl (Or.inl rfl))) (fun _ _ _ _ _ => pts_nil) (fun _ _ _ _ _ => (kc c_is_row hr (pa_cons (pv 2) pa_nil))))) pa_nil))))
    (pss_one (ps_ret pe_bl)) pss_nil)
  (pss_one (ps_ret (pe_callB (kAll K rfl) (by rfl) T.all (by decide +kernel) (pa_cons (pe_locks (pe_lc2 (own := [("kind", 3), ("turns", 4), ("goal", 5)]) (vs1 := [5]) rfl nd (pi_values (pv 0)) (blkOk_by (N := Nis_book) (sc := defScope sis_book) (by decide +kernel)) (by decide) (fun _ _ _ _ _ => (kgTup K (n := 2) rfl (pgs_cons (pg_name (i := 3) nd rfl (Or.inl rfl)) (pgs_cons (pg_name (i := 4) nd rfl (Or.inl rfl)) pgs_nil)))) (fun _ _ _ _ _ => pts_nil) (fun _ _ _ _ _ => (pi_values (pv 4))) (fun _ _ _ _ _ => (pg_name (i := 5) nd rfl (Or.inl rfl))) (fun _ _ _ _ _ => pts_nil) (fun _ _ _ _ _ => (pe_cmp (pc_din hu (pv 5) (pv 0)) rfl)))) pa_nil)))))), ?_⟩
    walk_at "go"
    refine g_isi (T := "dict") (k := true) (by walk_at "ty") (by decide +kernel) ?_
    walk_at "go"
    intro p hp
    have e1 : Ex H (upd H p (.dK [])) := Ex.new hp
    refine g_eqE0 (e1 _ _ hb) upd_same (b := false) (by cases rs with | nil => exact absurd rfl ne | cons _ _ => rfl) ?_
    generalize upd H p (.dK []) = H1 at e1 ⊢
    walk_at "go"
    have hb1 := e1 _ _ hb
    refine ⟨b, _, hb1, trivial, fun od => ?_⟩
    walk_at "go"
    refine ⟨b, od, rfl, .inl ⟨kvR rs, upd_same, fun D hD => ?_⟩⟩
    refine lc_gen walk_keys (Ex.refl _) hD (by simp [kvR]; exact small1000 (by omega)) (fun i acc _ => ∃ bs : List Bool, acc = bs.map V.bl ∧ bs.all id = true) ⟨[], rfl, rfl⟩ (fun H' e => e _ _ upd_same) ?_ ?_
    · rintro i x G H2 H3 acc Kt Kf hi N g0 hh hl ⟨bs, rfl, hbs⟩ ⟨rfl, k1, v1, hk, rfl⟩ ht hf
      obtain ⟨q, hq, rfl, rfl⟩ := kvR_get hk
      walk_at "go"
      refine ⟨rfl, ?_⟩
      walk_at "go"
      refine ⟨q.1, rfl, spelt_len (ksp i q hq), ?_⟩
      rw [ksp i q hq]
      exact ht _ G H3 (Nxt.refl N.gh) ⟨bs ++ [true], by simp, by rw [List.all_append, hbs]; rfl⟩
    · intro G' H' acc N g0 hh hl ⟨bs, ea, hbs⟩
      subst ea
      refine ⟨N.ex _ _ upd_same, ?_⟩
      walk_at "go"
      refine ⟨D, bs, rfl, SqL.of (by rw [upd_ne (fun z => by subst z; rw [upd_same] at hD; cases hD)]; exact hh), ?_⟩
      rw [hbs]
      have e2 : Ex H (upd H' b (.dK (kvR rs))) := e1.trans fun c o hc => by
        by_cases z : c = b
        · subst z; rw [upd_same]; rw [hb1] at hc; exact hc
        · rw [upd_ne z]; exact N.ex c o (by rw [upd_ne z]; exact hc)
      clear hh g0 N
      generalize upd H' b (.dK (kvR rs)) = H5 at e2 ⊢
      walk_at "go"
      -- each row is one
      have hb5 := e2 _ _ hb
      refine ⟨b, _, hb5, trivial, fun od2 => ?_⟩
      walk_at "go"
      refine ⟨b, od2, kvR rs, rfl, upd_same, fun D2 hD2 => ?_⟩
      have rowL : ∀ (i : Nat) (p : Str × Addr) (q : Str × Row), rs[i]? = some p → bk[i]? = some q → RowAt (upd H5 b (.frz od2 (.dK (kvR rs)))) p.2 q.2 := fun i p q h1 h2 => by
        obtain ⟨q', hq', _, d, ha, hd⟩ := hrs.at h1
        rw [h2] at hq'
        cases hq'
        refine ⟨d, ?_, ?_⟩
        · rw [upd_ne (ne_of (e2 _ _ ha) hb5 (by intro z; cases z))]; exact e2 _ _ ha
        · rw [upd_ne (book_ne hb hd ne)]; exact e2 _ _ hd
      refine lc_gen walk_values (Ex.refl _) hD2 (by simp [kvR]; exact small1000 (by omega)) (fun i acc _ => ∃ bs : List Bool, acc = bs.map V.bl ∧ bs.all id = true) ⟨[], rfl, rfl⟩ (fun H' e => e _ _ upd_same) ?_ ?_
      · rintro i x G H2 H3 acc Kt Kf hi N g0 hh hl ⟨bs, rfl, hbs⟩ ⟨rfl, k1, hk⟩ ht hf
        obtain ⟨q, hq, rfl, rfl⟩ := kvR_get hk
        obtain ⟨z, hz, e, _⟩ := hrs.at hq
        walk_at "go"
        refine ⟨rfl, ?_⟩
        walk_at "go"
        refine ⟨q.2, z.2, rfl, (rowL i q z hq hz).mono N.ex, ok.row z (List.mem_of_getElem? hz), fun H4 e4 => ?_⟩
        exact ht _ G H4 (Nxt.flat N.gh e4) ⟨bs ++ [true], by simp, by rw [List.all_append, hbs]; rfl⟩
      · intro G' H' acc N g0 hh hl ⟨bs, ea, hbs⟩
        subst ea
        refine ⟨N.ex _ _ upd_same, ?_⟩
        walk_at "go"
        refine ⟨D2, bs, rfl, SqL.of (by rw [upd_ne (fun z => by subst z; rw [upd_same] at hD2; cases hD2)]; exact hh), ?_⟩
        rw [hbs]
        have e3 : Ex H (upd H' b (.dK (kvR rs))) := e2.trans fun c o hc => by
          by_cases z : c = b
          · subst z; rw [upd_same]; rw [hb5] at hc; exact hc
          · rw [upd_ne z]; exact N.ex c o (by rw [upd_ne z]; exact hc)
        clear hh g0 N
        generalize upd H' b (.dK (kvR rs)) = H6 at e3 ⊢
        walk_at "go"
        -- each goal is a state
        obtain ⟨ds, hds1, hds2⟩ := hrs.dicts
        obtain ⟨L, ndL, memL⟩ := nodup_of (b :: ds)
        refine ⟨L, locks_intro L _ _ ndL (fun d hd => ?_) fun HL h1 h2 => ?_⟩
        · rcases List.mem_cons.mp ((memL d).mp hd) with rfl | hd
          · exact ⟨_, e3 _ _ hb, trivial⟩
          · obtain ⟨ts, z⟩ := hds1 d hd
            exact ⟨_, e3 _ _ z, trivial⟩
        · have bL : b ∈ L := (memL b).mpr List.mem_cons_self
          obtain ⟨ob, hbL⟩ := h1 b bL _ (e3 _ _ hb)
          walk_at "go"
          refine ⟨b, ob, kvR rs, rfl, hbL, fun D3 hD3 => ?_⟩
          refine lc2_out walk_values (fun i H' => Ex HL H' ∧ ∃ bs : List Bool, H' D3 = some (.lst (bs.map V.bl)) ∧ bs.all id = true ∧ bs.length ≤ i * 20) ⟨Ex.new hD3, [], upd_same, rfl, Nat.zero_le _⟩ (fun i H' _ q => q.1 _ _ hbL) ?_ ?_
          · rintro i x H2 H3 hi ⟨eL, bs, hh, hbs, hl⟩ ⟨rfl, k1, hk⟩
            obtain ⟨q, hq, rfl, rfl⟩ := kvR_get hk
            obtain ⟨z, hz, ez, _⟩ := hrs.at hq
            have mz := List.mem_of_getElem? hz
            obtain ⟨d, hd, ha, hdd⟩ := hds2 i q z hq hz
            have naL : q.2 ∉ L := fun m => by
              rcases List.mem_cons.mp ((memL _).mp m) with e | m
              · rw [e, hb] at ha; cases ha
              · obtain ⟨ts, w'⟩ := hds1 _ m
                rw [w'] at ha; cases ha
            have haL : H3 q.2 = some (.tup [.str z.2.1, .ref d]) := eL _ _ (by rw [h2 _ naL]; exact e3 _ _ ha)
            obtain ⟨od3, hdL⟩ := h1 d ((memL d).mpr (List.mem_cons_of_mem _ hd)) _ (e3 _ _ hdd)
            walk_at "go"
            refine g_gtup (SqT.of haL) rfl ?_
            walk_at "go"
            refine ⟨rfl, ?_⟩
            walk_at "go"
            refine ⟨d, od3, kvS z.2.2, rfl, eL _ _ hdL, ?_⟩
            refine lc2_in walk_values (fun j H' => Ex HL H' ∧ ∃ bs : List Bool, H' D3 = some (.lst (bs.map V.bl)) ∧ bs.all id = true ∧ bs.length ≤ i * 20 + j) ⟨eL, bs, hh, hbs, hl⟩ (fun j H' _ q => q.1 _ _ hdL) ?_ ?_
            · rintro j y H4 H5 hj ⟨eL4, bs4, hh4, hbs4, hl4⟩ ⟨rfl, k5, hk5⟩
              obtain ⟨q5, hq5, rfl, rfl⟩ := kvS_get hk5
              walk_at "go"
              refine ⟨rfl, ?_⟩
              walk_at "go"
              refine ⟨b, _, rfl, DGet.s (.inr ⟨ob, eL4 _ _ hbL⟩) rfl, ?_⟩
              have sm : (valV (kvR rs) (Sum.inr q5.2 : Key)).isSome = true := by
                have := ok.cl z mz q5 (List.mem_of_getElem? hq5)
                rw [← hrs.keys] at this
                rw [valV_kvR]
                cases e : rs.lookup q5.2 with
                | none => exact absurd this (lookup_none.mp e)
                | some a => rfl
              rw [sm]
              have hj' : j < z.2.2.length := by simpa [kvS] using hj
              have hi' : i < 26 := by
                have : i < rs.length := by simpa [kvR] using hi
                omega
              have := (ok.row z mz).few
              refine ⟨_, hh4, by rw [List.length_map]; exact small1000 (by omega), eL4.up hD3, bs4 ++ [true], by rw [upd_same]; simp, by rw [List.all_append, hbs4]; rfl, by simp; omega⟩
            · rintro H4 ⟨eL4, bs4, hh4, hbs4, hl4⟩
              refine ⟨eL4, bs4, hh4, hbs4, ?_⟩
              have := (ok.row z mz).few
              have e5 : (kvS z.2.2).length = z.2.2.length := by simp [kvS]
              rw [e5] at hl4
              have : (i + 1) * 20 = i * 20 + 20 := by omega
              omega
          · rintro H4 ⟨eL4, bs4, hh4, hbs4, hl4⟩
            refine ⟨fun d hd => ?_, ?_⟩
            · have : ∃ u, H6 d = some u := by
                rcases List.mem_cons.mp ((memL d).mp hd) with rfl | hd
                · exact ⟨_, e3 _ _ hb⟩
                · obtain ⟨ts, z⟩ := hds1 d hd
                  exact ⟨_, e3 _ _ z⟩
              obtain ⟨u, hu'⟩ := this
              obtain ⟨o5, h5⟩ := h1 d hd u hu'
              rw [h5]
              exact eL4 _ _ h5
            · walk_at "go"
              have nD : D3 ∉ L := fun m => by
                have : ∃ u, H6 D3 = some u := by
                  rcases List.mem_cons.mp ((memL D3).mp m) with e | hd
                  · exact ⟨_, by rw [e]; exact e3 _ _ hb⟩
                  · obtain ⟨ts, z⟩ := hds1 D3 hd
                    exact ⟨_, e3 _ _ z⟩
                obtain ⟨u, hu'⟩ := this
                obtain ⟨o5, h5⟩ := h1 D3 m u hu'
                rw [h5] at hD3; cases hD3
              refine ⟨D3, bs4, rfl, SqL.of (by rw [if_neg nD]; exact hh4), ?_⟩
              rw [hbs4]
              refine k _ (e3.trans fun c o hc => ?_)
              by_cases z : c ∈ L
              · rw [if_pos z]; exact hc
              · rw [if_neg z]
                exact eL4 _ _ (by rw [h2 _ z]; exact hc)
end
end K69
set_option Elab.async false
set_option linter.all false
set_option maxRecDepth 100000
set_option maxHeartbeats 4000000
namespace K69
open PySem PySem.Spec PyProof.Rows L2
section
variable {P : Program} {w : World} {K : PySem.W.Frag} {mg : Str → Option Value} {base : Heap} {C : Addr}
local macro_rules | `(tactic| walk_at "lk") => `(tactic| first | assumption | exact upd_same | exact (by assumption : Ex _ _) _ _ (by assumption))
local macro_rules | `(tactic| walk_at "g1") => `(tactic| first
  | with_reducible refine g_seq ?_ | with_reducible refine g_asg ?_ | with_reducible refine g_name ?_ | with_reducible refine g_cons ?_ | with_reducible refine g_nil ?_
  | ((with_reducible refine' g_var ?e ?_); (case e => exact rfl)) | with_reducible refine g_C ?_ | with_reducible refine g_op ?_ | with_reducible refine g_fld0 ?_ | with_reducible refine g_dget ?_ | with_reducible refine g_cb ?_ | with_reducible refine g_call ?_
  | with_reducible refine g_ret ?_ | with_reducible refine g_ifS ?_ | with_reducible refine g_test ?_ | with_reducible refine g_B ?_ | with_reducible refine g_bl ?_ | with_reducible refine g_not ?_ | with_reducible refine g_or ?_ | with_reducible refine g_and ?_
  | with_reducible refine g_ite ?_ | with_reducible refine g_itf ?_ | with_reducible refine g_itnt ?_ | with_reducible refine g_itnf ?_ | with_reducible refine g_eqS ?_ | with_reducible refine g_neS ?_ | with_reducible refine g_neI ?_ | with_reducible refine g_eqB ?_ | with_reducible refine g_neB ?_ | with_reducible refine g_eqI ?_ | with_reducible refine g_rI0 ?_ | with_reducible refine g_ipI ?_ | with_reducible refine g_int ?_
  | with_reducible refine g_drop ?_ | with_reducible refine g_next ?_ | with_reducible refine g_bm ?_ | with_reducible refine g_bm0 ?_ | with_reducible refine g_din ?_ | with_reducible refine g_dnotin ?_ | with_reducible refine g_dput ?_ | ((with_reducible refine' g_aug ?e ?_); (case e => exact rfl))
  | with_reducible refine g_andV ?_ | with_reducible refine g_orV ?_ | with_reducible refine g_notV ?_ | with_reducible refine g_if ?_ | with_reducible refine g_isN ?_ | with_reducible refine g_notN ?_ | with_reducible refine g_sl ?_ | with_reducible refine g_nopart ?_ | with_reducible refine g_part ?_
  | with_reducible refine g_gcons ?_ | with_reducible refine g_gnil ?_ | with_reducible refine g_par2 ?_ | with_reducible refine g_par3 ?_ | with_reducible refine g_vw ?_ | with_reducible refine g_uvw ?_ | with_reducible refine g_yes ?_ | with_reducible refine g_un ?_ | with_reducible refine g_rU ?_ | with_reducible refine g_gsub ?_ | with_reducible refine g_chain ?_ | with_reducible refine g_for ?_ | with_reducible refine g_istr ?_ | with_reducible refine g_ilist ?_ | with_reducible refine g_itup ?_ | with_reducible refine g_ikeys ?_ | with_reducible refine g_ivals ?_ | with_reducible refine g_iitems ?_ | with_reducible refine g_irng1 ?_ | with_reducible refine g_izip ?_ | with_reducible refine g_while ?_ | with_reducible refine g_tru _ ?_ | with_reducible refine g_lc ?_ | with_reducible refine g_dc ?_ | with_reducible refine g_lc2 ?_ | with_reducible refine g_tup ?_ | with_reducible refine g_lst ?_ | with_reducible refine g_dnew ?_ | with_reducible refine g_sfld ?_ | with_reducible refine g_dget2 ?_ | with_reducible refine g_dzip ?_ | with_reducible refine g_dnewT ?_ | with_reducible refine g_dispT ?_ | with_reducible refine g_star ?_ | with_reducible refine g_disp ?_ | with_reducible refine g_prs ?_ | with_reducible refine g_prs0 ?_ | with_reducible refine g_sc ?_ | with_reducible refine g_make ?_ | with_reducible refine g_meth ?_
  | ((with_reducible refine' g_ixT ?h ?e ?_); (case h => walk_at "lk"); (case e => exact rfl)) | ((with_reducible refine' g_ixL ?h ?e ?_); (case h => walk_at "lk"); (case e => exact rfl))
  | ((with_reducible refine' g_fldK ?h ?c ?n ?l ?_); (case h => walk_at "lk"); (case c => exact C8.InsC.cl (Txt.insC (by assumption))); (case n => first | exact Txt.nR (by assumption) | exact Txt.nF (by assumption)); (case l => exact rfl)))
local macro_rules | `(tactic| walk_at "go") => `(tactic| (repeat walk_at "g1"))
local macro_rules | `(tactic| walk_at "ty") => `(tactic| first | exact .base (.str _) | exact .base .non | exact .base (.bl _) | exact .base (.int _) | exact .base (.tup (by assumption)) | exact .base (.lst (by assumption)) | exact .base (.dK (by assumption)) | exact .fDict (by assumption))
abbrev scopied : Stmt := topS 13
abbrev Ncopied : List Str := ["row", "kind", "turns", "word"]
theorem sccopied : FnScope Ncopied ["row"] (defScope scopied) := ⟨rfl, rfl, rfl, by decide +kernel, rfl, by decide +kernel, by decide +kernel⟩
def sp_copied : Sp := fun vs H Q _ => ∃ (a : Addr) (r : Row) (G : Hp), vs = [.ref a] ∧ Ex G H ∧ RowAt H a r ∧ (r.2.map (·.1)).Nodup ∧ r.2.length ≤ 60 ∧ ∀ a' G' H', Nxt none G H G' H' → RowAt G' a' (r.1, srtK r.2) → H a' = none → Q (.ref a') H'
theorem cal_copied (F : Has K mg "copied" scopied) (T : Txt K w mg C) : Cal P w K mg base 1 "copied" sp_copied := by
  refine F.cal (fun _ _ _ _ _ _ us hl => match us, hl with | [_], _ => rfl) sccopied (fun vs H Q E h => ?_) (fun f cdv A outer s H vs Q E hr h => ?_)
  · obtain ⟨a, r, G, rfl, _⟩ := h; rfl
  · obtain ⟨a, r, G, rfl, eG, ⟨d, ha, hd⟩, ndr, few, k⟩ := h
    have nd := sccopied.nd
    have hu := hu_of hr
    refine ⟨_, (pss_cons (ps_asg (pv 0) (kgTup K (n := 2) rfl (pgs_cons (pg_name (i := 1) nd rfl (Or.inl rfl)) (pgs_cons (pg_name (i := 2) nd rfl (Or.inr rfl)) pgs_nil))))
  (pss_one (ps_ret (pe_tup (pa_cons (pv 1) (pa_cons (pe_dc (own := [("word", 3)]) rfl nd (kpList K (pe_callB (call_sortedD rfl) (by rfl) T.sorted (by decide +kernel) (pa_cons (pv 2) pa_nil))) (blkOk_by (N := Ncopied) (sc := defScope scopied) (by decide +kernel)) (fun _ _ _ _ _ => (pg_name (i := 3) nd rfl (Or.inl rfl))) (fun _ _ _ _ _ => pts_nil) (fun _ _ _ _ _ => (pv 3)) (fun _ _ _ _ _ => (pe_dget hu (pv 2) (pv 3) (fun _ _ => rfl)))) pa_nil)))))), ?_⟩
    walk_at "go"
    refine g_gtup (SqT.of ha) rfl ?_
    walk_at "go"
    refine ⟨d, kvS r.2, r.2.map (·.1), rfl, .inl hd, kvS_keys _, by rw [List.length_map]; omega, fun ys l pm so hl => ?_⟩
    obtain rfl := srtS_of pm so
    rw [← srtK_keys]
    have N1 : Nxt none G H G (upd H l (.lst (((srtK r.2).map (·.1)).map V.str))) := Nxt.flat eG (Ex.new hl)
    have hl1 : (upd H l (.lst (((srtK r.2).map (·.1)).map V.str))) l = _ := upd_same
    generalize upd H l (.lst (((srtK r.2).map (·.1)).map V.str)) = H1 at N1 hl1 ⊢
    walk_at "go"
    refine ⟨l, rfl, ⟨_, SqL.of hl1⟩, fun D hD => ?_⟩
    refine dc_gen walk_list N1.gh hD (by simp [srtK_len]; exact small1000 (by omega)) (fun i acc _ => acc = kvS ((srtK r.2).take i)) rfl (fun H' e => SqL.of (e _ _ hl1)) ?_ ?_
    · rintro i x G2 H2 H3 acc Kt Kf hi N g0 hh hl' rfl ⟨rfl, hx⟩ ht hf
      have hx' : ∃ p, (srtK r.2)[i]? = some p ∧ x = .str p.1 := by
        rw [List.getElem?_map, List.getElem?_map] at hx
        cases e : (srtK r.2)[i]? with
        | none => rw [e] at hx; cases hx
        | some p => rw [e] at hx; cases hx; exact ⟨p, rfl, rfl⟩
      obtain ⟨p, hp, rfl⟩ := hx'
      have hd3 := N.ex _ _ (N1.ex _ _ hd)
      have mp : p ∈ r.2 := mem_srtK.mp (List.mem_of_getElem? hp)
      walk_at "go"
      refine ⟨rfl, ?_⟩
      walk_at "go"
      refine g_dgs (s := p.1) (.inl hd3) (by rw [valV_kvS, mem_lookup ndr mp]; rfl) ?_
      exact ht (Sum.inr p.1) (.str p.2) G2 H3 (Nxt.refl N.gh) (putK_take V.str (srtK_nd.mpr ndr) hp)
    · rintro G2 H2 acc N g0 hh hl' rfl
      rw [List.take_of_length_le (by simp)] at hh
      have hD0 : H D = none := N1.none0 hD
      have N2 := (N1.trans N).frz g0 hh hD0
      walk_at "go"
      refine ⟨by show 2 ≤ sizeLine; decide, fun q hq => ?_⟩
      have nq : D ≠ q := ne_of_none hh hq
      exact k q _ _ (N2.new (o := .tup [.str r.1, .ref D]) hq ((N1.trans N).none0 hq)) (RowAt.mk nq) ((N1.trans N).none0 hq)
/-- the words a, b, .. z -/
def letS : List Str := lets.cps.toList.map fun c => (⟨#[c]⟩ : Str)
theorem letS_len : letS.length = 26 := by decide +kernel
theorem empty_app (c : Nat) : ((PySem.Str.ofString "") ++ (⟨#[c]⟩ : Str)) = ⟨#[c]⟩ := by
  refine str_ext ?_
  show ((PySem.Str.ofString "").cps ++ #[c]).toList = [c]
  simp
  decide +kernel
abbrev sfirst_words : Stmt := topS 8
abbrev Nfirst_words : List Str := ["taken", "many", "found", "layer", "word", "letter"]
theorem scfirst_words : FnScope Nfirst_words ["taken", "many"] (defScope sfirst_words) := ⟨rfl, rfl, rfl, by decide +kernel, rfl, by decide +kernel, by decide +kernel⟩
def sp_first_words : Sp := fun vs H Q _ => ∃ (t : Addr) (n : Nat) (G : Hp), vs = [.ref t, .int (n : Int)] ∧ Ex G H ∧ H t = some (.lst []) ∧ n ≤ 26 ∧ ∀ p G' H', Nxt none G H G' H' → G' p = some (.lst ((letS.take n).map V.str)) → H p = none → Q (.ref p) H'
theorem cal_first_words (F : Has K mg "first_words" sfirst_words) (T : Txt K w mg C) : Cal P w K mg base 1 "first_words" sp_first_words := by
  refine F.cal (fun _ _ _ _ _ _ us hl => match us, hl with | [_, _], _ => rfl) scfirst_words (fun vs H Q E h => ?_) (fun f cdv A outer s H vs Q E hr h => ?_)
  · obtain ⟨t, n, G, rfl, _⟩ := h; rfl
  · obtain ⟨t, n, G, rfl, eG, ht, hn, k⟩ := h
    have nd := scfirst_words.nd
    have hu := hu_of hr
    refine ⟨_, (pss_cons (ps_par (i := 2) (j := 3) rfl nd rfl rfl (by decide) rfl rfl (pa_cons (pe_lst pa_nil) (pa_cons (pe_lst (pa_cons pe_str pa_nil)) pa_nil)) (by rfl))
  (pss_cons (ps_while PassesOwn.never (pt_cmpR op_lt (pe_callB (kLen K) (by rfl) T.len (by decide +kernel) (pa_cons (pv 2) pa_nil)) (pv 1) (nomark _))
    (pss_cons (ps_setLc2 (i := 3) (own := [("word", 4), ("letter", 5)]) (vs1 := [5]) rfl nd rfl rfl (sw_true rfl rfl rfl (by decide +kernel)) (kpList K (pv 3)) (blkOk_by (N := Nfirst_words) (sc := defScope sfirst_words) (by decide +kernel)) (by decide) (fun _ _ _ _ _ => (pg_name (i := 4) nd rfl (Or.inl rfl))) (fun _ _ _ _ _ => pts_nil) (fun _ _ _ _ _ => (pi_str (C8.pe_gc rfl T.letters))) (fun _ _ _ _ _ => (pg_name (i := 5) nd rfl (Or.inl rfl))) (fun _ _ _ _ _ => pts_nil) (fun _ _ _ _ _ => (pe_op op_add_str (pv 4) (pv 5))))
    (pss_one (ps_expr (kBm K PySem.F.plainAttrs_list PySem.F.slot_list_extend PySem.F.type_list_extend mt_extend (pv 2) (pa_cons (pe_slice (kSlL K) (pe_lc (own := [("word", 4)]) rfl nd (kpList K (pv 3)) (blkOk_by (N := Nfirst_words) (sc := defScope sfirst_words) (by decide +kernel)) (fun _ _ _ _ _ => (pg_name (i := 4) nd rfl (Or.inl rfl))) (fun _ _ _ _ _ => pts_one (pt_cmpR (kNotIn K) (pv 4) (pv 0) rfl)) (fun _ _ _ _ _ => (pv 4))) po_none (po_some (pe_op op_sub (pv 1) (pe_callB (kLen K) (by rfl) T.len (by decide +kernel) (pa_cons (pv 2) pa_nil))))) pa_nil))))))
  (pss_one (ps_ret (pv 2))))), ?_⟩
    walk_at "go"
    refine ⟨Nat.zero_le _, fun p hp => ?_⟩
    walk_at "go"
    refine ⟨by show 1 ≤ sizeLine; decide, fun l hl => ?_⟩
    walk_at "go"
    have npl : p ≠ l := ne_of_none upd_same hl
    have gp : G p = none := eG.back hp
    have N0 : Nxt none G H G (upd (upd H p (.lst [])) l (.lst [.str (PySem.Str.ofString "")])) := (((Nxt.refl eG).own hp hp).trans (Nxt.flat (eG.up gp) (Ex.new hl)))
    refine ⟨fun m σ H' => ∃ l, σ = [some (.ref t), some (.int (n : Int)), some (.ref p), some (.ref l), none, none] ∧ Nxt none G H G H' ∧ ((m = 1 ∧ H' p = some (.lst []) ∧ H' l = some (.lst [.str (PySem.Str.ofString "")])) ∨ (m = 0 ∧ H' p = some (.lst ((letS.take n).map V.str)))), ?_, ?_⟩
    · exact ⟨1, l, rfl, N0, .inl ⟨rfl, by rw [upd_ne npl, upd_same], upd_same⟩⟩
    · rintro m σ H1 ⟨l1, rfl, N1, h1⟩
      have fin : ∀ H1, Nxt none G H G H1 → H1 p = some (.lst ((letS.take n).map V.str)) → Q (.ref p) H1 := fun H1 N hh => k p _ _ (N.frz gp hh hp) upd_same hp
      walk_at "go"
      rcases h1 with ⟨rfl, hp1, hl1⟩ | ⟨rfl, hp1⟩
      · refine ⟨p, _, rfl, .inl (SqL.of hp1), ?_⟩
        walk_at "go"
        refine ite2 (fun hlt => ?_) (fun hlt => ?_)
        · have hn0 : 0 < n := by
            have : (((List.length ([] : List V) : Nat) : Int)) < (n : Int) := by simpa using hlt
            simp at this; omega
          refine ⟨fun σ' H' => ∃ l, σ' = [some (.ref t), some (.int (n : Int)), some (.ref p), some (.ref l), none, none] ∧ Nxt none G H G H' ∧ H' p = some (.lst ((letS.take n).map V.str)), fun σ' H' ⟨l, e, N, hh⟩ => ⟨0, Nat.zero_lt_one, l, e, N, .inr ⟨rfl, hh⟩⟩, ?_⟩
          walk_at "go"
          refine ⟨l1, rfl, ⟨_, SqL.of hl1⟩, fun D hD => ?_⟩
          have hD0 : H D = none := N1.none0 hD
          refine lc2_out walk_list (fun i H' => Nxt none G H1 G H' ∧ H' D = some (.lst ((letS.take (i * 26)).map V.str))) ⟨(Nxt.refl N1.gh).own hD hD, by rw [upd_same]; rfl⟩ (fun i H' _ q => SqL.of (q.1.ex _ _ hl1)) ?_ ?_
          · rintro i x H2 H3 hi ⟨M, hh⟩ ⟨rfl, hx⟩
            have hi0 : i = 0 := by simp at hi; omega
            subst hi0
            obtain rfl : x = .str (PySem.Str.ofString "") := by simpa using hx.symm
            walk_at "go"
            refine ⟨rfl, ?_⟩
            walk_at "go"
            refine ⟨_, rfl, ?_⟩
            refine lc2_in walk_str (fun j H' => Nxt none G H1 G H' ∧ H' D = some (.lst ((letS.take j).map V.str))) ⟨M, by simpa using hh⟩ (fun _ _ _ _ => trivial) ?_ ?_
            · rintro j y H4 H5 hj ⟨M4, hh4⟩ ⟨rfl, c, hc, rfl⟩
              walk_at "go"
              refine ⟨rfl, ?_⟩
              walk_at "go"
              refine ⟨_, _, rfl, rfl, (by show (PySem.Str.ofString "").length + 1 ≤ sizeLine; decide), ?_⟩
              rw [empty_app]
              have hj' : letS[j]? = some ⟨#[c]⟩ := by
                unfold letS
                rw [List.getElem?_map, show lets.cps.toList[j]? = some c by simpa using hc]
                rfl
              refine ⟨_, hh4, by rw [List.length_map, List.length_take]; exact small1000 (by rw [letS_len]; omega), ((Nxt.trans M4 (Nxt.refl M4.gh)).mut (N1.gh.back hD) hD), by rw [upd_same, take_snoc hj']; simp⟩
            · rintro H4 ⟨M4, hh4⟩
              exact ⟨M4, by rw [show (0 + 1) * 26 = lets.cps.size from rfl]; exact hh4⟩
          · rintro H2 ⟨M, hh⟩
            have hDl : H2 D = some (.lst (letS.map V.str)) := by
              have e : letS.take (List.length [V.str (PySem.Str.ofString "")] * 26) = letS := List.take_of_length_le (by rw [letS_len]; decide)
              rw [e] at hh; exact hh
            have N2 := N1.trans M
            have hp2 : H2 p = some (.lst []) := M.ex _ _ hp1
            have ht2 : H2 t = some (.lst []) := N2.ex _ _ ht
            walk_at "go"
            refine ⟨.inl ⟨rfl, _, SqL.of hp2⟩, ?_⟩
            walk_at "go"
            refine ⟨D, rfl, ⟨_, SqL.of hDl⟩, fun D2 hD2 => ?_⟩
            refine lc_gen walk_list N2.gh hD2 (by rw [List.length_map, letS_len]; exact small1000 (by omega)) (fun i acc _ => acc = (letS.take i).map V.str) rfl (fun H' e => SqL.of (e _ _ hDl)) ?_ ?_
            · rintro i x G3 H3 H4 acc Kt Kf hi N3 g0 hh3 hl' rfl ⟨rfl, hx⟩ htt hff
              obtain ⟨z, hz, rfl⟩ : ∃ z, letS[i]? = some z ∧ x = .str z := by
                rw [List.getElem?_map] at hx
                cases e : letS[i]? with
                | none => rw [e] at hx; cases hx
                | some z => rw [e] at hx; cases hx; exact ⟨z, rfl, rfl⟩
              walk_at "go"
              refine ⟨rfl, ?_⟩
              walk_at "go"
              refine g_nin (.inl (SqL.of (N3.ex _ _ ht2))) rfl rfl (b := false) rfl ?_
              walk_at "go"
              exact htt (.str z) G3 H4 (Nxt.refl N3.gh) (by rw [take_snoc hz]; simp)
            · rintro G3 H3 acc N3 g0 hh3 hl' rfl
              have hp3 : H3 p = some (.lst []) := N3.ex _ _ hp2
              walk_at "go"
              refine ⟨p, _, rfl, .inl (SqL.of hp3), ?_⟩
              walk_at "go"
              refine ⟨D2, _, rfl, SqL.of hh3, fun q hq => ?_⟩
              have npq : p ≠ q := ne_of_none hp3 hq
              refine ⟨p, q, [], _, rfl, rfl, by rw [upd_ne npq]; exact hp3, upd_same, by show 0 + _ ≤ sizeLine; rw [Nat.zero_add]; refine Nat.le_trans (cutV_length _ _ _) ?_; rw [List.length_map, List.length_take]; exact Nat.le_of_lt (small1000 (by rw [letS_len]; omega)), ?_⟩
              have ecut : cutV ((letS.take (letS.map V.str).length).map V.str) none (some ((n : Int) - ((([] : List V).length : Nat) : Int))) = (letS.take n).map V.str := by
                rw [List.length_map, List.take_length]
                have e : (n : Int) - ((([] : List V).length : Nat) : Int) = (n : Int) := by simp
                rw [e]
                unfold cutV
                rw [HT.sIx_none, HT.sIx_nat, List.drop_zero, Nat.sub_zero, List.length_map, letS_len, Nat.min_eq_left hn, List.map_take]
              rw [ecut]
              have hD20 : H D2 = none := N2.none0 hD2
              refine ⟨D, rfl, ?_, by rw [List.nil_append, upd_same]⟩
              have M := N2.trans N3
              exact ((M.own hq (M.none0 hq)).mut ((N3.fr p _ hp2).trans gp) hp).forget
        · have hn0 : n = 0 := by
            have : ¬ (((List.length ([] : List V) : Nat) : Int)) < (n : Int) := by simpa using hlt
            simp at this; omega
          subst hn0
          walk_at "go"
          exact fin H1 N1 hp1
      · refine ⟨p, _, rfl, .inl (SqL.of hp1), ?_⟩
        walk_at "go"
        have hl2 : (((letS.take n).map V.str).length : Int) = n := by rw [List.length_map, List.length_take, letS_len]; omega
        rw [hl2]
        refine ite2 (fun hlt => absurd (of_decide_eq_true hlt) (by omega)) (fun hlt => ?_)
        walk_at "go"
        exact fin H1 N1 hp1
end
end K69
set_option Elab.async false
set_option linter.all false
set_option maxRecDepth 100000
set_option maxHeartbeats 4000000
namespace K69
open PySem PySem.Spec PyProof.Rows L2
/-- rows with their words in order; a book with its states in order, too -/
def rowN (r : Row) : Row := (r.1, srtK r.2)
def bkN (bk : Book) : Book := bk.map fun p => (p.1, rowN p.2)
def nrm (bk : Book) : Book := srtK (bkN bk)
theorem bkN_keys (bk : Book) : (bkN bk).map (·.1) = bk.map (·.1) := by simp [bkN]
theorem lookup_bkN (bk : Book) (s : Str) : (bkN bk).lookup s = (bk.lookup s).map rowN := by
  induction bk with
  | nil => rfl
  | cons p l ih =>
    obtain ⟨x, r⟩ := p
    show List.lookup s ((x, rowN r) :: bkN l) = _
    rw [List.lookup_cons, List.lookup_cons, ih]
    cases s == x <;> rfl
theorem nrm_keys (bk : Book) : (nrm bk).map (·.1) = srtS (bk.map (·.1)) := by unfold nrm; rw [srtK_keys, bkN_keys]
theorem nrm_len (bk : Book) : (nrm bk).length = bk.length := by unfold nrm; rw [srtK_len]; simp [bkN]
theorem lookup_nrm {bk : Book} (nd : (bk.map (·.1)).Nodup) (s : Str) : (nrm bk).lookup s = (bk.lookup s).map rowN := by
  unfold nrm
  rw [lookup_srtK (by rw [bkN_keys]; exact nd), lookup_bkN]
theorem nrm_at {bk : Book} (nd : (bk.map (·.1)).Nodup) {i : Nat} {p : Str × Row} (h : (nrm bk)[i]? = some p) : ∃ r, bk.lookup p.1 = some r ∧ p.2 = rowN r := by
  have m := mem_lookup (by rw [nrm_keys, srtS_nd]; exact nd) (List.mem_of_getElem? h : (p.1, p.2) ∈ nrm bk)
  rw [lookup_nrm nd] at m
  cases e : bk.lookup p.1 with
  | none => rw [e] at m; cases m
  | some r =>
    rw [e] at m
    have m' : some (rowN r) = some p.2 := m
    exact ⟨r, rfl, (Option.some.inj m').symm⟩
theorem RowOk.row (h : RowOk r) : (r.2.map (·.1)).Nodup ∧ r.2.length ≤ 60 := ⟨h.nd, by have := h.few; omega⟩
structure DeskOk (bk : Book) (s : Str) : Prop where
  ok : BookOk bk
  st : s ∈ bk.map (·.1)
  n : nrm bk = bk
theorem BookOk.get {bk : Book} (h : BookOk bk) {s : Str} (m : s ∈ bk.map (·.1)) : ∃ r, bk.lookup s = some r ∧ (s, r) ∈ bk := by
  cases e : bk.lookup s with
  | none => exact absurd m (lookup_none.mp e)
  | some r => exact ⟨r, rfl, lookup_mem e⟩
theorem putF_desk (b : Addr) (s : Str) : putF "first" (.str s) (putF "rows" (.ref b) []) = dFs b s := by
  have h : ¬ (("rows" : Str) = "first") := by decide +kernel
  show (if ("rows" : Str) = "first" then _ else (("rows" : Str), V.ref b) :: putF "first" (.str s) []) = dFs b s
  rw [if_neg h]
  rfl
theorem RowsAt.snoc {G : Hp} {rs : List (Str × Addr)} {bk : Book} (h : RowsAt G rs bk) {s : Str} {a : Addr} {r : Row} (hr : RowAt G a r) : RowsAt G (rs ++ [(s, a)]) (bk ++ [(s, r)]) := Paired.snoc h ⟨rfl, hr⟩
theorem g_sfld {K : PySem.W.Frag} {ta tv : TE} {f : Str} {D : Ends} {σ : L2.St} {H : Hp} (h : tv σ H fun y H1 => ta σ H1 fun x H2 => ∃ a C dx fs, x = .ref a ∧ H2 a = some (.ins C dx fs) ∧ Cls K C ∧ NoAttr K C f ∧ fs.length < 1000 ∧ D.nx σ (upd H2 a (.ins C dx (putF f y fs)))) : sFld K ta tv f D σ H := h
section
variable {P : Program} {w : World} {K : PySem.W.Frag} {mg : Str → Option Value} {base : Heap} {C : Addr}
local macro_rules | `(tactic| walk_at "lk") => `(tactic| first | assumption | exact upd_same | exact (by assumption : Ex _ _) _ _ (by assumption))
local macro_rules | `(tactic| walk_at "g1") => `(tactic| first
  | with_reducible refine g_seq ?_ | with_reducible refine g_asg ?_ | with_reducible refine g_name ?_ | with_reducible refine g_cons ?_ | with_reducible refine g_nil ?_
  | ((with_reducible refine' g_var ?e ?_); (case e => exact rfl)) | with_reducible refine g_C ?_ | with_reducible refine g_op ?_ | with_reducible refine g_fld0 ?_ | with_reducible refine g_dget ?_ | with_reducible refine g_cb ?_ | with_reducible refine g_call ?_
  | with_reducible refine g_ret ?_ | with_reducible refine g_ifS ?_ | with_reducible refine g_test ?_ | with_reducible refine g_B ?_ | with_reducible refine g_bl ?_ | with_reducible refine g_not ?_ | with_reducible refine g_or ?_ | with_reducible refine g_and ?_
  | with_reducible refine g_ite ?_ | with_reducible refine g_itf ?_ | with_reducible refine g_itnt ?_ | with_reducible refine g_itnf ?_ | with_reducible refine g_eqS ?_ | with_reducible refine g_neS ?_ | with_reducible refine g_neI ?_ | with_reducible refine g_eqB ?_ | with_reducible refine g_neB ?_ | with_reducible refine g_eqI ?_ | with_reducible refine g_rI0 ?_ | with_reducible refine g_ipI ?_ | with_reducible refine g_int ?_
  | with_reducible refine g_drop ?_ | with_reducible refine g_next ?_ | with_reducible refine g_bm ?_ | with_reducible refine g_bm0 ?_ | with_reducible refine g_din ?_ | with_reducible refine g_dnotin ?_ | with_reducible refine g_dput ?_ | ((with_reducible refine' g_aug ?e ?_); (case e => exact rfl))
  | with_reducible refine g_andV ?_ | with_reducible refine g_orV ?_ | with_reducible refine g_notV ?_ | with_reducible refine g_if ?_ | with_reducible refine g_isN ?_ | with_reducible refine g_notN ?_ | with_reducible refine g_sl ?_ | with_reducible refine g_nopart ?_ | with_reducible refine g_part ?_
  | with_reducible refine g_gcons ?_ | with_reducible refine g_gnil ?_ | with_reducible refine g_par2 ?_ | with_reducible refine g_par3 ?_ | with_reducible refine g_vw ?_ | with_reducible refine g_uvw ?_ | with_reducible refine g_yes ?_ | with_reducible refine g_un ?_ | with_reducible refine g_rU ?_ | with_reducible refine g_gsub ?_ | with_reducible refine g_chain ?_ | with_reducible refine g_for ?_ | with_reducible refine g_istr ?_ | with_reducible refine g_ilist ?_ | with_reducible refine g_itup ?_ | with_reducible refine g_ikeys ?_ | with_reducible refine g_ivals ?_ | with_reducible refine g_iitems ?_ | with_reducible refine g_irng1 ?_ | with_reducible refine g_izip ?_ | with_reducible refine g_while ?_ | with_reducible refine g_tru _ ?_ | with_reducible refine g_lc ?_ | with_reducible refine g_dc ?_ | with_reducible refine g_lc2 ?_ | with_reducible refine g_tup ?_ | with_reducible refine g_lst ?_ | with_reducible refine g_dnew ?_ | with_reducible refine g_sfld ?_ | with_reducible refine g_dget2 ?_ | with_reducible refine g_dzip ?_ | with_reducible refine g_dnewT ?_ | with_reducible refine g_dispT ?_ | with_reducible refine g_star ?_ | with_reducible refine g_disp ?_ | with_reducible refine g_prs ?_ | with_reducible refine g_prs0 ?_ | with_reducible refine g_sc ?_ | with_reducible refine g_make ?_ | with_reducible refine g_meth ?_
  | ((with_reducible refine' g_ixT ?h ?e ?_); (case h => walk_at "lk"); (case e => exact rfl)) | ((with_reducible refine' g_ixL ?h ?e ?_); (case h => walk_at "lk"); (case e => exact rfl))
  | ((with_reducible refine' g_fldK ?h ?c ?n ?l ?_); (case h => walk_at "lk"); (case c => exact C8.InsC.cl (Txt.insC (by assumption))); (case n => first | exact Txt.nR (by assumption) | exact Txt.nF (by assumption)); (case l => exact rfl)))
local macro_rules | `(tactic| walk_at "go") => `(tactic| (repeat walk_at "g1"))
local macro_rules | `(tactic| walk_at "ty") => `(tactic| first | exact .base (.str _) | exact .base .non | exact .base (.bl _) | exact .base (.int _) | exact .base (.tup (by assumption)) | exact .base (.lst (by assumption)) | exact .base (.dK (by assumption)) | exact .fDict (by assumption))
abbrev sDesk_init : Stmt := inClass (topS 14) 0
abbrev NDesk_init : List Str := ["self", "book", "start", "state"]
theorem scDesk_init : FnScope NDesk_init ["self", "book", "start"] (defScope sDesk_init) := ⟨rfl, rfl, rfl, by decide +kernel, rfl, by decide +kernel, by decide +kernel⟩
def sp_init (C : Addr) : Sp := fun vs H Q _ => ∃ (x dx b : Addr) (bk : Book) (s : Str) (G : Hp), vs = [.ref x, .ref b, .str s] ∧ Ex G H ∧ G x = none ∧ H x = some (.ins C dx []) ∧ BookAt H b bk ∧ BookOk bk ∧ s ∈ bk.map (·.1) ∧
  ∀ b' G' H', Nxt (some x) G H G' H' → BookAt G' b' (nrm bk) → H' x = some (.ins C dx (dFs b' s)) → Q .non H'
theorem ok_init {f : Addr} {fd : FuncData} (F : L2.Fun K "__init__" "Desk.__init__" sDesk_init f fd) (T : Txt K w mg C) (c_is_spelt : Cal P w K mg base 1 "is_spelt" sp_is_spelt) (c_is_book : Cal P w K mg base 3 "is_book" sp_is_book) (c_copied : Cal P w K mg base 1 "copied" sp_copied) :
    FnOk P w K mg base L2.CX0 4 f fd ["self", "book", "start"] (sp_init C) := by
  refine F.ok scDesk_init (fun vs H Q E h => ?_) (fun cdv A outer s H vs Q E hr h => ?_)
  · obtain ⟨x, dx, b, bk, s, G, rfl, _⟩ := h; rfl
  · obtain ⟨x, dx, b, bk, s, G, rfl, eG, gx, hx, hb, ok, hs, k⟩ := h
    have nd := scDesk_init.nd
    have hu := hu_of hr
    refine ⟨_, (pss_cons (ps_if (pt_not (pt_val (kc c_is_book hr (pa_cons (pv 1) pa_nil))))
    (pss_one ps_never) pss_nil)
  (pss_cons (ps_if (PW.pt (pw_or (pt_not (pt_val (kc c_is_spelt hr (pa_cons (pv 2) pa_nil)))) (pw_or1 (pt_cmp (pc_dnotin hu (pv 2) (pv 1))))))
    (pss_one ps_never) pss_nil)
  (pss_cons (ps_fld (pv 0) (pe_dc (own := [("state", 3)]) rfl nd (kpList K (pe_callB (call_sortedD rfl) (by rfl) T.sorted (by decide +kernel) (pa_cons (pv 1) pa_nil))) (blkOk_by (N := NDesk_init) (sc := defScope sDesk_init) (by decide +kernel)) (fun _ _ _ _ _ => (pg_name (i := 3) nd rfl (Or.inl rfl))) (fun _ _ _ _ _ => pts_nil) (fun _ _ _ _ _ => (pv 3)) (fun _ _ _ _ _ => (kc c_copied hr (pa_cons (pe_dget hu (pv 1) (pv 3) (fun _ _ => rfl)) pa_nil)))) rfl)
  (pss_one (ps_fld (pv 0) (pv 2) rfl))))), ?_⟩
    walk_at "go"
    refine ⟨b, bk, rfl, hb, ok, fun H1 e1 => ?_⟩
    walk_at "go"
    obtain ⟨r, hlk, hmem⟩ := ok.get hs
    refine ⟨s, rfl, spelt_len (ok.sp _ hmem), ?_⟩
    rw [ok.sp _ hmem]
    obtain ⟨rs, hb1, hrs1⟩ := hb.mono e1
    walk_at "go"
    refine ⟨b, _, rfl, DGet.s (.inl hb1) rfl, ?_⟩
    obtain ⟨ar, hv, _⟩ := RowsAt.get hrs1 hlk
    rw [hv]
    refine g_bl ?_
    refine g_itf ?_
    walk_at "go"
    have hkk : (kvR rs).map (·.1) = (bk.map (·.1)).map Sum.inr := by rw [kvR_keys, hrs1.keys]
    refine ⟨b, kvR rs, bk.map (·.1), rfl, .inl hb1, hkk, by rw [List.length_map]; have := ok.few; omega, fun ys l pm so hl => ?_⟩
    obtain rfl := srtS_of pm so
    rw [← nrm_keys]
    have N1 : Nxt none G H G (upd H1 l (.lst (((nrm bk).map (·.1)).map V.str))) := Nxt.flat eG (e1.trans (Ex.new hl))
    have e2 : Ex H1 (upd H1 l (.lst (((nrm bk).map (·.1)).map V.str))) := Ex.new hl
    have hl1 : (upd H1 l (.lst (((nrm bk).map (·.1)).map V.str))) l = _ := upd_same
    generalize upd H1 l (.lst (((nrm bk).map (·.1)).map V.str)) = H2 at N1 hl1 e2 ⊢
    walk_at "go"
    refine ⟨l, rfl, ⟨_, SqL.of hl1⟩, fun D hD => ?_⟩
    have ndn : ((nrm bk).map (·.1)).Nodup := by rw [nrm_keys, srtS_nd]; exact ok.nd
    refine dc_gen walk_list N1.gh hD (by rw [List.length_map, List.length_map, nrm_len]; exact small1000 (by have := ok.few; omega)) (fun i acc Gi => ∃ rs', acc = kvR rs' ∧ RowsAt Gi rs' ((nrm bk).take i)) ⟨[], rfl, .nil⟩ (fun H' e => SqL.of (e _ _ hl1)) ?_ ?_
    · rintro i y G3 H3 H4 acc Kt Kf hi N g0 hh hl' ⟨rs', rfl, hrs'⟩ ⟨rfl, hy⟩ ht hf
      obtain ⟨p, hp, rfl⟩ : ∃ p, (nrm bk)[i]? = some p ∧ y = .str p.1 := by
        rw [List.getElem?_map, List.getElem?_map] at hy
        cases e : (nrm bk)[i]? with
        | none => rw [e] at hy; cases hy
        | some p => rw [e] at hy; cases hy; exact ⟨p, rfl, rfl⟩
      obtain ⟨r', hlk', hpr⟩ := nrm_at ok.nd hp
      obtain ⟨a', hv', hra'⟩ := RowsAt.get hrs1 hlk'
      have okr := (ok.row _ (lookup_mem hlk')).row
      walk_at "go"
      refine ⟨rfl, ?_⟩
      walk_at "go"
      refine g_dgs (s := p.1) (.inl (N.ex _ _ (e2 _ _ hb1))) hv' ?_
      walk_at "go"
      refine ⟨a', r', G3, rfl, N.gh, hra'.mono (e2.trans N.ex), okr.1, okr.2, fun a2 G5 H5 N5 hr5 _ => ?_⟩
      refine ht (Sum.inr p.1) (.ref a2) G5 H5 N5 ⟨rs' ++ [(p.1, a2)], ?_, ?_⟩
      · have : p.1 ∉ rs'.map (·.1) := by rw [hrs'.keys]; exact take_nd ndn hp
        exact putK_kvG V.ref this
      · rw [take_snoc hp]
        have hr5' : RowAt G5 a2 p.2 := by rw [hpr]; exact hr5
        exact RowsAt.snoc (hrs'.mono N5.gg) hr5'
    · rintro G3 H3 acc N g0 hh hl' ⟨rs', rfl, hrs'⟩
      rw [List.take_of_length_le (by simp)] at hrs'
      have M := N1.trans N
      have hD0 : H D = none := N1.none0 hD
      have N2 := M.frz g0 hh hD0
      have xD : x ≠ D := ne_of_none hx hD0
      have gx3 : (upd G3 D (.dK (kvR rs'))) x = none := by rw [upd_ne xD, M.fr x _ hx]; exact gx
      have hx3 := M.ex _ _ hx
      walk_at "go"
      refine ⟨x, C, dx, [], rfl, hx3, T.insC.cl, T.nR, by decide, ?_⟩
      have N3 := N2.wk.mutM (p := x) gx3 (o := .ins C dx (putF "rows" (.ref D) []))
      have hx4 : (upd H3 x (.ins C dx (putF "rows" (.ref D) []))) x = _ := upd_same
      generalize upd H3 x (.ins C dx (putF "rows" (.ref D) [])) = H6 at N3 hx4 ⊢
      walk_at "go"
      refine ⟨x, C, dx, _, rfl, hx4, T.insC.cl, T.nF, by show 1 < 1000; decide, ?_⟩
      rw [putF_desk]
      exact k D _ _ (N3.mutM gx3) ⟨rs', upd_same, hrs'.mono (Ex.new g0)⟩ upd_same
end
end K69
set_option Elab.async false
set_option linter.all false
set_option maxRecDepth 100000
set_option maxHeartbeats 2000000
/-! == of books, of desks, of tuples of desks. -/
namespace K69
open PySem PySem.Spec PyProof.Rows L2
section
variable {X : Cx} {pins : List (Addr × Obj)} {σ : L2.St} {H : Hp} {s : Shared}
/-- two dicts, seen entry by entry -/
theorem dictRun (I : Inv X pins σ H s) {A : Around} {F : V → V → Prop} (hu : A.units < cLine) (ih : ∀ x y v u, F x y → RelV x v → RelV y u → SeqAt.EqP X.prog X.w A.in1 s v u true) {a b : Addr} {ks ls : List (Key × V)} (ha : H a = some (.dK ks)) (hb : H b = some (.dK ls))
    (hl : ks.length = ls.length) (hp : ∀ p ∈ ks, ∃ u, valV ls p.1 = some u ∧ F p.2 u) (E Q : Value → Shared → Prop) (q : Q (.bool true) s) : wpAny (model X.prog X.w) A (richCompare .Eq (.ref a) (.ref b)) Q E s := by
  obtain ⟨_, na, va, qa, da⟩ := dk_of I.hok ha
  obtain ⟨_, nb, vb, qb, db⟩ := dk_of I.hok hb
  refine PySem.W.rcP_dicts (r := true) na nb da db hu (fun _ => hits_run ih qb qa hp) E Q ?_
  have e : va.length = vb.length := by rw [← qa.length, ← qb.length]; exact hl
  rw [e]
  simpa using q
theorem refsRun {A : Around} {a b : Addr} (h : ∀ (E Q : Value → Shared → Prop), Q (.bool true) s → wpAny (model X.prog X.w) A (richCompare .Eq (.ref a) (.ref b)) Q E s) : SeqAt.EqP X.prog X.w A s (.ref a) (.ref b) true := by
  by_cases e : a = b
  · subst e; exact (SeqAt.EqAt.same _).eqP
  · exact SeqAt.eqP_refs e h
def flatE : V → V → Prop := fun x y => x = y ∧ flatB x = true
theorem flatRun {A : Around} : ∀ x y v u, flatE x y → RelV x v → RelV y u → SeqAt.EqP X.prog X.w A s v u true := by
  rintro x y v u ⟨rfl, f⟩ rx ry
  exact (eqAt_same rx ry f).eqP
/-- two rows alike -/
def rowE (H : Hp) : V → V → Prop := fun x y => ∃ a b r, x = .ref a ∧ y = .ref b ∧ RowAt H a r ∧ RowAt H b r ∧ (r.2.map (·.1)).Nodup
theorem rowRun (I : Inv X pins σ H s) {A : Around} (hu : A.units + 2 < cLine) : ∀ x y v u, rowE H x y → RelV x v → RelV y u → SeqAt.EqP X.prog X.w A s v u true := by
  rintro x y v u ⟨a, b, r, rfl, rfl, ⟨d, ha, hd⟩, ⟨d2, hb, hd2⟩, nd⟩ rx ry
  cases (show v = Value.ref a from rx)
  cases (show u = Value.ref b from ry)
  refine refsRun fun E Q q => ?_
  obtain ⟨us, r1, p1, _⟩ := I.tuple (SqT.of ha)
  obtain ⟨ws, r2, p2, _⟩ := I.tuple (SqT.of hb)
  have dr : SeqAt.EqP X.prog X.w A.in1 s (.ref d) (.ref d2) true := refsRun fun E Q q => dictRun I (by show A.units + 1 < cLine; omega) flatRun hd hd2 rfl (fun p hp => by
    obtain ⟨q', hq, rfl⟩ := List.mem_map.mp hp
    exact ⟨_, by rw [valV_kvS, mem_lookup nd hq]; rfl, rfl, rfl⟩) E Q q
  cases r1 with
  | cons a1 t1 =>
    cases t1 with
    | cons b1 t1 =>
      cases t1
      cases r2 with
      | cons a2 t2 =>
        cases t2 with
        | cons b2 t2 =>
          cases t2
          cases b1
          cases b2
          refine GQ.rc_tupG (by simp) (by omega) (fun _ s' => s' = s) p1 p2 (fun i h1 h2 s' e => ?_) (fun s' e => by rw [e]; exact q) rfl
          subst e
          have hi : i = 0 ∨ i = 1 := by simp at h1; omega
          rcases hi with rfl | rfl
          · exact flatRun _ _ _ _ ⟨rfl, rfl⟩ a1 a2 _ _ ⟨rfl, rfl⟩
          · exact dr _ _ ⟨rfl, rfl⟩
/-- a == b of two books alike -/
def rEqBk : R2 := fun x y H Q => ∃ a b bk, x = .ref a ∧ y = .ref b ∧ BookAt H a bk ∧ BookAt H b bk ∧ (bk.map (·.1)).Nodup ∧ (∀ p ∈ bk, (p.2.2.map (·.1)).Nodup) ∧ Q (.bl true) H
theorem op_eqBk (hu : X.A.units + 64 < cLine) : OpR X (compareOp .Eq) rEqBk := by
  intro pins s σ H x y v u Q I rx ry h
  obtain ⟨a, b, bk, rfl, rfl, ⟨rs, ha, hrs⟩, ⟨rs2, hb, hrs2⟩, nd, nd2, q⟩ := h
  cases (show v = Value.ref a from rx)
  cases (show u = Value.ref b from ry)
  refine dictRun I (A := X.A) (by omega) (rowRun I (by show X.A.units + 1 + 2 < cLine; omega)) ha hb (by simp [kvR, hrs.len, hrs2.len]) (fun p hp => ?_) _ _ ⟨.bl true, H, I, rfl, q⟩
  obtain ⟨p', hp', rfl⟩ := List.mem_map.mp hp
  obtain ⟨i, hi⟩ := List.mem_iff_getElem?.mp hp'
  obtain ⟨z, hz, e, hr⟩ := hrs.at hi
  have mz := List.mem_of_getElem? hz
  obtain ⟨c, hv, hr2⟩ := RowsAt.get hrs2 (mem_lookup nd mz : bk.lookup z.1 = some z.2)
  exact ⟨.ref c, by rw [e]; exact hv, p'.2, c, z.2, rfl, rfl, hr, hr2, nd2 z mz⟩
end
/-- the class's own == -/
structure Eqs (P : Program) (w : World) (K : PySem.W.Frag) (mg : Str → Option Value) (base : Heap) (k : Nat) (C : Addr) (R : Addr → Addr → Hp → Prop) : Prop where
  ex : ∃ (f : Addr) (fd : FuncData) (ps : List Str), FnOk P w K mg base L2.CX0 k f fd ps (spEq R) ∧ PySem.W.findIn K (.ref C) "__eq__" = some (some (.ref f)) ∧ PySem.W.isFn K (.ref f) = true ∧ Binds K fd ps []
section
variable {X : Cx} {k j : Nat} {C : Addr} {R : Addr → Addr → Hp → Prop}
theorem kqi (c : Eqs X.prog X.w X.K X.mg X.base k C R) (hr : Room j X.A) (hk : k ≤ j := by decide) : OpR X (compareOp .Eq) (rEqG (DIns C R)) := by
  obtain ⟨f, fd, ps, F, a, b, d⟩ := c.ex
  exact op_eqG (rcG_ins F a b d (passAny (E := L2.E0))) (hr.mono hk)
theorem kqt (c : Eqs X.prog X.w X.K X.mg X.base k C R) (K : PySem.W.Frag) (hR : ∀ a b H H', Ext H H' → R a b H → R a b H') (hr : Room j X.A) (hK : X.K = K := by rfl) (hk : k + 1 ≤ j := by decide) : OpR X (compareOp .Eq) (rEqG (DTup K (DIns C R))) := by
  subst hK
  obtain ⟨f, fd, ps, F, a, b, d⟩ := c.ex
  exact op_eqG (rcG_tup (mon_ins hR) (eqG_ins F a b d (passAny (E := L2.E0)))) (hr.mono hk)
end
end K69
set_option Elab.async false
set_option linter.all false
set_option maxRecDepth 100000
set_option maxHeartbeats 4000000
namespace K69
open PySem PySem.Spec PyProof.Rows L2
def ReqD (C : Addr) : Addr → Addr → Hp → Prop := fun a b H => ∃ bk s, DeskAt C H a bk s ∧ DeskAt C H b bk s ∧ DeskOk bk s
theorem ReqD.mono {C : Addr} : ∀ a b H H', Ext H H' → ReqD C a b H → ReqD C a b H' := fun a b H H' e ⟨bk, s, h1, h2, h3⟩ => ⟨bk, s, h1.mono e, h2.mono e, h3⟩
theorem g_make {C : Addr} {sp : Sp} {E : XK} {t : TA} {σ : L2.St} {H : Hp} {Q : VK} (h : t σ H fun vs H1 => ∀ x dx, H1 x = none → H1 dx = none → dx ≠ x →
  sp (.ref x :: (vs ++ [])) (upd (upd H1 dx (.own x)) x (.ins C dx [])) (fun v H2 => v = .non ∧ Q (.ref x) H2) E) : tMake C sp [] E t σ H Q := h
theorem g_meth {C : Addr} {m : Str} {sp : Sp} {E : XK} {ta : TE} {σ : L2.St} {H : Hp} {Q : VK} (h : ta σ H fun x H1 => ∃ a dx fs, x = .ref a ∧ H1 a = some (.ins C dx fs) ∧ fs.lookup m = none ∧ sp [x] H1 Q E) : tMeth C m sp [] E ta tNil σ H Q := h
/-- a desk is made -/
theorem mk_desk {C : Addr} {b : Addr} {bk : Book} {s : Str} {G H : Hp} {E : XK} {Q : Addr → Hp → Prop} (eG : Ex G H) (hb : BookAt H b bk) (ok : BookOk bk) (hs : s ∈ bk.map (·.1))
    (k : ∀ x G' H', Nxt none G H G' H' → DeskAt C G' x (nrm bk) s → H x = none → Q x H') : ∀ x dx, H x = none → H dx = none → dx ≠ x →
    sp_init C (.ref x :: ([.ref b, .str s] ++ [])) (upd (upd H dx (.own x)) x (.ins C dx [])) (fun v H2 => v = .non ∧ Q x H2) E := by
  intro x dx hx hdx nx
  have N1 : Nxt none G H (upd G dx (.own x)) (upd H dx (.own x)) := Nxt.new1 eG hdx
  have hx1 : (upd H dx (.own x)) x = none := by rw [upd_ne (Ne.symm nx)]; exact hx
  have gx : (upd G dx (.own x)) x = none := N1.gh.back hx1
  refine ⟨x, dx, b, bk, s, upd G dx (.own x), rfl, N1.gh.up gx, gx, upd_same, hb.mono (N1.ex.up hx), ok, hs, fun b' G' H' N hb' hx' => ⟨rfl, ?_⟩⟩
  have N2 : Nxt none G H G' H' := ⟨fun a o z h => N.hh a o (fun q => by rw [Option.some.inj q, h] at hx; cases hx) (by rw [upd_ne (ne_of_none h hx)]; exact N1.ex a o h), N1.gg.trans N.gg, N.gh, fun a o h => by
    rw [N.fr a o (by rw [upd_ne (ne_of_none h hx)]; exact N1.ex a o h)]
    exact N1.fr a o h⟩
  have gx2 : G' x = none := by rw [N.fr x _ upd_same]; exact gx
  have N3 := N2.frz gx2 hx' hx
  refine k x _ _ N3 ⟨b', dx, upd_same, ?_, hb'.mono (Ex.new gx2)⟩ hx
  exact (Ex.new gx2) _ _ (N.gg _ _ upd_same)
/-- a desk whose rows may be locked -/
def DeskRd (C : Addr) (H : Hp) (a : Addr) (bk : Book) (s : Str) : Prop := ∃ b dx rs, H a = some (.ins C dx (dFs b s)) ∧ Rd H b (.dK (kvR rs)) ∧ RowsAt H rs bk
theorem DeskAt.rd {C : Addr} {H : Hp} {a : Addr} {bk : Book} {s : Str} (h : DeskAt C H a bk s) : DeskRd C H a bk s := let ⟨b, dx, x, _, rs, y, z⟩ := h; ⟨b, dx, rs, x, .inl y, z⟩
theorem DeskOk.row {bk : Book} {s : Str} (h : DeskOk bk s) {p : Str × Row} (m : p ∈ bk) : srtK p.2.2 = p.2.2 := by
  have m' : p ∈ nrm bk := by rw [h.n]; exact m
  obtain ⟨i, hi⟩ := List.mem_iff_getElem?.mp m'
  obtain ⟨r, hr, e⟩ := nrm_at h.ok.nd hi
  have := mem_lookup h.ok.nd m
  rw [this] at hr
  cases hr
  have e2 := congrArg Prod.snd e
  exact e2.symm
section
variable {P : Program} {w : World} {K : PySem.W.Frag} {mg : Str → Option Value} {base : Heap} {C : Addr}
local macro_rules | `(tactic| walk_at "lk") => `(tactic| first | assumption | exact upd_same | exact (by assumption : Ex _ _) _ _ (by assumption))
local macro_rules | `(tactic| walk_at "g1") => `(tactic| first
  | with_reducible refine g_seq ?_ | with_reducible refine g_asg ?_ | with_reducible refine g_name ?_ | with_reducible refine g_cons ?_ | with_reducible refine g_nil ?_
  | ((with_reducible refine' g_var ?e ?_); (case e => exact rfl)) | with_reducible refine g_C ?_ | with_reducible refine g_op ?_ | with_reducible refine g_fld0 ?_ | with_reducible refine g_dget ?_ | with_reducible refine g_cb ?_ | with_reducible refine g_call ?_
  | with_reducible refine g_ret ?_ | with_reducible refine g_ifS ?_ | with_reducible refine g_test ?_ | with_reducible refine g_B ?_ | with_reducible refine g_bl ?_ | with_reducible refine g_not ?_ | with_reducible refine g_or ?_ | with_reducible refine g_and ?_
  | with_reducible refine g_ite ?_ | with_reducible refine g_itf ?_ | with_reducible refine g_itnt ?_ | with_reducible refine g_itnf ?_ | with_reducible refine g_eqS ?_ | with_reducible refine g_neS ?_ | with_reducible refine g_neI ?_ | with_reducible refine g_eqB ?_ | with_reducible refine g_neB ?_ | with_reducible refine g_eqI ?_ | with_reducible refine g_rI0 ?_ | with_reducible refine g_ipI ?_ | with_reducible refine g_int ?_
  | with_reducible refine g_drop ?_ | with_reducible refine g_next ?_ | with_reducible refine g_bm ?_ | with_reducible refine g_bm0 ?_ | with_reducible refine g_din ?_ | with_reducible refine g_dnotin ?_ | with_reducible refine g_dput ?_ | ((with_reducible refine' g_aug ?e ?_); (case e => exact rfl))
  | with_reducible refine g_andV ?_ | with_reducible refine g_orV ?_ | with_reducible refine g_notV ?_ | with_reducible refine g_if ?_ | with_reducible refine g_isN ?_ | with_reducible refine g_notN ?_ | with_reducible refine g_sl ?_ | with_reducible refine g_nopart ?_ | with_reducible refine g_part ?_
  | with_reducible refine g_gcons ?_ | with_reducible refine g_gnil ?_ | with_reducible refine g_par2 ?_ | with_reducible refine g_par3 ?_ | with_reducible refine g_vw ?_ | with_reducible refine g_uvw ?_ | with_reducible refine g_yes ?_ | with_reducible refine g_un ?_ | with_reducible refine g_rU ?_ | with_reducible refine g_gsub ?_ | with_reducible refine g_chain ?_ | with_reducible refine g_for ?_ | with_reducible refine g_istr ?_ | with_reducible refine g_ilist ?_ | with_reducible refine g_itup ?_ | with_reducible refine g_ikeys ?_ | with_reducible refine g_ivals ?_ | with_reducible refine g_iitems ?_ | with_reducible refine g_irng1 ?_ | with_reducible refine g_izip ?_ | with_reducible refine g_while ?_ | with_reducible refine g_tru _ ?_ | with_reducible refine g_lc ?_ | with_reducible refine g_dc ?_ | with_reducible refine g_lc2 ?_ | with_reducible refine g_tup ?_ | with_reducible refine g_lst ?_ | with_reducible refine g_dnew ?_ | with_reducible refine g_sfld ?_ | with_reducible refine g_dget2 ?_ | with_reducible refine g_dzip ?_ | with_reducible refine g_dnewT ?_ | with_reducible refine g_dispT ?_ | with_reducible refine g_star ?_ | with_reducible refine g_disp ?_ | with_reducible refine g_prs ?_ | with_reducible refine g_prs0 ?_ | with_reducible refine g_sc ?_ | with_reducible refine g_make ?_ | with_reducible refine g_meth ?_
  | ((with_reducible refine' g_ixT ?h ?e ?_); (case h => walk_at "lk"); (case e => exact rfl)) | ((with_reducible refine' g_ixL ?h ?e ?_); (case h => walk_at "lk"); (case e => exact rfl))
  | ((with_reducible refine' g_fldK ?h ?c ?n ?l ?_); (case h => walk_at "lk"); (case c => exact C8.InsC.cl (Txt.insC (by assumption))); (case n => first | exact Txt.nR (by assumption) | exact Txt.nF (by assumption)); (case l => exact rfl)))
local macro_rules | `(tactic| walk_at "go") => `(tactic| (repeat walk_at "g1"))
local macro_rules | `(tactic| walk_at "ty") => `(tactic| first | exact .base (.str _) | exact .base .non | exact .base (.bl _) | exact .base (.int _) | exact .base (.tup (by assumption)) | exact .base (.lst (by assumption)) | exact .base (.dK (by assumption)) | exact .fDict (by assumption))
abbrev sDesk_book : Stmt := inClass (topS 14) 1
abbrev NDesk_book : List Str := ["self", "state"]
theorem scDesk_book : FnScope NDesk_book ["self"] (defScope sDesk_book) := ⟨rfl, rfl, rfl, by decide +kernel, rfl, by decide +kernel, by decide +kernel⟩
def sp_book (C : Addr) : Sp := fun vs H Q _ => ∃ (a : Addr) (bk : Book) (s : Str) (G : Hp), vs = [.ref a] ∧ Ex G H ∧ DeskAt C G a bk s ∧ DeskOk bk s ∧ ∀ b' G' H', Nxt none G H G' H' → BookAt G' b' bk → H b' = none → Q (.ref b') H'
theorem ok_book {f : Addr} {fd : FuncData} (F : L2.Fun K "book" "Desk.book" sDesk_book f fd) (T : Txt K w mg C) (c_copied : Cal P w K mg base 1 "copied" sp_copied) :
    FnOk P w K mg base L2.CX0 2 f fd ["self"] (sp_book C) := by
  refine F.ok scDesk_book (fun vs H Q E h => ?_) (fun cdv A outer s H vs Q E hr h => ?_)
  · obtain ⟨a, bk, s, G, rfl, _⟩ := h; rfl
  · obtain ⟨a, bk, s, G, rfl, eG, ⟨b, dx, hag, hdx, rs, hbg, hrs⟩, ok, k⟩ := h
    have nd := scDesk_book.nd
    have hu := hu_of hr
    refine ⟨_, (pss_one (ps_ret (pe_lock (pe_dc (own := [("state", 1)]) rfl nd (pi_keys (kFld K (pv 0))) (blkOk_by (N := NDesk_book) (sc := defScope sDesk_book) (by decide +kernel)) (fun _ _ _ _ _ => (pg_name (i := 1) nd rfl (Or.inl rfl))) (fun _ _ _ _ _ => pts_nil) (fun _ _ _ _ _ => (pv 1)) (fun _ _ _ _ _ => (kc c_copied hr (pa_cons (pe_dget hu (kFld K (pv 0)) (pv 1) (fun _ _ => rfl)) pa_nil))))))), ?_⟩
    have ha := eG _ _ hag
    have hb := eG _ _ hbg
    have ne : rs ≠ [] := fun z => ok.ok.ne (by have := hrs.len; rw [z] at this; exact List.eq_nil_of_length_eq_zero this.symm)
    walk_at "go"
    refine ⟨b, _, hb, trivial, fun od => ?_⟩
    have nab : a ≠ b := ne_of ha hb (by intro z; cases z)
    have haL : (upd H b (.frz od (.dK (kvR rs)))) a = some (.ins C dx (dFs b s)) := by rw [upd_ne nab]; exact ha
    have hbL : (upd H b (.frz od (.dK (kvR rs)))) b = _ := upd_same
    have rowL : ∀ (p : Str) (r : Row), bk.lookup p = some r → ∃ c, valV (kvR rs) (Sum.inr p : Key) = some (.ref c) ∧ RowAt (upd H b (.frz od (.dK (kvR rs)))) c r := fun p r h => by
      obtain ⟨c, hv, d, hc, hd⟩ := RowsAt.get hrs h
      refine ⟨c, hv, d, ?_, ?_⟩
      · rw [upd_ne (ne_of (eG _ _ hc) hb (by intro z; cases z))]; exact eG _ _ hc
      · rw [upd_ne (book_ne hbg hd ne)]; exact eG _ _ hd
    have eC : Ex (cut G b) (upd H b (.frz od (.dK (kvR rs)))) := cut_ex eG
    have hU : ∀ G2 H2, Nxt none (cut G b) (upd H b (.frz od (.dK (kvR rs)))) G2 H2 → _ := fun G2 H2 N => Nxt.unlock (u := .dK (kvR rs)) eG hb (.inl hbg) N
    have hf : ∀ c, (upd H b (.frz od (.dK (kvR rs)))) c = none → H c = none := fun c h => by
      by_cases z : c = b
      · subst z; rw [upd_same] at h; cases h
      · rw [upd_ne z] at h; exact h
    generalize upd H b (.frz od (.dK (kvR rs))) = HL at haL hbL rowL eC hU hf ⊢
    walk_at "go"
    refine ⟨b, od, rfl, .inl ⟨kvR rs, hbL, fun D hD => ?_⟩⟩
    have few := ok.ok.few
    refine dc_gen walk_keys eC hD (by simp only [kvR, List.length_map, hrs.len]; exact small1000 (by omega)) (fun i acc Gi => ∃ rs', acc = kvR rs' ∧ RowsAt Gi rs' (bk.take i)) ⟨[], rfl, .nil⟩ (fun H' e => e _ _ hbL) ?_ ?_
    · rintro i y G3 H3 H4 acc Kt Kf hi N g0 hh hl' ⟨rs', rfl, hrs'⟩ ⟨rfl, k1, v1, hk, rfl⟩ ht hff
      obtain ⟨q, hq, rfl, rfl⟩ := kvR_get hk
      obtain ⟨p, hp, ep, _⟩ := hrs.at hq
      have mp := List.mem_of_getElem? hp
      obtain ⟨c, hv, hc⟩ := rowL p.1 p.2 (mem_lookup ok.ok.nd mp)
      have okr := (ok.ok.row _ mp).row
      rw [ep]
      walk_at "go"
      refine ⟨rfl, ?_⟩
      have ha3 := N.ex _ _ haL
      walk_at "go"
      refine g_dgs (s := p.1) (.inr ⟨od, N.ex _ _ hbL⟩) hv ?_
      walk_at "go"
      refine ⟨c, p.2, G3, rfl, N.gh, hc.mono N.ex, okr.1, okr.2, fun a2 G5 H5 N5 hr5 _ => ?_⟩
      refine ht (Sum.inr p.1) (.ref a2) G5 H5 N5 ⟨rs' ++ [(p.1, a2)], ?_, ?_⟩
      · have : p.1 ∉ rs'.map (·.1) := by rw [hrs'.keys]; exact take_nd ok.ok.nd hp
        exact putK_kvG V.ref this
      · rw [take_snoc hp]
        rw [ok.row mp] at hr5
        exact RowsAt.snoc (hrs'.mono N5.gg) hr5
    · rintro G3 H3 acc N g0 hh hl' ⟨rs', rfl, hrs'⟩
      rw [List.take_of_length_le (by simp [kvR, hrs.len])] at hrs'
      obtain ⟨N2, hb3, g3⟩ := hU _ _ (N.frz g0 hh hD)
      refine ⟨hb3, ?_⟩
      have nDb : D ≠ b := fun z => by subst z; rw [hbL] at hD; cases hD
      exact k D _ _ N2 ⟨rs', by show (if D = b then _ else _) = _; rw [if_neg nDb, upd_same], RowsAt.mono (hrs'.mono (Ex.new g0)) (unl_ex g3)⟩ (hf D hD)
abbrev sDesk_start : Stmt := inClass (topS 14) 2
abbrev NDesk_start : List Str := ["self"]
theorem scDesk_start : FnScope NDesk_start ["self"] (defScope sDesk_start) := ⟨rfl, rfl, rfl, by decide +kernel, rfl, by decide +kernel, by decide +kernel⟩
def sp_start (C : Addr) : Sp := fun vs H Q _ => ∃ (a b dx : Addr) (s : Str), vs = [.ref a] ∧ H a = some (.ins C dx (dFs b s)) ∧ Q (.str s) H
theorem ok_start {f : Addr} {fd : FuncData} (F : L2.Fun K "start" "Desk.start" sDesk_start f fd) (T : Txt K w mg C) : FnOk P w K mg base L2.CX0 1 f fd ["self"] (sp_start C) := by
  refine F.ok scDesk_start (fun vs H Q E h => ?_) (fun cdv A outer s H vs Q E hr h => ?_)
  · obtain ⟨a, b, dx, s, rfl, _⟩ := h; rfl
  · obtain ⟨a, b, dx, s, rfl, ha, k⟩ := h
    have nd := scDesk_start.nd
    have hu := hu_of hr
    refine ⟨_, (pss_one (ps_ret (kFld K (pv 0)))), ?_⟩
    walk_at "go"
    exact k
abbrev sDesk_eq : Stmt := inClass (topS 14) 3
abbrev NDesk_eq : List Str := ["self", "other"]
theorem scDesk_eq : FnScope NDesk_eq ["self", "other"] (defScope sDesk_eq) := ⟨rfl, rfl, rfl, by decide +kernel, rfl, by decide +kernel, by decide +kernel⟩
theorem ok_eq {f : Addr} {fd : FuncData} (F : L2.Fun K "__eq__" "Desk.__eq__" sDesk_eq f fd) (T : Txt K w mg C) : FnOk P w K mg base L2.CX0 1 f fd ["self", "other"] (spEq (ReqD C)) := by
  refine F.ok scDesk_eq (fun vs H Q E h => ?_) (fun cdv A outer s H vs Q E hr h => ?_)
  · obtain ⟨a, b, rfl, _⟩ := h; rfl
  · obtain ⟨a, b, rfl, ⟨bk, s, ⟨b1, d1, h1, _, hb1⟩, ⟨b2, d2, h2, _, hb2⟩, ok⟩, k⟩ := h
    have nd := scDesk_eq.nd
    have hu := hu_of hr
    refine ⟨_, (pss_one (ps_ret (pe_and (pe_callB (C8.call_isC T.insC) (by rfl) T.isinstance (by decide +kernel) (pa_cons (pv 1) (pa_cons (pe_glob (v := .ref C) rfl T.desk rfl) pa_nil))) (pe_and (pe_cmpR (op_eqBk hr.units) (kFld K (pv 0)) (kFld K (pv 1)) (nomark _)) (pe_one (pe_cmpR op_eq (kFld K (pv 0)) (kFld K (pv 1)) (nomark _))))))), ?_⟩
    walk_at "go"
    refine ⟨b, d2, _, rfl, h2, true, rfl, ?_⟩
    walk_at "go"
    refine ⟨b1, b2, bk, rfl, rfl, hb1, hb2, ok.ok.nd, fun p hp => (ok.ok.row p hp).nd, true, rfl, ?_⟩
    walk_at "go"
    rw [decide_eq_true rfl]
    exact k H (Ex.refl H)
abbrev scheck_desk : Stmt := topS 15
abbrev Ncheck_desk : List Str := ["value"]
theorem sccheck_desk : FnScope Ncheck_desk ["value"] (defScope scheck_desk) := ⟨rfl, rfl, rfl, by decide +kernel, rfl, by decide +kernel, by decide +kernel⟩
def sp_check_desk (C : Addr) : Sp := fun vs H Q _ => ∃ (a dx : Addr) (fs : List (Str × V)), vs = [.ref a] ∧ H a = some (.ins C dx fs) ∧ Q .non H
theorem cal_check_desk (F : Has K mg "check_desk" scheck_desk) (T : Txt K w mg C) : Cal P w K mg base 1 "check_desk" (sp_check_desk C) := by
  refine F.cal (fun _ _ _ _ _ _ us hl => match us, hl with | [_], _ => rfl) sccheck_desk (fun vs H Q E h => ?_) (fun f cdv A outer s H vs Q E hr h => ?_)
  · obtain ⟨a, dx, fs, rfl, _⟩ := h; rfl
  · obtain ⟨a, dx, fs, rfl, ha, k⟩ := h
    have nd := sccheck_desk.nd
    have hu := hu_of hr
    refine ⟨_, (pss_one (ps_if (pt_not (pt_val (pe_callB (C8.call_isC T.insC) (by rfl) T.isinstance (by decide +kernel) (pa_cons (pv 0) (pa_cons (pe_glob (v := .ref C) rfl T.desk rfl) pa_nil)))))
    (pss_one ps_never) pss_nil)), ?_⟩
    walk_at "go"
    refine ⟨a, dx, fs, rfl, ha, ?_⟩
    walk_at "go"
    exact k
abbrev sis_done : Stmt := topS 21
abbrev Nis_done : List Str := ["desk", "state"]
theorem scis_done : FnScope Nis_done ["desk", "state"] (defScope sis_done) := ⟨rfl, rfl, rfl, by decide +kernel, rfl, by decide +kernel, by decide +kernel⟩
def sp_is_done (C : Addr) : Sp := fun vs H Q _ => ∃ (a : Addr) (bk : Book) (s x : Str) (r : Row), vs = [.ref a, .str x] ∧ DeskRd C H a bk s ∧ bk.lookup x = some r ∧ Q (.bl (decide (r.1 = "done"))) H
theorem cal_is_done (F : Has K mg "is_done" sis_done) (T : Txt K w mg C) : Cal P w K mg base 1 "is_done" (sp_is_done C) := by
  refine F.cal (fun _ _ _ _ _ _ us hl => match us, hl with | [_, _], _ => rfl) scis_done (fun vs H Q E h => ?_) (fun f cdv A outer s H vs Q E hr h => ?_)
  · obtain ⟨a, bk, s, x, r, rfl, _⟩ := h; rfl
  · obtain ⟨a, bk, s, x, r, rfl, ⟨b, dx, rs, ha, hb, hrs⟩, hl, k⟩ := h
    have nd := scis_done.nd
    have hu := hu_of hr
    refine ⟨_, (pss_one (ps_ret (pe_cmpR op_eq (pe_ix (kIxT K) (pe_dget hu (kFld K (pv 0)) (pv 1) (fun _ _ => rfl)) pe_int (fun _ _ => rfl)) pe_str (nomark _)))), ?_⟩
    obtain ⟨c, hv, d, hc, hd⟩ := RowsAt.get hrs hl
    walk_at "go"
    refine g_dgs (s := x) hb hv ?_
    walk_at "go"
    exact k
end
end K69
set_option Elab.async false
set_option linter.all false
set_option maxRecDepth 100000
set_option maxHeartbeats 2000000
/-! Sets of texts: {text for .. in .. if ..}, sorted(set). -/
namespace K69
open PySem PySem.Spec PyProof.Rows L2
/-- at a: the set of the texts l (in some order of the machine's) -/
def SetS (P : Program) (w : World) (h : Heap) (a : Addr) (l : List Str) : Prop :=
  ∃ D : Froz.SD, h.get? a = some (Froz.sObj "set" D) ∧ Froz.TxOk P w D l ∧ l.Nodup ∧ Ris D.2.2.place.toList ∧ (w.params.followText "set-order" = true ∨ D.2.2.led = true)
def SetSO (P : Program) (w : World) (a : Addr) (l : List Str) : HO := .ext fun h => SetS P w h a l
section
variable {P : Program} {w : World} {h h' : Heap} {a : Addr} {l : List Str}
theorem SetS.at (R : SetS P w h a l) (k : ∀ o, h.get? a = some o → h'.get? a = some o) : SetS P w h' a l := by
  obtain ⟨D, ho, r⟩ := R
  exact ⟨D, k _ ho, r⟩
theorem setSO_new {H : Hp} (R : SetS P w h a l) : ObjOk P w H h a (SetSO P w a l) := by
  have ⟨D, ho, _⟩ := R
  exact ⟨R, ⟨_, ho⟩, fun h1 h2 p k => SetS.at p k⟩
theorem setS_fresh (P : Program) (w : World) (h : Heap) : SetS P w (h.push { cls := .type "set", dict := none, data := .set #[] 0 (.fresh 0 0 (!w.params.followText "set-order")) }) h.objs.size [] := by
  refine ⟨(#[], 0, .fresh 0 0 (!w.params.followText "set-order")), Heap.get?_push_size _ rfl, Froz.TxOk.nil rfl, List.nodup_nil, List.Pairwise.nil, ?_⟩
  show _ ∨ (!w.params.followText "set-order") = true
  cases w.params.followText "set-order"
  · exact .inr rfl
  · exact .inl rfl
/-- the table behind an add still rises, and is walked as before -/
theorem tab_tail {ep : Nat} {es : Array (Int × Value)} {t : SetTable} {b : Bool} (r : Ris t.place.toList) (hl : w.params.followText "set-order" = true ∨ t.led = true) :
    Ris (Froz.tailTx ep es t b).2.2.place.toList ∧ (w.params.followText "set-order" = true ∨ (Froz.tailTx ep es t b).2.2.led = true) := by
  unfold Froz.tailTx
  split
  · exact ⟨relayAll_ris t es _, hl.imp id fun z => by rw [relayAll_led]; exact z⟩
  · exact ⟨r, hl⟩
theorem tab_add {D : Froz.SD} {n : Int} {v : Value} (r : Ris D.2.2.place.toList) (hl : w.params.followText "set-order" = true ∨ D.2.2.led = true) :
    Ris (Froz.addTx n v D).2.2.place.toList ∧ (w.params.followText "set-order" = true ∨ (Froz.addTx n v D).2.2.led = true) := by
  have r1 := layNew_ris D.2.2 D.1 n v r
  have l1 : w.params.followText "set-order" = true ∨ (layNew D.2.2 D.1 n v).2.1.led = true := hl.imp id fun z => by rw [layNew_led]; exact z
  unfold Froz.addTx
  refine tab_tail ?_ ?_
  · split <;> exact r1
  · split <;> exact l1
end
section
variable {P : Program} {w : World} {A : Around} {E : Value → Shared → Prop} {s : Shared} {a : Addr} {l : List Str}
/-- a text that is there already -/
theorem add_old {D : Froz.SD} {k : Str} {u : Tok} {Q : Bool → Shared → Prop} (ho : s.heap.get? a = some (Froz.sObj "set" D)) (F : Froz.TxOk P w D l) (hk : k ∈ l) (hb : l.length < scanBound)
    (h : Q false s) : wpAny (model P w) A (setAddHashed a (.str k u) (hashStr w k)) Q E s := by
  obtain ⟨es, ep, t⟩ := D
  have hd : (Froz.sObj "set" (es, ep, t)).data = .set es ep t := rfl
  have hb' : es.size < scanBound := by rw [show es.size = l.length from F.sz]; exact hb
  unfold setAddHashed setAddHashedIn
  refine wpAny_holding (wpAny_bind (wpAny_setState_of ho hd F.fit ?_))
  dsimp only
  rw [byScan_of (knd := strKind P w) rfl hb' F.el]
  simp only [↓reduceIte]
  unfold setAddByScan
  refine wpAny_bind (wpAny_bind (wpAny_rule (wpAny_bind (wpAny_setScan_of (knd := strKind P w) (k := k) (Froz.is_str k u) ho hd F.fit F.el ?_))))
  cases hf : List.findIdx? (fun e => (strKind P w).is k e.2) es.toList with
  | some j => exact wpAny_pure (wpAny_pure h)
  | none =>
    obtain ⟨e, he, q⟩ := (F.mem k).mp hk
    have c := List.findIdx?_eq_none_iff.mp hf e he
    rw [q] at c
    cases c
theorem setS_add {k : Str} {u : Tok} {Q : Value → Shared → Prop} (R : SetS P w s.heap a l) (room : l.length + 1 < scanBound)
    (hQ : ∀ h' tk, Heap.SameBut a s.heap h' → SetS P w h' a (if k ∈ l then l else k :: l) → Q .none { s with heap := h', toks := tk }) :
    wpAny (model P w) A (call (.builtin "set.add") [.ref a, .str k u]) Q E s := by
  obtain ⟨D, ho, F, nd, r, hl⟩ := R
  refine wpAny_call_entry PySem.F.slot_set_add ⟨_, ho, rfl⟩ PySem.F.entry_set_add ?_ (PySem.F.args_set_add_2 _ _)
  unfold Builtin.«set.add» Builtin.Frozenset.oneOther
  simp only [List.isEmpty_nil, bind_assoc]
  unfold Builtin.Frozenset.addrOf setAdd
  refine wpAny_bind (wpAny_pure ?_)
  try dsimp only
  refine wpAny_bind (wpAny_pure ?_)
  try dsimp only
  refine wpAny_bind (wpAny_holding (wpAny_bind ((strKind P w).pyHash (Froz.is_str k u) ?_)))
  show wpAny _ _ (setAddHashed a (.str k u) (hashStr w k)) _ _ _
  by_cases hk : k ∈ l
  · refine add_old (s := { s with toks := s.toks + 1 }) ho F hk (by omega) ?_
    refine wpAny_pure ⟨_, rfl, hQ s.heap _ (Heap.SameBut.refl a s.heap) ?_⟩
    rw [if_pos hk]
    exact ⟨D, ho, F, nd, r, hl⟩
  · refine Froz.add_x (s := { s with toks := s.toks + 1 }) ho F hk room ?_
    refine wpAny_pure ⟨_, rfl, hQ _ _ (Heap.SameBut.update s.heap a _) ?_⟩
    rw [if_neg hk]
    obtain ⟨r2, l2⟩ := tab_add (n := hashStr w k) (v := .str k u) r hl
    exact ⟨_, Froz.get_upd _ ho rfl, Froz.add_ok u F, List.nodup_cons.mpr ⟨hk, nd⟩, r2, l2⟩
end
section
variable {X : Cx}
theorem setSO_get {pins : List (Addr × Obj)} {σ : L2.St} {H : Hp} {s : Shared} {a : Addr} {l : List Str} (I : Inv X pins σ H s) (ha : H a = some (SetSO X.prog X.w a l)) : SetS X.prog X.w s.heap a l := (I.hok a _ ha).1
theorem addS_ok {pins : List (Addr × Obj)} {σ : L2.St} {H : Hp} {s : Shared} {E : Value → Shared → Prop} {D : Addr} {l : List Str} {y : Str} {u : Tok} {Q : Value → Shared → Prop} (I : Inv X pins σ H s) (hD : H D = some (SetSO X.prog X.w D l)) (room : l.length + 1 < scanBound)
    (h : ∀ s', Inv X pins σ (upd H D (SetSO X.prog X.w D (if y ∈ l then l else y :: l))) s' → Q .none s') : wpAny (model X.prog X.w) X.A (call (.builtin "set.add") [.ref D, .str y u]) Q E s := by
  refine setS_add (setSO_get I hD) room fun h' tk sb new => ?_
  have he : ∃ o, h'.get? D = some o := let ⟨_, ho, _⟩ := new; ⟨_, ho⟩
  exact h _ (I.write (e := D) (t' := tk) (by rw [hD]; trivial) (.inl rfl) (fun b o hb hu => (sb.2 b hb).trans hu) he (setSO_new new))
/-- {elt for target in iter if ..}, elt a text: D the new set, l what it holds so far -/
def tScS (P : Program) (w : World) (wi : TI) (g : TG) (tt : TT) (te : TE) (vs : List Nat) : TE := fun σ H Q => wi σ H fun J H1 => ∀ D, H1 D = none → ∃ W : Nat → Nat → Hp → Prop, (∃ m, W 0 m (upd H1 D (SetSO P w D []))) ∧ ∀ i m H, W i m H →
  (J.stop i H ∧ Q (.ref D) H) ∨ (J.go i H ∧ ∃ Nx : Hp → Prop, (∀ H', Nx H' → ∃ m', m' < m ∧ W (i + 1) m' H') ∧ ∀ x H', J.yld i H x H' → g x (wipe σ vs) H' fun σ2 H2 => wipe σ2 vs = wipe σ vs ∧ tt σ2 H2 fun b H3 =>
    if b = true then te σ2 H3 fun y H4 => ∃ (c : Str) (l : List Str), y = .str c ∧ H4 D = some (SetSO P w D l) ∧ l.length + 1 < scanBound ∧ Nx (upd H4 D (SetSO P w D (if c ∈ l then l else c :: l))) else Nx H3)
section
variable {elt tg iter : Expr} {ifs : List Expr} {scope : Scope} {own : List (PySem.Str × Nat)} {pos : Pos} {wi : TI} {g : TG} {tt : TT} {te : TE}
theorem pe_scK (hc : X.calm = true) (hN : X.N.Nodup) (hi : PI X tg iter wi) (ok : BlkOk X.N X.env.scope scope own)
    (hg : ∀ (s : Shared) (H : Hp) (C : Addr) (cl : List (PySem.Str × Addr)) (fp : List Addr), PG (X.blk s H scope (compEnvC scope cl C X.env) fp) tg g) (ht : ∀ (s : Shared) (H : Hp) (C : Addr) (cl : List (PySem.Str × Addr)) (fp : List Addr), PTs (X.blk s H scope (compEnvC scope cl C X.env) fp) ifs tt)
    (he : ∀ (s : Shared) (H : Hp) (C : Addr) (cl : List (PySem.Str × Addr)) (fp : List Addr), PE (X.blk s H scope (compEnvC scope cl C X.env) fp) elt te) (hs : ∀ x, foldedSetIterable iter X.env x = pure x := by intro _; rfl) :
    PE X (.SetComp elt [⟨tg, iter, ifs, 0⟩] scope pos) (tScS X.prog X.w wi g tt te (own.map (·.2))) := by
  refine ⟨fun pins s σ H Q I h => ?_⟩
  rw [PpSet.eval_SetComp]
  have hfree : ∀ y ∈ scope.names, y.2 = .free → ∃ c, X.env.cells.lookup y.1 = some c := fun y hy e => (ok.free y hy e).elim (fun k => I.ok.has _ (.inl k)) fun k => I.ok.has _ (.inr k)
  refine wpAny_comprehension_free (use := none) rfl hs (closure_ok hfree) ok.kind (fun y hy e => by rw [ok.uniq y hy, e]) (thn (hi.run pins s σ H _ I h) fun xv s1 hx => thn hx fun itv s2 h2 => ?_)
  obtain ⟨it, fp, tn, J, H2, rfl, I2, T, st2, f2, q⟩ := h2
  refine PpSet.newSet_ok (newEnv_comp ?_)
  have sz : ∀ b ∈ fp, b < s2.heap.objs.size := fun b hb => let ⟨o, e, _⟩ := T.obj _ _ st2 b hb; Heap.lt_size e
  have hDn : H2 s2.heap.objs.size = none := I2.hok.fresh (Nat.le_refl _)
  have new := setS_fresh X.prog X.w s2.heap
  generalize hD : s2.heap.objs.size = D at hDn new
  obtain ⟨W, ⟨m0, w0⟩, turn⟩ := q D hDn
  generalize hO : ({ cls := .type "set", dict := none, data := .set #[] 0 (.fresh 0 0 (!X.w.params.followText "set-order")) } : Obj) = O at new
  -- the machine behind the new set
  have I3 : Inv X pins σ (upd H2 D (SetSO X.prog X.w D [])) { s2 with heap := s2.heap.push O } :=
    I2.laid (t' := s2.toks) (fun b o e => Heap.get?_push_of_some _ e) (Nat.le_of_eq hD) (setSO_new new)
  have f3 : ∀ b ∈ fp, FpOk X pins (upd H2 D (SetSO X.prog X.w D [])) b ∧ b < (s2.heap.push O).objs.size := fun b hb => by
    have hlt := sz b hb
    refine ⟨⟨?_, (f2 b hb).2⟩, by rw [Heap.size_push]; exact Nat.lt_succ_of_lt hlt⟩
    rw [upd_ne (by rw [← hD]; exact Nat.ne_of_lt hlt)]
    exact (f2 b hb).1
  have st3 : tn 0 (s2.heap.push O) := T.keep _ _ _ st2 fun b _ o e => Heap.get?_push_of_some _ e
  show codeAny _ _ (.compStart (.SetComp elt [⟨tg, iter, ifs, 0⟩] scope pos) 0 (.ref it) (.ref D) (compEnvC scope (cellsFrom ((s2.heap.push O).objs.size + 1) scope.names (cloFrom X.env.cells scope.names [])) (s2.heap.push O).objs.size X.env)) (compPost (model X.prog X.w) X.A X.xe none _ (.ref D) (s2.heap.push O).objs.size) { s2 with heap := pushCells ((s2.heap.push O).push { cls := .type "dict", data := .dict #[] }) scope.names }
  generalize hs3 : ({ s2 with heap := s2.heap.push O } : Shared) = s3 at I3
  have hh3 : s2.heap.push O = s3.heap := by rw [← hs3]
  rw [hh3] at f3 st3 ⊢
  generalize hH3 : upd H2 D (SetSO X.prog X.w D []) = H3 at I3 f3 w0
  have I4 := block_start I3 ok hN f3
  have pg := hg s3 H3 s3.heap.objs.size (cellsFrom (s3.heap.objs.size + 1) scope.names (cloFrom X.env.cells scope.names [])) fp
  have pt := ht s3 H3 s3.heap.objs.size (cellsFrom (s3.heap.objs.size + 1) scope.names (cloFrom X.env.cells scope.names [])) fp
  have pe := he s3 H3 s3.heap.objs.size (cellsFrom (s3.heap.objs.size + 1) scope.names (cloFrom X.env.cells scope.names [])) fp
  generalize hce : compEnvC scope (cellsFrom (s3.heap.objs.size + 1) scope.names (cloFrom X.env.cells scope.names [])) s3.heap.objs.size X.env = ce at I4 pg pt pe ⊢
  have cL : ce.locals = s3.heap.objs.size := by subst hce; rfl
  have es4 : ({ s2 with heap := pushCells (s3.heap.push { cls := .type "dict", data := .dict #[] }) scope.names } : Shared) = { s3 with heap := pushCells (s3.heap.push { cls := .type "dict", data := .dict #[] }) scope.names } := by rw [← hs3]
  rw [es4]
  generalize hs4 : ({ s3 with heap := pushCells (s3.heap.push { cls := .type "dict", data := .dict #[] }) scope.names } : Shared) = s4 at I4 ⊢
  have st4 : tn 0 s4.heap := T.keep _ _ _ st3 fun b _ o e => by rw [← hs4]; exact pushCells_keeps _ _ _ _ (Heap.get?_push_of_some _ e)
  have stat : ∀ {σ' : L2.St} {H' : Hp} {s' : Shared}, Inv (X.blk s3 H3 scope ce fp) [] σ' H' s' → (∀ b ∈ fp, H' b = none) → ∀ b ∈ fp, FpOk (X.blk s3 H3 scope ce fp) [] H' b := fun {σ' H' s'} I' hn b hb =>
    ⟨hn b hb, (I'.ok.exf b hb).1, I'.ok.exfs b hb, .inl hb, fun x c e => (I'.ok.exf b hb).2 x c e, fun p hp => absurd (show p ∈ ([] : List (Addr × Obj)) ++ [] from hp) (by simp)⟩
  refine PpSet.codeAny_compStart_set ?_ (T.self X.A 0 _ _ _ st4 ?_) <;>
  · refine PpSet.compLoopS_any (fun n s' => ∃ i H', Inv (X.blk s3 H3 scope ce fp) [] (wipe σ (own.map (·.2))) H' s' ∧ tn i s'.heap ∧ (∀ b ∈ fp, H' b = none) ∧ W i n H') ?_ m0 ⟨0, H3, I4, st4, fun b hb => (f3 b hb).1.1, w0⟩
    rintro n s5 ⟨i, H5, I5, st5, n5, w5⟩
    rcases turn i n H5 w5 with ⟨stop, qq⟩ | ⟨go, Nx, hNx, step⟩
    · refine thnF (T.done (X.blk s3 H3 scope ce fp) rfl rfl rfl hc i [] s5 _ H5 (fun _ _ => False) I5 (stat I5 n5) st5 stop) fun r s6 ⟨hr, I6⟩ => ?_
      subst hr
      have I7 : Inv X pins σ H5 s6 := I3.call' (ch := fp) I6.os I6.base I6.hok I6.bare fun b hb => ⟨(f3 b hb).1.2.2.2.1, (f3 b hb).1.2.1, (f3 b hb).1.2.2.2.2.1, (f3 b hb).1.2.2.2.2.2⟩
      have nC : H5 s3.heap.objs.size = none := by rw [← cL]; exact I6.free
      obtain ⟨m, hn, _⟩ := I6.loc
      have hn : s6.heap.Ns ce.locals m := hn
      rw [cL] at hn
      refine ⟨m, hn, fun h'' sb => ?_⟩
      obtain ⟨f0, f1, _, f3', f4, f5⟩ := I3.fpOk (Nat.le_refl _) nC
      exact ⟨.ref D, H5, I7.turned (t' := s6.toks) (fun b o hb e => (sb.2 b hb).trans e) f0 f1 f3' f4 f5, rfl, qq⟩
    · refine thnF (T.item (X.blk s3 H3 scope ce fp) rfl rfl rfl hc i [] s5 _ H5 (fun _ _ => False) I5 (stat I5 n5) st5 go) fun r s6 ⟨u, hr, h6⟩ => ?_
      subst hr
      refine thnF h6 fun _ s7 ⟨x, H7, I7, r7, y7, st7, n7⟩ => ?_
      refine thnF (pg.run _ s7 _ H7 x u _ (I7.pinned (stat I7 n7) (T.obj _ _ st7)) r7 (step x H7 y7)) fun _ s8 ⟨σ8, H8, I8, hw8, q8⟩ => ?_
      refine thnF (pt.run _ s8 σ8 H8 _ I8 q8) fun b s9 ⟨H9, I9, q9⟩ => ?_
      have fin : ∀ {s' : Shared} {H' : Hp}, Inv (X.blk s3 H3 scope ce fp) ([] ++ pinsAt fp s7.heap) σ8 H' s' → Nx H' → ∃ m, m < n ∧ ∃ i H', Inv (X.blk s3 H3 scope ce fp) [] (wipe σ (own.map (·.2))) H' s' ∧ tn i s'.heap ∧ (∀ b ∈ fp, H' b = none) ∧ W i m H' := fun {s' H'} I' nx => by
        obtain ⟨m', hm, w'⟩ := hNx H' nx
        have pin' : ∀ b ∈ fp, ∀ o, s7.heap.get? b = some o → s'.heap.get? b = some o ∧ H' b = none := fun b hb o e =>
          let z := I'.pin (b, o) (List.mem_append_right _ (List.mem_append_right _ (mem_pinsAt hb e)))
          ⟨z.1, z.2.1⟩
        refine ⟨m', hm, i + 1, H', (I'.unpinned (pins := [])).weak (by rw [← hw8, wipe_length]) (fun j v e => ?_), T.keep _ _ _ st7 fun b hb o e => (pin' b hb o e).1, fun b hb => ?_, w'⟩
        · rw [← hw8] at e
          exact (wipe_some e).1
        · obtain ⟨o, e, _⟩ := T.obj _ _ st7 b hb
          exact (pin' b hb o e).2
      cases b with
      | false =>
        simp only [Bool.false_eq_true, if_false] at q9 ⊢
        exact fin I9 q9
      | true =>
        simp only [if_true] at q9 ⊢
        refine thnF (pe.run _ s9 σ8 H9 _ I9 q9) fun z s10 ⟨yv, H10, I10, r10, c0, l0, ey, hD10, hz10, nx⟩ => ?_
        subst ey
        obtain ⟨tk, rfl⟩ : ∃ tk, z = Value.str c0 tk := r10
        exact addS_ok (X := X.blk s3 H3 scope ce fp) I10 hD10 hz10 fun s11 I11 => fin I11 nx
end
/-! ### sorted -/
theorem perm_of_sub : ∀ (l m : List Str), l.Nodup → (∀ x ∈ l, x ∈ m) → m.length = l.length → m.Perm l
  | [], m, _, _, hl => by rw [List.eq_nil_of_length_eq_zero hl]
  | x :: l, m, nd, hs, hl => by
    obtain ⟨n1, n2⟩ := List.nodup_cons.mp nd
    have hx := hs x List.mem_cons_self
    have p := List.perm_cons_erase hx
    have le : (m.erase x).length = l.length := by
      have := p.length_eq
      simp only [List.length_cons] at this hl
      omega
    refine p.trans (List.Perm.cons x (perm_of_sub l (m.erase x) n2 (fun y hy => ?_) le))
    exact (List.mem_erase_of_ne (fun z : y = x => n1 (z ▸ hy))).mpr (hs y (List.mem_cons_of_mem _ hy))
theorem strs_from {P : Program} {w : World} : ∀ (es : List (Int × Value)), ElemsOf (strKind P w) es → ∃ ks, StrsAre (es.map (·.2)) ks ∧ ∀ k, (∃ e ∈ es, (strKind P w).is k e.2 = true) → k ∈ ks
  | [], _ => ⟨[], .nil, fun k ⟨e, he, _⟩ => by cases he⟩
  | e :: es, g => by
    obtain ⟨ks, h1, h2⟩ := strs_from es fun e he => g e (List.mem_cons_of_mem _ he)
    obtain ⟨⟨k, hk, _⟩, _⟩ := g e List.mem_cons_self
    obtain ⟨t, ht⟩ := Value.isStrOf_shape (x := k) (v := e.2) hk
    refine ⟨k :: ks, by rw [List.map_cons, ht]; exact .cons k t h1, fun k' ⟨e', he', q⟩ => ?_⟩
    rcases List.mem_cons.mp he' with rfl | he'
    · rw [(strKind P w).inj e'.2 k' k q hk]; exact List.mem_cons_self
    · exact List.mem_cons_of_mem _ (h2 k' ⟨e', he', q⟩)
theorem strs_len {us : List Value} {ks : List Str} (h : StrsAre us ks) : us.length = ks.length := by
  induction h with
  | nil => rfl
  | cons y t h ih => simp [ih]
/-- the texts of values, put in another order -/
theorem strs_perm {us vs : List Value} {ks : List Str} (h : StrsAre us ks) (p : vs.Perm us) : ∃ ls, StrsAre vs ls ∧ ls.Perm ks := by
  have gen : ∀ {us vs : List Value}, us.Perm vs → ∀ {ks}, StrsAre us ks → ∃ ls, StrsAre vs ls ∧ ls.Perm ks := by
    intro us vs p
    induction p with
    | nil => intro ks h; cases h; exact ⟨[], .nil, .refl _⟩
    | cons x p ih => intro ks h; cases h with
      | cons y t h => obtain ⟨ls, a, b⟩ := ih h; exact ⟨y :: ls, .cons y t a, b.cons y⟩
    | swap x y l => intro ks h; cases h with
      | cons a t h => cases h with
        | cons b u h => exact ⟨_, .cons b u (.cons a t h), .swap a b _⟩
    | trans p q ih1 ih2 => intro ks h; obtain ⟨ls, a, b⟩ := ih1 h; obtain ⟨ms, c, d⟩ := ih2 a; exact ⟨ms, c, d.trans b⟩
  exact gen p.symm h
def rSortedK (P : Program) (w : World) : List V → Hp → VK → Prop := fun vs H Q => ∃ (a : Addr) (l : List Str), vs = [.ref a] ∧ H a = some (SetSO P w a l) ∧ l.length < 64 ∧
  ∀ ys p, ys.Perm l → sortedS ys = true → H p = none → Q (.ref p) (upd H p (.lst (ys.map V.str)))
theorem cr_sortedK (hc : X.calm = true) : CallR X (.builtin "sorted") (rSortedK X.prog X.w) := by
  intro pins s σ H vs us Q I r h
  obtain ⟨a, l, rfl, ha, h64, q⟩ := h
  obtain ⟨D, ho, F, nd, rs, hl⟩ := setSO_get I ha
  obtain ⟨es, ep, t⟩ := D
  rw [Vals.ref1 r]
  have hsz : es.size = l.length := F.sz
  refine Calls.call_function_entry PyProof.Rows.kind_sorted PyProof.Rows.plain_sorted PyProof.Rows.entry_sorted (PyProof.Rows.args_sorted1 _) ?_
  unfold Builtin.«sorted»
  refine wpAny_bind (m := checkCount "sorted" 1 1 _) (wpAny_pure ?_)
  refine wpAny_bind (collect_set (A := X.A.in1) (I.ok.hd hc) ⟨_, ho, rfl, rfl⟩ F.fit (by rw [hsz]; unfold scanBound; omega) rs hl fun s1 out k1 hz g1 o1 pm => ?_)
  obtain ⟨ks, sk, hk⟩ := strs_from es.toList F.el
  obtain ⟨ls, sl, pl⟩ := strs_perm sk pm
  have lk : ks.length = l.length := by rw [← strs_len sk, List.length_map, Array.length_toList]; exact hsz
  have pl2 : ls.Perm l := pl.trans (perm_of_sub l ks nd (fun x hx => hk x ((F.mem x).mp hx)) lk)
  have ol : out.length < 64 := by rw [strs_len sl, pl2.length_eq]; exact h64
  refine wpAny_bind (wpAny_newList ?_ (by rw [sizeLine_eq]; omega))
  have hoL : (s1.heap.push (seqObj "list" out.toArray 0)).get? s1.heap.objs.size = some (seqObj "list" out.toArray 0) := Heap.get?_push_size _ rfl
  show wpAny _ _ _ _ _ { s1 with heap := s1.heap.push (seqObj "list" out.toArray 0) }
  refine wpAny_bind (wpAny_holding (wpAny_call_entry PyProof.Rows.slot_list_sort ⟨_, hoL, rfl⟩ PyProof.Rows.entry_list_sort
    (list_sort_treeK strKind_oneLt (s := { s1 with heap := s1.heap.push (seqObj "list" out.toArray 0) }) hoL sl.keysOf (fun v₁ v₂ rest e => keyKind_strs (by rw [← e]; exact sl)) ol fun st' hp hs => ⟨_, rfl, ?_⟩) (PyProof.Rows.args_list_sort _)))
  obtain ⟨ys, g2, g3, g4⟩ := sorted_out_str sl hp hs
  obtain ⟨e', he'⟩ := PyProof.Rows.sortedHeap_at (vs := out) (out := (arrOf st').map (·.2)) hoL
  have hlen : (ys.map V.str).length ≤ sizeLine := by
    rw [List.length_map, g3.length_eq, pl2.length_eq]
    exact Nat.le_trans (Nat.le_of_lt h64) (by decide)
  have hn : H s1.heap.objs.size = none := I.hok.fresh hz
  have kk : ∀ b o, s.heap.get? b = some o → (sortedHeap (s1.heap.push (seqObj "list" out.toArray 0)) s1.heap.objs.size out ((arrOf st').map (·.2))).get? b = some o := fun b u e => by
    have e1 := k1 b u e
    have hb : b < s1.heap.objs.size := Heap.lt_size e1
    rw [PyProof.Rows.sortedHeap_old (Nat.ne_of_lt hb) (by rw [size_push']; exact Nat.lt_succ_of_lt hb)]
    exact Heap.get?_push_of_some _ e1
  have J : Inv X pins σ (upd H s1.heap.objs.size (.lst (ys.map V.str))) { s with heap := sortedHeap (s1.heap.push (seqObj "list" out.toArray 0)) s1.heap.objs.size out ((arrOf st').map (·.2)), gens := s1.gens, drawn := s1.drawn, toks := s1.toks } :=
    I.call (ch := []) (Un.laid kk hz hn) (I.hok.laid kk hz (show ObjOk X.prog X.w _ _ _ (.lst (ys.map V.str)) from ⟨hlen, ((arrOf st').map (·.2)).toList, e', vals_of_strs g2, by rw [Array.toArray_toList]; exact he'⟩)) (by rw [g1]; exact I.bare) (fun _ z => nomatch z)
  have e : ({ s1 with heap := sortedHeap (s1.heap.push (seqObj "list" out.toArray 0)) s1.heap.objs.size out ((arrOf st').map (·.2)) } : Shared) = { s with heap := sortedHeap (s1.heap.push (seqObj "list" out.toArray 0)) s1.heap.objs.size out ((arrOf st').map (·.2)), gens := s1.gens, drawn := s1.drawn, toks := s1.toks } := by
    cases s1
    cases s
    cases o1
    rfl
  refine wpAny_pure ⟨_, rfl, ?_⟩
  exact e ▸ ⟨.ref _, _, J, rfl, q ys _ (g3.trans pl2) g4 hn⟩
end
section
variable {J : It} {n : Nat} {Gd : Hp → Prop} {Y : Nat → Hp → V → Hp → Prop} {g : TG} {tt : TT} {te : TE} {vs : List Nat} {σ : L2.St} {G1 H1 : Hp} {D : Addr} {Qd : Hp → Prop} {P : Program} {w : World}
/-- a set comprehension: R says what the set so far holds -/
theorem sc_gen (wk : Walk J n Gd Y) (e1 : Ex G1 H1) (hD : H1 D = none) (hn : n + 1 < scanBound) (R : Nat → List Str → Prop) (h0 : R 0 []) (hG : ∀ H', Ex H1 H' → Gd H')
    (hs : ∀ i x G H H' acc (Kt : VK) (Kf : Hp → Prop), i < n → Nxt none G1 H1 G H → G D = none → H D = some (SetSO P w D acc) → acc.length ≤ i → R i acc → Y i H x H' →
      (∀ c G4 H4, Nxt none G H G4 H4 → R (i + 1) (if c ∈ acc then acc else c :: acc) → Kt (.str c) H4) → (∀ G3 H3, Nxt none G H G3 H3 → R (i + 1) acc → Kf H3) →
      g x (wipe σ vs) H' fun σ2 H2 => wipe σ2 vs = wipe σ vs ∧ tt σ2 H2 fun b H3 => if b = true then te σ2 H3 Kt else Kf H3)
    (hd : ∀ G' H' acc, Nxt none G1 H1 G' H' → G' D = none → H' D = some (SetSO P w D acc) → acc.length ≤ n → R n acc → Qd H') :
    ∃ W : Nat → Nat → Hp → Prop, (∃ m, W 0 m (upd H1 D (SetSO P w D []))) ∧ ∀ i m H, W i m H →
      (J.stop i H ∧ Qd H) ∨ (J.go i H ∧ ∃ Nx : Hp → Prop, (∀ H', Nx H' → ∃ m', m' < m ∧ W (i + 1) m' H') ∧ ∀ x H', J.yld i H x H' → g x (wipe σ vs) H' fun σ2 H2 => wipe σ2 vs = wipe σ vs ∧ tt σ2 H2 fun b H3 =>
        if b = true then te σ2 H3 fun y H4 => ∃ (c : Str) (l : List Str), y = .str c ∧ H4 D = some (SetSO P w D l) ∧ l.length + 1 < scanBound ∧ Nx (upd H4 D (SetSO P w D (if c ∈ l then l else c :: l))) else Nx H3) := by
  have gD : G1 D = none := e1.back hD
  refine ⟨fun i m H => n - i = m ∧ i ≤ n ∧ ∃ G acc, Nxt none G1 H1 G H ∧ G D = none ∧ H D = some (SetSO P w D acc) ∧ acc.length ≤ i ∧ R i acc,
    ⟨n, rfl, Nat.zero_le _, G1, [], (Nxt.refl e1).own hD hD, gD, upd_same, Nat.le_refl _, h0⟩, ?_⟩
  rintro i m H ⟨hm, hi, G, acc, N, g0, hh, hl, r⟩
  have hg := hG H N.ex
  by_cases z : i < n
  · refine Or.inr ⟨wk.goes i H z hg, fun H' => ∃ G acc, Nxt none G1 H1 G H' ∧ G D = none ∧ H' D = some (SetSO P w D acc) ∧ acc.length ≤ i + 1 ∧ R (i + 1) acc, fun H' p' => ⟨n - (i + 1), by omega, rfl, z, p'⟩, fun x H' y => ?_⟩
    refine hs i x G H H' acc _ _ z N g0 hh hl r (wk.yields i H x H' z hg y) (fun c G4 H4 S r4 => ?_) (fun G3 H3 S r3 => ?_)
    · obtain ⟨a, b⟩ := S.keep g0 hh
      refine ⟨c, acc, rfl, b, by omega, G4, _, (N.trans S).mut a hD, a, upd_same, ?_, r4⟩
      split
      · omega
      · rw [List.length_cons]; omega
    · obtain ⟨a, b⟩ := S.keep g0 hh
      exact ⟨G3, acc, N.trans S, a, b, by omega, r3⟩
  · obtain rfl : i = n := by omega
    exact Or.inl ⟨wk.stops H hg, hd G H acc N g0 hh hl r⟩
end
section
variable {wi : TI} {g : TG} {tt : TT} {te : TE} {vs : List Nat} {σ : L2.St} {H : Hp} {Q : VK} {P : Program} {w : World}
theorem g_sc (h : wi σ H fun J H1 => ∀ D, H1 D = none → ∃ W : Nat → Nat → Hp → Prop, (∃ m, W 0 m (upd H1 D (SetSO P w D []))) ∧ ∀ i m H, W i m H →
  (J.stop i H ∧ Q (.ref D) H) ∨ (J.go i H ∧ ∃ Nx : Hp → Prop, (∀ H', Nx H' → ∃ m', m' < m ∧ W (i + 1) m' H') ∧ ∀ x H', J.yld i H x H' → g x (wipe σ vs) H' fun σ2 H2 => wipe σ2 vs = wipe σ vs ∧ tt σ2 H2 fun b H3 =>
    if b = true then te σ2 H3 fun y H4 => ∃ (c : Str) (l : List Str), y = .str c ∧ H4 D = some (SetSO P w D l) ∧ l.length + 1 < scanBound ∧ Nx (upd H4 D (SetSO P w D (if c ∈ l then l else c :: l))) else Nx H3)) : tScS P w wi g tt te vs σ H Q := h
end
end K69
set_option Elab.async false
set_option linter.all false
/-! Graphs of rows: what is come to, with a state barred; the waists. -/
namespace K69
open PySem
abbrev GB (α : Type) := List (α × (Str × List (Str × α)))
section
variable {α : Type} [BEq α] [LawfulBEq α]
def stp (bk : GB α) (a b : α) : Prop := ∃ r, bk.lookup a = some r ∧ b ∈ r.2.map (·.2)
inductive Rch (bk : GB α) (bar : Option α) (s : α) : α → Prop
  | refl : bar ≠ some s → Rch bk bar s s
  | tail {a b : α} : Rch bk bar s a → stp bk a b → bar ≠ some b → Rch bk bar s b
variable {bk bk' : GB α} {bar : Option α} {s a b t : α}
theorem Rch.ok (h : Rch bk bar s t) : bar ≠ some t := by cases h <;> assumption
theorem Rch.start (h : Rch bk bar s t) : bar ≠ some s := by
  induction h with
  | refl h => exact h
  | tail _ _ _ ih => exact ih
/-- what holds s and all the next ones holds all that is come to -/
theorem Rch.within (C : α → Prop) (hs : C s) (hc : ∀ a b, C a → stp bk a b → bar ≠ some b → C b) (h : Rch bk bar s t) : C t := by
  induction h with
  | refl => exact hs
  | tail _ st nb ih => exact hc _ _ ih st nb
theorem Rch.free (h : Rch bk bar s t) : Rch bk none s t := by
  induction h with
  | refl => exact .refl (by simp)
  | tail _ st _ ih => exact .tail ih st (by simp)
theorem Rch.congr (e : ∀ x, bk.lookup x = bk'.lookup x) (h : Rch bk bar s t) : Rch bk' bar s t := by
  induction h with
  | refl h => exact .refl h
  | tail _ st nb ih => obtain ⟨r, hr, m⟩ := st; exact .tail ih ⟨r, by rw [← e]; exact hr, m⟩ nb
def isDone (bk : GB α) (t : α) : Prop := ∃ r, bk.lookup t = some r ∧ r.1 = "done"
theorem isDone.congr (e : ∀ x, bk.lookup x = bk'.lookup x) (h : isDone bk t) : isDone bk' t := let ⟨r, a, b⟩ := h; ⟨r, by rw [← e]; exact a, b⟩
/-- some done state is come to, the barred one left out -/
def Ends (bk : GB α) (bar : Option α) (s : α) : Prop := ∃ t, Rch bk bar s t ∧ isDone bk t
theorem Ends.congr (e : ∀ x, bk.lookup x = bk'.lookup x) (h : Ends bk bar s) : Ends bk' bar s := let ⟨t, a, b⟩ := h; ⟨t, a.congr e, b.congr e⟩
/-- a waist -/
def Wst (bk : GB α) (s x : α) : Prop := Ends bk none s ∧ Rch bk none s x ∧ ¬ Ends bk (some x) s
theorem Wst.congr (e : ∀ x, bk.lookup x = bk'.lookup x) (h : Wst bk s a) : Wst bk' s a := ⟨h.1.congr e, h.2.1.congr e, fun q => h.2.2 (q.congr fun x => (e x).symm)⟩
end
theorem nodup_le {α : Type} [DecidableEq α] : ∀ (l m : List α), l.Nodup → (∀ x ∈ l, x ∈ m) → l.length ≤ m.length
  | [], m, _, _ => Nat.zero_le _
  | x :: l, m, nd, hs => by
    obtain ⟨n1, n2⟩ := List.nodup_cons.mp nd
    have hx := hs x List.mem_cons_self
    have le := nodup_le l (m.erase x) n2 fun y hy => (List.mem_erase_of_ne (fun z : y = x => n1 (z ▸ hy))).mpr (hs y (List.mem_cons_of_mem _ hy))
    have p := (List.perm_cons_erase hx).length_eq
    simp only [List.length_cons] at p ⊢
    omega
theorem Rch.key {bk : Book} (ok : BookOk bk) {bar : Option Str} {s t : Str} (hs : s ∈ bk.map (·.1)) (h : Rch bk bar s t) : t ∈ bk.map (·.1) :=
  h.within (· ∈ bk.map (·.1)) hs fun a b _ st _ => by
    obtain ⟨r, hr, m⟩ := st
    obtain ⟨q, hq, rfl⟩ := List.mem_map.mp m
    exact ok.cl _ (lookup_mem hr) q hq
open Classical in
noncomputable def waistsL (bk : Book) (s : Str) : List Str := srtS ((bk.map (·.1)).filter fun x => decide (Wst bk s x))
open Classical in
theorem waistsL_mem {bk : Book} (ok : BookOk bk) {s x : Str} (hs : s ∈ bk.map (·.1)) : x ∈ waistsL bk s ↔ Wst bk s x := by
  unfold waistsL
  rw [srtS_mem, List.mem_filter, decide_eq_true_eq]
  exact ⟨fun h => h.2, fun h => ⟨h.2.1.key ok hs, h⟩⟩
open Classical in
theorem waistsL_nd {bk : Book} (ok : BookOk bk) (s : Str) : (waistsL bk s).Nodup := by
  unfold waistsL
  rw [srtS_nd]
  exact ok.nd.filter _
theorem perm_nd {l m : List Str} (h1 : l.Nodup) (h2 : m.Nodup) (h : ∀ x, x ∈ l ↔ x ∈ m) : l.Perm m := by
  rw [List.perm_ext_iff_of_nodup h1 h2]; exact h
/-- a list without repeats that holds just the waists, in order -/
theorem waistsL_of {bk : Book} (ok : BookOk bk) {s : Str} (hs : s ∈ bk.map (·.1)) {l : List Str} (nd : l.Nodup) (h : ∀ x, x ∈ l ↔ Wst bk s x) : srtS l = waistsL bk s := by
  have p : l.Perm (waistsL bk s) := perm_nd nd (waistsL_nd ok s) fun x => (h x).trans (waistsL_mem ok hs).symm
  rw [srtS_congr p]
  exact srtS_id (srtS_sorted _)
theorem waistsL_len {bk : Book} (ok : BookOk bk) {s : Str} (hs : s ∈ bk.map (·.1)) : (waistsL bk s).length ≤ bk.length := by
  have := nodup_le _ _ (waistsL_nd ok s) fun x hx => ((waistsL_mem ok hs).mp hx).2.1.key ok hs
  simpa using this
theorem waistsL_congr {bk bk' : Book} (ok : BookOk bk) (ok' : BookOk bk') {s : Str} (hs : s ∈ bk.map (·.1)) (hs' : s ∈ bk'.map (·.1)) (e : ∀ x, bk.lookup x = bk'.lookup x) : waistsL bk s = waistsL bk' s := by
  have h := waistsL_of ok' hs' (waistsL_nd ok s) fun x => (waistsL_mem ok hs).trans ⟨fun h => h.congr e, fun h => h.congr fun x => (e x).symm⟩
  rw [← h]
  exact (srtS_id (srtS_sorted _)).symm
end K69
set_option Elab.async false
set_option linter.all false
set_option maxRecDepth 100000
/-! Locks packed up, marks in dicts, displays. -/
namespace K69
open PySem PySem.Spec PyProof.Rows L2
theorem upd_sw {H : Hp} {a b : Addr} {o u : HO} (n : a ≠ b) : upd (upd H a o) b u = upd (upd H b u) a o := by
  funext x
  by_cases z : x = b
  · subst z; rw [upd_same, upd_ne (Ne.symm n), upd_same]
  · rw [upd_ne z]
    by_cases y : x = a
    · subst y; rw [upd_same, upd_same]
    · rw [upd_ne y, upd_ne y, upd_ne z]
theorem upd_id {H : Hp} {a : Addr} {o : HO} (h : H a = some o) : upd H a o = H := by
  funext x
  by_cases z : x = a
  · subst z; rw [upd_same, h]
  · rw [upd_ne z]
theorem upd_un {H : Hp} {d : Addr} {o u : HO} (h : H d = some u) : upd (upd H d o) d u = H := by rw [upd_upd, upd_id h]
/-- HL: the heap with d locked -/
structure Lk (G H : Hp) (d : Addr) (u : HO) (od : Obj) (HL : Hp) : Prop where
  self : HL d = some (.frz od u)
  keep : ∀ a o, a ≠ d → H a = some o → HL a = some o
  ex : Ex (cut G d) HL
  back : ∀ G2 H2, Nxt none (cut G d) HL G2 H2 → ∃ G3, Nxt none G H G3 (upd H2 d u) ∧ H2 d = some (.frz od u) ∧ Ex G2 G3 ∧ G2 d = none ∧ ∀ a, a ≠ d → G3 a = G2 a
  fresh : ∀ c, HL c = none → H c = none ∧ c ≠ d
theorem Lk.mk' {G H : Hp} {d : Addr} {u : HO} {od : Obj} (eG : Ex G H) (hd : H d = some u) : Lk G H d u od (upd H d (.frz od u)) := by
  have hg : G d = some u ∨ G d = none := by
    cases e : G d with
    | none => exact .inr rfl
    | some v => have := eG _ _ e; rw [hd] at this; exact .inl this.symm
  refine ⟨upd_same, fun a o n h => by rw [upd_ne n]; exact h, cut_ex eG, fun G2 H2 N => ?_, fun c h => ?_⟩
  · obtain ⟨N2, h3, g3⟩ := Nxt.unlock eG hd hg N
    exact ⟨_, N2, h3, unl_ex g3, g3, fun a n => if_neg n⟩
  · by_cases z : c = d
    · subst z; rw [upd_same] at h; cases h
    · rw [upd_ne z] at h; exact ⟨h, z⟩
/-- texts met: a dict of marks -/
def kvM (M : List Str) : List (Key × V) := M.map fun x => (Sum.inr x, V.bl true)
theorem valV_kvM (M : List Str) (x : Str) : valV (kvM M) (Sum.inr x : Key) = if x ∈ M then some (.bl true) else none := by
  induction M with
  | nil => rfl
  | cons a M ih =>
    show valV ((Sum.inr a, V.bl true) :: kvM M) (Sum.inr x : Key) = _
    by_cases h : a = x
    · subst h; rw [valV_pos rfl]; simp
    · rw [valV_neg (fun z => h (Sum.inr.inj z)), ih]
      have : ¬ x = a := fun z => h z.symm
      simp [this]
theorem putK_kvM {M : List Str} {x : Str} (h : x ∉ M) : putK (kvM M) (Sum.inr x : Key) (.bl true) = kvM (M ++ [x]) := by
  rw [putK_new]
  · simp [kvM]
  · rw [valV_kvM, if_neg h]
theorem kvM_keys (M : List Str) : (kvM M).map (·.1) = M.map Sum.inr := by simp [kvM]
section
variable {σ : L2.St} {H : Hp} {Q : VK}
theorem g_disp {trs : List (TE × TE)} (h : ∀ p, H p = none → tPairs trs σ (upd H p (.dK [])) fun ps H2 => H2 p = some (.dK []) ∧ ∃ kvs : List (Key × V), ps = kvs.map (fun kv => (kV kv.1, kv.2)) ∧ kvs.length ≤ 15 ∧ Q (.ref p) (upd H2 p (.dK (mergeK [] kvs)))) : tDisp trs σ H Q := h
theorem g_prs {tk tv : TE} {r : List (TE × TE)} {QP : List (V × V) → Hp → Prop} (h : tk σ H fun x H1 => tv σ H1 fun y H2 => tPairs r σ H2 fun ps H3 => QP ((x, y) :: ps) H3) : tPairs ((tk, tv) :: r) σ H QP := h
theorem g_prs0 {QP : List (V × V) → Hp → Prop} (h : QP [] H) : tPairs [] σ H QP := h
theorem g_dg2 {PV : V → Prop} {a : Addr} {y : V} {o : Option V} (h : DGet H a y o) (q : PV (.bl o.isSome)) : ∃ a' o', V.ref a = .ref a' ∧ DGet H a' y o' ∧ PV (.bl o'.isSome) := ⟨a, o, rfl, h, q⟩
end
/-- a heap with own things in it that the first one does not know -/
theorem Ex.own {H0 H : Hp} {p : Addr} {o : HO} (e : Ex H0 H) (h : H0 p = none) : Ex H0 (upd H p o) := e.up h
end K69
set_option Elab.async false
set_option linter.all false
set_option maxRecDepth 100000
set_option maxHeartbeats 4000000
namespace K69
open PySem PySem.Spec PyProof.Rows L2
section
variable {P : Program} {w : World} {K : PySem.W.Frag} {mg : Str → Option Value} {base : Heap} {C : Addr}
local macro_rules | `(tactic| walk_at "lk") => `(tactic| first | assumption | exact upd_same | exact (by assumption : Ex _ _) _ _ (by assumption))
local macro_rules | `(tactic| walk_at "g1") => `(tactic| first
  | with_reducible refine g_seq ?_ | with_reducible refine g_asg ?_ | with_reducible refine g_name ?_ | with_reducible refine g_cons ?_ | with_reducible refine g_nil ?_
  | ((with_reducible refine' g_var ?e ?_); (case e => exact rfl)) | with_reducible refine g_C ?_ | with_reducible refine g_op ?_ | with_reducible refine g_fld0 ?_ | with_reducible refine g_dget ?_ | with_reducible refine g_cb ?_ | with_reducible refine g_call ?_
  | with_reducible refine g_ret ?_ | with_reducible refine g_ifS ?_ | with_reducible refine g_test ?_ | with_reducible refine g_B ?_ | with_reducible refine g_bl ?_ | with_reducible refine g_not ?_ | with_reducible refine g_or ?_ | with_reducible refine g_and ?_
  | with_reducible refine g_ite ?_ | with_reducible refine g_itf ?_ | with_reducible refine g_itnt ?_ | with_reducible refine g_itnf ?_ | with_reducible refine g_eqS ?_ | with_reducible refine g_neS ?_ | with_reducible refine g_neI ?_ | with_reducible refine g_eqB ?_ | with_reducible refine g_neB ?_ | with_reducible refine g_eqI ?_ | with_reducible refine g_rI0 ?_ | with_reducible refine g_ipI ?_ | with_reducible refine g_int ?_
  | with_reducible refine g_drop ?_ | with_reducible refine g_next ?_ | with_reducible refine g_bm ?_ | with_reducible refine g_bm0 ?_ | with_reducible refine g_din ?_ | with_reducible refine g_dnotin ?_ | with_reducible refine g_dput ?_ | ((with_reducible refine' g_aug ?e ?_); (case e => exact rfl))
  | with_reducible refine g_andV ?_ | with_reducible refine g_orV ?_ | with_reducible refine g_notV ?_ | with_reducible refine g_if ?_ | with_reducible refine g_isN ?_ | with_reducible refine g_notN ?_ | with_reducible refine g_sl ?_ | with_reducible refine g_nopart ?_ | with_reducible refine g_part ?_
  | with_reducible refine g_gcons ?_ | with_reducible refine g_gnil ?_ | with_reducible refine g_par2 ?_ | with_reducible refine g_par3 ?_ | with_reducible refine g_vw ?_ | with_reducible refine g_uvw ?_ | with_reducible refine g_yes ?_ | with_reducible refine g_un ?_ | with_reducible refine g_rU ?_ | with_reducible refine g_gsub ?_ | with_reducible refine g_chain ?_ | with_reducible refine g_for ?_ | with_reducible refine g_istr ?_ | with_reducible refine g_ilist ?_ | with_reducible refine g_itup ?_ | with_reducible refine g_ikeys ?_ | with_reducible refine g_ivals ?_ | with_reducible refine g_iitems ?_ | with_reducible refine g_irng1 ?_ | with_reducible refine g_izip ?_ | with_reducible refine g_while ?_ | with_reducible refine g_tru _ ?_ | with_reducible refine g_lc ?_ | with_reducible refine g_dc ?_ | with_reducible refine g_lc2 ?_ | with_reducible refine g_tup ?_ | with_reducible refine g_lst ?_ | with_reducible refine g_dnew ?_ | with_reducible refine g_sfld ?_ | with_reducible refine g_dget2 ?_ | with_reducible refine g_dzip ?_ | with_reducible refine g_dnewT ?_ | with_reducible refine g_dispT ?_ | with_reducible refine g_star ?_ | with_reducible refine g_disp ?_ | with_reducible refine g_prs ?_ | with_reducible refine g_prs0 ?_ | with_reducible refine g_sc ?_ | with_reducible refine g_make ?_ | with_reducible refine g_meth ?_
  | ((with_reducible refine' g_ixT ?h ?e ?_); (case h => walk_at "lk"); (case e => exact rfl)) | ((with_reducible refine' g_ixL ?h ?e ?_); (case h => walk_at "lk"); (case e => exact rfl))
  | ((with_reducible refine' g_fldK ?h ?c ?n ?l ?_); (case h => walk_at "lk"); (case c => exact C8.InsC.cl (Txt.insC (by assumption))); (case n => first | exact Txt.nR (by assumption) | exact Txt.nF (by assumption)); (case l => exact rfl)))
local macro_rules | `(tactic| walk_at "go") => `(tactic| (repeat walk_at "g1"))
local macro_rules | `(tactic| walk_at "ty") => `(tactic| first | exact .base (.str _) | exact .base .non | exact .base (.bl _) | exact .base (.int _) | exact .base (.tup (by assumption)) | exact .base (.lst (by assumption)) | exact .base (.dK (by assumption)) | exact .fDict (by assumption))
abbrev sreached_from : Stmt := topS 16
abbrev Nreached_from : List Str := ["rows", "start", "found", "at", "goal"]
theorem screached_from : FnScope Nreached_from ["rows", "start"] (defScope sreached_from) := ⟨rfl, rfl, rfl, by decide +kernel, rfl, by decide +kernel, by decide +kernel⟩
def sp_reached_from : Sp := fun vs H Q _ => ∃ (b : Addr) (bk : Book) (s : Str) (G : Hp), vs = [.ref b, .str s] ∧ Ex G H ∧ BookAt G b bk ∧ BookOk bk ∧ s ∈ bk.map (·.1) ∧
  ∀ p G' H' (l : List Str), Nxt none G H G' H' → G' p = some (.lst (l.map V.str)) → H p = none → l.Nodup → (∀ x, x ∈ l ↔ Rch bk none s x) → Q (.ref p) H'
theorem cal_reached_from (F : Has K mg "reached_from" sreached_from) (T : Txt K w mg C) : Cal P w K mg base 1 "reached_from" sp_reached_from := by
  refine F.cal (fun _ _ _ _ _ _ us hl => match us, hl with | [_, _], _ => rfl) screached_from (fun vs H Q E h => ?_) (fun f cdv A outer s H vs Q E hr h => ?_)
  · obtain ⟨b, bk, s, G, rfl, _⟩ := h; rfl
  · obtain ⟨b, bk, s, G, rfl, eG, ⟨rs, hb, hrs⟩, ok, hs, k⟩ := h
    have nd := screached_from.nd
    have hu := hu_of hr
    refine ⟨_, (pss_cons (ps_set (i := 2) nd rfl (Or.inr rfl) (pe_lst (pa_cons (pv 1) pa_nil)))
  (pss_cons (ps_set (i := 3) nd rfl (Or.inl rfl) pe_int)
  (pss_cons (ps_while PassesOwn.never (pt_cmpR op_lt (pv 3) (pe_callB (kLen K) (by rfl) T.len (by decide +kernel) (pa_cons (pv 2) pa_nil)) (nomark _))
    (pss_cons (ps_expr (kBm K PySem.F.plainAttrs_list PySem.F.slot_list_extend PySem.F.type_list_extend mt_extend (pv 2) (pa_cons (pe_callB (cr_sortedK rfl) (by rfl) T.sorted (by decide +kernel) (pa_cons (pe_lock (pe_scK (own := [("goal", 4)]) rfl nd (pi_values (pe_ix (kIxT K) (pe_dget hu (pv 0) (pe_ix (kIxL K) (pv 2) (pv 3) (fun _ _ => rfl)) (fun _ _ => rfl)) pe_int (fun _ _ => rfl))) (blkOk_by (N := Nreached_from) (sc := defScope sreached_from) (by decide +kernel)) (fun _ _ _ _ _ => (pg_name (i := 4) nd rfl (Or.inl rfl))) (fun _ _ _ _ _ => pts_one (pt_cmpR (kNotIn K) (pv 4) (pv 2) rfl)) (fun _ _ _ _ _ => (pv 4)))) pa_nil)) pa_nil)))
    (pss_one (ps_aug (i := 3) nd rfl (Or.inl rfl) pe_int ip_add))))
  (pss_one (ps_ret (pv 2)))))), ?_⟩
    walk_at "go"
    refine ⟨by show 1 ≤ sizeLine; decide, fun p hp => ?_⟩
    walk_at "go"
    have gp : G p = none := eG.back hp
    refine ⟨fun m σ H' => ∃ (i : Nat) (l : List Str) (G' : Hp), σ = [some (.ref b), some (.str s), some (.ref p), some (.int (i : Int)), none] ∧ Nxt none G H G' H' ∧ G' p = none ∧ H' p = some (.lst (l.map V.str)) ∧ l.Nodup ∧ s ∈ l ∧ (∀ x ∈ l, Rch bk none s x) ∧ i ≤ l.length ∧ (∀ j a, j < i → l[j]? = some a → ∀ c, stp bk a c → c ∈ l) ∧ m = 26 - i, ?_, ?_⟩
    · exact ⟨26, 0, [s], G, rfl, (Nxt.refl eG).own hp hp, gp, upd_same, by simp, List.mem_singleton.mpr rfl, fun x hx => by rw [List.mem_singleton.mp hx]; exact .refl (by simp), by simp, fun j a h => by omega, rfl⟩
    · rintro m σ H1 ⟨i, l, G1, rfl, N1, g1, h1, ndl, sl, rl, hi, cl, rfl⟩
      have llen : l.length ≤ 26 := by
        have := nodup_le l (bk.map (·.1)) ndl fun x hx => (rl x hx).key ok hs
        have := ok.few
        simp at *; omega
      walk_at "go"
      refine ⟨p, _, rfl, .inl (SqL.of h1), ?_⟩
      walk_at "go"
      rw [List.length_map]
      refine ite2 (fun hlt => ?_) (fun hlt => ?_)
      · have hlt : i < l.length := by
          have : (i : Int) < (l.length : Int) := by simpa using hlt
          omega
        obtain ⟨a, ha⟩ : ∃ a, l[i]? = some a := ⟨l[i], List.getElem?_eq_getElem hlt⟩
        have ra := rl a (List.mem_of_getElem? ha)
        obtain ⟨r, hlk, hmem⟩ := ok.get (ra.key ok hs)
        have okr : RowOk r := ok.row _ hmem
        obtain ⟨c, hv, d, hc, hd⟩ := RowsAt.get hrs hlk
        have hb1 := N1.gh _ _ (N1.gg _ _ hb)
        have hc1 := N1.gh _ _ (N1.gg _ _ hc)
        have hd1 := N1.gh _ _ (N1.gg _ _ hd)
        have gd1 := N1.gg _ _ hd
        refine ⟨fun σ' H' => ∃ (l' : List Str) (G' : Hp), σ' = [some (.ref b), some (.str s), some (.ref p), some (.int ((i + 1 : Nat) : Int)), none] ∧ Nxt none G H G' H' ∧ G' p = none ∧ H' p = some (.lst (l'.map V.str)) ∧ l'.Nodup ∧ s ∈ l' ∧ (∀ x ∈ l', Rch bk none s x) ∧ i + 1 ≤ l'.length ∧ (∀ j a, j < i + 1 → l'[j]? = some a → ∀ c, stp bk a c → c ∈ l'), ?_, ?_⟩
        · rintro σ' H' ⟨l', G', rfl, N', g', h', nd', sl', rl', hi', cl'⟩
          exact ⟨26 - (i + 1), by omega, i + 1, l', G', rfl, N', g', h', nd', sl', rl', hi', cl', rfl⟩
        · walk_at "go"
          refine ⟨.inl ⟨rfl, _, SqL.of h1⟩, ?_⟩
          walk_at "go"
          refine ⟨d, _, hd1, trivial, fun od => ?_⟩
          have nbd : b ≠ d := fun z => book_ne hb hd (fun e => by subst e; cases hrs; exact ok.ne rfl) z.symm
          have ncd : c ≠ d := ne_of hc1 hd1 (by intro z; cases z)
          have npd : p ≠ d := fun z => by subst z; rw [g1] at gd1; cases gd1
          have hbL : (upd H1 d (.frz od (.dK (kvS r.2)))) b = some (.dK (kvR rs)) := by rw [upd_ne nbd]; exact hb1
          have hcL : (upd H1 d (.frz od (.dK (kvS r.2)))) c = some (.tup [.str r.1, .ref d]) := by rw [upd_ne ncd]; exact hc1
          have hpL : (upd H1 d (.frz od (.dK (kvS r.2)))) p = some (.lst (l.map V.str)) := by rw [upd_ne npd]; exact h1
          have hdL : (upd H1 d (.frz od (.dK (kvS r.2)))) d = some (.frz od (.dK (kvS r.2))) := upd_same
          have hU : ∀ G2 H2, Nxt none (cut G1 d) (upd H1 d (.frz od (.dK (kvS r.2)))) G2 H2 → _ := fun G2 H2 N => Nxt.unlock (u := .dK (kvS r.2)) N1.gh hd1 (.inl gd1) N
          have eC : Ex (cut G1 d) (upd H1 d (.frz od (.dK (kvS r.2)))) := cut_ex N1.gh
          generalize upd H1 d (.frz od (.dK (kvS r.2))) = HL at hbL hcL hpL hdL hU eC ⊢
          walk_at "go"
          refine g_ixL (v := .str a) hpL ?_ ?_
          · exact atI_nat (by rw [List.getElem?_map, ha]; rfl)
          walk_at "go"
          refine g_dgs (s := a) (.inl hbL) hv ?_
          walk_at "go"
          refine ⟨d, od, kvS r.2, rfl, hdL, fun D hD => ?_⟩
          refine sc_gen walk_values eC hD (by simp only [kvS, List.length_map]; have := okr.few; unfold scanBound; omega)
            (fun j acc => acc.Nodup ∧ ∀ x, x ∈ acc ↔ x ∈ (r.2.take j).map (·.2) ∧ x ∉ l) ⟨List.nodup_nil, by simp⟩ (fun H' e => e _ _ hdL) ?_ ?_
          · rintro j y G3 H3 H4 acc Kt Kf hj N g0 hh hl' ⟨nda, hacc⟩ ⟨rfl, k1, hk⟩ ht hf
            obtain ⟨q, hq, rfl, rfl⟩ := kvS_get hk
            walk_at "go"
            refine ⟨rfl, ?_⟩
            walk_at "go"
            refine g_nin (.inl (SqL.of (N.ex _ _ hpL))) rfl (flatS l) (inV_str q.2 l) ?_
            walk_at "go"
            by_cases hql : q.2 ∈ l
            · rw [decide_eq_true hql]
              refine g_itnt ?_
              refine hf G3 H4 (Nxt.refl N.gh) ⟨nda, fun x => ?_⟩
              rw [hacc, take_snoc hq, List.map_append, List.mem_append]
              refine ⟨fun h => ⟨.inl h.1, h.2⟩, fun h => ⟨h.1.elim id fun z => absurd hql ?_, h.2⟩⟩
              have : x = q.2 := by simpa using z
              exact this ▸ h.2
            · rw [decide_eq_false hql]
              refine g_itnf ?_
              walk_at "go"
              refine ht q.2 G3 H4 (Nxt.refl N.gh) ?_
              by_cases hqa : q.2 ∈ acc
              · rw [if_pos hqa]
                refine ⟨nda, fun x => ?_⟩
                rw [hacc, take_snoc hq, List.map_append, List.mem_append]
                refine ⟨fun h => ⟨.inl h.1, h.2⟩, fun h => ⟨h.1.elim id fun z => ?_, h.2⟩⟩
                have : x = q.2 := by simpa using z
                rw [this]
                exact ((hacc q.2).mp hqa).1
              · rw [if_neg hqa]
                refine ⟨List.nodup_cons.mpr ⟨hqa, nda⟩, fun x => ?_⟩
                rw [List.mem_cons, hacc, take_snoc hq, List.map_append, List.mem_append]
                constructor
                · rintro (rfl | h)
                  · exact ⟨.inr (by simp), hql⟩
                  · exact ⟨.inl h.1, h.2⟩
                · rintro ⟨h | h, h2⟩
                  · exact .inr ⟨h, h2⟩
                  · exact .inl (by simpa using h)
          · rintro G3 H3 acc N g0 hh hl' ⟨nda, hacc⟩
            rw [List.take_of_length_le (by simp [kvS])] at hacc
            obtain ⟨N2, hd3, g3⟩ := hU _ _ (N.frz g0 hh hD)
            have nDd : D ≠ d := fun z => by subst z; rw [hdL] at hD; cases hD
            refine ⟨hd3, ?_⟩
            have hD3 : (upd H3 d (.dK (kvS r.2))) D = some (SetSO P w D acc) := by rw [upd_ne nDd]; exact hh
            have M := N1.trans N2
            generalize upd H3 d (.dK (kvS r.2)) = H5 at N2 hD3 M ⊢
            have hp5 : H5 p = some (.lst (l.map V.str)) := N2.ex _ _ h1
            walk_at "go"
            refine ⟨D, acc, rfl, hD3, Nat.lt_of_le_of_lt hl' (by simp only [kvS, List.length_map]; have := okr.few; omega), fun ys q pm so hq => ?_⟩
            have npq : p ≠ q := ne_of_none hp5 hq
            have ylen : ys.length ≤ 26 := by
              rw [pm.length_eq]
              have := okr.few
              simp only [kvS, List.length_map] at hl'
              omega
            refine ⟨p, q, l.map V.str, ys.map V.str, rfl, rfl, by rw [upd_ne npq]; exact hp5, upd_same, by rw [List.length_map, List.length_map]; exact Nat.le_of_lt (small1000 (by omega)), ?_⟩
            walk_at "go"
            have g5 := (N2.fr p _ h1).trans g1
            have gM : G p = none := gp
            have ymem : ∀ x, x ∈ ys ↔ x ∈ r.2.map (·.2) ∧ x ∉ l := fun x => pm.mem_iff.trans (hacc x)
            refine ⟨l ++ ys, _, rfl, (M.own hq (M.none0 hq)).mut g5 hp, g5, by rw [upd_same, List.map_append], ?_, List.mem_append_left _ sl, ?_, by rw [List.length_append]; omega, ?_⟩
            · refine List.nodup_append.mpr ⟨ndl, pm.nodup_iff.mpr nda, fun x hx y hy e => ?_⟩
              subst e
              exact ((ymem x).mp hy).2 hx
            · intro x hx
              rcases List.mem_append.mp hx with hx | hx
              · exact rl x hx
              · exact .tail ra ⟨r, hlk, ((ymem x).mp hx).1⟩ (by simp)
            · intro j a' hj ha' c' st'
              by_cases hji : j < i
              · rw [List.getElem?_append_left (by omega)] at ha'
                exact List.mem_append_left _ (cl j a' hji ha' c' st')
              · obtain rfl : j = i := by omega
                rw [List.getElem?_append_left (by omega), ha] at ha'
                cases ha'
                obtain ⟨r', hr', m'⟩ := st'
                rw [hlk] at hr'
                cases hr'
                by_cases hcl : c' ∈ l
                · exact List.mem_append_left _ hcl
                · exact List.mem_append_right _ ((ymem c').mpr ⟨m', hcl⟩)
      · have hlt : ¬ i < l.length := by
          have : ¬ (i : Int) < (l.length : Int) := by simpa using hlt
          omega
        walk_at "go"
        refine k p _ _ l (N1.frz g1 h1 hp) upd_same hp ndl fun x => ⟨rl x, fun h => h.within (· ∈ l) sl fun a c ha st _ => ?_⟩
        obtain ⟨j, hj⟩ := List.mem_iff_getElem?.mp ha
        have : j < l.length := (List.getElem?_eq_some_iff.mp hj).1
        exact cl j a (by omega) hj c st
end
end K69
set_option Elab.async false
set_option linter.all false
set_option maxRecDepth 100000
set_option maxHeartbeats 4000000
namespace K69
open PySem PySem.Spec PyProof.Rows L2
section
variable {P : Program} {w : World} {K : PySem.W.Frag} {mg : Str → Option Value} {base : Heap} {C : Addr}
local macro_rules | `(tactic| walk_at "lk") => `(tactic| first | assumption | exact upd_same | exact (by assumption : Ex _ _) _ _ (by assumption))
local macro_rules | `(tactic| walk_at "g1") => `(tactic| first
  | with_reducible refine g_seq ?_ | with_reducible refine g_asg ?_ | with_reducible refine g_name ?_ | with_reducible refine g_cons ?_ | with_reducible refine g_nil ?_
  | ((with_reducible refine' g_var ?e ?_); (case e => exact rfl)) | with_reducible refine g_C ?_ | with_reducible refine g_op ?_ | with_reducible refine g_fld0 ?_ | with_reducible refine g_dget ?_ | with_reducible refine g_cb ?_ | with_reducible refine g_call ?_
  | with_reducible refine g_ret ?_ | with_reducible refine g_ifS ?_ | with_reducible refine g_test ?_ | with_reducible refine g_B ?_ | with_reducible refine g_bl ?_ | with_reducible refine g_not ?_ | with_reducible refine g_or ?_ | with_reducible refine g_and ?_
  | with_reducible refine g_ite ?_ | with_reducible refine g_itf ?_ | with_reducible refine g_itnt ?_ | with_reducible refine g_itnf ?_ | with_reducible refine g_eqS ?_ | with_reducible refine g_neS ?_ | with_reducible refine g_neI ?_ | with_reducible refine g_eqB ?_ | with_reducible refine g_neB ?_ | with_reducible refine g_eqI ?_ | with_reducible refine g_rI0 ?_ | with_reducible refine g_ipI ?_ | with_reducible refine g_int ?_
  | with_reducible refine g_drop ?_ | with_reducible refine g_next ?_ | with_reducible refine g_bm ?_ | with_reducible refine g_bm0 ?_ | with_reducible refine g_din ?_ | with_reducible refine g_dnotin ?_ | with_reducible refine g_dput ?_ | ((with_reducible refine' g_aug ?e ?_); (case e => exact rfl))
  | with_reducible refine g_andV ?_ | with_reducible refine g_orV ?_ | with_reducible refine g_notV ?_ | with_reducible refine g_if ?_ | with_reducible refine g_isN ?_ | with_reducible refine g_notN ?_ | with_reducible refine g_sl ?_ | with_reducible refine g_nopart ?_ | with_reducible refine g_part ?_
  | with_reducible refine g_gcons ?_ | with_reducible refine g_gnil ?_ | with_reducible refine g_par2 ?_ | with_reducible refine g_par3 ?_ | with_reducible refine g_vw ?_ | with_reducible refine g_uvw ?_ | with_reducible refine g_yes ?_ | with_reducible refine g_un ?_ | with_reducible refine g_rU ?_ | with_reducible refine g_gsub ?_ | with_reducible refine g_chain ?_ | with_reducible refine g_for ?_ | with_reducible refine g_istr ?_ | with_reducible refine g_ilist ?_ | with_reducible refine g_itup ?_ | with_reducible refine g_ikeys ?_ | with_reducible refine g_ivals ?_ | with_reducible refine g_iitems ?_ | with_reducible refine g_irng1 ?_ | with_reducible refine g_izip ?_ | with_reducible refine g_while ?_ | with_reducible refine g_tru _ ?_ | with_reducible refine g_lc ?_ | with_reducible refine g_dc ?_ | with_reducible refine g_lc2 ?_ | with_reducible refine g_tup ?_ | with_reducible refine g_lst ?_ | with_reducible refine g_dnew ?_ | with_reducible refine g_sfld ?_ | with_reducible refine g_dget2 ?_ | with_reducible refine g_dzip ?_ | with_reducible refine g_dnewT ?_ | with_reducible refine g_dispT ?_ | with_reducible refine g_star ?_ | with_reducible refine g_disp ?_ | with_reducible refine g_prs ?_ | with_reducible refine g_prs0 ?_ | with_reducible refine g_sc ?_ | with_reducible refine g_make ?_ | with_reducible refine g_meth ?_
  | ((with_reducible refine' g_ixT ?h ?e ?_); (case h => walk_at "lk"); (case e => exact rfl)) | ((with_reducible refine' g_ixL ?h ?e ?_); (case h => walk_at "lk"); (case e => exact rfl))
  | ((with_reducible refine' g_fldK ?h ?c ?n ?l ?_); (case h => walk_at "lk"); (case c => exact C8.InsC.cl (Txt.insC (by assumption))); (case n => first | exact Txt.nR (by assumption) | exact Txt.nF (by assumption)); (case l => exact rfl)))
local macro_rules | `(tactic| walk_at "go") => `(tactic| (repeat walk_at "g1"))
local macro_rules | `(tactic| walk_at "ty") => `(tactic| first | exact .base (.str _) | exact .base .non | exact .base (.bl _) | exact .base (.int _) | exact .base (.tup (by assumption)) | exact .base (.lst (by assumption)) | exact .base (.dK (by assumption)) | exact .fDict (by assumption))
abbrev sends_without : Stmt := topS 25
abbrev Nends_without : List Str := ["desk", "barred", "waiting", "met", "state", "goal"]
theorem scends_without : FnScope Nends_without ["desk", "barred"] (defScope sends_without) := ⟨rfl, rfl, rfl, by decide +kernel, rfl, by decide +kernel, by decide +kernel⟩
def sp_ends_without (C : Addr) : Sp := fun vs H Q _ => ∃ (a : Addr) (bk : Book) (s bar : Str), vs = [.ref a, .str bar] ∧ DeskAt C H a bk s ∧ BookOk bk ∧ s ∈ bk.map (·.1) ∧
  ∀ v H', (v = true ↔ Ends bk (some bar) s) → Ex H H' → Q (.bl v) H'
/-- x is behind us: not done, and all the next ones are met -/
def Past (bk : Book) (bar : Str) (M : List Str) (x : Str) : Prop := ¬ isDone bk x ∧ ∀ b, stp bk x b → b ≠ bar → b ∈ M
theorem Past.mono {bk : Book} {bar : Str} {M M' : List Str} {x : Str} (h : Past bk bar M x) (e : ∀ y ∈ M, y ∈ M') : Past bk bar M' x := ⟨h.1, fun b st nb => e b (h.2 b st nb)⟩
/-- the search, w the stack, M the met ones -/
structure DfsI (bk : Book) (bar s : Str) (wl M : List Str) (X : Str → Prop) : Prop where
  nd : M.Nodup
  st : s ∈ M
  rc : ∀ x ∈ M, Rch bk (some bar) s x
  sub : ∀ x ∈ wl, x ∈ M
  le : wl.length ≤ M.length
  cl : ∀ x ∈ M, x ∈ wl ∨ X x ∨ Past bk bar M x
theorem cal_ends_without (F : Has K mg "ends_without" sends_without) (T : Txt K w mg C) (c_is_done : Cal P w K mg base 1 "is_done" (sp_is_done C)) : Cal P w K mg base 2 "ends_without" (sp_ends_without C) := by
  refine F.cal (fun _ _ _ _ _ _ us hl => match us, hl with | [_, _], _ => rfl) scends_without (fun vs H Q E h => ?_) (fun f cdv A outer s H vs Q E hr h => ?_)
  · obtain ⟨a, bk, s, bar, rfl, _⟩ := h; rfl
  · obtain ⟨a, bk, s, bar, rfl, da, ok, hs, k⟩ := h
    have nd := scends_without.nd
    have hu := hu_of hr
    refine ⟨_, (pss_cons (ps_if (pt_cmpR op_eq (kFld K (pv 0)) (pv 1) (nomark _))
    (pss_one (ps_ret pe_bl)) pss_nil)
  (pss_cons (ps_par (i := 2) (j := 3) rfl nd rfl rfl (by decide) rfl rfl (pa_cons (pe_lst (pa_cons (kFld K (pv 0)) pa_nil)) (pa_cons (pe_disp (pps_cons (kFld K (pv 0)) pe_bl pps_nil) (by rfl) (by rfl) (fun z => by cases z) (by decide)) pa_nil)) (by rfl))
  (pss_cons (ps_while PassesOwn.never (kTruth K (pv 2))
    (pss_cons (ps_set (i := 4) nd rfl (Or.inl rfl) (kBm0 K PySem.F.plainAttrs_list PySem.F.slot_list_pop PySem.F.type_list_pop mt_pop (pv 2)))
    (pss_cons (ps_if (pt_val (kc c_is_done hr (pa_cons (pv 0) (pa_cons (pv 4) pa_nil))))
      (pss_one (ps_ret pe_bl)) pss_nil)
    (pss_one (ps_lock (ps_for PassesOwn.never rfl (pi_values (pe_ix (kIxT K) (pe_dget hu (kFld K (pv 0)) (pv 4) (fun _ _ => rfl)) pe_int (fun _ _ => rfl))) (pg_name (i := 5) nd rfl (Or.inl rfl))
      (pss_one (ps_if (PW.pt (pw_and (pt_cmp (pc_dnotin hu (pv 5) (pv 3))) (pw_and1 (pt_cmpR op_ne (pv 5) (pv 1) (nomark _)))))
        (pss_cons (ps_dput hu (pv 3) (pv 5) pe_bl rfl)
        (pss_one (ps_expr (kBm K PySem.F.plainAttrs_list PySem.F.slot_list_append PySem.F.type_list_append mt_append (pv 2) (pa_cons (pv 5) pa_nil))))) pss_nil))))))))
  (pss_one (ps_ret pe_bl))))), ?_⟩
    have da' := da
    obtain ⟨b, dx, ha, _, rs, hb, hrs⟩ := da'
    walk_at "go"
    refine ite2 (fun h0 => ?_) (fun h0 => ?_)
    · have h0 : s = bar := by simpa using h0
      walk_at "go"
      refine k false H ⟨fun z => (by cases z), fun ⟨t, hr, _⟩ => ?_⟩ (Ex.refl H)
      exact absurd (by rw [h0]) hr.start
    · have h0 : s ≠ bar := by simpa using h0
      walk_at "go"
      refine ⟨by show 1 ≤ sizeLine; decide, fun wp hwp => ?_⟩
      have e1 : Ex H (upd H wp (.lst [.str s])) := Ex.new hwp
      have ha1 := e1 _ _ ha
      have hw1 : (upd H wp (.lst [.str s])) wp = some (.lst [.str s]) := upd_same
      generalize upd H wp (.lst [.str s]) = H1 at e1 ha1 hw1 ⊢
      walk_at "go"
      intro mp hmp
      have hmp0 : H mp = none := e1.back hmp
      have nwm : wp ≠ mp := ne_of_none hw1 hmp
      have ha2 : (upd H1 mp (.dK [])) a = _ := (Ex.new hmp) _ _ ha1
      walk_at "go"
      refine ⟨upd_same, [(Sum.inr s, .bl true)], rfl, by show 1 ≤ 15; decide, ?_⟩
      rw [upd_upd]
      walk_at "go"
      refine ⟨fun m σ H' => ∃ (wl M : List Str) (x y : Option V), σ = [some (.ref a), some (.str bar), some (.ref wp), some (.ref mp), x, y] ∧ Ex H H' ∧ H' wp = some (.lst (wl.map V.str)) ∧ H' mp = some (.dK (kvM M)) ∧ DfsI bk bar s wl M (fun _ => False) ∧ m = 2 * (26 - M.length) + wl.length, ?_, ?_⟩
      · refine ⟨2 * (26 - 1) + 1, [s], [s], none, none, rfl, e1.own hmp0, by rw [upd_ne nwm]; exact hw1, upd_same, ⟨by simp, by simp, fun x hx => ?_, fun x hx => hx, Nat.le_refl _, fun x hx => .inl hx⟩, rfl⟩
        rw [List.mem_singleton.mp hx]
        exact .refl (fun z => h0 (Option.some.inj z).symm)
      · rintro m σ H2 ⟨wl, M, xo, yo, rfl, e2, hw2, hm2, I, rfl⟩
        have Mlen : M.length ≤ 26 := by
          have h1 := nodup_le M (bk.map (·.1)) I.nd fun x hx => (I.rc x hx).key ok hs
          have h2 := ok.few
          rw [List.length_map] at h1
          omega
        walk_at "go"
        refine ⟨_, .inl ⟨_, SqL.of hw2, rfl⟩, ?_⟩
        rcases List.eq_nil_or_concat wl with rfl | ⟨wl, x, rfl⟩
        · refine g_itf ?_
          walk_at "go"
          refine k false H2 ⟨fun z => (by cases z), fun ⟨t, hr, hd⟩ => ?_⟩ e2
          have hM : t ∈ M := hr.within (· ∈ M) I.st fun c d hc st nb => by
            rcases I.cl c hc with h | h | h
            · cases h
            · exact h.elim
            · exact h.2 d st fun z => nb (by rw [z])
          rcases I.cl t hM with h | h | h
          · cases h
          · exact h.elim
          · exact absurd hd h.1
        · rw [List.concat_eq_append] at *
          have ne : ((wl ++ [x]).map V.str).isEmpty = false := by simp
          rw [ne]
          refine g_itnf ?_
          have mx : x ∈ M := I.sub x (by simp)
          have rx := I.rc x mx
          obtain ⟨r, hlk, hmem⟩ := ok.get (rx.key ok hs)
          have okr : RowOk r := ok.row _ hmem
          have few := okr.few
          obtain ⟨c, hv, d, hc, hd⟩ := RowsAt.get hrs hlk
          refine ⟨fun σ' H' => ∃ (wl' M' : List Str) (xo yo : Option V), σ' = [some (.ref a), some (.str bar), some (.ref wp), some (.ref mp), xo, yo] ∧ Ex H H' ∧ H' wp = some (.lst (wl'.map V.str)) ∧ H' mp = some (.dK (kvM M')) ∧ DfsI bk bar s wl' M' (fun _ => False) ∧ 2 * (26 - M'.length) + wl'.length < 2 * (26 - M.length) + (wl ++ [x]).length, ?_, ?_⟩
          · rintro σ' H' ⟨wl', M', x', y', rfl, e', hw', hm', I', hlt⟩
            exact ⟨_, hlt, wl', M', x', y', rfl, e', hw', hm', I', rfl⟩
          · walk_at "go"
            refine ⟨.inl ⟨rfl, _, SqL.of hw2⟩, ?_⟩
            refine ⟨wp, _, .str x, rfl, rfl, hw2, by simp, ?_⟩
            have e3 : Ex H (upd H2 wp (.lst (wl.map V.str))) := e2.own hwp
            have ewl : ((wl ++ [x]).map V.str).dropLast = wl.map V.str := by simp
            rw [ewl]
            have hw3 : (upd H2 wp (.lst (wl.map V.str))) wp = _ := upd_same
            have hm3 : (upd H2 wp (.lst (wl.map V.str))) mp = some (.dK (kvM M)) := by rw [upd_ne (Ne.symm nwm)]; exact hm2
            generalize upd H2 wp (.lst (wl.map V.str)) = H3 at e3 hw3 hm3 ⊢
            walk_at "go"
            refine ⟨a, bk, s, x, r, rfl, (da.mono e3).rd, hlk, ?_⟩
            walk_at "go"
            refine ite2 (fun hdn => ?_) (fun hdn => ?_)
            · walk_at "go"
              exact k true H3 ⟨fun _ => ⟨x, rx, r, hlk, by simpa using hdn⟩, fun _ => rfl⟩ e3
            · have hdn : ¬ r.1 = "done" := by simpa using hdn
              have ha3 := e3 _ _ ha
              have hb3 := e3 _ _ hb
              have hc3 := e3 _ _ hc
              have hd3 := e3 _ _ hd
              walk_at "go"
              refine ⟨d, _, hd3, trivial, fun od => ?_⟩
              have nad : a ≠ d := ne_of ha hd (by intro z; cases z)
              have nbd : b ≠ d := fun z => book_ne hb hd (fun e => by subst e; cases hrs; exact ok.ne rfl) z.symm
              have ncd : c ≠ d := ne_of hc hd (by intro z; cases z)
              have nwd : wp ≠ d := fun z => by subst z; rw [hd] at hwp; cases hwp
              have nmd : mp ≠ d := fun z => by subst z; rw [hd] at hmp0; cases hmp0
              have L := Lk.mk' (od := od) (Ex.refl H3) hd3
              have ha4 := L.keep _ _ nad ha3
              have hb4 := L.keep _ _ nbd hb3
              have hc4 := L.keep _ _ ncd hc3
              walk_at "go"
              refine g_dgs (s := x) (.inl hb4) hv ?_
              walk_at "go"
              refine ⟨d, od, kvS r.2, rfl, L.self, ?_⟩
              clear ha4 hb4 hc4 L
              refine for_it walk_values (fun j σ' H' => ∃ (wl' M' : List Str) (yo : Option V) (Hu : Hp), σ' = [some (.ref a), some (.str bar), some (.ref wp), some (.ref mp), some (.str x), yo] ∧ H' = upd Hu d (.frz od (.dK (kvS r.2))) ∧ Hu d = some (.dK (kvS r.2)) ∧ Ex H Hu ∧ Hu wp = some (.lst (wl'.map V.str)) ∧ Hu mp = some (.dK (kvM M')) ∧
                DfsI bk bar s wl' M' (fun z => z = x) ∧ (∀ q ∈ r.2.take j, q.2 ≠ bar → q.2 ∈ M') ∧ x ∈ M' ∧ 2 * (26 - M'.length) + wl'.length ≤ 2 * (26 - M.length) + wl.length) ?_ ?_ ?_ ?_
              · refine ⟨wl, M, yo, H3, rfl, rfl, hd3, e3, hw3, hm3, ⟨I.nd, I.st, I.rc, fun z hz => I.sub z (by simp [hz]), by have := I.le; simp at this; omega, fun z hz => ?_⟩, by simp, mx, Nat.le_refl _⟩
                rcases I.cl z hz with h | h | h
                · rcases List.mem_append.mp h with h | h
                  · exact .inl h
                  · exact .inr (.inl (List.mem_singleton.mp h))
                · exact h.elim
                · exact .inr (.inr h)
              · rintro j σ' H' _ ⟨wl', M', yo', Hu, rfl, rfl, hud, _⟩
                exact upd_same
              · rintro j y σ' H' H'' hj ⟨wl', M', yo', Hu, rfl, rfl, hud, eu, hwu, hmu, I', hq', hx', hlt⟩ ⟨rfl, k1, hk⟩
                obtain ⟨q, hq, rfl, rfl⟩ := kvS_get hk
                have mq := List.mem_of_getElem? hq
                have stq : stp bk x q.2 := ⟨r, hlk, List.mem_map.mpr ⟨q, mq, rfl⟩⟩
                have Mlen' : M'.length ≤ 26 := by
                  have h1 := nodup_le M' (bk.map (·.1)) I'.nd fun x hx => (I'.rc x hx).key ok hs
                  have h2 := ok.few
                  rw [List.length_map] at h1
                  omega
                walk_at "go"
                refine ⟨mp, _, rfl, DGet.s (.inl (by rw [upd_ne nmd]; exact hmu)) rfl, ?_⟩
                rw [valV_kvM]
                walk_at "go"
                have old : ∀ (hqm : q.2 = bar ∨ q.2 ∈ M'), (∀ z ∈ r.2.take (j + 1), z.2 ≠ bar → z.2 ∈ M') := fun hqm z hz nb => by
                  rw [take_snoc hq] at hz
                  rcases List.mem_append.mp hz with h | h
                  · exact hq' z h nb
                  · rw [List.mem_singleton] at h
                    subst h
                    exact hqm.elim (fun e => absurd e nb) id
                by_cases hqm : q.2 ∈ M'
                · rw [if_pos hqm]
                  walk_at "go"
                  refine g_itnt ?_
                  walk_at "go"
                  exact ⟨wl', M', _, Hu, rfl, rfl, hud, eu, hwu, hmu, I', old (.inr hqm), hx', hlt⟩
                · rw [if_neg hqm]
                  walk_at "go"
                  refine g_itnf ?_
                  walk_at "go"
                  by_cases hqb : q.2 = bar
                  · rw [decide_eq_true hqb]
                    walk_at "go"
                    exact ⟨wl', M', _, Hu, rfl, rfl, hud, eu, hwu, hmu, I', old (.inl hqb), hx', hlt⟩
                  · rw [decide_eq_false hqb]
                    walk_at "go"
                    have hmu' : (upd Hu d (.frz od (.dK (kvS r.2)))) mp = some (.dK (kvM M')) := by rw [upd_ne nmd]; exact hmu
                    refine ⟨mp, _, rfl, DPut.s hmu' (by simp only [kvM, List.length_map]; exact small1000 (by omega)), ?_⟩
                    rw [putK_kvM hqm, upd_sw (Ne.symm nmd)]
                    have eu2 : Ex H (upd Hu mp (.dK (kvM (M' ++ [q.2])))) := eu.own hmp0
                    have hwu2 : (upd Hu mp (.dK (kvM (M' ++ [q.2])))) wp = some (.lst (wl'.map V.str)) := by rw [upd_ne nwm]; exact hwu
                    have hmu2 : (upd Hu mp (.dK (kvM (M' ++ [q.2])))) mp = some (.dK (kvM (M' ++ [q.2]))) := upd_same
                    have hud2 : (upd Hu mp (.dK (kvM (M' ++ [q.2])))) d = some (.dK (kvS r.2)) := by rw [upd_ne (Ne.symm nmd)]; exact hud
                    generalize upd Hu mp (.dK (kvM (M' ++ [q.2]))) = Hv at eu2 hwu2 hmu2 hud2 ⊢
                    have hwv : (upd Hv d (.frz od (.dK (kvS r.2)))) wp = some (.lst (wl'.map V.str)) := by rw [upd_ne nwd]; exact hwu2
                    walk_at "go"
                    refine ⟨.inl ⟨rfl, _, SqL.of hwv⟩, ?_⟩
                    walk_at "go"
                    refine ⟨wp, _, .str q.2, rfl, rfl, hwv, by rw [List.length_map]; have := I'.le; exact small1000 (by omega), ?_⟩
                    walk_at "go"
                    rw [upd_sw (Ne.symm nwd)]
                    have len2 : (M' ++ [q.2]).length ≤ 26 := by
                      have h1 := nodup_le (M' ++ [q.2]) (bk.map (·.1)) (List.nodup_append.mpr ⟨I'.nd, by simp, fun z hz y hy e => hqm (by rw [List.mem_singleton] at hy; rw [← hy, ← e]; exact hz)⟩) fun z hz => by
                        rcases List.mem_append.mp hz with h | h
                        · exact (I'.rc z h).key ok hs
                        · rw [List.mem_singleton] at h; subst h
                          exact (Rch.tail (I'.rc x hx') stq (bar := some bar) (fun z => hqb (Option.some.inj z).symm)).key ok hs
                      have h2 := ok.few
                      rw [List.length_map] at h1
                      omega
                    refine ⟨wl' ++ [q.2], M' ++ [q.2], _, _, rfl, rfl, by rw [upd_ne (Ne.symm nwd)]; exact hud2, eu2.own hwp, by rw [upd_same, List.map_append]; rfl, by rw [upd_ne (Ne.symm nwm)]; exact hmu2, ⟨?_, ?_, ?_, ?_, ?_, ?_⟩, ?_, ?_, ?_⟩
                    · exact List.nodup_append.mpr ⟨I'.nd, by simp, fun z hz y hy e => hqm (by rw [List.mem_singleton] at hy; rw [← hy, ← e]; exact hz)⟩
                    · exact List.mem_append_left _ I'.st
                    · intro z hz
                      rcases List.mem_append.mp hz with h | h
                      · exact I'.rc z h
                      · rw [List.mem_singleton] at h; subst h
                        exact .tail (I'.rc x hx') stq (fun z => hqb (Option.some.inj z).symm)
                    · intro z hz
                      rcases List.mem_append.mp hz with h | h
                      · exact List.mem_append_left _ (I'.sub z h)
                      · exact List.mem_append_right _ h
                    · have := I'.le; simp; omega
                    · intro z hz
                      rcases List.mem_append.mp hz with h | h
                      · rcases I'.cl z h with h | h | h
                        · exact .inl (List.mem_append_left _ h)
                        · exact .inr (.inl h)
                        · exact .inr (.inr (h.mono fun y hy => List.mem_append_left _ hy))
                      · exact .inl (List.mem_append_right _ h)
                    · intro z hz nb
                      rw [take_snoc hq] at hz
                      rcases List.mem_append.mp hz with h | h
                      · exact List.mem_append_left _ (hq' z h nb)
                      · rw [List.mem_singleton] at h; subst h
                        exact List.mem_append_right _ (by simp)
                    · exact List.mem_append_left _ hx'
                    · simp at len2 ⊢; omega
              · rintro σ' H' ⟨wl', M', yo', Hu, rfl, rfl, hud, eu, hwu, hmu, I', hq', hx', hlt⟩
                rw [List.take_of_length_le (by simp [kvS])] at hq'
                refine ⟨upd_same, ?_⟩
                rw [upd_un hud]
                refine ⟨wl', M', _, _, rfl, eu, hwu, hmu, ⟨I'.nd, I'.st, I'.rc, I'.sub, I'.le, fun z hz => ?_⟩, by simp; omega⟩
                rcases I'.cl z hz with h | h | h
                · exact .inl h
                · subst h
                  refine .inr (.inr ⟨fun ⟨r', h1, h2⟩ => ?_, fun e st nb => ?_⟩)
                  · rw [hlk] at h1; cases h1; exact hdn h2
                  · obtain ⟨r', h1, h2⟩ := st
                    rw [hlk] at h1; cases h1
                    obtain ⟨q, hq, rfl⟩ := List.mem_map.mp h2
                    exact hq' q hq nb
                · exact .inr (.inr h)
end
end K69
set_option Elab.async false
set_option linter.all false
set_option maxRecDepth 100000
set_option maxHeartbeats 4000000
namespace K69
open PySem PySem.Spec PyProof.Rows L2
def dnb (bk : Book) (x : Str) : Bool := match bk.lookup x with | some r => decide (r.1 = "done") | none => false
theorem dnb_iff {bk : Book} {x : Str} : dnb bk x = true ↔ isDone bk x := by
  unfold dnb isDone
  cases e : bk.lookup x with
  | none => simp
  | some r => simp
theorem dnb_of {bk : Book} {x : Str} {r : Row} (h : bk.lookup x = some r) : dnb bk x = decide (r.1 = "done") := by unfold dnb; rw [h]
theorem waistsL_nil {bk : Book} (ok : BookOk bk) {s : Str} (hs : s ∈ bk.map (·.1)) (h : ¬ Ends bk none s) : waistsL bk s = [] := by
  cases e : waistsL bk s with
  | nil => rfl
  | cons x l => exact absurd ((waistsL_mem ok hs).mp (by rw [e]; exact List.mem_cons_self)).1 h
theorem strs_get {l : List Str} {i : Nat} {x : V} (h : (l.map V.str)[i]? = some x) : ∃ y, l[i]? = some y ∧ x = .str y := by
  rw [List.getElem?_map] at h
  cases e : l[i]? with
  | none => rw [e] at h; cases h
  | some y => rw [e] at h; cases h; exact ⟨y, rfl, rfl⟩
section
variable {P : Program} {w : World} {K : PySem.W.Frag} {mg : Str → Option Value} {base : Heap} {C : Addr}
local macro_rules | `(tactic| walk_at "lk") => `(tactic| first | assumption | exact upd_same | exact (by assumption : Ex _ _) _ _ (by assumption))
local macro_rules | `(tactic| walk_at "g1") => `(tactic| first
  | with_reducible refine g_seq ?_ | with_reducible refine g_asg ?_ | with_reducible refine g_name ?_ | with_reducible refine g_cons ?_ | with_reducible refine g_nil ?_
  | ((with_reducible refine' g_var ?e ?_); (case e => exact rfl)) | with_reducible refine g_C ?_ | with_reducible refine g_op ?_ | with_reducible refine g_fld0 ?_ | with_reducible refine g_dget ?_ | with_reducible refine g_cb ?_ | with_reducible refine g_call ?_
  | with_reducible refine g_ret ?_ | with_reducible refine g_ifS ?_ | with_reducible refine g_test ?_ | with_reducible refine g_B ?_ | with_reducible refine g_bl ?_ | with_reducible refine g_not ?_ | with_reducible refine g_or ?_ | with_reducible refine g_and ?_
  | with_reducible refine g_ite ?_ | with_reducible refine g_itf ?_ | with_reducible refine g_itnt ?_ | with_reducible refine g_itnf ?_ | with_reducible refine g_eqS ?_ | with_reducible refine g_neS ?_ | with_reducible refine g_neI ?_ | with_reducible refine g_eqB ?_ | with_reducible refine g_neB ?_ | with_reducible refine g_eqI ?_ | with_reducible refine g_rI0 ?_ | with_reducible refine g_ipI ?_ | with_reducible refine g_int ?_
  | with_reducible refine g_drop ?_ | with_reducible refine g_next ?_ | with_reducible refine g_bm ?_ | with_reducible refine g_bm0 ?_ | with_reducible refine g_din ?_ | with_reducible refine g_dnotin ?_ | with_reducible refine g_dput ?_ | ((with_reducible refine' g_aug ?e ?_); (case e => exact rfl))
  | with_reducible refine g_andV ?_ | with_reducible refine g_orV ?_ | with_reducible refine g_notV ?_ | with_reducible refine g_if ?_ | with_reducible refine g_isN ?_ | with_reducible refine g_notN ?_ | with_reducible refine g_sl ?_ | with_reducible refine g_nopart ?_ | with_reducible refine g_part ?_
  | with_reducible refine g_gcons ?_ | with_reducible refine g_gnil ?_ | with_reducible refine g_par2 ?_ | with_reducible refine g_par3 ?_ | with_reducible refine g_vw ?_ | with_reducible refine g_uvw ?_ | with_reducible refine g_yes ?_ | with_reducible refine g_un ?_ | with_reducible refine g_rU ?_ | with_reducible refine g_gsub ?_ | with_reducible refine g_chain ?_ | with_reducible refine g_for ?_ | with_reducible refine g_istr ?_ | with_reducible refine g_ilist ?_ | with_reducible refine g_itup ?_ | with_reducible refine g_ikeys ?_ | with_reducible refine g_ivals ?_ | with_reducible refine g_iitems ?_ | with_reducible refine g_irng1 ?_ | with_reducible refine g_izip ?_ | with_reducible refine g_while ?_ | with_reducible refine g_tru _ ?_ | with_reducible refine g_lc ?_ | with_reducible refine g_dc ?_ | with_reducible refine g_lc2 ?_ | with_reducible refine g_tup ?_ | with_reducible refine g_lst ?_ | with_reducible refine g_dnew ?_ | with_reducible refine g_sfld ?_ | with_reducible refine g_dget2 ?_ | with_reducible refine g_dzip ?_ | with_reducible refine g_dnewT ?_ | with_reducible refine g_dispT ?_ | with_reducible refine g_star ?_ | with_reducible refine g_disp ?_ | with_reducible refine g_prs ?_ | with_reducible refine g_prs0 ?_ | with_reducible refine g_sc ?_ | with_reducible refine g_make ?_ | with_reducible refine g_meth ?_
  | ((with_reducible refine' g_ixT ?h ?e ?_); (case h => walk_at "lk"); (case e => exact rfl)) | ((with_reducible refine' g_ixL ?h ?e ?_); (case h => walk_at "lk"); (case e => exact rfl))
  | ((with_reducible refine' g_fldK ?h ?c ?n ?l ?_); (case h => walk_at "lk"); (case c => exact C8.InsC.cl (Txt.insC (by assumption))); (case n => first | exact Txt.nR (by assumption) | exact Txt.nF (by assumption)); (case l => exact rfl)))
local macro_rules | `(tactic| walk_at "go") => `(tactic| (repeat walk_at "g1"))
local macro_rules | `(tactic| walk_at "ty") => `(tactic| first | exact .base (.str _) | exact .base .non | exact .base (.bl _) | exact .base (.int _) | exact .base (.tup (by assumption)) | exact .base (.lst (by assumption)) | exact .base (.dK (by assumption)) | exact .fDict (by assumption))
abbrev swaists_of : Stmt := topS 26
abbrev Nwaists_of : List Str := ["desk", "states", "state"]
theorem scwaists_of : FnScope Nwaists_of ["desk"] (defScope swaists_of) := ⟨rfl, rfl, rfl, by decide +kernel, rfl, by decide +kernel, by decide +kernel⟩
def sp_waists_of (C : Addr) : Sp := fun vs H Q _ => ∃ (a : Addr) (bk : Book) (s : Str) (G : Hp), vs = [.ref a] ∧ Ex G H ∧ DeskAt C G a bk s ∧ BookOk bk ∧ s ∈ bk.map (·.1) ∧
  ∀ p G' H', Nxt none G H G' H' → G' p = some (.lst ((waistsL bk s).map V.str)) → H p = none → Q (.ref p) H'
open Classical in
theorem cal_waists_of (F : Has K mg "waists_of" swaists_of) (T : Txt K w mg C) (c_is_done : Cal P w K mg base 1 "is_done" (sp_is_done C)) (c_reached_from : Cal P w K mg base 1 "reached_from" sp_reached_from)
    (c_ends_without : Cal P w K mg base 2 "ends_without" (sp_ends_without C)) : Cal P w K mg base 3 "waists_of" (sp_waists_of C) := by
  refine F.cal (fun _ _ _ _ _ _ us hl => match us, hl with | [_], _ => rfl) scwaists_of (fun vs H Q E h => ?_) (fun f cdv A outer s H vs Q E hr h => ?_)
  · obtain ⟨a, bk, s, G, rfl, _⟩ := h; rfl
  · obtain ⟨a, bk, s, G, rfl, eG, da, ok, hs, k⟩ := h
    have nd := scwaists_of.nd
    have hu := hu_of hr
    refine ⟨_, (pss_cons (ps_set (i := 1) nd rfl (Or.inl rfl) (pe_callB (kSortS K) (by rfl) T.sorted (by decide +kernel) (pa_cons (kc c_reached_from hr (pa_cons (kFld K (pv 0)) (pa_cons (kFld K (pv 0)) pa_nil))) pa_nil)))
  (pss_cons (ps_if (pt_not (pt_val (pe_callB (kAny K rfl) (by rfl) T.any (by decide +kernel) (pa_cons (pe_lc (own := [("state", 2)]) rfl nd (kpList K (pv 1)) (blkOk_by (N := Nwaists_of) (sc := defScope swaists_of) (by decide +kernel)) (fun _ _ _ _ _ => (pg_name (i := 2) nd rfl (Or.inl rfl))) (fun _ _ _ _ _ => pts_nil) (fun _ _ _ _ _ => (kc c_is_done hr (pa_cons (pv 0) (pa_cons (pv 2) pa_nil))))) pa_nil))))
    (pss_one (ps_ret (pe_lst pa_nil))) pss_nil)
  (pss_one (ps_ret (pe_lc (own := [("state", 2)]) rfl nd (kpList K (pv 1)) (blkOk_by (N := Nwaists_of) (sc := defScope swaists_of) (by decide +kernel)) (fun _ _ _ _ _ => (pg_name (i := 2) nd rfl (Or.inl rfl))) (fun _ _ _ _ _ => pts_one (pt_not (pt_val (kc c_ends_without hr (pa_cons (pv 0) (pa_cons (pv 2) pa_nil)))))) (fun _ _ _ _ _ => (pv 2))))))), ?_⟩
    have da' := da.mono eG
    obtain ⟨b, dx, hag, _, hbb⟩ := da
    have ha := eG _ _ hag
    walk_at "go"
    refine ⟨b, bk, s, G, rfl, eG, hbb, ok, hs, fun p G1 H1 l N1 gp hp ndl hl => ?_⟩
    have llen : l.length ≤ 26 := by
      have h1 := nodup_le l (bk.map (·.1)) ndl fun x hx => ((hl x).mp hx).key ok hs
      have h2 := ok.few
      rw [List.length_map] at h1
      omega
    have hp1 := N1.gh _ _ gp
    walk_at "go"
    refine ⟨p, l, rfl, SqL.of hp1, by omega, fun ys q pm so hq => ?_⟩
    have ylen : ys.length ≤ 26 := by rw [pm.length_eq]; exact llen
    have hy : ∀ x, x ∈ ys ↔ Rch bk none s x := fun x => pm.mem_iff.trans (hl x)
    have N2 : Nxt none G H G1 (upd H1 q (.lst (ys.map V.str))) := N1.own hq (N1.none0 hq)
    have hq2 : (upd H1 q (.lst (ys.map V.str))) q = some (.lst (ys.map V.str)) := upd_same
    generalize upd H1 q (.lst (ys.map V.str)) = H2 at N2 hq2 ⊢
    walk_at "go"
    have key : ∀ x ∈ ys, ∃ r, bk.lookup x = some r := fun x hx => let ⟨r, h, _⟩ := ok.get (((hy x).mp hx).key ok hs); ⟨r, h⟩
    refine ⟨q, rfl, ⟨_, SqL.of hq2⟩, fun D hD => ?_⟩
    refine lc_gen walk_list (Ex.refl H2) hD (by rw [List.length_map]; exact small1000 (by omega)) (fun i acc _ => acc = ((ys.take i).map (dnb bk)).map V.bl) rfl (fun H' e => SqL.of (e _ _ hq2)) ?_ ?_
    · rintro i x G3 H3 H4 acc Kt Kf hi N g0 hh hl' rfl ⟨rfl, hx⟩ ht hf
      obtain ⟨y, hy', rfl⟩ := strs_get hx
      obtain ⟨r, hlk⟩ := key y (List.mem_of_getElem? hy')
      walk_at "go"
      refine ⟨rfl, ?_⟩
      walk_at "go"
      refine ⟨a, bk, s, y, r, rfl, ((da'.mono N2.ex).mono N.ex).rd, hlk, ?_⟩
      rw [← dnb_of hlk]
      exact ht (.bl (dnb bk y)) G3 H4 (Nxt.refl N.gh) (by rw [take_snoc hy']; simp)
    · rintro G3 H3 acc N g0 hh hl' rfl
      rw [List.length_map, List.take_length] at hh
      walk_at "go"
      refine ⟨D, _, rfl, SqL.of hh, ?_⟩
      have N3 : Nxt none G H G1 H3 := N2.trans (Nxt.flat N2.gh N.ex)
      walk_at "go"
      cases hany : (ys.map (dnb bk)).any id with
      | false =>
        refine g_itnf ?_
        walk_at "go"
        refine ⟨Nat.zero_le _, fun z hz => ?_⟩
        have hno : ¬ Ends bk none s := fun ⟨t, hr, hd⟩ => by
          have := List.any_eq_false.mp hany (dnb bk t) (List.mem_map.mpr ⟨t, (hy t).mpr hr, rfl⟩)
          exact this (dnb_iff.mpr hd)
        refine k z _ _ (N3.new hz (N3.none0 hz)) ?_ (N3.none0 hz)
        rw [waistsL_nil ok hs hno, upd_same]
        rfl
      | true =>
        refine g_itnt ?_
        have hyes : Ends bk none s := by
          obtain ⟨v, hv, hb⟩ := List.any_eq_true.mp hany
          obtain ⟨t, ht, rfl⟩ := List.mem_map.mp hv
          exact ⟨t, (hy t).mp ht, dnb_iff.mp hb⟩
        have hq3 := N.ex _ _ hq2
        walk_at "go"
        refine ⟨q, rfl, ⟨_, SqL.of hq3⟩, fun D2 hD2 => ?_⟩
        refine lc_gen walk_list N3.gh hD2 (by rw [List.length_map]; exact small1000 (by omega)) (fun i acc _ => acc = ((ys.take i).filter fun x => decide (¬ Ends bk (some x) s)).map V.str) rfl (fun H' e => SqL.of (e _ _ hq3)) ?_ ?_
        · rintro i x G4 H4 H5 acc Kt Kf hi N4 g4 hh4 hl4 rfl ⟨rfl, hx⟩ ht hf
          obtain ⟨y, hy', rfl⟩ := strs_get hx
          walk_at "go"
          refine ⟨rfl, ?_⟩
          walk_at "go"
          refine ⟨a, bk, s, y, rfl, (da'.mono N3.ex).mono N4.ex, ok, hs, fun v H6 hv e6 => ?_⟩
          walk_at "go"
          cases v with
          | true =>
            refine g_itnt ?_
            refine hf G4 H6 (Nxt.flat N4.gh e6) ?_
            rw [take_snoc hy', List.filter_append, List.filter_cons_of_neg (by simpa using hv.mp rfl)]
            simp
          | false =>
            refine g_itnf ?_
            walk_at "go"
            have hne : ¬ Ends bk (some y) s := fun z => by simpa using hv.mpr z
            refine ht (.str y) G4 H6 (Nxt.flat N4.gh e6) ?_
            rw [take_snoc hy', List.filter_append, List.filter_cons_of_pos (by simpa using hne)]
            simp
        · rintro G4 H4 acc N4 g4 hh4 hl4 rfl
          rw [List.length_map, List.take_length] at hh4
          have e : ys.filter (fun x => decide (¬ Ends bk (some x) s)) = waistsL bk s := by
            have ndy : ys.Nodup := pm.nodup_iff.mpr ndl
            rw [← waistsL_of ok hs (ndy.filter (fun x => decide (¬ Ends bk (some x) s))) fun x => ?_]
            · exact (srtS_id (((sortedS_iff ys).mp so).filter _)).symm
            · rw [List.mem_filter, hy, decide_eq_true_eq]
              exact ⟨fun h => ⟨hyes, h.1, h.2⟩, fun h => ⟨h.2.1, h.2.2⟩⟩
          have M := N3.trans N4
          have hD20 := N3.none0 hD2
          exact k D2 _ _ (M.frz g4 hh4 hD20) (by rw [upd_same, e]) hD20
abbrev swaists : Stmt := topS 27
abbrev Nwaists : List Str := ["desk"]
theorem scwaists : FnScope Nwaists ["desk"] (defScope swaists) := ⟨rfl, rfl, rfl, by decide +kernel, rfl, by decide +kernel, by decide +kernel⟩
theorem cal_waists (F : Has K mg "waists" swaists) (T : Txt K w mg C) (c_check_desk : Cal P w K mg base 1 "check_desk" (sp_check_desk C)) (c_waists_of : Cal P w K mg base 3 "waists_of" (sp_waists_of C)) :
    Cal P w K mg base 4 "waists" (sp_waists_of C) := by
  refine F.cal (fun _ _ _ _ _ _ us hl => match us, hl with | [_], _ => rfl) scwaists (fun vs H Q E h => ?_) (fun f cdv A outer s H vs Q E hr h => ?_)
  · obtain ⟨a, bk, s, G, rfl, _⟩ := h; rfl
  · obtain ⟨a, bk, s, G, rfl, eG, da, ok, hs, k⟩ := h
    have nd := scwaists.nd
    have hu := hu_of hr
    refine ⟨_, (pss_cons (ps_expr (kc c_check_desk hr (pa_cons (pv 0) pa_nil)))
  (pss_one (ps_ret (kc c_waists_of hr (pa_cons (pv 0) pa_nil))))), ?_⟩
    have da' := da
    obtain ⟨b, dx, hag, _, hbb⟩ := da'
    walk_at "go"
    refine ⟨a, dx, _, rfl, eG _ _ hag, ?_⟩
    walk_at "go"
    exact ⟨a, bk, s, G, rfl, eG, da, ok, hs, k⟩
end
end K69
set_option Elab.async false
set_option linter.all false
set_option maxRecDepth 100000
set_option maxHeartbeats 4000000
namespace K69
open PySem PySem.Spec PyProof.Rows L2
theorem putK_kvM' {M : List Str} {x : Str} (h : x ∈ M) : putK (kvM M) (Sum.inr x : Key) (.bl true) = kvM M := by
  have an : ((kvM M).any fun kv => decide (kv.1 = (Sum.inr x : Key))) = true := List.any_eq_true.mpr ⟨(Sum.inr x, .bl true), List.mem_map.mpr ⟨x, h, rfl⟩, by simp⟩
  unfold putK
  rw [if_pos an]
  unfold kvM
  rw [List.map_map]
  refine List.map_congr_left fun y _ => ?_
  show (if (Sum.inr y : Key) = Sum.inr x then ((Sum.inr y : Key), V.bl true) else (Sum.inr y, V.bl true)) = _
  split <;> rfl
theorem mergeM : ∀ (l M0 : List Str), M0.Nodup → ∃ M, mergeK (kvM M0) (l.map fun g => ((Sum.inr g : Key), V.bl true)) = kvM M ∧ M.Nodup ∧ (∀ x, x ∈ M ↔ x ∈ M0 ∨ x ∈ l) ∧ M.length ≤ M0.length + l.length
  | [], M0, nd => ⟨M0, rfl, nd, by simp, by simp⟩
  | a :: l, M0, nd => by
    show ∃ M, mergeK (putK (kvM M0) (Sum.inr a) (.bl true)) (l.map fun g => ((Sum.inr g : Key), V.bl true)) = kvM M ∧ _
    by_cases h : a ∈ M0
    · rw [putK_kvM' h]
      obtain ⟨M, e, n, m, le⟩ := mergeM l M0 nd
      refine ⟨M, e, n, fun x => (m x).trans ⟨fun q => q.elim .inl fun q => .inr (List.mem_cons_of_mem _ q), fun q => q.elim .inl fun q => ?_⟩, by simp; omega⟩
      rcases List.mem_cons.mp q with rfl | q
      · exact .inl h
      · exact .inr q
    · rw [putK_kvM h]
      have nd2 : (M0 ++ [a]).Nodup := List.nodup_append.mpr ⟨nd, by simp, fun x hx y hy e => h (by rw [List.mem_singleton] at hy; rw [← hy, ← e]; exact hx)⟩
      obtain ⟨M, e, n, m, le⟩ := mergeM l (M0 ++ [a]) nd2
      refine ⟨M, e, n, fun x => (m x).trans ?_, by simp at le ⊢; omega⟩
      simp only [List.mem_append, List.mem_cons, List.not_mem_nil, or_false, or_assoc]
def rSortedD : List V → Hp → VK → Prop := fun xs H Q => ∃ (a : Addr) (kvs : List (Key × V)) (ks : List Str), xs = [.ref a] ∧ Rd H a (.dK kvs) ∧ kvs.map (·.1) = ks.map Sum.inr ∧ ks.length < 64 ∧
    ∀ (ys : List Str) (p : Addr), ys.Perm ks → sortedS ys = true → H p = none → Q (.ref p) (upd H p (.lst (ys.map V.str)))
/-- sorted(dict([(turns[word], True) for word in turns])), as both searches of the law have it -/
def tGoals (K : PySem.W.Frag) : TE := tCB rSortedD (tCons (tCB (rDictP K) (tCons (tLockE (tLc (iKeys (tVar 4)) (gName 6) tYes (tTup (tCons (tDGet (tVar 4) (tVar 6)) (tCons (tC (.bl true)) tNil))) [6])) tNil)) tNil)
def kvG1 (l : List (Str × Str)) : List (Key × V) := l.map fun q => ((Sum.inr q.2 : Key), V.bl true)
section
variable {K : PySem.W.Frag}
local macro_rules | `(tactic| walk_at "lk") => `(tactic| first | assumption | exact upd_same | exact (by assumption : Ex _ _) _ _ (by assumption))
local macro_rules | `(tactic| walk_at "g1") => `(tactic| first
  | with_reducible refine g_seq ?_ | with_reducible refine g_asg ?_ | with_reducible refine g_name ?_ | with_reducible refine g_cons ?_ | with_reducible refine g_nil ?_
  | ((with_reducible refine' g_var ?e ?_); (case e => exact rfl)) | with_reducible refine g_C ?_ | with_reducible refine g_op ?_ | with_reducible refine g_fld0 ?_ | with_reducible refine g_dget ?_ | with_reducible refine g_cb ?_ | with_reducible refine g_call ?_
  | with_reducible refine g_ret ?_ | with_reducible refine g_ifS ?_ | with_reducible refine g_test ?_ | with_reducible refine g_B ?_ | with_reducible refine g_bl ?_ | with_reducible refine g_not ?_ | with_reducible refine g_or ?_ | with_reducible refine g_and ?_
  | with_reducible refine g_ite ?_ | with_reducible refine g_itf ?_ | with_reducible refine g_itnt ?_ | with_reducible refine g_itnf ?_ | with_reducible refine g_eqS ?_ | with_reducible refine g_neS ?_ | with_reducible refine g_neI ?_ | with_reducible refine g_eqB ?_ | with_reducible refine g_neB ?_ | with_reducible refine g_eqI ?_ | with_reducible refine g_rI0 ?_ | with_reducible refine g_ipI ?_ | with_reducible refine g_int ?_
  | with_reducible refine g_drop ?_ | with_reducible refine g_next ?_ | with_reducible refine g_bm ?_ | with_reducible refine g_bm0 ?_ | with_reducible refine g_din ?_ | with_reducible refine g_dnotin ?_ | with_reducible refine g_dput ?_ | ((with_reducible refine' g_aug ?e ?_); (case e => exact rfl))
  | with_reducible refine g_andV ?_ | with_reducible refine g_orV ?_ | with_reducible refine g_notV ?_ | with_reducible refine g_if ?_ | with_reducible refine g_isN ?_ | with_reducible refine g_notN ?_ | with_reducible refine g_sl ?_ | with_reducible refine g_nopart ?_ | with_reducible refine g_part ?_
  | with_reducible refine g_gcons ?_ | with_reducible refine g_gnil ?_ | with_reducible refine g_par2 ?_ | with_reducible refine g_par3 ?_ | with_reducible refine g_vw ?_ | with_reducible refine g_uvw ?_ | with_reducible refine g_yes ?_ | with_reducible refine g_un ?_ | with_reducible refine g_rU ?_ | with_reducible refine g_gsub ?_ | with_reducible refine g_chain ?_ | with_reducible refine g_for ?_ | with_reducible refine g_istr ?_ | with_reducible refine g_ilist ?_ | with_reducible refine g_itup ?_ | with_reducible refine g_ikeys ?_ | with_reducible refine g_ivals ?_ | with_reducible refine g_iitems ?_ | with_reducible refine g_irng1 ?_ | with_reducible refine g_izip ?_ | with_reducible refine g_while ?_ | with_reducible refine g_tru _ ?_ | with_reducible refine g_lc ?_ | with_reducible refine g_dc ?_ | with_reducible refine g_lc2 ?_ | with_reducible refine g_tup ?_ | with_reducible refine g_lst ?_ | with_reducible refine g_dnew ?_ | with_reducible refine g_sfld ?_ | with_reducible refine g_dget2 ?_ | with_reducible refine g_dzip ?_ | with_reducible refine g_dnewT ?_ | with_reducible refine g_dispT ?_ | with_reducible refine g_star ?_ | with_reducible refine g_disp ?_ | with_reducible refine g_prs ?_ | with_reducible refine g_prs0 ?_ | with_reducible refine g_sc ?_ | with_reducible refine g_make ?_ | with_reducible refine g_meth ?_
  | ((with_reducible refine' g_ixT ?h ?e ?_); (case h => walk_at "lk"); (case e => exact rfl)) | ((with_reducible refine' g_ixL ?h ?e ?_); (case h => walk_at "lk"); (case e => exact rfl))
  | ((with_reducible refine' g_fldK ?h ?c ?n ?l ?_); (case h => walk_at "lk"); (case c => exact C8.InsC.cl (Txt.insC (by assumption))); (case n => first | exact Txt.nR (by assumption) | exact Txt.nF (by assumption)); (case l => exact rfl)))
local macro_rules | `(tactic| walk_at "go") => `(tactic| (repeat walk_at "g1"))
local macro_rules | `(tactic| walk_at "ty") => `(tactic| first | exact .base (.str _) | exact .base .non | exact .base (.bl _) | exact .base (.int _) | exact .base (.tup (by assumption)) | exact .base (.lst (by assumption)) | exact .base (.dK (by assumption)) | exact .fDict (by assumption))
theorem rd_goals {x0 x1 x2 x3 x5 x6 : Option V} {rest : List (Option V)} {G H : Hp} {Q : VK} {d : Addr} {ts : Turns} (eG : Ex G H) (hd : H d = some (.dK (kvS ts))) (few : ts.length ≤ 20) (ndt : (ts.map (·.1)).Nodup)
    (k : ∀ q H' (ys : List Str), Nxt none G H G H' → H' q = some (.lst (ys.map V.str)) → H q = none → ys.length ≤ 20 → ys.Nodup → (∀ x, x ∈ ys ↔ x ∈ ts.map (·.2)) → Q (.ref q) H') :
    tGoals K (x0 :: x1 :: x2 :: x3 :: some (.ref d) :: x5 :: x6 :: rest) H Q := by
  show tCB _ _ _ _ _
  walk_at "go"
  refine ⟨d, _, hd, trivial, fun od => ?_⟩
  have L := Lk.mk' (od := od) eG hd
  generalize upd H d (.frz od (.dK (kvS ts))) = HL at L ⊢
  walk_at "go"
  refine ⟨d, od, rfl, .inl ⟨kvS ts, L.self, fun D hD => ?_⟩⟩
  refine lc_gen walk_keys L.ex hD (by simp only [kvS, List.length_map]; exact small1000 (by omega)) (fun i acc Gi => ∃ ps : List Addr, acc = ps.map V.ref ∧ Paired (fun p kv => Gi p = some (.tup [kV kv.1, kv.2])) ps (kvG1 (ts.take i))) ⟨[], rfl, .nil⟩ (fun H' e => e _ _ L.self) ?_ ?_
  · rintro i y G3 H3 H4 acc Kt Kf hi N g0 hh hl' ⟨ps, rfl, pp⟩ ⟨rfl, k1, v1, hk, rfl⟩ ht hf
    obtain ⟨q, hq, rfl, rfl⟩ := kvS_get hk
    walk_at "go"
    refine ⟨rfl, ?_⟩
    walk_at "go"
    refine g_dgs (s := q.1) (.inr ⟨od, N.ex _ _ L.self⟩) (by rw [valV_kvS, mem_lookup ndt (List.mem_of_getElem? hq)]; rfl) ?_
    walk_at "go"
    refine ⟨by show 2 ≤ sizeLine; decide, fun p hp => ?_⟩
    refine ht (.ref p) _ _ (Nxt.new1 N.gh hp) ⟨ps ++ [p], by simp, ?_⟩
    rw [take_snoc hq]
    unfold kvG1
    rw [List.map_append]
    refine Paired.snoc (Paired.mapP pp fun a b e => ?_) upd_same
    rw [upd_ne (ne_of_none e (N.gh.back hp))]; exact e
  · rintro G3 H3 acc N g0 hh hl' ⟨ps, rfl, pp⟩
    rw [List.take_of_length_le (by simp [kvS])] at pp
    obtain ⟨G4, N4, hd3, e34, g3d, g34⟩ := L.back _ _ (N.frz g0 hh hD)
    refine ⟨hd3, ?_⟩
    have nDd : D ≠ d := (L.fresh D hD).2
    have hD4 : (upd H3 d (.dK (kvS ts))) D = some (.lst (ps.map V.ref)) := by rw [upd_ne nDd]; exact hh
    generalize upd H3 d (.dK (kvS ts)) = H4 at N4 hD4 ⊢
    have pp4 : Paired (fun p kv => H4 p = some (.tup [kV kv.1, kv.2])) ps (kvG1 ts) := Paired.mapP pp fun a b e => N4.gh _ _ (e34 _ _ ((Ex.new g0) _ _ e))
    walk_at "go"
    refine ⟨D, ps, kvG1 ts, rfl, SqL.of hD4, Paired.mapP pp4 fun a b e => SqT.of e, fun p hp => ?_⟩
    have N5 : Nxt none G H G4 (upd H4 p (.dK (mergeK [] (kvG1 ts)))) := N4.own hp (N4.none0 hp)
    have hp5 : (upd H4 p (.dK (mergeK [] (kvG1 ts)))) p = some (.dK (mergeK [] (kvG1 ts))) := upd_same
    generalize upd H4 p (.dK (mergeK [] (kvG1 ts))) = H5 at N5 hp5 ⊢
    obtain ⟨M, eM, ndM, mM, lM⟩ := mergeM (ts.map (·.2)) [] List.nodup_nil
    have e0 : mergeK [] (kvG1 ts) = kvM M := by
      rw [← eM]
      show mergeK [] _ = mergeK [] _
      unfold kvG1
      rw [List.map_map]
      rfl
    rw [e0] at hp5
    have lM' : M.length ≤ 20 := by simp at lM; omega
    walk_at "go"
    refine ⟨p, kvM M, M, rfl, .inl hp5, kvM_keys M, by omega, fun ys q pm so hq => ?_⟩
    refine k q _ ys (N5.own hq (N5.none0 hq)).forget upd_same (N5.none0 hq) (by rw [pm.length_eq]; exact lM') (pm.nodup_iff.mpr ndM) fun x => ?_
    rw [pm.mem_iff, mM]
    simp
end
end K69
set_option Elab.async false
set_option linter.all false
set_option maxRecDepth 100000
set_option maxHeartbeats 4000000
namespace K69
open PySem PySem.Spec PyProof.Rows L2
def Closed (bk : Book) (bar : Option Str) (l : List Str) (a : Str) : Prop := ∀ b, stp bk a b → bar ≠ some b → b ∈ l
theorem nodup_grow {l ys : List Str} (h1 : l.Nodup) (h2 : ys.Nodup) (p : Str → Bool) (hp : ∀ x, p x = true → x ∉ l) : (l ++ ys.filter p).Nodup :=
  List.nodup_append.mpr ⟨h1, h2.filter _, fun x hx y hy e => by subst e; exact hp x (List.mem_filter.mp hy).2 hx⟩
theorem keys_le {bk : Book} (ok : BookOk bk) {s : Str} {bar : Option Str} (hs : s ∈ bk.map (·.1)) {l : List Str} (nd : l.Nodup) (h : ∀ x ∈ l, Rch bk bar s x) : l.length ≤ bk.length := by
  have h1 := nodup_le l (bk.map (·.1)) nd fun x hx => (h x hx).key ok hs
  rwa [List.length_map] at h1
section
variable {P : Program} {w : World} {K : PySem.W.Frag} {mg : Str → Option Value} {base : Heap} {C : Addr}
local macro_rules | `(tactic| walk_at "lk") => `(tactic| first | assumption | exact upd_same | exact (by assumption : Ex _ _) _ _ (by assumption))
local macro_rules | `(tactic| walk_at "g1") => `(tactic| first
  | with_reducible refine g_seq ?_ | with_reducible refine g_asg ?_ | with_reducible refine g_name ?_ | with_reducible refine g_cons ?_ | with_reducible refine g_nil ?_
  | ((with_reducible refine' g_var ?e ?_); (case e => exact rfl)) | with_reducible refine g_C ?_ | with_reducible refine g_op ?_ | with_reducible refine g_fld0 ?_ | with_reducible refine g_dget ?_ | with_reducible refine g_cb ?_ | with_reducible refine g_call ?_
  | with_reducible refine g_ret ?_ | with_reducible refine g_ifS ?_ | with_reducible refine g_test ?_ | with_reducible refine g_B ?_ | with_reducible refine g_bl ?_ | with_reducible refine g_not ?_ | with_reducible refine g_or ?_ | with_reducible refine g_and ?_
  | with_reducible refine g_ite ?_ | with_reducible refine g_itf ?_ | with_reducible refine g_itnt ?_ | with_reducible refine g_itnf ?_ | with_reducible refine g_eqS ?_ | with_reducible refine g_neS ?_ | with_reducible refine g_neI ?_ | with_reducible refine g_eqB ?_ | with_reducible refine g_neB ?_ | with_reducible refine g_eqI ?_ | with_reducible refine g_rI0 ?_ | with_reducible refine g_ipI ?_ | with_reducible refine g_int ?_
  | with_reducible refine g_drop ?_ | with_reducible refine g_next ?_ | with_reducible refine g_bm ?_ | with_reducible refine g_bm0 ?_ | with_reducible refine g_din ?_ | with_reducible refine g_dnotin ?_ | with_reducible refine g_dput ?_ | ((with_reducible refine' g_aug ?e ?_); (case e => exact rfl))
  | with_reducible refine g_andV ?_ | with_reducible refine g_orV ?_ | with_reducible refine g_notV ?_ | with_reducible refine g_if ?_ | with_reducible refine g_isN ?_ | with_reducible refine g_notN ?_ | with_reducible refine g_sl ?_ | with_reducible refine g_nopart ?_ | with_reducible refine g_part ?_
  | with_reducible refine g_gcons ?_ | with_reducible refine g_gnil ?_ | with_reducible refine g_par2 ?_ | with_reducible refine g_par3 ?_ | with_reducible refine g_vw ?_ | with_reducible refine g_uvw ?_ | with_reducible refine g_yes ?_ | with_reducible refine g_un ?_ | with_reducible refine g_rU ?_ | with_reducible refine g_gsub ?_ | with_reducible refine g_chain ?_ | with_reducible refine g_for ?_ | with_reducible refine g_istr ?_ | with_reducible refine g_ilist ?_ | with_reducible refine g_itup ?_ | with_reducible refine g_ikeys ?_ | with_reducible refine g_ivals ?_ | with_reducible refine g_iitems ?_ | with_reducible refine g_irng1 ?_ | with_reducible refine g_izip ?_ | with_reducible refine g_while ?_ | with_reducible refine g_tru _ ?_ | with_reducible refine g_lc ?_ | with_reducible refine g_dc ?_ | with_reducible refine g_lc2 ?_ | with_reducible refine g_tup ?_ | with_reducible refine g_lst ?_ | with_reducible refine g_dnew ?_ | with_reducible refine g_sfld ?_ | with_reducible refine g_dget2 ?_ | with_reducible refine g_dzip ?_ | with_reducible refine g_dnewT ?_ | with_reducible refine g_dispT ?_ | with_reducible refine g_star ?_ | with_reducible refine g_disp ?_ | with_reducible refine g_prs ?_ | with_reducible refine g_prs0 ?_ | with_reducible refine g_sc ?_ | with_reducible refine g_make ?_ | with_reducible refine g_meth ?_
  | ((with_reducible refine' g_ixT ?h ?e ?_); (case h => walk_at "lk"); (case e => exact rfl)) | ((with_reducible refine' g_ixL ?h ?e ?_); (case h => walk_at "lk"); (case e => exact rfl))
  | ((with_reducible refine' g_fldK ?h ?c ?n ?l ?_); (case h => walk_at "lk"); (case c => exact C8.InsC.cl (Txt.insC (by assumption))); (case n => first | exact Txt.nR (by assumption) | exact Txt.nF (by assumption)); (case l => exact rfl)))
local macro_rules | `(tactic| walk_at "go") => `(tactic| (repeat walk_at "g1"))
local macro_rules | `(tactic| walk_at "ty") => `(tactic| first | exact .base (.str _) | exact .base .non | exact .base (.bl _) | exact .base (.int _) | exact .base (.tup (by assumption)) | exact .base (.lst (by assumption)) | exact .base (.dK (by assumption)) | exact .fDict (by assumption))
abbrev sl_come_to : Stmt := topS 45
abbrev Nl_come_to : List Str := ["_law_world_here", "_law_found", "_law_turn", "_law_state", "_law_turns_here", "_law_goal", "_law_word_here"]
theorem scl_come_to : FnScope Nl_come_to ["_law_world_here"] (defScope sl_come_to) := ⟨rfl, rfl, rfl, by decide +kernel, rfl, by decide +kernel, by decide +kernel⟩
def sp_come_to : Sp := fun vs H Q _ => ∃ (a : Addr) (bk : Book) (s : Str) (G : Hp), vs = [.ref a] ∧ Ex G H ∧ WorldAt G a bk s ∧ BookOk bk ∧ s ∈ bk.map (·.1) ∧
  ∀ p G' H' (l : List Str), Nxt none G H G' H' → G' p = some (.lst (l.map V.str)) → H p = none → l.Nodup → (∀ x, x ∈ l ↔ Rch bk none s x) → Q (.ref p) H'
theorem cal_come_to (F : Has K mg "_law_come_to" sl_come_to) (T : Txt K w mg C) : Cal P w K mg base 1 "_law_come_to" sp_come_to := by
  refine F.cal (fun _ _ _ _ _ _ us hl => match us, hl with | [_], _ => rfl) scl_come_to (fun vs H Q E h => ?_) (fun f cdv A outer s H vs Q E hr h => ?_)
  · obtain ⟨a, bk, s, G, rfl, _⟩ := h; rfl
  · obtain ⟨a, bk, s, G, rfl, eG, ⟨b, hag, rs, hbg, hrs⟩, ok, hs, k⟩ := h
    have nd := scl_come_to.nd
    have hu := hu_of hr
    refine ⟨_, (pss_cons (ps_set (i := 1) nd rfl (Or.inr rfl) (pe_lst (pa_cons (pe_ix (kIxL K) (pv 0) pe_int (fun _ _ => rfl)) pa_nil)))
  (pss_cons (ps_for PassesOwn.never rfl (pi_range1 (by rfl) T.range (pa_cons (pe_callB call_lenD (by rfl) T.len (by decide +kernel) (pa_cons (pe_ix (kIxL K) (pv 0) pe_int (fun _ _ => rfl)) pa_nil)) pa_nil)) (pg_name (i := 2) nd rfl (Or.inl rfl))
    (pss_one (ps_for PassesOwn.never rfl (kpList K (pe_callTy (kList K) (by rfl) T.tlist (by decide +kernel) (pa_cons (pv 1) pa_nil))) (pg_name (i := 3) nd rfl (Or.inl rfl))
      (pss_cons (ps_set (i := 4) nd rfl (Or.inr rfl) (pe_ix (kIxT K) (pe_dget hu (pe_ix (kIxL K) (pv 0) pe_int (fun _ _ => rfl)) (pv 3) (fun _ _ => rfl)) pe_int (fun _ _ => rfl)))
      (pss_one (ps_set (i := 1) nd rfl (Or.inr rfl) (pe_op op_cat (pv 1) (pe_lc (own := [("_law_goal", 5)]) rfl nd (kpList K (pe_callB (call_sortedD rfl) (by rfl) T.sorted (by decide +kernel) (pa_cons (pe_callTy (kDictP K rfl) (by rfl) T.tdict (by decide +kernel) (pa_cons (pe_lock (pe_lc (own := [("_law_word_here", 6)]) rfl nd (pi_keys (pv 4)) (blkOk_by (N := Nl_come_to) (sc := defScope sl_come_to) (by decide +kernel)) (fun _ _ _ _ _ => (pg_name (i := 6) nd rfl (Or.inl rfl))) (fun _ _ _ _ _ => pts_nil) (fun _ _ _ _ _ => (pe_tup (pa_cons (pe_dget hu (pv 4) (pv 6) (fun _ _ => rfl)) (pa_cons pe_bl pa_nil)))))) pa_nil)) pa_nil))) (blkOk_by (N := Nl_come_to) (sc := defScope sl_come_to) (by decide +kernel)) (fun _ _ _ _ _ => (pg_name (i := 5) nd rfl (Or.inl rfl))) (fun _ _ _ _ _ => pts_one (pt_cmpR (kNotIn K) (pv 5) (pv 1) rfl)) (fun _ _ _ _ _ => (pv 5))))))))))
  (pss_one (ps_ret (pe_callB (kSortS K) (by rfl) T.sorted (by decide +kernel) (pa_cons (pv 1) pa_nil)))))), ?_⟩
    have ha := eG _ _ hag
    have hb := eG _ _ hbg
    have few := ok.few
    have rlen := hrs.len
    walk_at "go"
    refine ⟨by show 1 ≤ sizeLine; decide, fun p hp => ?_⟩
    have N1 : Nxt none G H G (upd H p (.lst [.str s])) := (Nxt.refl eG).own hp hp
    have hp1 : (upd H p (.lst [.str s])) p = some (.lst ([s].map V.str)) := upd_same
    generalize upd H p (.lst [.str s]) = H1 at N1 hp1 ⊢
    have ha1 := N1.ex _ _ ha
    have hb1 := N1.ex _ _ hb
    walk_at "go"
    refine ⟨b, kvR rs, rfl, hb1, ?_⟩
    walk_at "go"
    have klen : (kvR rs).length = bk.length := by simp [kvR, rlen]
    rw [klen]
    refine ⟨(bk.length : Int), rfl, by omega, by omega, ?_⟩
    have kt : ((bk.length : Int)).toNat = bk.length := by omega
    rw [kt]
    refine for_it walk_range (fun i σ' H' => ∃ (p : Addr) (l : List Str) (x2 x3 x4 : Option V), σ' = [some (.ref a), some (.ref p), x2, x3, x4, none, none] ∧ Nxt none G H G H' ∧ H' p = some (.lst (l.map V.str)) ∧ l.Nodup ∧ s ∈ l ∧ (∀ x ∈ l, Rch bk none s x) ∧ ((∀ x ∈ l, Closed bk none l x) ∨ i + 1 ≤ l.length))
      ⟨p, [s], none, none, none, rfl, N1, hp1, by simp, by simp, fun x hx => by rw [List.mem_singleton.mp hx]; exact .refl (by simp), .inr (by simp)⟩ (fun _ _ _ _ _ => trivial) ?_ ?_
    · rintro i x σ' _ H2 hi ⟨p, l, x2, x3, x4, rfl, N2, hp2, ndl, sl, rl, hcl⟩ ⟨rfl, rfl⟩
      have llen := keys_le ok hs ndl rl
      walk_at "go"
      refine ⟨p, _, rfl, .inl (SqL.of hp2), fun lc hlc => ?_⟩
      have N3 := N2.own (o := .lst (l.map V.str)) hlc (N2.none0 hlc)
      have hc3 : (upd H2 lc (.lst (l.map V.str))) lc = some (.lst (l.map V.str)) := upd_same
      have hp3 : (upd H2 lc (.lst (l.map V.str))) p = some (.lst (l.map V.str)) := (Ex.new hlc) _ _ hp2
      have hlc0 := N2.none0 hlc
      generalize upd H2 lc (.lst (l.map V.str)) = H3 at N3 hc3 hp3 ⊢
      refine ⟨lc, rfl, ⟨_, SqL.of hc3⟩, ?_⟩
      refine for_it walk_list (fun j σ' H' => ∃ (p : Addr) (l' : List Str) (x3 x4 : Option V), σ' = [some (.ref a), some (.ref p), some (.int (0 + (i : Int))), x3, x4, none, none] ∧ Nxt none G H G H' ∧ H' lc = some (.lst (l.map V.str)) ∧ H' p = some (.lst (l'.map V.str)) ∧ l'.Nodup ∧ (∀ x ∈ l, x ∈ l') ∧ (∀ x ∈ l', Rch bk none s x) ∧
        (l' = l ∨ l.length + 1 ≤ l'.length) ∧ ((∀ x ∈ l, Closed bk none l x) → l' = l) ∧ (∀ m x, m < j → l[m]? = some x → Closed bk none l' x))
        ⟨p, l, x3, x4, rfl, N3, hc3, hp3, ndl, fun x hx => hx, rl, .inl rfl, fun _ => rfl, fun m x h => by omega⟩ (fun _ _ _ _ q => let ⟨_, _, _, _, _, _, h, _⟩ := q; SqL.of h) ?_ ?_
      · rintro j y σ' H4 H5 hj ⟨p, l', x3, x4, rfl, N4, hc4, hp4, ndl', sub, rl', gr, cc, cl⟩ ⟨rfl, hy⟩
        obtain ⟨y, hy', rfl⟩ := strs_get hy
        clear hy
        have hy := hy'
        have my : y ∈ l := List.mem_of_getElem? hy
        have ry := rl y my
        obtain ⟨r, hlk, hmem⟩ := ok.get (ry.key ok hs)
        have okr : RowOk r := ok.row _ hmem
        obtain ⟨c, hv, d, hc, hd⟩ := RowsAt.get hrs hlk
        have ha4 := N4.gh _ _ hag
        have hb4 := N4.gh _ _ hbg
        have hcc4 := N4.gh _ _ hc
        have hd4 := N4.gh _ _ hd
        have llen' := keys_le ok hs ndl' rl'
        walk_at "go"
        refine g_dgs (s := y) (.inl hb4) hv ?_
        iterate 7 walk_at "g1"
        refine rd_goals (ts := r.2) N4.gh hd4 okr.few okr.nd fun q H6 ys N6 hq6 hq0 ylen yn ym => ?_
        refine ⟨q, rfl, ⟨_, SqL.of hq6⟩, fun D hD => ?_⟩
        have hp6 := N6.ex _ _ hp4
        refine lc_gen walk_list (Ex.refl H6) hD (by rw [List.length_map]; exact small1000 (by omega)) (fun m acc _ => acc = ((ys.take m).filter fun x => !decide (x ∈ l')).map V.str) rfl (fun H' e => SqL.of (e _ _ hq6)) ?_ ?_
        · rintro m z G7 H7 H8 acc Kt Kf hm N7 g7 hh7 hl7 rfl ⟨rfl, hz⟩ ht hf
          obtain ⟨z, hz', rfl⟩ := strs_get hz
          clear hz
          have hz := hz'
          walk_at "go"
          refine ⟨rfl, ?_⟩
          walk_at "go"
          refine g_nin (.inl (SqL.of (N7.ex _ _ hp6))) rfl (flatS l') (inV_str z l') ?_
          walk_at "go"
          cases hzl : decide (z ∈ l') with
          | true =>
            refine g_itnt ?_
            refine hf G7 H8 (Nxt.refl N7.gh) ?_
            rw [take_snoc hz, List.filter_append, List.filter_cons_of_neg (by rw [hzl]; simp)]
            simp
          | false =>
            refine g_itnf ?_
            walk_at "go"
            refine ht (.str z) G7 H8 (Nxt.refl N7.gh) ?_
            rw [take_snoc hz, List.filter_append, List.filter_cons_of_pos (by rw [hzl]; rfl)]
            simp
        · rintro G7 H7 acc N7 g7 hh7 hl7 rfl
          rw [List.length_map, List.take_length] at hh7
          have flen := List.length_filter_le (fun x => !decide (x ∈ l')) ys
          walk_at "go"
          refine ⟨p, D, l'.map V.str, _, rfl, rfl, N7.ex _ _ hp6, hh7, by rw [List.length_map, List.length_map]; exact Nat.le_of_lt (small1000 (by omega)), fun p2 hp2 => ?_⟩
          walk_at "go"
          have N8 : Nxt none G H G H7 := N4.trans (N6.trans (Nxt.flat N6.gh N7.ex))
          have sub2 : ∀ x ∈ l', x ∈ l' ++ ys.filter fun x => !decide (x ∈ l') := fun x hx => List.mem_append_left _ hx
          have clt : Closed bk none (l' ++ ys.filter fun x => !decide (x ∈ l')) y := fun b ⟨r', h1, h2⟩ _ => by
            rw [hlk] at h1; cases h1
            by_cases hb : b ∈ l'
            · exact sub2 b hb
            · exact List.mem_append_right _ (List.mem_filter.mpr ⟨(ym b).mpr h2, by simpa using hb⟩)
          refine ⟨p2, l' ++ ys.filter fun x => !decide (x ∈ l'), _, _, rfl, N8.own hp2 (N8.none0 hp2), (Ex.new hp2) _ _ (N7.ex _ _ (N6.ex _ _ hc4)), by rw [upd_same, List.map_append], nodup_grow ndl' yn _ (by simp), fun x hx => sub2 x (sub x hx), ?_, ?_, ?_, ?_⟩
          · intro x hx
            rcases List.mem_append.mp hx with h | h
            · exact rl' x h
            · exact .tail ry ⟨r, hlk, (ym x).mp (List.mem_filter.mp h).1⟩ (by simp)
          · cases hf : ys.filter (fun x => !decide (x ∈ l')) with
            | nil => rw [List.append_nil]; exact gr
            | cons u us =>
              have := nodup_le l l' ndl sub
              right; simp; omega
          · intro hcl
            have e := cc hcl
            have : ys.filter (fun x => !decide (x ∈ l')) = [] := List.filter_eq_nil_iff.mpr fun x hx => by
              have := hcl y my x ⟨r, hlk, (ym x).mp hx⟩ (by simp)
              rw [e]
              simpa using this
            rw [this, List.append_nil, e]
          · intro m x hm hx b st nb
            by_cases hmj : m < j
            · exact sub2 b (cl m x hmj hx b st nb)
            · obtain rfl : m = j := by omega
              rw [hy] at hx; cases hx
              exact clt b st nb
      · rintro σ' H4 ⟨p, l', x3, x4, rfl, N4, hc4, hp4, ndl', sub, rl', gr, cc, cl⟩
        refine ⟨p, l', _, _, _, rfl, N4, hp4, ndl', sub s sl, rl', ?_⟩
        have all : ∀ x ∈ l, Closed bk none l' x := fun x hx => by
          obtain ⟨m, hm⟩ := List.mem_iff_getElem?.mp hx
          have : m < l.length := (List.getElem?_eq_some_iff.mp hm).1
          exact cl m x (by rw [List.length_map]; exact this) hm
        rcases gr with e | g
        · left; subst e; exact all
        · rcases hcl with h | h
          · left
            have e := cc h
            rw [e]; exact h
          · right; omega
    · rintro σ' H2 ⟨p, l, x2, x3, x4, rfl, N2, hp2, ndl, sl, rl, hcl⟩
      have llen := keys_le ok hs ndl rl
      have all : ∀ x ∈ l, Closed bk none l x := by
        rcases hcl with h | h
        · exact h
        · omega
      walk_at "go"
      refine ⟨p, l, rfl, SqL.of hp2, by omega, fun ys q pm so hq => ?_⟩
      have hq0 := N2.none0 hq
      refine k q _ _ ys (N2.new (o := .lst (ys.map V.str)) hq hq0) upd_same hq0 (pm.nodup_iff.mpr ndl) fun x => ?_
      rw [pm.mem_iff]
      exact ⟨rl x, fun h => h.within (· ∈ l) sl fun a b ha st nb => all a ha b st nb⟩
end
end K69
set_option Elab.async false
set_option linter.all false
set_option maxRecDepth 100000
set_option maxHeartbeats 4000000
namespace K69
open PySem PySem.Spec PyProof.Rows L2
def barV : Option Str → V
  | none => .non
  | some x => .str x
theorem g_neBar {s : Str} {bar : Option Str} {H : Hp} {Q : VK} (h : Q (.bl (!decide (bar = some s))) H) : rNe (.str s) (barV bar) H Q := by
  cases bar with
  | none => exact ⟨rfl, by rw [decide_eq_false (by simp)] at h; exact h⟩
  | some x =>
    refine ⟨rfl, ?_⟩
    have e : decide (V.str s = V.str x) = decide (some x = some s) := by
      by_cases z : x = s
      · subst z; simp
      · rw [decide_eq_false (fun q => z (Option.some.inj q)), decide_eq_false (fun q => z (V.str.inj q).symm)]
    show Q (.bl (!decide (V.str s = V.str x))) H
    rw [e]; exact h
/-! ### == of lists of texts -/
section
variable {K : PySem.W.Frag} {H : Hp}
theorem dp_strs : ∀ l : List Str, DpAll K H (l.map V.str) (l.map PyData.str)
  | [] => .nil
  | x :: l => .cons (.str x) (dp_strs l)
theorem spelt_ok {s : Str} (h : spelt s = true) : PySem.PyData.strOk s = true := by
  unfold spelt at h
  simp only [Bool.and_eq_true] at h
  unfold PySem.PyData.strOk
  rw [Array.all_eq_true']
  intro c hc
  have := List.all_eq_true.mp h.2 c (by simpa using hc)
  have m : c ∈ lets.cps.toList := by simpa using this
  have all : lets.cps.toList.all (fun c => decide (c < 0x110000)) = true := by decide +kernel
  exact List.all_eq_true.mp all c m
theorem lay_strs : ∀ l : List Str, (∀ x ∈ l, spelt x = true) → PyData.canLayAll0 (l.map PyData.str) = true
  | [], _ => by simp [PyData.canLayAll0]
  | x :: l, h => by
    rw [List.map_cons]
    simp only [PyData.canLayAll0, PyData.canLay0, Bool.and_eq_true]
    exact ⟨spelt_ok (h x List.mem_cons_self), lay_strs l fun y hy => h y (List.mem_cons_of_mem _ hy)⟩
theorem dep_strs : ∀ l : List Str, PyData.depthAll (l.map PyData.str) ≤ 1
  | [] => by simp [PyData.depthAll]
  | x :: l => by
    have := dep_strs l
    simp only [List.map_cons, PyData.depthAll, PyData.depth]
    omega
theorem shaped_strs {l : List Str} (h : ∀ x ∈ l, spelt x = true) : SeqAt.shaped (.list (l.map PyData.str)) = true := by
  have h1 := dep_strs l
  have h2 : PyData.depth (.list (l.map PyData.str)) ≤ 64 := by simp only [PyData.depth]; omega
  show (PyData.canLay0 (.list (l.map PyData.str)) && decide (PyData.depth (.list (l.map PyData.str)) ≤ 64)) = true
  rw [Bool.and_eq_true]
  exact ⟨by simp only [PyData.canLay0]; exact lay_strs l h, decide_eq_true h2⟩
theorem g_eqNil {p q : Addr} {l : List Str} {Q : VK} (h1 : SqL K H p (l.map V.str)) (h2 : SqL K H q []) (sp : ∀ x ∈ l, spelt x = true) (k : Q (.bl l.isEmpty) H) : rEqD K (.ref p) (.ref q) H Q := by
  refine ⟨_, _, .lst h1 (dp_strs l), .lst h2 .nil, shaped_strs sp, shaped_strs (l := []) (fun _ z => by cases z), ?_⟩
  have e : PyData.eqv (.list (l.map PyData.str)) (.list []) = l.isEmpty := by
    cases l with
    | nil => simp [PyData.eqv, PyData.eqvAll]
    | cons a l => simp [PyData.eqv, PyData.eqvAll]
  rw [e]; exact k
end
section
variable {P : Program} {w : World} {K : PySem.W.Frag} {mg : Str → Option Value} {base : Heap} {C : Addr}
local macro_rules | `(tactic| walk_at "lk") => `(tactic| first | assumption | exact upd_same | exact (by assumption : Ex _ _) _ _ (by assumption))
local macro_rules | `(tactic| walk_at "g1") => `(tactic| first
  | with_reducible refine g_seq ?_ | with_reducible refine g_asg ?_ | with_reducible refine g_name ?_ | with_reducible refine g_cons ?_ | with_reducible refine g_nil ?_
  | ((with_reducible refine' g_var ?e ?_); (case e => exact rfl)) | with_reducible refine g_C ?_ | with_reducible refine g_op ?_ | with_reducible refine g_fld0 ?_ | with_reducible refine g_dget ?_ | with_reducible refine g_cb ?_ | with_reducible refine g_call ?_
  | with_reducible refine g_ret ?_ | with_reducible refine g_ifS ?_ | with_reducible refine g_test ?_ | with_reducible refine g_B ?_ | with_reducible refine g_bl ?_ | with_reducible refine g_not ?_ | with_reducible refine g_or ?_ | with_reducible refine g_and ?_
  | with_reducible refine g_ite ?_ | with_reducible refine g_itf ?_ | with_reducible refine g_itnt ?_ | with_reducible refine g_itnf ?_ | with_reducible refine g_eqS ?_ | with_reducible refine g_neS ?_ | with_reducible refine g_neI ?_ | with_reducible refine g_eqB ?_ | with_reducible refine g_neB ?_ | with_reducible refine g_eqI ?_ | with_reducible refine g_rI0 ?_ | with_reducible refine g_ipI ?_ | with_reducible refine g_int ?_
  | with_reducible refine g_drop ?_ | with_reducible refine g_next ?_ | with_reducible refine g_bm ?_ | with_reducible refine g_bm0 ?_ | with_reducible refine g_din ?_ | with_reducible refine g_dnotin ?_ | with_reducible refine g_dput ?_ | ((with_reducible refine' g_aug ?e ?_); (case e => exact rfl))
  | with_reducible refine g_andV ?_ | with_reducible refine g_orV ?_ | with_reducible refine g_notV ?_ | with_reducible refine g_if ?_ | with_reducible refine g_isN ?_ | with_reducible refine g_notN ?_ | with_reducible refine g_sl ?_ | with_reducible refine g_nopart ?_ | with_reducible refine g_part ?_
  | with_reducible refine g_gcons ?_ | with_reducible refine g_gnil ?_ | with_reducible refine g_par2 ?_ | with_reducible refine g_par3 ?_ | with_reducible refine g_vw ?_ | with_reducible refine g_uvw ?_ | with_reducible refine g_yes ?_ | with_reducible refine g_un ?_ | with_reducible refine g_rU ?_ | with_reducible refine g_gsub ?_ | with_reducible refine g_chain ?_ | with_reducible refine g_for ?_ | with_reducible refine g_istr ?_ | with_reducible refine g_ilist ?_ | with_reducible refine g_itup ?_ | with_reducible refine g_ikeys ?_ | with_reducible refine g_ivals ?_ | with_reducible refine g_iitems ?_ | with_reducible refine g_irng1 ?_ | with_reducible refine g_izip ?_ | with_reducible refine g_while ?_ | with_reducible refine g_tru _ ?_ | with_reducible refine g_lc ?_ | with_reducible refine g_dc ?_ | with_reducible refine g_lc2 ?_ | with_reducible refine g_tup ?_ | with_reducible refine g_lst ?_ | with_reducible refine g_dnew ?_ | with_reducible refine g_sfld ?_ | with_reducible refine g_dget2 ?_ | with_reducible refine g_dzip ?_ | with_reducible refine g_dnewT ?_ | with_reducible refine g_dispT ?_ | with_reducible refine g_star ?_ | with_reducible refine g_disp ?_ | with_reducible refine g_prs ?_ | with_reducible refine g_prs0 ?_ | with_reducible refine g_sc ?_ | with_reducible refine g_make ?_ | with_reducible refine g_meth ?_
  | ((with_reducible refine' g_ixT ?h ?e ?_); (case h => walk_at "lk"); (case e => exact rfl)) | ((with_reducible refine' g_ixL ?h ?e ?_); (case h => walk_at "lk"); (case e => exact rfl))
  | ((with_reducible refine' g_fldK ?h ?c ?n ?l ?_); (case h => walk_at "lk"); (case c => exact C8.InsC.cl (Txt.insC (by assumption))); (case n => first | exact Txt.nR (by assumption) | exact Txt.nF (by assumption)); (case l => exact rfl)))
local macro_rules | `(tactic| walk_at "go") => `(tactic| (repeat walk_at "g1"))
local macro_rules | `(tactic| walk_at "ty") => `(tactic| first | exact .base (.str _) | exact .base .non | exact .base (.bl _) | exact .base (.int _) | exact .base (.tup (by assumption)) | exact .base (.lst (by assumption)) | exact .base (.dK (by assumption)) | exact .fDict (by assumption))
abbrev sl_walk : Stmt := topS 59
abbrev Nl_walk : List Str := ["_law_world_here", "_law_barred", "_law_found", "_law_at", "_law_turns_here", "_law_goal", "_law_word_here", "_law_state"]
theorem scl_walk : FnScope Nl_walk ["_law_world_here", "_law_barred"] (defScope sl_walk) := ⟨rfl, rfl, rfl, by decide +kernel, rfl, by decide +kernel, by decide +kernel⟩
def sp_walk : Sp := fun vs H Q _ => ∃ (a : Addr) (bk : Book) (s : Str) (bar : Option Str) (G : Hp), vs = [.ref a, barV bar] ∧ Ex G H ∧ WorldAt G a bk s ∧ BookOk bk ∧ s ∈ bk.map (·.1) ∧
  ∀ p G' H' (l : List Str), Nxt none G H G' H' → G' p = some (.lst (l.map V.str)) → H p = none → (∀ x ∈ l, x ∈ bk.map (·.1)) → (l = [] ↔ ¬ Ends bk bar s) → Q (.ref p) H'
theorem cal_walk (F : Has K mg "_law_walk" sl_walk) (T : Txt K w mg C) : Cal P w K mg base 1 "_law_walk" sp_walk := by
  refine F.cal (fun _ _ _ _ _ _ us hl => match us, hl with | [_, _], _ => rfl) scl_walk (fun vs H Q E h => ?_) (fun f cdv A outer s H vs Q E hr h => ?_)
  · obtain ⟨a, bk, s, bar, G, rfl, _⟩ := h; rfl
  · obtain ⟨a, bk, s, bar, G, rfl, eG, ⟨b, hag, rs, hbg, hrs⟩, ok, hs, k⟩ := h
    have nd := scl_walk.nd
    have hu := hu_of hr
    refine ⟨_, (pss_cons (ps_asg (pe_tup (pa_cons (pe_op op_rep (pe_lst (pa_cons (pe_ix (kIxL K) (pv 0) pe_int (fun _ _ => rfl)) pa_nil)) (pe_callTy call_int1 (by rfl) T.tint (by decide +kernel) (pa_cons (pe_cmpR op_ne (pe_ix (kIxL K) (pv 0) pe_int (fun _ _ => rfl)) (pv 1) (nomark _)) pa_nil))) (pa_cons pe_int pa_nil))) (kgTup K (n := 2) rfl (pgs_cons (pg_name (i := 2) nd rfl (Or.inr rfl)) (pgs_cons (pg_name (i := 3) nd rfl (Or.inl rfl)) pgs_nil))))
  (pss_cons (ps_while PassesOwn.never (pt_cmpR op_lt (pv 3) (pe_callB (kLen K) (by rfl) T.len (by decide +kernel) (pa_cons (pv 2) pa_nil)) (nomark _))
    (pss_cons (ps_set (i := 4) nd rfl (Or.inr rfl) (pe_ix (kIxT K) (pe_dget hu (pe_ix (kIxL K) (pv 0) pe_int (fun _ _ => rfl)) (pe_ix (kIxL K) (pv 2) (pv 3) (fun _ _ => rfl)) (fun _ _ => rfl)) pe_int (fun _ _ => rfl)))
    (pss_cons (ps_set (i := 2) nd rfl (Or.inr rfl) (pe_op op_cat (pv 2) (pe_lc (own := [("_law_goal", 5)]) rfl nd (kpList K (pe_callB (call_sortedD rfl) (by rfl) T.sorted (by decide +kernel) (pa_cons (pe_callTy (kDictP K rfl) (by rfl) T.tdict (by decide +kernel) (pa_cons (pe_lock (pe_lc (own := [("_law_word_here", 6)]) rfl nd (pi_keys (pv 4)) (blkOk_by (N := Nl_walk) (sc := defScope sl_walk) (by decide +kernel)) (fun _ _ _ _ _ => (pg_name (i := 6) nd rfl (Or.inl rfl))) (fun _ _ _ _ _ => pts_nil) (fun _ _ _ _ _ => (pe_tup (pa_cons (pe_dget hu (pv 4) (pv 6) (fun _ _ => rfl)) (pa_cons pe_bl pa_nil)))))) pa_nil)) pa_nil))) (blkOk_by (N := Nl_walk) (sc := defScope sl_walk) (by decide +kernel)) (fun _ _ _ _ _ => (pg_name (i := 5) nd rfl (Or.inl rfl))) (fun _ _ _ _ _ => pts_one (PW.pt (pw_and (pt_cmpR (kNotIn K) (pv 5) (pv 2) rfl) (pw_and1 (pt_cmpR op_ne (pv 5) (pv 1) (nomark _)))))) (fun _ _ _ _ _ => (pv 5)))))
    (pss_one (ps_set (i := 3) nd rfl (Or.inl rfl) (pe_op op_add (pv 3) pe_int))))))
  (pss_one (ps_ret (pe_lc (own := [("_law_state", 7)]) rfl nd (kpList K (pv 2)) (blkOk_by (N := Nl_walk) (sc := defScope sl_walk) (by decide +kernel)) (fun _ _ _ _ _ => (pg_name (i := 7) nd rfl (Or.inl rfl))) (fun _ _ _ _ _ => pts_one (pt_cmpR op_eq (pe_ix (kIxT K) (pe_dget hu (pe_ix (kIxL K) (pv 0) pe_int (fun _ _ => rfl)) (pv 7) (fun _ _ => rfl)) pe_int (fun _ _ => rfl)) pe_str (nomark _))) (fun _ _ _ _ _ => (pv 7))))))), ?_⟩
    have ha := eG _ _ hag
    have hb := eG _ _ hbg
    have few := ok.few
    have rlen := hrs.len
    walk_at "go"
    refine ⟨by show 1 ≤ sizeLine; decide, fun p0 hp0 => ?_⟩
    have N0 : Nxt none G H G (upd H p0 (.lst [.str s])) := (Nxt.refl eG).own hp0 hp0
    have hp1 : (upd H p0 (.lst [.str s])) p0 = some (.lst [.str s]) := upd_same
    generalize upd H p0 (.lst [.str s]) = H0 at N0 hp1 ⊢
    have ha0 := N0.ex _ _ ha
    walk_at "go"
    refine g_neBar ?_
    refine .inr ⟨_, rfl, ?_⟩
    refine ⟨p0, _, _, rfl, rfl, hp1, by split <;> decide, by split <;> decide, by split <;> (simp only [List.length_cons, List.length_nil]; decide), fun p hp => ?_⟩
    have el : (List.replicate (if (!decide (bar = some s)) = true then (1 : Int) else 0).toNat [V.str s]).flatten = (if bar = some s then [] else [s]).map V.str := by
      by_cases z : bar = some s
      · rw [decide_eq_true z, if_pos z]; rfl
      · rw [decide_eq_false z, if_neg z]; rfl
    rw [el]
    have N1 : Nxt none G H G (upd H0 p (.lst ((if bar = some s then [] else [s]).map V.str))) := N0.own hp (N0.none0 hp)
    have hp2 : (upd H0 p (.lst ((if bar = some s then [] else [s]).map V.str))) p = some (.lst ((if bar = some s then [] else [s]).map V.str)) := upd_same
    generalize upd H0 p (.lst ((if bar = some s then [] else [s]).map V.str)) = H1 at N1 hp2 ⊢
    walk_at "go"
    refine ⟨by show 2 ≤ sizeLine; decide, fun tp htp => ?_⟩
    have N2 : Nxt none G H G (upd H1 tp (.tup [.ref p, .int 0])) := N1.own htp (N1.none0 htp)
    have hp3 := (Ex.new (o := .tup [.ref p, .int 0]) htp) _ _ hp2
    have htp2 : (upd H1 tp (.tup [.ref p, .int 0])) tp = some (.tup [.ref p, .int 0]) := upd_same
    generalize upd H1 tp (.tup [.ref p, .int 0]) = H2 at N2 hp3 htp2 ⊢
    refine g_gtup (SqT.of htp2) rfl ?_
    walk_at "go"
    refine ⟨fun m σ H' => ∃ (p : Addr) (i : Nat) (l : List Str) (x4 : Option V), σ = [some (.ref a), some (barV bar), some (.ref p), some (.int (i : Int)), x4, none, none, none] ∧ Nxt none G H G H' ∧ H' p = some (.lst (l.map V.str)) ∧ l.Nodup ∧ (bar ≠ some s → s ∈ l) ∧ (∀ x ∈ l, Rch bk bar s x) ∧ i ≤ l.length ∧ (∀ j x, j < i → l[j]? = some x → Closed bk bar l x) ∧ m = 26 - i, ?_, ?_⟩
    · refine ⟨26, p, 0, _, none, rfl, N2, hp3, by split <;> simp, fun z => by rw [if_neg z]; simp, fun x hx => ?_, Nat.zero_le _, fun j x h => by omega, rfl⟩
      by_cases z : bar = some s
      · rw [if_pos z] at hx; cases hx
      · rw [if_neg z, List.mem_singleton] at hx
        subst hx
        exact .refl z
    · rintro m σ H3 ⟨p, i, l, x4, rfl, N3, hp3, ndl, sl, rl, hi, cl, rfl⟩
      have llen := keys_le ok hs ndl rl
      walk_at "go"
      refine ⟨p, _, rfl, .inl (SqL.of hp3), ?_⟩
      walk_at "go"
      rw [List.length_map]
      refine ite2 (fun hlt => ?_) (fun hlt => ?_)
      · have hlt : i < l.length := by
          have : (i : Int) < (l.length : Int) := by simpa using hlt
          omega
        obtain ⟨y, hy⟩ : ∃ y, l[i]? = some y := ⟨l[i], List.getElem?_eq_getElem hlt⟩
        have my : y ∈ l := List.mem_of_getElem? hy
        have ry := rl y my
        obtain ⟨r, hlk, hmem⟩ := ok.get (ry.key ok hs)
        have okr : RowOk r := ok.row _ hmem
        obtain ⟨c, hv, d, hc, hd⟩ := RowsAt.get hrs hlk
        have ha4 := N3.gh _ _ hag
        have hb4 := N3.gh _ _ hbg
        have hcc4 := N3.gh _ _ hc
        have hd4 := N3.gh _ _ hd
        refine ⟨fun σ H' => ∃ (p : Addr) (l' : List Str) (x4 : Option V), σ = [some (.ref a), some (barV bar), some (.ref p), some (.int ((i + 1 : Nat) : Int)), x4, none, none, none] ∧ Nxt none G H G H' ∧ H' p = some (.lst (l'.map V.str)) ∧ l'.Nodup ∧ (bar ≠ some s → s ∈ l') ∧ (∀ x ∈ l', Rch bk bar s x) ∧ i + 1 ≤ l'.length ∧ (∀ j x, j < i + 1 → l'[j]? = some x → Closed bk bar l' x), ?_, ?_⟩
        · rintro σ' H' ⟨p', l', x4', rfl, N', hp', nd', sl', rl', hi', cl'⟩
          exact ⟨26 - (i + 1), by omega, p', i + 1, l', x4', rfl, N', hp', nd', sl', rl', hi', cl', rfl⟩
        · walk_at "go"
          refine g_ixL (v := .str y) hp3 ?_ ?_
          · exact atI_nat (by rw [List.getElem?_map, hy]; rfl)
          walk_at "go"
          refine g_dgs (s := y) (.inl hb4) hv ?_
          iterate 7 walk_at "g1"
          refine rd_goals (ts := r.2) N3.gh hd4 okr.few okr.nd fun q H6 ys N6 hq6 hq0 ylen yn ym => ?_
          refine ⟨q, rfl, ⟨_, SqL.of hq6⟩, fun D hD => ?_⟩
          have hp6 := N6.ex _ _ hp3
          refine lc_gen walk_list (Ex.refl H6) hD (by rw [List.length_map]; exact small1000 (by omega)) (fun m acc _ => acc = ((ys.take m).filter fun x => !decide (x ∈ l) && !decide (bar = some x)).map V.str) rfl (fun H' e => SqL.of (e _ _ hq6)) ?_ ?_
          · rintro m z G7 H7 H8 acc Kt Kf hm N7 g7 hh7 hl7 rfl ⟨rfl, hz⟩ ht hf
            obtain ⟨z, hz', rfl⟩ := strs_get hz
            clear hz
            walk_at "go"
            refine ⟨rfl, ?_⟩
            walk_at "go"
            refine g_nin (.inl (SqL.of (N7.ex _ _ hp6))) rfl (flatS l) (inV_str z l) ?_
            walk_at "go"
            have no : (!decide (z ∈ l) && !decide (bar = some z)) = false → Kf H8 := fun e => by
              refine hf G7 H8 (Nxt.refl N7.gh) ?_
              rw [take_snoc hz', List.filter_append, List.filter_cons_of_neg (by rw [e]; simp)]
              simp
            cases hzl : decide (z ∈ l) with
            | true =>
              refine g_itnt ?_
              exact no (by rw [hzl]; rfl)
            | false =>
              refine g_itnf ?_
              walk_at "go"
              refine g_neBar ?_
              walk_at "go"
              cases hzb : decide (bar = some z) with
              | true =>
                refine g_itnt ?_
                exact no (by rw [hzl, hzb]; rfl)
              | false =>
                refine g_itnf ?_
                walk_at "go"
                refine ht (.str z) G7 H8 (Nxt.refl N7.gh) ?_
                rw [take_snoc hz', List.filter_append, List.filter_cons_of_pos (by rw [hzl, hzb]; rfl)]
                simp
          · rintro G7 H7 acc N7 g7 hh7 hl7 rfl
            rw [List.length_map, List.take_length] at hh7
            have flen := List.length_filter_le (fun x => !decide (x ∈ l) && !decide (bar = some x)) ys
            walk_at "go"
            refine ⟨p, D, l.map V.str, _, rfl, rfl, N7.ex _ _ hp6, hh7, by rw [List.length_map, List.length_map]; exact Nat.le_of_lt (small1000 (by omega)), fun p2 hp2 => ?_⟩
            walk_at "go"
            have N8 : Nxt none G H G H7 := N3.trans (N6.trans (Nxt.flat N6.gh N7.ex))
            have sub2 : ∀ x ∈ l, x ∈ l ++ ys.filter fun x => !decide (x ∈ l) && !decide (bar = some x) := fun x hx => List.mem_append_left _ hx
            refine ⟨p2, l ++ ys.filter fun x => !decide (x ∈ l) && !decide (bar = some x), _, by rfl, N8.own hp2 (N8.none0 hp2), by rw [upd_same, List.map_append], nodup_grow ndl yn _ (fun x hx => by simp at hx; exact hx.1), fun z => sub2 s (sl z), ?_, by rw [List.length_append]; omega, ?_⟩
            · intro x hx
              rcases List.mem_append.mp hx with h | h
              · exact rl x h
              · have h2 := (List.mem_filter.mp h).2
                simp at h2
                exact .tail ry ⟨r, hlk, (ym x).mp (List.mem_filter.mp h).1⟩ h2.2
            · intro m x hm hx b st nb
              by_cases hmj : m < i
              · rw [List.getElem?_append_left (by omega)] at hx
                exact sub2 b (cl m x hmj hx b st nb)
              · obtain rfl : m = i := by omega
                rw [List.getElem?_append_left (by omega), hy] at hx
                cases hx
                obtain ⟨r', h1, h2⟩ := st
                rw [hlk] at h1; cases h1
                by_cases hbl : b ∈ l
                · exact sub2 b hbl
                · exact List.mem_append_right _ (List.mem_filter.mpr ⟨(ym b).mpr h2, by simp [hbl, nb]⟩)
      · have hlt : ¬ i < l.length := by
          have : ¬ (i : Int) < (l.length : Int) := by simpa using hlt
          omega
        have full : ∀ t, Rch bk bar s t → t ∈ l := fun t h => h.within (· ∈ l) (sl h.start) fun x b hx st nb => by
          obtain ⟨j, hj⟩ := List.mem_iff_getElem?.mp hx
          have : j < l.length := (List.getElem?_eq_some_iff.mp hj).1
          exact cl j x (by omega) hj b st nb
        have ha3 := N3.gh _ _ hag
        have hb3 := N3.gh _ _ hbg
        walk_at "go"
        refine ⟨p, rfl, ⟨_, SqL.of hp3⟩, fun D hD => ?_⟩
        refine lc_gen walk_list N3.gh hD (by rw [List.length_map]; exact small1000 (by omega)) (fun m acc _ => acc = ((l.take m).filter (dnb bk)).map V.str) rfl (fun H' e => SqL.of (e _ _ hp3)) ?_ ?_
        · rintro m z G7 H7 H8 acc Kt Kf hm N7 g7 hh7 hl7 rfl ⟨rfl, hz⟩ ht hf
          obtain ⟨z, hz', rfl⟩ := strs_get hz
          clear hz
          obtain ⟨r, hlk, hmem⟩ := ok.get ((rl z (List.mem_of_getElem? hz')).key ok hs)
          obtain ⟨c, hv, d, hc, hd⟩ := RowsAt.get hrs hlk
          have hc8 := N7.ex _ _ (N3.gh _ _ hc)
          have ha8 := N7.ex _ _ ha3
          walk_at "go"
          refine ⟨rfl, ?_⟩
          walk_at "go"
          refine g_dgs (s := z) (.inl (N7.ex _ _ hb3)) hv ?_
          walk_at "go"
          rw [← dnb_of hlk]
          cases hz : dnb bk z with
          | true =>
            refine g_ite ?_
            walk_at "go"
            refine ht (.str z) G7 H8 (Nxt.refl N7.gh) ?_
            rw [take_snoc hz', List.filter_append, List.filter_cons_of_pos hz]
            simp
          | false =>
            refine g_itf ?_
            refine hf G7 H8 (Nxt.refl N7.gh) ?_
            rw [take_snoc hz', List.filter_append, List.filter_cons_of_neg (by rw [hz]; simp)]
            simp
        · rintro G7 H7 acc N7 g7 hh7 hl7 rfl
          rw [List.length_map, List.take_length] at hh7
          have hD0 := N3.none0 hD
          refine k D _ _ _ ((N3.trans N7).frz g7 hh7 hD0) upd_same hD0 (fun x hx => (rl x (List.mem_filter.mp hx).1).key ok hs) ?_
          rw [List.filter_eq_nil_iff]
          exact ⟨fun h ⟨t, hr, hd⟩ => h t (full t hr) (dnb_iff.mpr hd), fun h x hx hd => h ⟨x, rl x hx, dnb_iff.mp hd⟩⟩
abbrev sl_waists : Stmt := topS 60
abbrev Nl_waists : List Str := ["_law_world_here", "_law_state"]
theorem scl_waists : FnScope Nl_waists ["_law_world_here"] (defScope sl_waists) := ⟨rfl, rfl, rfl, by decide +kernel, rfl, by decide +kernel, by decide +kernel⟩
def sp_l_waists : Sp := fun vs H Q _ => ∃ (a : Addr) (bk : Book) (s : Str) (G : Hp), vs = [.ref a] ∧ Ex G H ∧ WorldAt G a bk s ∧ BookOk bk ∧ s ∈ bk.map (·.1) ∧
  ∀ p G' H', Nxt none G H G' H' → G' p = some (.lst ((waistsL bk s).map V.str)) → H p = none → Q (.ref p) H'
open Classical in
theorem cal_l_waists (F : Has K mg "_law_waists" sl_waists) (T : Txt K w mg C) (c_law_walk : Cal P w K mg base 1 "_law_walk" sp_walk) (c_law_come_to : Cal P w K mg base 1 "_law_come_to" sp_come_to) : Cal P w K mg base 2 "_law_waists" sp_l_waists := by
  refine F.cal (fun _ _ _ _ _ _ us hl => match us, hl with | [_], _ => rfl) scl_waists (fun vs H Q E h => ?_) (fun f cdv A outer s H vs Q E hr h => ?_)
  · obtain ⟨a, bk, s, G, rfl, _⟩ := h; rfl
  · obtain ⟨a, bk, s, G, rfl, eG, W, ok, hs, k⟩ := h
    have nd := scl_waists.nd
    have hu := hu_of hr
    refine ⟨_, (pss_cons (ps_if (pt_cmpR (kEqD K hr.units) (kc c_law_walk hr (pa_cons (pv 0) (pa_cons pe_non pa_nil))) (pe_lst pa_nil) (nomark _))
    (pss_one (ps_ret (pe_lst pa_nil))) pss_nil)
  (pss_one (ps_ret (pe_callB (kSortS K) (by rfl) T.sorted (by decide +kernel) (pa_cons (pe_lc (own := [("_law_state", 1)]) rfl nd (kpList K (kc c_law_come_to hr (pa_cons (pv 0) pa_nil))) (blkOk_by (N := Nl_waists) (sc := defScope sl_waists) (by decide +kernel)) (fun _ _ _ _ _ => (pg_name (i := 1) nd rfl (Or.inl rfl))) (fun _ _ _ _ _ => pts_one (pt_cmpR (kEqD K hr.units) (kc c_law_walk hr (pa_cons (pv 0) (pa_cons (pv 1) pa_nil))) (pe_lst pa_nil) (nomark _))) (fun _ _ _ _ _ => (pv 1))) pa_nil))))), ?_⟩
    have few := ok.few
    have spk : ∀ {l : List Str}, (∀ x ∈ l, x ∈ bk.map (·.1)) → ∀ x ∈ l, spelt x = true := fun h x hx => by
      obtain ⟨q, hq, rfl⟩ := List.mem_map.mp (h x hx)
      exact ok.sp q hq
    walk_at "go"
    refine ⟨a, bk, s, none, G, rfl, eG, W, ok, hs, fun p G1 H1 l N1 gp hp lk le => ?_⟩
    have hp1 := N1.gh _ _ gp
    walk_at "go"
    refine ⟨Nat.zero_le _, fun q hq => ?_⟩
    have N2 : Nxt none G H G1 (upd H1 q (.lst [])) := N1.own hq (N1.none0 hq)
    have hq2 : (upd H1 q (.lst [])) q = some (.lst []) := upd_same
    have hp2 := (Ex.new (o := .lst []) hq) _ _ hp1
    generalize upd H1 q (.lst []) = H2 at N2 hq2 hp2 ⊢
    refine g_eqNil (SqL.of hp2) (SqL.of hq2) (spk lk) ?_
    walk_at "go"
    cases hl : l.isEmpty with
    | true =>
      refine g_ite ?_
      walk_at "go"
      refine ⟨Nat.zero_le _, fun z hz => ?_⟩
      have hz0 := N2.none0 hz
      refine k z _ _ (N2.new hz hz0) ?_ hz0
      rw [waistsL_nil ok hs (le.mp (List.isEmpty_iff.mp hl)), upd_same]
      rfl
    | false =>
      refine g_itf ?_
      have yes : Ends bk none s := Classical.not_not.mp fun z => by
        rw [le.mpr z] at hl; cases hl
      walk_at "go"
      refine ⟨a, bk, s, G1, rfl, N2.gh, W.mono N1.gg, ok, hs, fun c G3 H3 lc N3 gc hc ndc mc => ?_⟩
      have clen := keys_le ok hs ndc fun x hx => (mc x).mp hx
      have N4 := N2.trans N3
      have hc3 := N3.gh _ _ gc
      refine ⟨c, rfl, ⟨_, SqL.of hc3⟩, fun D hD => ?_⟩
      refine lc_gen walk_list N3.gh hD (by rw [List.length_map]; exact small1000 (by omega)) (fun i acc _ => acc = ((lc.take i).filter fun x => decide (¬ Ends bk (some x) s)).map V.str) rfl (fun H' e => SqL.of (e _ _ hc3)) ?_ ?_
      · rintro i x G5 H5 H6 acc Kt Kf hi N5 g5 hh5 hl5 rfl ⟨rfl, hx⟩ ht hf
        obtain ⟨y, hy, rfl⟩ := strs_get hx
        clear hx
        walk_at "go"
        refine ⟨rfl, ?_⟩
        walk_at "go"
        refine ⟨a, bk, s, some y, G5, rfl, N5.gh, W.mono (N4.gg.trans N5.gg), ok, hs, fun p G7 H7 l7 N7 gp7 hp7 lk7 le7 => ?_⟩
        walk_at "go"
        refine ⟨Nat.zero_le _, fun q hq => ?_⟩
        have hp8 := (Ex.new (o := .lst []) hq) _ _ (N7.gh _ _ gp7)
        refine g_eqNil (SqL.of hp8) (SqL.of upd_same) (spk lk7) ?_
        have N8 : Nxt none G5 H6 G5 (upd H7 q (.lst [])) := (N7.own hq (N7.none0 hq)).forget
        walk_at "go"
        cases hl7 : l7.isEmpty with
        | true =>
          have no := le7.mp (List.isEmpty_iff.mp hl7)
          refine g_ite ?_
          walk_at "go"
          refine ht (.str y) _ _ N8 ?_
          rw [take_snoc hy, List.filter_append, List.filter_cons_of_pos (by simpa using no)]
          simp
        | false =>
          have yes7 : Ends bk (some y) s := Classical.not_not.mp fun z => by
            rw [le7.mpr z] at hl7; cases hl7
          refine g_itf ?_
          refine hf _ _ N8 ?_
          rw [take_snoc hy, List.filter_append, List.filter_cons_of_neg (by simpa using yes7)]
          simp
      · rintro G5 H5 acc N5 g5 hh5 hl5 rfl
        rw [List.length_map, List.take_length] at hh5
        walk_at "go"
        have flen := List.length_filter_le (fun x => decide (¬ Ends bk (some x) s)) lc
        refine ⟨D, _, rfl, SqL.of hh5, by omega, fun ys q pm so hq => ?_⟩
        have M := N4.trans N5
        have hq0 := M.none0 hq
        refine k q _ _ (M.new (o := .lst (ys.map V.str)) hq hq0) ?_ hq0
        rw [upd_same, srtS_of pm so, waistsL_of ok hs (ndc.filter _) fun x => ?_]
        rw [List.mem_filter, mc, decide_eq_true_eq]
        exact ⟨fun h => ⟨yes, h.1, h.2⟩, fun h => ⟨h.2.1, h.2.2⟩⟩
end
end K69
set_option Elab.async false
set_option linter.all false
set_option maxRecDepth 100000
/-! Ordered books; what a cut's first book is. -/
namespace K69
open PySem
theorem srtK_idem {α : Type} (l : List (Str × α)) : srtK (srtK l) = srtK l := by
  unfold srtK
  exact List.mergeSort_of_pairwise (List.pairwise_mergeSort (le := fun a b : Str × α => leS a.1 b.1) (fun _ _ _ h1 h2 => leS_trans h1 h2) (fun a b => leS_total a.1 b.1) _)
theorem rowN_rowN (r : Row) : rowN (rowN r) = rowN r := by
  unfold rowN
  show (r.1, srtK (srtK r.2)) = (r.1, srtK r.2)
  rw [srtK_idem]
theorem nrm_nd {bk : Book} (ok : BookOk bk) : ((nrm bk).map (·.1)).Nodup := by rw [nrm_keys, srtS_nd]; exact ok.nd
theorem nrm_mem {bk : Book} {s : Str} : s ∈ (nrm bk).map (·.1) ↔ s ∈ bk.map (·.1) := by rw [nrm_keys, srtS_mem]
theorem nrm_nrm {bk : Book} (ok : BookOk bk) : nrm (nrm bk) = nrm bk := by
  have h : ∀ s, (nrm (nrm bk)).lookup s = (nrm bk).lookup s := fun s => by
    rw [lookup_nrm (nrm_nd ok), lookup_nrm ok.nd, Option.map_map]
    cases bk.lookup s with
    | none => rfl
    | some r => exact congrArg some (rowN_rowN r)
  have nd2 : ((nrm (nrm bk)).map (·.1)).Nodup := by rw [nrm_keys, srtS_nd]; exact nrm_nd ok
  have e := srtK_one nd2 (nrm_nd ok) h
  unfold nrm at e ⊢
  rw [srtK_idem, srtK_idem] at e
  exact e
theorem rowN_ok {r : Row} (h : RowOk r) : RowOk (rowN r) := by
  refine ⟨h.kind, h.done.trans ?_, fun p hp => h.sp p (mem_srtK.mp hp), srtK_nd.mpr h.nd, by show (srtK r.2).length ≤ 20; rw [srtK_len]; exact h.few⟩
  show r.2 = [] ↔ srtK r.2 = []
  rw [← List.length_eq_zero_iff, ← List.length_eq_zero_iff, srtK_len]
theorem BookOk.nrm {bk : Book} (ok : BookOk bk) : BookOk (nrm bk) where
  ne := fun h => ok.ne (List.length_eq_zero_iff.mp (by rw [← nrm_len, h]; rfl))
  nd := nrm_nd ok
  sp := fun p hp => by
    obtain ⟨q, hq, e⟩ := List.mem_map.mp (mem_srtK.mp hp)
    rw [← e]; exact ok.sp q hq
  row := fun p hp => by
    obtain ⟨q, hq, e⟩ := List.mem_map.mp (mem_srtK.mp hp)
    rw [← e]; exact rowN_ok (ok.row q hq)
  cl := fun p hp q hq => by
    obtain ⟨p', hp', e⟩ := List.mem_map.mp (mem_srtK.mp hp)
    rw [← e] at hq
    rw [nrm_mem]
    exact ok.cl p' hp' q (mem_srtK.mp hq)
  few := by rw [nrm_len]; exact ok.few
theorem DeskOk.mk' {bk : Book} {s : Str} (ok : BookOk bk) (h : s ∈ bk.map (·.1)) : DeskOk (nrm bk) s := ⟨ok.nrm, nrm_mem.mpr h, nrm_nrm ok⟩
/-- two desks' books with the same rows are one -/
theorem DeskOk.one {bk bk' : Book} {s s' : Str} (h : DeskOk bk s) (h' : DeskOk bk' s') (e : ∀ x, bk.lookup x = bk'.lookup x) : bk = bk' := by
  have q : srtK bk = srtK bk' := srtK_one h.ok.nd h'.ok.nd e
  have s1 : srtK bk = bk := by rw [← h.n]; exact srtK_idem _
  have s2 : srtK bk' = bk' := by rw [← h'.n]; exact srtK_idem _
  rw [← s1, ← s2, q]
theorem DeskOk.rowN {bk : Book} {s x : Str} (h : DeskOk bk s) {r : Row} (e : bk.lookup x = some r) : rowN r = r := by
  have := h.row (lookup_mem e)
  unfold K69.rowN
  show (r.1, srtK r.2) = r
  rw [this]
/-! ### the state x made done -/
def doneR : Row := ("done", [])
def doneAt (bk : Book) (x : Str) : Book := bk.map fun p => if p.1 = x then (p.1, doneR) else p
theorem doneAt_keys (bk : Book) (x : Str) : (doneAt bk x).map (·.1) = bk.map (·.1) := by
  unfold doneAt
  rw [List.map_map]
  refine List.map_congr_left fun p _ => ?_
  show (if p.1 = x then (p.1, doneR) else p).1 = p.1
  split <;> rfl
theorem doneAt_at (bk : Book) (x y : Str) : (doneAt bk x).lookup y = if y = x then (bk.lookup y).map fun _ => doneR else bk.lookup y := by
  induction bk with
  | nil => simp [doneAt]
  | cons p l ih =>
    obtain ⟨z, r⟩ := p
    show List.lookup y ((if z = x then (z, doneR) else (z, r)) :: doneAt l x) = _
    by_cases h : z = x
    · rw [if_pos h, List.lookup_cons, List.lookup_cons, ih]
      by_cases e : y = z
      · subst e; subst h; simp
      · have b : (y == z) = false := by simpa using e
        rw [b]
    · rw [if_neg h, List.lookup_cons, List.lookup_cons, ih]
      by_cases e : y = z
      · subst e; simp [h]
      · have b : (y == z) = false := by simpa using e
        rw [b]
theorem rowN_done : rowN doneR = doneR := by unfold rowN doneR srtK; simp
theorem doneR_ok : RowOk doneR := ⟨.inr (.inr rfl), ⟨fun _ => rfl, fun _ => rfl⟩, (fun p hp => by cases hp), List.nodup_nil, Nat.zero_le _⟩
theorem BookOk.doneAt {bk : Book} (ok : BookOk bk) (x : Str) : BookOk (doneAt bk x) where
  ne := fun h => ok.ne (by have := congrArg List.length h; unfold K69.doneAt at this; simpa using this)
  nd := by rw [doneAt_keys]; exact ok.nd
  sp := fun p hp => by
    obtain ⟨q, hq, rfl⟩ := List.mem_map.mp hp
    split <;> exact ok.sp q hq
  row := fun p hp => by
    obtain ⟨q, hq, rfl⟩ := List.mem_map.mp hp
    split
    · exact doneR_ok
    · exact ok.row q hq
  cl := fun p hp q hq => by
    rw [doneAt_keys]
    obtain ⟨p', hp', rfl⟩ := List.mem_map.mp hp
    split at hq
    · cases hq
    · exact ok.cl p' hp' q hq
  few := by unfold K69.doneAt; rw [List.length_map]; exact ok.few
theorem stp_done {bk : Book} {x a b : Str} (h : stp (doneAt bk x) a b) : a ≠ x ∧ stp bk a b := by
  obtain ⟨r, hr, m⟩ := h
  rw [doneAt_at] at hr
  by_cases e : a = x
  · rw [if_pos e] at hr
    cases q : bk.lookup a with
    | none => rw [q] at hr; cases hr
    | some r' => rw [q] at hr; cases hr; cases m
  · rw [if_neg e] at hr
    exact ⟨e, r, hr, m⟩
theorem done_stp {bk : Book} {x a b : Str} (e : a ≠ x) (h : stp bk a b) : stp (doneAt bk x) a b := by
  obtain ⟨r, hr, m⟩ := h
  exact ⟨r, by rw [doneAt_at, if_neg e]; exact hr, m⟩
/-- what is come to when x ends the talk -/
theorem rch_done {bk : Book} {s x y : Str} (hx : Rch bk none s x) : Rch (doneAt bk x) none s y ↔ y = x ∨ Rch bk (some x) s y := by
  constructor
  · intro h
    induction h with
    | refl =>
      by_cases e : s = x
      · exact .inl e
      · exact .inr (.refl fun z => e (Option.some.inj z).symm)
    | tail _ st _ ih =>
      obtain ⟨ne, st'⟩ := stp_done st
      rcases ih with e | ih
      · exact absurd e ne
      · rename_i b _ _
        by_cases e : b = x
        · exact .inl e
        · exact .inr (.tail ih st' fun z => e (Option.some.inj z).symm)
  · rintro (rfl | h)
    · have gen : ∀ z, Rch bk none s z → Rch (doneAt bk y) none s z ∨ Rch (doneAt bk y) none s y := fun z h => by
        induction h with
        | refl => exact .inl (.refl (by simp))
        | tail _ st _ ih =>
          rename_i a b _ _
          rcases ih with ih | ih
          · by_cases e : a = y
            · subst e; exact .inr ih
            · exact .inl (.tail ih (done_stp e st) (by simp))
          · exact .inr ih
      exact (gen y hx).elim id id
    · induction h with
      | refl => exact .refl (by simp)
      | tail ha st nb ih => exact .tail ih (done_stp (fun e => ha.ok (by rw [e])) st) (by simp)
/-- a cut's first book -/
structure CutB (bk : Book) (s x : Str) (ck : Book) : Prop where
  at_ : ck.lookup x = some doneR
  on : ∀ y, y ≠ x → Rch bk (some x) s y → ck.lookup y = bk.lookup y
  off : ∀ y, y ≠ x → ¬ Rch bk (some x) s y → ck.lookup y = none
open Classical in
theorem CutB.one {bk ck ck' : Book} {s x : Str} (h : CutB bk s x ck) (h' : CutB bk s x ck') (y : Str) : ck.lookup y = ck'.lookup y := by
  by_cases e : y = x
  · subst e; rw [h.at_, h'.at_]
  · by_cases r : Rch bk (some x) s y
    · rw [h.on y e r, h'.on y e r]
    · rw [h.off y e r, h'.off y e r]
def pickB (bk : Book) (l : List Str) : Book := l.map fun y => (y, (bk.lookup y).getD doneR)
theorem pickB_keys (bk : Book) (l : List Str) : (pickB bk l).map (·.1) = l := by unfold pickB; rw [List.map_map]; exact List.map_id _
theorem pickB_at {bk : Book} {l : List Str} {y : Str} : (pickB bk l).lookup y = if y ∈ l then some ((bk.lookup y).getD doneR) else none := by
  induction l with
  | nil => simp [pickB]
  | cons a l ih =>
    show List.lookup y ((a, (bk.lookup a).getD doneR) :: pickB bk l) = _
    rw [List.lookup_cons, ih]
    by_cases e : y = a
    · subst e; simp
    · have b : (y == a) = false := by simpa using e
      rw [b]
      simp [e]
/-- the states that are come to, with their rows -/
theorem pick_ok {bk : Book} {s : Str} {l : List Str} (ok : BookOk bk) (hs : s ∈ bk.map (·.1)) (nd : l.Nodup) (hl : ∀ y, y ∈ l ↔ Rch bk none s y) : BookOk (pickB bk l) where
  ne := fun h => by
    have m := (hl s).mpr (.refl (by simp))
    have : l = [] := by have := congrArg List.length h; unfold pickB at this; simpa using this
    rw [this] at m; cases m
  nd := by rw [pickB_keys]; exact nd
  sp := fun p hp => by
    obtain ⟨y, hy, rfl⟩ := List.mem_map.mp hp
    obtain ⟨q, hq, e⟩ := List.mem_map.mp (((hl y).mp hy).key ok hs)
    show spelt y = true
    rw [← e]; exact ok.sp q hq
  row := fun p hp => by
    obtain ⟨y, hy, rfl⟩ := List.mem_map.mp hp
    obtain ⟨r, e, m⟩ := ok.get (((hl y).mp hy).key ok hs)
    show RowOk ((bk.lookup y).getD doneR)
    rw [e]; exact ok.row _ m
  cl := fun p hp q hq => by
    rw [pickB_keys]
    obtain ⟨y, hy, rfl⟩ := List.mem_map.mp hp
    have ry := (hl y).mp hy
    obtain ⟨r, e, m⟩ := ok.get (ry.key ok hs)
    have hq' : q ∈ ((bk.lookup y).getD doneR).2 := hq
    rw [e] at hq'
    exact (hl q.2).mpr (.tail ry ⟨r, e, List.mem_map.mpr ⟨q, hq', rfl⟩⟩ (by simp))
  few := by
    have h1 := nodup_le l (bk.map (·.1)) nd fun y hy => ((hl y).mp hy).key ok hs
    have h2 := ok.few
    rw [List.length_map] at h1
    unfold pickB
    rw [List.length_map]; omega
theorem cut_ok {bk : Book} {s x : Str} {l : List Str} (D : DeskOk bk s) (hx : Rch bk none s x) (nd : l.Nodup) (hl : ∀ y, y ∈ l ↔ Rch (doneAt bk x) none s y) :
    BookOk (pickB (doneAt bk x) l) ∧ s ∈ (pickB (doneAt bk x) l).map (·.1) ∧ CutB bk s x (nrm (pickB (doneAt bk x) l)) ∧ (pickB (doneAt bk x) l).length ≤ bk.length := by
  have hs' : s ∈ (doneAt bk x).map (·.1) := by rw [doneAt_keys]; exact D.st
  have ok := pick_ok (D.ok.doneAt x) hs' nd hl
  have e : ∀ y, (nrm (pickB (doneAt bk x) l)).lookup y = if y ∈ l then some (rowN (((doneAt bk x).lookup y).getD doneR)) else none := fun y => by
    rw [lookup_nrm ok.nd, pickB_at]
    split <;> rfl
  have key : ∀ y ∈ l, ∃ r, bk.lookup y = some r := fun y hy => by
    have := ((hl y).mp hy).key (D.ok.doneAt x) hs'
    rw [doneAt_keys] at this
    obtain ⟨r, h, _⟩ := D.ok.get this
    exact ⟨r, h⟩
  refine ⟨ok, by rw [pickB_keys]; exact (hl s).mpr (.refl (by simp)), ⟨?_, fun y ne ry => ?_, fun y ne ry => ?_⟩, ?_⟩
  · have m : x ∈ l := (hl x).mpr ((rch_done hx).mpr (.inl rfl))
    obtain ⟨r, hr⟩ := key x m
    rw [e, if_pos m, doneAt_at, if_pos rfl, hr]
    exact congrArg some rowN_done
  · have m : y ∈ l := (hl y).mpr ((rch_done hx).mpr (.inr ry))
    obtain ⟨r, hr⟩ := key y m
    rw [e, if_pos m, doneAt_at, if_neg ne, hr]
    exact congrArg some (D.rowN hr)
  · have m : y ∉ l := fun m => ((rch_done hx).mp ((hl y).mp m)).elim ne ry
    rw [e, if_neg m]
  · have h1 := nodup_le l (bk.map (·.1)) nd fun y hy => by
      have := ((hl y).mp hy).key (D.ok.doneAt x) hs'
      rwa [doneAt_keys] at this
    unfold pickB
    rw [List.length_map] at h1 ⊢
    exact h1
end K69
set_option Elab.async false
set_option linter.all false
set_option maxRecDepth 100000
set_option maxHeartbeats 2000000
/-! {**d, k: v}. -/
namespace K69
open PySem PySem.Spec PyProof.Rows L2
section
variable {prog : Program} {w : World} {A : Around} {E : Value → Shared → Prop} {s : Shared}
theorem put_pairs {K : Type} [DecidableEq K] {knd : KeyKind prog w K} {d : Addr} {kvs : List (K × Value)} {k : K} {key v : Value} {Q : Unit → Shared → Prop} (hkey : knd.is k key = true) (hm : s.heap.DictOf knd d kvs) (hsz : kvs.length ≤ sizeLine)
    (hQ : ∀ h', h'.DictOf knd d (stored kvs k v) → Heap.SameBut d s.heap h' → Q () { s with heap := h' }) : wpAny (model prog w) A (dictPut d (knd.hash k) key v) Q E s := by
  obtain ⟨o, es, ep, ho, hc, hd, hk, hp, hn⟩ := hm
  have hes : es.size ≤ sizeLine := by
    have e1 := hp.length
    rw [Array.length_toList] at e1
    omega
  unfold dictPut
  refine wpAny_bind (wpAny_dictFind_of hkey ho hd hk ?_)
  have hidx : (es.findIdx? fun e => knd.is k e.key) = kvs.findIdx? fun kv => decide (kv.1 = k) := by
    rw [← hp.findIdx k]; obtain ⟨l⟩ := es; simp
  cases hi : es.findIdx? fun e => knd.is k e.key with
  | some i =>
    refine wpAny_updateDict ho hd (hQ _ ⟨_, _, ep, Heap.get?_update_self _ ho (Obj.isFreed_of_dict (Obj.data_mapDict hd _)), hc.mapDict _, Obj.data_mapDict hd _, hk.modify _ _, ?_, ?_⟩ (Heap.SameBut.update ..))
    · rw [stored, if_pos (any_of_findIdx_some (hidx ▸ hi))]
      have hl : (es.toList.findIdx? fun e => knd.is k e.key) = some i := by rw [← hi]; obtain ⟨l⟩ := es; simp
      have := hp.modify hn hl v
      obtain ⟨l⟩ := es
      simpa using this
    · rw [stored, if_pos (any_of_findIdx_some (hidx ▸ hi)), keys_map_store]; exact hn
  | none =>
    have hnot : k ∉ kvs.map (·.1) := not_mem_of_findIdx_none (hidx ▸ hi)
    have hany : ¬ (kvs.any fun kv => decide (kv.1 = k)) = true := fun z => by
      obtain ⟨kv, hkv, he⟩ := List.any_eq_true.mp z
      exact hnot (List.mem_map.mpr ⟨kv, hkv, of_decide_eq_true he⟩)
    refine wpAny_updateDictKeys (hz := hes) ho hd (hQ _ ⟨_, _, ep + 1, Heap.get?_update_self _ ho (Obj.isFreed_of_dict (Obj.data_mapDictKeys hd _)), hc.mapDictKeys _, Obj.data_mapDictKeys hd _, hk.push hkey _, ?_, ?_⟩ (Heap.SameBut.update ..))
    · rw [stored, if_neg hany]
      have := hp.append hkey (knd.hash k) v
      obtain ⟨l⟩ := es
      simpa using this
    · rw [stored, if_neg hany, List.map_append, List.nodup_append]
      exact ⟨hn, by simp, fun a ha b hb e => hnot (by simp at hb; rw [← hb, ← e]; exact ha)⟩
theorem merge_map {d o : Addr} {kvs more : List (Key × Value)} {Q : Unit → Shared → Prop} (hdo : d ≠ o) (hoS : (o == sysModules) = false) (hd : s.heap.DictOf (mixKind prog w) d kvs) (ho : s.heap.DictOf (mixKind prog w) o more) (hsz : kvs.length + more.length ≤ sizeLine)
    (hQ : ∀ h', h'.DictOf (mixKind prog w) d (merged kvs more) → Heap.SameBut d s.heap h' → Q () { s with heap := h' }) : wpAny (model prog w) A (mergeMapping d (.ref o) false) Q E s := by
  obtain ⟨od, esd, epd, hod, hcd, hdd, hkd, hpd, hnd⟩ := id hd
  obtain ⟨oo, eso, epo, hoo, hco, hdo', hko, hpo, hno⟩ := id ho
  have hlen : more.length = eso.size := by rw [← hpo.length]; simp
  unfold mergeMapping
  refine wpAny_bind (wpAny_isInstance (T := "dict") ho.typeIs PySem.F.sub_dict_dict ?_)
  rw [if_pos rfl]
  refine wpAny_bind (wpAny_specialOf ho.typeIs PySem.F.slot_dict_iter.lookup ?_)
  refine wpAny_bind (wpAny_pure ?_)
  have et : (some (Value.builtin "dict.__iter__") == some (Value.builtin "dict.__iter__")) = true := by decide +kernel
  rw [et]
  dsimp only
  rw [if_neg (by rw [hoS]; exact Bool.false_ne_true)]
  -- the walk over the entries
  have loop : wpAny (model prog w) A (do
      let l ← dictEntries o
      let epoch ← dictEpoch o
      forIn (List.range l.size) PUnit.unit fun i (_ : PUnit) => (do
          let l' ← dictEntries o
          match l'[i]? with
            | some e => do
              holding [e.key, e.val] (dictPut d e.hash e.key e.val)
              let ep' ← dictEpoch o
              if (ep' != epoch) = true then do
                  (unsupported "dict.changed-during-merge" : Sem PUnit)
                  pure (ForInStep.yield PUnit.unit)
                else pure (ForInStep.yield PUnit.unit)
            | _ => do
              (unsupported "dict.changed-during-merge" : Sem PUnit)
              pure (ForInStep.yield PUnit.unit) : Sem (ForInStep PUnit))
      pure ()) Q E s := by
    refine wpAny_bind (wpAny_dictEntries hoo hdo' ?_)
    refine wpAny_bind (wpAny_dictEpoch hoo hdo' ?_)
    refine wpAny_bind ?_
    rw [List.range_eq_range']
    refine wpAny_forIn_list _
      (fun rest _ s' => ∃ h' i, s' = { s with heap := h' } ∧ rest = List.range' i (eso.size - i) ∧ i ≤ eso.size ∧ h'.DictOf (mixKind prog w) d (merged kvs (more.take i)) ∧ h'.get? o = some oo ∧ Heap.SameBut d s.heap h')
      _ ?_ ?_ _ _ ⟨s.heap, 0, rfl, by simp, Nat.zero_le _, by simpa [merged] using hd, hoo, Heap.SameBut.refl _ _⟩
    · rintro x rest b s' ⟨h', i, rfl, hr, hi, hd', hoo', hs'⟩
      have hlt : i < eso.size := by
        rcases Nat.lt_or_ge i eso.size with h | h
        · exact h
        · rw [Nat.sub_eq_zero_of_le h] at hr; simp at hr
      obtain ⟨rfl, hrest⟩ : x = i ∧ rest = List.range' (i + 1) (eso.size - (i + 1)) := by
        rw [show eso.size - i = (eso.size - (i + 1)) + 1 by omega, List.range'_succ] at hr
        injection hr with h1 h2
        exact ⟨h1, h2⟩
      refine wpAny_bind (wpAny_dictEntries hoo' hdo' ?_)
      rw [Array.getElem?_eq_getElem hlt]
      obtain ⟨⟨k, v⟩, hkv⟩ : ∃ kv, more[x]? = some kv := ⟨more[x]'(by rw [hlen]; exact hlt), List.getElem?_eq_getElem _⟩
      obtain ⟨hkey, hval⟩ := hpo.get? (e := eso[x]) (by simp [hlt]) hkv
      obtain ⟨k', hkey', hhash⟩ := hko eso[x] (Array.getElem_mem hlt)
      obtain rfl : k' = k := (mixKind prog w).inj _ _ _ hkey' hkey
      show wpAny _ _ (holding [eso[x].key, eso[x].val] (dictPut d eso[x].hash eso[x].key eso[x].val) >>= _) _ _ _
      rw [hhash, hval]
      have hmx : (merged kvs (more.take x)).length ≤ sizeLine := by
        have e1 := merged_length_le kvs (more.take x)
        have e2 : (more.take x).length ≤ more.length := by rw [List.length_take]; omega
        omega
      refine wpAny_bind (wpAny_holding (put_pairs hkey hd' hmx fun h'' hd'' hs'' => ?_))
      have hoo'' : h''.get? o = some oo := (hs''.2 o (Ne.symm hdo)).trans hoo'
      refine wpAny_bind (wpAny_dictEpoch hoo'' hdo' ?_)
      rw [if_neg (by simp)]
      exact wpAny_pure ⟨h'', x + 1, rfl, hrest, hlt, by rw [merged_take_succ kvs more x (k', v) hkv]; exact hd'', hoo'', hs'.trans hs''⟩
    · rintro b s' ⟨h', i, rfl, hr, hi, hd', hoo', hs'⟩
      have hin : i = eso.size := by
        rcases Nat.lt_or_ge i eso.size with h | h
        · rw [show eso.size - i = (eso.size - (i + 1)) + 1 by omega, List.range'_succ] at hr; exact nomatch hr
        · exact Nat.le_antisymm hi h
      refine wpAny_pure (hQ h' ?_ hs')
      rw [hin, ← hlen, List.take_length] at hd'; exact hd'
  refine wpAny_bind (wpAny_dictEntries hod hdd ?_)
  split
  · refine wpAny_bind (wpAny_dictEntries hoo hdo' ?_)
    refine wpAny_bind ?_
    rw [← Array.forIn_toList]
    refine wpAny_forIn_list _ (fun rest _ s' => s' = s ∧ ∀ e ∈ rest, e ∈ eso.toList) _ ?_ ?_ _ _ ⟨rfl, fun e he => he⟩
    · rintro e rest b s' ⟨rfl, hr⟩
      obtain ⟨k, hk, _⟩ := hko e (by simpa using hr e List.mem_cons_self)
      rcases keyIs_shape (show keyIs k e.key = true from hk) with ⟨i, t, _, ev⟩ | ⟨z, t, _, ev⟩ <;>
      · rw [ev]
        exact wpAny_pure ⟨rfl, fun e he => hr e (List.mem_cons_of_mem _ he)⟩
    · rintro b s' ⟨rfl, _⟩
      exact loop
  · exact loop
end
end K69
set_option Elab.async false
set_option linter.all false
set_option maxRecDepth 100000
set_option maxHeartbeats 2000000
namespace K69
open PySem PySem.Spec PyProof.Rows L2
section
variable {X : Cx} {m k v : Expr} {pos : Pos} {tm tk tv : TE}
def tStar (tm tk tv : TE) : TE := fun σ H Q => ∀ p, H p = none → tm σ (upd H p (.dK [])) fun x H1 => ∃ a kvs, x = .ref a ∧ a ≠ p ∧ H1 p = some (.dK []) ∧ H1 a = some (.dK kvs) ∧
  ∀ q, H1 q = none → tk σ (upd (upd H1 p (.dK (mergeK [] kvs))) q (.dK [])) fun y H2 => tv σ H2 fun z H3 => ∃ (k : Key) (kvs' : List (Key × V)), y = kV k ∧ H3 q = some (.dK []) ∧ H3 p = some (.dK kvs') ∧ kvs'.length + 1 ≤ sizeLine ∧ p ≠ q ∧
    Q (.ref p) (upd (upd H3 q (.dK (mergeK [] [(k, z)]))) p (.dK (mergeK kvs' [(k, z)])))
theorem pe_star (hm : PE X m tm) (hk : PE X k tk) (hv : PE X v tv) : PE X (.Dict [none, some k] [m, v] pos) (tStar tm tk tv) := by
  refine ⟨fun pins s σ H Q I q => ?_⟩
  have hn := I.hok.fresh (Nat.le_refl s.heap.objs.size)
  have I1 := I.laid (a := s.heap.objs.size) (o := .dK []) (h' := s.heap.push { cls := .type "dict", data := .dict #[] }) (t' := s.toks) (fun _ _ q => Heap.get?_push_of_some _ q) (Nat.le_refl _) (dk_empty s.heap I.big)
  have q := q _ hn
  show wpAny _ _ (do standAt pos; dictDisplay [((none : Option (Sem Value)), do let x ← eval m X.env; standAt pos; pure x), (some (eval k X.env), do let x ← eval v X.env; standAt pos; pure x)]) _ _ s
  refine wpAny_bind (wpAny_standAt ?_)
  unfold dictDisplay
  dsimp only
  simp only [List.forIn_cons, List.forIn_nil]
  refine wpAny_bind (wpAny_bind (wpAny_bind ?_))
  refine wp_if_pos rfl (wpAny_pure ?_)
  dsimp only
  refine wpAny_bind (wpAny_alloc ?_)
  refine wpAny_bind (wpAny_holding (wpAny_bind (thn (hm.run pins _ σ _ _ I1 q) fun u s1 ⟨x, H1, I2, rx, a, kvs, ex, nap, hp1, ha1, q1⟩ => wpAny_bind (wpAny_standAt (wpAny_pure ?_)))))
  subst ex
  cases (show u = Value.ref a from rx)
  obtain ⟨_, na, va, ra, da⟩ := dk_of I2.hok ha1
  obtain ⟨_, np, vp, rp, dp⟩ := dk_of I2.hok hp1
  cases rp
  have hz1 : kvs.length ≤ sizeLine := (I2.hok a _ ha1).1
  refine wpAny_bind (wpAny_onRaise (wpAny_tryCatch (wpAny_onRaise (wpAny_holding (merge_map (Ne.symm nap) na dp da (by rw [← ra.length]; simpa using hz1) fun h' dd' hs => ?_)))))
  have hz2 : (mergeK [] kvs).length ≤ sizeLine := by
    have := length_mergeK kvs []
    rw [List.length_nil] at this
    omega
  have he : ∃ o, h'.get? s.heap.objs.size = some o := let ⟨o, _, _, ho, _⟩ := dd'; ⟨o, ho⟩
  have I3 : Inv X pins σ (upd H1 s.heap.objs.size (.dK (mergeK [] kvs))) { s1 with heap := h' } := d_write I2 (by rw [hp1]; exact True.intro) hs he (dk_new hz2 np (KV.merge ra .nil) dd')
  refine wpAny_pure ?_
  dsimp only
  refine wpAny_bind ?_
  refine wp_if_neg (by simp) (wpAny_pure ?_)
  dsimp only
  refine wpAny_pure ?_
  dsimp only
  refine wpAny_bind ?_
  refine wp_if_neg (by simp) ?_
  generalize hp : s.heap.objs.size = p at *
  rw [List.nil_append]
  refine wpAny_bind (wpAny_holding (wpAny_subDict (knd := mixKind X.prog X.w) (by simp) ?_))
  have hn3 : (upd H1 p (.dK (mergeK [] kvs))) h'.objs.size = none := I3.hok.fresh (Nat.le_refl _)
  have nqp : h'.objs.size ≠ p := fun z => by rw [z, upd_same] at hn3; cases hn3
  have hnq : H1 h'.objs.size = none := by rw [upd_ne nqp] at hn3; exact hn3
  have I4 := I3.laid (a := h'.objs.size) (o := .dK []) (h' := h'.push { cls := .type "dict", data := .dict #[] }) (t' := s1.toks) (fun _ _ q => Heap.get?_push_of_some _ q) (Nat.le_refl _) (dk_empty h' I3.big)
  refine evalPairs_cons (thn (hk.run pins _ σ _ _ I4 (q1 _ hnq)) fun ku s2 ⟨y, H2, I5, ry, q2⟩ => wpAny_bind (thn (hv.run pins _ σ _ _ I5 q2) fun vu s3 ⟨z, H3, I6, rz, k0, kvs', ek, hq3, hp3, hsz, npq, q3⟩ => wpAny_bind (wpAny_standAt (wpAny_pure (wpAny_pure ?_)))))
  subst ek
  obtain ⟨_, nq, vq, rq, dq⟩ := dk_of I6.hok hq3
  obtain ⟨_, np3, vp3, rp3, dp3⟩ := dk_of I6.hok hp3
  cases rq
  refine ⟨[(k0, vu)], ⟨kV_is ry, rfl, trivial⟩, dq, fun h4 d4 hs4 => ?_⟩
  have he4 : ∃ o, h4.get? h'.objs.size = some o := let ⟨o, _, _, ho, _⟩ := d4; ⟨o, ho⟩
  have rel1 : KV (mergeK [] [(k0, z)]) (merged [] [(k0, vu)]) := KV.merge (.cons ⟨rfl, rz⟩ .nil) .nil
  have I7 : Inv X pins σ (upd H3 h'.objs.size (.dK (mergeK [] [(k0, z)]))) { s3 with heap := h4, toks := s3.toks + 1 } := d_write I6 (by rw [hq3]; exact True.intro) hs4 he4 (dk_new (by show 1 ≤ sizeLine; decide) nq rel1 d4)
  have hp4 : (upd H3 h'.objs.size (.dK (mergeK [] [(k0, z)]))) p = some (.dK kvs') := by rw [upd_ne npq]; exact hp3
  obtain ⟨_, np4, vp4, rp4, dp4⟩ := dk_of I7.hok hp4
  obtain ⟨_, nq4, vq4, rq4, dq4⟩ := dk_of I7.hok (upd_same : (upd H3 h'.objs.size (.dK (mergeK [] [(k0, z)]))) h'.objs.size = _)
  refine wpAny_bind (wpAny_onRaise (wpAny_holding (merge_map npq nq4 dp4 dq4 (by rw [← rp4.length, ← rq4.length]; exact hsz) fun h5 d5 hs5 => ?_)))
  refine wpAny_pure ?_
  dsimp only
  have he5 : ∃ o, h5.get? p = some o := let ⟨o, _, _, ho, _⟩ := d5; ⟨o, ho⟩
  have hz5 : (mergeK kvs' [(k0, z)]).length ≤ sizeLine := by
    have := length_mergeK [(k0, z)] kvs'
    simp at this; omega
  exact wpAny_pure ⟨.ref p, _, d_write (s := { s3 with heap := h4, toks := s3.toks + 1 }) I7 (by rw [hp4]; exact True.intro) hs5 he5 (dk_new hz5 np4 (KV.merge rq4 rp4) d5), rfl, q3⟩
end
end K69
set_option Elab.async false
set_option linter.all false
set_option maxRecDepth 100000
set_option maxHeartbeats 4000000
namespace K69
open PySem PySem.Spec PyProof.Rows L2
theorem g_star {tm tk tv : TE} {σ : L2.St} {H : Hp} {Q : VK} (h : ∀ p, H p = none → tm σ (upd H p (.dK [])) fun x H1 => ∃ a kvs, x = .ref a ∧ a ≠ p ∧ H1 p = some (.dK []) ∧ H1 a = some (.dK kvs) ∧
  ∀ q, H1 q = none → tk σ (upd (upd H1 p (.dK (mergeK [] kvs))) q (.dK [])) fun y H2 => tv σ H2 fun z H3 => ∃ (k : Key) (kvs' : List (Key × V)), y = kV k ∧ H3 q = some (.dK []) ∧ H3 p = some (.dK kvs') ∧ kvs'.length + 1 ≤ sizeLine ∧ p ≠ q ∧
    Q (.ref p) (upd (upd H3 q (.dK (mergeK [] [(k, z)]))) p (.dK (mergeK kvs' [(k, z)])))) : tStar tm tk tv σ H Q := h
theorem mergeK_nd : ∀ (kvs acc : List (Key × V)), ((acc ++ kvs).map (·.1)).Nodup → mergeK acc kvs = acc ++ kvs
  | [], acc, _ => by simp [mergeK]
  | p :: l, acc, nd => by
    have e : putK acc p.1 p.2 = acc ++ [p] := by
      unfold putK
      rw [if_neg]
      intro h
      obtain ⟨q, hq, e⟩ := List.any_eq_true.mp h
      rw [List.map_append, List.map_cons, List.nodup_append] at nd
      exact nd.2.2 q.1 (List.mem_map.mpr ⟨q, hq, rfl⟩) p.1 List.mem_cons_self (of_decide_eq_true e)
    show mergeK (putK acc p.1 p.2) l = _
    rw [e, mergeK_nd l (acc ++ [p]) (by simpa using nd)]
    simp
theorem nodup_inr {l : List Str} : (l.map (Sum.inr : Str → Key)).Nodup ↔ l.Nodup := by
  unfold List.Nodup
  rw [List.pairwise_map]
  exact ⟨fun h => h.imp fun q z => q (by rw [z]), fun h => h.imp fun q z => q (Sum.inr.inj z)⟩
theorem mergeK_kvR {rs : List (Str × Addr)} (nd : (rs.map (·.1)).Nodup) : mergeK [] (kvR rs) = kvR rs := by
  rw [mergeK_nd]
  · rfl
  · rw [List.nil_append, kvR_keys]; exact nodup_inr.mpr nd
def setR (rs : List (Str × Addr)) (x : Str) (t : Addr) : List (Str × Addr) := rs.map fun p => if p.1 = x then (p.1, t) else p
theorem putK_kvR {rs : List (Str × Addr)} {x : Str} {t : Addr} (h : x ∈ rs.map (·.1)) : putK (kvR rs) (Sum.inr x : Key) (.ref t) = kvR (setR rs x t) := by
  obtain ⟨p, hp, e⟩ := List.mem_map.mp h
  have an : ((kvR rs).any fun kv => decide (kv.1 = (Sum.inr x : Key))) = true := List.any_eq_true.mpr ⟨(Sum.inr p.1, .ref p.2), List.mem_map.mpr ⟨p, hp, rfl⟩, by simp [e]⟩
  unfold putK
  rw [if_pos an]
  unfold kvR setR
  rw [List.map_map, List.map_map]
  refine List.map_congr_left fun p _ => ?_
  show (if (Sum.inr p.1 : Key) = Sum.inr x then ((Sum.inr p.1 : Key), V.ref t) else (Sum.inr p.1, V.ref p.2)) = ((Sum.inr (if p.1 = x then (p.1, t) else p).1 : Key), V.ref (if p.1 = x then (p.1, t) else p).2)
  by_cases h : p.1 = x
  · rw [if_pos (by rw [h]), if_pos h]
  · rw [if_neg (fun z => h (Sum.inr.inj z)), if_neg h]
theorem RowsAt.set {G : Hp} {rs : List (Str × Addr)} {bk : Book} (h : RowsAt G rs bk) {x : Str} {t : Addr} (ht : RowAt G t doneR) : RowsAt G (setR rs x t) (doneAt bk x) := by
  induction h with
  | nil => exact .nil
  | @cons p q ps qs hq _ ih =>
    refine .cons ?_ ih
    obtain ⟨e, hr⟩ := hq
    show (if p.1 = x then (p.1, t) else p).1 = (if q.1 = x then (q.1, doneR) else q).1 ∧ RowAt G (if p.1 = x then (p.1, t) else p).2 (if q.1 = x then (q.1, doneR) else q).2
    by_cases z : p.1 = x
    · rw [if_pos z, if_pos (by rw [← e]; exact z)]; exact ⟨e, ht⟩
    · rw [if_neg z, if_neg (by rw [← e]; exact z)]; exact ⟨e, hr⟩
section
variable {P : Program} {w : World} {K : PySem.W.Frag} {mg : Str → Option Value} {base : Heap} {C : Addr}
local macro_rules | `(tactic| walk_at "lk") => `(tactic| first | assumption | exact upd_same | exact (by assumption : Ex _ _) _ _ (by assumption))
local macro_rules | `(tactic| walk_at "g1") => `(tactic| first
  | with_reducible refine g_seq ?_ | with_reducible refine g_asg ?_ | with_reducible refine g_name ?_ | with_reducible refine g_cons ?_ | with_reducible refine g_nil ?_
  | ((with_reducible refine' g_var ?e ?_); (case e => exact rfl)) | with_reducible refine g_C ?_ | with_reducible refine g_op ?_ | with_reducible refine g_fld0 ?_ | with_reducible refine g_dget ?_ | with_reducible refine g_cb ?_ | with_reducible refine g_call ?_
  | with_reducible refine g_ret ?_ | with_reducible refine g_ifS ?_ | with_reducible refine g_test ?_ | with_reducible refine g_B ?_ | with_reducible refine g_bl ?_ | with_reducible refine g_not ?_ | with_reducible refine g_or ?_ | with_reducible refine g_and ?_
  | with_reducible refine g_ite ?_ | with_reducible refine g_itf ?_ | with_reducible refine g_itnt ?_ | with_reducible refine g_itnf ?_ | with_reducible refine g_eqS ?_ | with_reducible refine g_neS ?_ | with_reducible refine g_neI ?_ | with_reducible refine g_eqB ?_ | with_reducible refine g_neB ?_ | with_reducible refine g_eqI ?_ | with_reducible refine g_rI0 ?_ | with_reducible refine g_ipI ?_ | with_reducible refine g_int ?_
  | with_reducible refine g_drop ?_ | with_reducible refine g_next ?_ | with_reducible refine g_bm ?_ | with_reducible refine g_bm0 ?_ | with_reducible refine g_din ?_ | with_reducible refine g_dnotin ?_ | with_reducible refine g_dput ?_ | ((with_reducible refine' g_aug ?e ?_); (case e => exact rfl))
  | with_reducible refine g_andV ?_ | with_reducible refine g_orV ?_ | with_reducible refine g_notV ?_ | with_reducible refine g_if ?_ | with_reducible refine g_isN ?_ | with_reducible refine g_notN ?_ | with_reducible refine g_sl ?_ | with_reducible refine g_nopart ?_ | with_reducible refine g_part ?_
  | with_reducible refine g_gcons ?_ | with_reducible refine g_gnil ?_ | with_reducible refine g_par2 ?_ | with_reducible refine g_par3 ?_ | with_reducible refine g_vw ?_ | with_reducible refine g_uvw ?_ | with_reducible refine g_yes ?_ | with_reducible refine g_un ?_ | with_reducible refine g_rU ?_ | with_reducible refine g_gsub ?_ | with_reducible refine g_chain ?_ | with_reducible refine g_for ?_ | with_reducible refine g_istr ?_ | with_reducible refine g_ilist ?_ | with_reducible refine g_itup ?_ | with_reducible refine g_ikeys ?_ | with_reducible refine g_ivals ?_ | with_reducible refine g_iitems ?_ | with_reducible refine g_irng1 ?_ | with_reducible refine g_izip ?_ | with_reducible refine g_while ?_ | with_reducible refine g_tru _ ?_ | with_reducible refine g_lc ?_ | with_reducible refine g_dc ?_ | with_reducible refine g_lc2 ?_ | with_reducible refine g_tup ?_ | with_reducible refine g_lst ?_ | with_reducible refine g_dnew ?_ | with_reducible refine g_sfld ?_ | with_reducible refine g_dget2 ?_ | with_reducible refine g_dzip ?_ | with_reducible refine g_dnewT ?_ | with_reducible refine g_dispT ?_ | with_reducible refine g_star ?_ | with_reducible refine g_disp ?_ | with_reducible refine g_prs ?_ | with_reducible refine g_prs0 ?_ | with_reducible refine g_sc ?_ | with_reducible refine g_make ?_ | with_reducible refine g_meth ?_
  | ((with_reducible refine' g_ixT ?h ?e ?_); (case h => walk_at "lk"); (case e => exact rfl)) | ((with_reducible refine' g_ixL ?h ?e ?_); (case h => walk_at "lk"); (case e => exact rfl))
  | ((with_reducible refine' g_fldK ?h ?c ?n ?l ?_); (case h => walk_at "lk"); (case c => exact C8.InsC.cl (Txt.insC (by assumption))); (case n => first | exact Txt.nR (by assumption) | exact Txt.nF (by assumption)); (case l => exact rfl)))
local macro_rules | `(tactic| walk_at "go") => `(tactic| (repeat walk_at "g1"))
local macro_rules | `(tactic| walk_at "ty") => `(tactic| first | exact .base (.str _) | exact .base .non | exact .base (.bl _) | exact .base (.int _) | exact .base (.tup (by assumption)) | exact .base (.lst (by assumption)) | exact .base (.dK (by assumption)) | exact .fDict (by assumption))
abbrev scut_at : Stmt := topS 28
abbrev Ncut_at : List Str := ["desk", "state", "rows", "first", "other"]
theorem sccut_at : FnScope Ncut_at ["desk", "state"] (defScope scut_at) := ⟨rfl, rfl, rfl, by decide +kernel, rfl, by decide +kernel, by decide +kernel⟩
def sp_cut_at (C : Addr) : Sp := fun vs H Q _ => ∃ (a : Addr) (bk : Book) (s x : Str) (G : Hp), vs = [.ref a, .str x] ∧ Ex G H ∧ DeskAt C G a bk s ∧ DeskOk bk s ∧ x ∈ waistsL bk s ∧
  ∀ p G' H' d1 d2 ck, Nxt none G H G' H' → G' p = some (.tup [.ref d1, .ref d2]) → DeskAt C G' d1 ck s → DeskAt C G' d2 bk x → DeskOk ck s → DeskOk bk x → CutB bk s x ck → ck.length ≤ bk.length → H p = none → Q (.ref p) H'
theorem cal_cut_at (F : Has K mg "cut_at" scut_at) (T : Txt K w mg C) (c_check_desk : Cal P w K mg base 1 "check_desk" (sp_check_desk C)) (c_is_spelt : Cal P w K mg base 1 "is_spelt" sp_is_spelt)
    (c_waists_of : Cal P w K mg base 3 "waists_of" (sp_waists_of C)) (c_reached_from : Cal P w K mg base 1 "reached_from" sp_reached_from) (c_Desk : Mak P w K mg base 4 "Desk" C (sp_init C)) : Cal P w K mg base 6 "cut_at" (sp_cut_at C) := by
  refine F.cal (fun _ _ _ _ _ _ us hl => match us, hl with | [_, _], _ => rfl) sccut_at (fun vs H Q E h => ?_) (fun f cdv A outer s H vs Q E hr h => ?_)
  · obtain ⟨a, bk, s, x, G, rfl, _⟩ := h; rfl
  · obtain ⟨a, bk, s, x, G, rfl, eG, da, D, hx, k⟩ := h
    have nd := sccut_at.nd
    have hu := hu_of hr
    refine ⟨_, (pss_cons (ps_expr (kc c_check_desk hr (pa_cons (pv 0) pa_nil)))
  (pss_cons (ps_if (PW.pt (pw_or (pt_not (pt_val (kc c_is_spelt hr (pa_cons (pv 1) pa_nil)))) (pw_or1 (pt_cmpR (kNotIn K) (pv 1) (kc c_waists_of hr (pa_cons (pv 0) pa_nil)) rfl))))
    (pss_one ps_never) pss_nil)
  (pss_cons (ps_set (i := 2) nd rfl (Or.inr rfl) (pe_star (kFld K (pv 0)) (pv 1) (pe_tup (pa_cons pe_str (pa_cons pe_dnewK pa_nil)))))
  (pss_cons (ps_setDc (i := 3) (own := [("other", 4)]) rfl nd rfl rfl (sw_trueD rfl rfl rfl (by decide +kernel)) (kpList K (kc c_reached_from hr (pa_cons (pv 2) (pa_cons (kFld K (pv 0)) pa_nil)))) (blkOk_by (N := Ncut_at) (sc := defScope scut_at) (by decide +kernel)) (fun _ _ _ _ _ => (pg_name (i := 4) nd rfl (Or.inl rfl))) (fun _ _ _ _ _ => pts_nil) (fun _ _ _ _ _ => (pv 4)) (fun _ _ _ _ _ => (pe_dget hu (pv 2) (pv 4) (fun _ _ => rfl))))
  (pss_one (ps_ret (pe_tup (pa_cons (kmk c_Desk hr (pa_cons (pv 3) (pa_cons (kFld K (pv 0)) pa_nil))) (pa_cons (kmk c_Desk hr (pa_cons (kFld K (pv 0)) (pa_cons (pv 1) pa_nil))) pa_nil))))))))), ?_⟩
    have da' := da
    obtain ⟨b, dx, hag, hdx, hbk⟩ := da'
    have hbk' := hbk
    obtain ⟨rs, hbg, hrs⟩ := hbk'
    have few := D.ok.few
    have wx := (waistsL_mem D.ok D.st).mp hx
    have rx := wx.2.1
    have kx := rx.key D.ok D.st
    obtain ⟨r, hlk, hmem⟩ := D.ok.get kx
    walk_at "go"
    refine ⟨a, dx, _, rfl, eG _ _ hag, ?_⟩
    walk_at "go"
    refine ⟨x, rfl, spelt_len (D.ok.sp _ hmem), ?_⟩
    rw [D.ok.sp _ hmem]
    walk_at "go"
    refine ⟨a, bk, s, G, rfl, eG, da, D.ok, D.st, fun p G1 H1 N1 gp hp => ?_⟩
    walk_at "go"
    refine g_nin (.inl (SqL.of (N1.gh _ _ gp))) rfl (flatS _) (inV_str x _) ?_
    rw [decide_eq_true hx]
    walk_at "go"
    intro p1 hp1
    have ha1 := N1.gh _ _ (N1.gg _ _ hag)
    have hb1 := N1.gh _ _ (N1.gg _ _ hbg)
    have N2 : Nxt none G H G1 (upd H1 p1 (.dK [])) := N1.own hp1 (N1.none0 hp1)
    have hp2 : (upd H1 p1 (.dK [])) p1 = some (.dK []) := upd_same
    have hp10 := N1.none0 hp1
    have gp1 := N1.gh.back hp1
    have ha2 := (Ex.new (o := .dK []) hp1) _ _ ha1
    have hb2 := (Ex.new (o := .dK []) hp1) _ _ hb1
    have nb1 : b ≠ p1 := ne_of_none hb1 hp1
    generalize upd H1 p1 (.dK []) = H2 at N2 hp2 ha2 hb2 ⊢
    walk_at "go"
    refine ⟨b, kvR rs, rfl, nb1, hp2, hb2, fun q hq => ?_⟩
    have ndr : (rs.map (·.1)).Nodup := by rw [hrs.keys]; exact D.ok.nd
    rw [mergeK_kvR ndr]
    have nq1 : q ≠ p1 := fun z => by subst z; rw [hp2] at hq; cases hq
    have N3 : Nxt none G H G1 (upd H2 p1 (.dK (kvR rs))) := N2.mut gp1 hp10
    have hq3 : (upd H2 p1 (.dK (kvR rs))) q = none := by rw [upd_ne nq1]; exact hq
    have hp3 : (upd H2 p1 (.dK (kvR rs))) p1 = some (.dK (kvR rs)) := upd_same
    generalize upd H2 p1 (.dK (kvR rs)) = H3 at N3 hq3 hp3 ⊢
    have hq0 := N3.none0 hq3
    have gq := N3.gh.back hq3
    have N4 : Nxt none G H G1 (upd H3 q (.dK [])) := N3.own hq3 hq0
    have hp4 := (Ex.new (o := .dK []) hq3) _ _ hp3
    have hq4 : (upd H3 q (.dK [])) q = some (.dK []) := upd_same
    generalize upd H3 q (.dK []) = H4 at N4 hp4 hq4 ⊢
    walk_at "go"
    intro e he
    have he0 := N4.none0 he
    have N5 := N4.new (o := .dK []) he he0
    have hp5 := (Ex.new (o := .dK []) he) _ _ hp4
    have hq5 := (Ex.new (o := .dK []) he) _ _ hq4
    have ge5 : (upd G1 e (.dK [])) e = some (.dK []) := upd_same
    have gq5 : (upd G1 e (.dK [])) q = none := by rw [upd_ne (ne_of_none hq4 he)]; exact gq
    have gp5 : (upd G1 e (.dK [])) p1 = none := by rw [upd_ne (ne_of_none hp4 he)]; exact gp1
    have ex5 : Ex G1 (upd G1 e (.dK [])) := Ex.new (N4.gh.back he)
    generalize upd G1 e (.dK []) = G5 at N5 ge5 gq5 gp5 ex5
    generalize upd H4 e (.dK []) = H5 at N5 hp5 hq5 ⊢
    walk_at "go"
    refine ⟨by show 2 ≤ sizeLine; decide, fun t ht => ?_⟩
    have ht0 := N5.none0 ht
    have N6 := N5.new (o := .tup [.str (PySem.Str.ofString "done"), .ref e]) ht ht0
    have hp6 := (Ex.new (o := .tup [.str (PySem.Str.ofString "done"), .ref e]) ht) _ _ hp5
    have hq6 := (Ex.new (o := .tup [.str (PySem.Str.ofString "done"), .ref e]) ht) _ _ hq5
    have ex6 : Ex G5 (upd G5 t (.tup [.str (PySem.Str.ofString "done"), .ref e])) := Ex.new (N5.gh.back ht)
    have rt6 : RowAt (upd G5 t (.tup [.str (PySem.Str.ofString "done"), .ref e])) t doneR := ⟨e, upd_same, ex6 _ _ ge5⟩
    have gq6 : (upd G5 t (.tup [.str (PySem.Str.ofString "done"), .ref e])) q = none := by rw [upd_ne (ne_of_none hq5 ht)]; exact gq5
    have gp6 : (upd G5 t (.tup [.str (PySem.Str.ofString "done"), .ref e])) p1 = none := by rw [upd_ne (ne_of_none hp5 ht)]; exact gp5
    generalize upd G5 t (.tup [.str (PySem.Str.ofString "done"), .ref e]) = G6 at N6 ex6 rt6 gq6 gp6
    generalize upd H5 t (.tup [.str (PySem.Str.ofString "done"), .ref e]) = H6 at N6 hp6 hq6 ⊢
    have klen : (kvR rs).length ≤ 26 := by simp only [kvR, List.length_map, hrs.len]; exact few
    refine ⟨Sum.inr x, kvR rs, rfl, hq6, hp6, by rw [sizeLine_eq]; omega, Ne.symm nq1, ?_⟩
    have e1 : mergeK (kvR rs) [((Sum.inr x : Key), V.ref t)] = kvR (setR rs x t) := by
      show putK (kvR rs) (Sum.inr x) (.ref t) = _
      exact putK_kvR (by rw [hrs.keys]; exact kx)
    rw [e1]
    have N7 := (N6.mut (p := q) (o := .dK (mergeK [] [((Sum.inr x : Key), V.ref t)])) gq6 hq0).mut (p := p1) (o := .dK (kvR (setR rs x t))) gp6 hp10
    have N8 := N7.frz gp6 upd_same hp10
    have ex8 : Ex G6 (upd G6 p1 (.dK (kvR (setR rs x t)))) := Ex.new gp6
    have bk8 : BookAt (upd G6 p1 (.dK (kvR (setR rs x t)))) p1 (doneAt bk x) := ⟨setR rs x t, upd_same, ((RowsAt.mono hrs (N1.gg.trans (ex5.trans ex6))).set rt6).mono ex8⟩
    generalize upd G6 p1 (.dK (kvR (setR rs x t))) = G8 at N8 ex8 bk8
    generalize upd (upd H6 q (.dK (mergeK [] [((Sum.inr x : Key), V.ref t)]))) p1 (.dK (kvR (setR rs x t))) = H8 at N8 ⊢
    have ha8 := N8.gh _ _ (N8.gg _ _ hag)
    have hs8 : s ∈ (doneAt bk x).map (·.1) := by rw [doneAt_keys]; exact D.st
    walk_at "go"
    refine ⟨p1, doneAt bk x, s, G8, rfl, N8.gh, bk8, D.ok.doneAt x, hs8, fun lp G9 H9 l N9 gl hl ndl ml => ?_⟩
    have hlp := N9.gh _ _ gl
    have N10 := N8.trans N9
    obtain ⟨okf, sf, cf, lf⟩ := cut_ok D rx ndl ml
    have llen : l.length ≤ 26 := by
      have : (pickB (doneAt bk x) l).length = l.length := by unfold pickB; rw [List.length_map]
      omega
    obtain ⟨rs8, hp18, hrs8⟩ := bk8.mono N9.gg
    refine ⟨lp, rfl, ⟨_, SqL.of hlp⟩, fun D9 hD9 => ?_⟩
    refine dc_gen walk_list N9.gh hD9 (by rw [List.length_map]; exact small1000 (by omega)) (fun i acc Gi => ∃ ps, acc = kvR ps ∧ RowsAt Gi ps ((pickB (doneAt bk x) l).take i)) ⟨[], rfl, .nil⟩ (fun H' e => SqL.of (e _ _ hlp)) ?_ ?_
    · rintro i y Gi Hi Hi' acc Kt Kf hi Ni g0 hh hl' ⟨ps, rfl, pp⟩ ⟨rfl, hy⟩ htt hff
      obtain ⟨y, hy', rfl⟩ := strs_get hy
      clear hy
      have my : y ∈ l := List.mem_of_getElem? hy'
      have ky := ((ml y).mp my).key (D.ok.doneAt x) hs8
      obtain ⟨ry, hry, _⟩ := (D.ok.doneAt x).get ky
      obtain ⟨c, hv, hc⟩ := RowsAt.get hrs8 hry
      walk_at "go"
      refine ⟨rfl, ?_⟩
      walk_at "go"
      refine g_dgs (s := y) (.inl (Ni.ex _ _ (N9.gh _ _ hp18))) hv ?_
      refine htt (Sum.inr y) (.ref c) Gi Hi' (Nxt.refl Ni.gh) ⟨ps ++ [(y, c)], ?_, ?_⟩
      · have : y ∉ ps.map (·.1) := by
          rw [pp.keys]
          have e2 : (pickB (doneAt bk x) l)[i]? = some (y, ((doneAt bk x).lookup y).getD doneR) := by unfold pickB; rw [List.getElem?_map, hy']; rfl
          exact take_nd (by rw [pickB_keys]; exact ndl) e2
        exact putK_kvG V.ref this
      · have e2 : (pickB (doneAt bk x) l)[i]? = some (y, ((doneAt bk x).lookup y).getD doneR) := by unfold pickB; rw [List.getElem?_map, hy']; rfl
        rw [take_snoc e2]
        refine RowsAt.snoc pp ?_
        rw [hry]
        exact hc.mono Ni.gg
    · rintro Gi Hi acc Ni g0 hh hl' ⟨ps, rfl, pp⟩
      rw [List.take_of_length_le (by unfold pickB; simp)] at pp
      have hD0 := N10.none0 hD9
      have N11 := (N10.trans Ni).frz g0 hh hD0
      have bkf : BookAt (upd Gi D9 (.dK (kvR ps))) D9 (pickB (doneAt bk x) l) := ⟨ps, upd_same, pp.mono (Ex.new g0)⟩
      generalize upd Gi D9 (.dK (kvR ps)) = G11 at N11 bkf
      have ha11 := N11.gh _ _ (N11.gg _ _ hag)
      walk_at "go"
      refine mk_desk N11.gh (bkf.mono N11.gh) okf sf fun d1 G12 H12 N12 dk1 hd1 => ?_
      have N13 := N11.trans N12
      have ha13 := N13.gh _ _ (N13.gg _ _ hag)
      walk_at "go"
      refine mk_desk N13.gh (hbk.mono (N13.gg.trans N13.gh)) D.ok kx fun d2 G14 H14 N14 dk2 hd2 => ?_
      have N15 := N13.trans N14
      rw [D.n] at dk2
      walk_at "go"
      refine ⟨by show 2 ≤ sizeLine; decide, fun tp htp => ?_⟩
      have ht0 := N15.none0 htp
      have ex16 : Ex G14 (upd G14 tp (.tup [.ref d1, .ref d2])) := Ex.new (N15.gh.back htp)
      exact k tp _ _ d1 d2 _ (N15.new htp ht0) upd_same (dk1.mono (N14.gg.trans ex16)) (dk2.mono ex16) (DeskOk.mk' okf sf) ⟨D.ok, kx, D.n⟩ cf (by rw [nrm_len]; exact lf) ht0
end
end K69
set_option Elab.async false
set_option linter.all false
set_option maxRecDepth 100000
/-! Worlds that go alike; books put one behind the other; names. -/
namespace K69
open PySem PySem.Spec PyProof.Rows L2
def OptR {α β : Type} (R : α → β → Prop) : Option α → Option β → Prop
  | none, none => True
  | some a, some b => R a b
  | _, _ => False
/-- related states have alike rows, and go on to related states -/
def Bis {α β : Type} [BEq α] [BEq β] (bk : GB α) (bk' : GB β) (R : α → β → Prop) : Prop :=
  ∀ a b, R a b → ∃ r r', bk.lookup a = some r ∧ bk'.lookup b = some r' ∧ r.1 = r'.1 ∧ ∀ w, OptR R (r.2.lookup w) (r'.2.lookup w)
theorem OptR.comp {α β γ : Type} {R : α → β → Prop} {S : β → γ → Prop} : ∀ {a : Option α} {b : Option β} {c : Option γ}, OptR R a b → OptR S b c → OptR (fun a c => ∃ b, R a b ∧ S b c) a c
  | none, none, none, _, _ => trivial
  | some _, some b, some _, h, k => ⟨b, h, k⟩
  | none, some _, _, h, _ => h.elim
  | some _, none, _, h, _ => h.elim
  | none, none, some _, _, k => k.elim
  | some _, some _, none, _, k => k.elim
theorem Bis.comp {α β γ : Type} [BEq α] [BEq β] [BEq γ] {A : GB α} {B : GB β} {C : GB γ} {R : α → β → Prop} {S : β → γ → Prop} (h : Bis A B R) (k : Bis B C S) : Bis A C (fun a c => ∃ b, R a b ∧ S b c) := by
  rintro a c ⟨b, hr, hs⟩
  obtain ⟨r, r', e1, e2, e3, e4⟩ := h a b hr
  obtain ⟨q, q', f1, f2, f3, f4⟩ := k b c hs
  rw [e2] at f1; cases f1
  exact ⟨r, q', e1, f2, e3.trans f3, fun w => (e4 w).comp (f4 w)⟩
theorem OptR.flip {α β : Type} {R : α → β → Prop} : ∀ {a : Option α} {b : Option β}, OptR R a b → OptR (fun b a => R a b) b a
  | none, none, _ => trivial
  | some _, some _, h => h
  | none, some _, h => h.elim
  | some _, none, h => h.elim
theorem Bis.flip {α β : Type} [BEq α] [BEq β] {A : GB α} {B : GB β} {R : α → β → Prop} (h : Bis A B R) : Bis B A (fun b a => R a b) := fun b a hr => by
  obtain ⟨r, r', e1, e2, e3, e4⟩ := h a b hr
  exact ⟨r', r, e2, e1, e3.symm, fun w => (e4 w).flip⟩
/-- the same rows, read from the same state -/
theorem bis_same {bk bk' : Book} (ok : BookOk bk) (e : ∀ s, bk'.lookup s = (bk.lookup s).map rowN ∨ bk'.lookup s = bk.lookup s) : Bis bk bk' (fun a b => a = b ∧ a ∈ bk.map (·.1)) := by
  rintro a b ⟨rfl, ha⟩
  obtain ⟨r, hr, hm⟩ := ok.get ha
  have okr : RowOk r := ok.row _ hm
  have refl : ∀ w, OptR (fun a b => a = b ∧ a ∈ bk.map (·.1)) (r.2.lookup w) (r.2.lookup w) := fun w => by
    cases q : r.2.lookup w with
    | none => trivial
    | some g => exact ⟨rfl, ok.cl _ hm (w, g) (lookup_mem q)⟩
  rcases e a with h | h
  · refine ⟨r, rowN r, hr, by rw [h, hr]; rfl, rfl, fun w => ?_⟩
    show OptR _ _ ((srtK r.2).lookup w)
    rw [lookup_srtK okr.nd]
    exact refl w
  · exact ⟨r, r, hr, by rw [h, hr], rfl, refl⟩
/-! ### keys that are pairs -/
abbrev Kk := Str × Str
abbrev KRow := Str × List (Str × Kk)
abbrev KBook := List (Kk × KRow)
abbrev kF (y : Str) : Kk := (("first" : Str), y)
abbrev kS (y : Str) : Kk := (("second" : Str), y)
def mkR (m : Str) (r : Row) : KRow := (r.1, r.2.map fun q => (q.1, (m, q.2)))
def markB (m : Str) (bk : Book) : KBook := bk.map fun p => ((m, p.1), mkR m p.2)
def jnR (r2 : Row) (r : Row) : KRow := if r.1 = "done" then mkR "second" r2 else mkR "first" r
def jnl (bk1 : Book) (r2 : Row) : KBook := bk1.map fun p => (("first", p.1), jnR r2 p.2)
def jn (bk1 bk2 : Book) (r2 : Row) : KBook := markB "second" bk2 ++ jnl bk1 r2
theorem lookup_app {α β : Type} [BEq α] (l m : List (α × β)) (a : α) : (l ++ m).lookup a = (l.lookup a).or (m.lookup a) := by
  induction l with
  | nil => simp
  | cons p l ih =>
    obtain ⟨x, y⟩ := p
    rw [List.cons_append, List.lookup_cons, List.lookup_cons, ih]
    cases a == x <;> rfl
theorem lookup_mk {β : Type} (f : Row → β) (m : Str) (bk : Book) (k : Kk) : (bk.map fun p => ((m, p.1), f p.2)).lookup k = if k.1 = m then (bk.lookup k.2).map f else none := by
  induction bk with
  | nil => simp
  | cons p l ih =>
    obtain ⟨x, r⟩ := p
    obtain ⟨a, b⟩ := k
    show List.lookup (a, b) (((m, x), f r) :: _) = _
    rw [List.lookup_cons, List.lookup_cons, ih]
    by_cases h1 : a = m
    · subst h1
      by_cases h2 : b = x
      · subst h2; simp
      · have : ((a, b) == (a, x)) = false := by simp [h2]
        rw [this]
        have : (b == x) = false := by simpa using h2
        rw [this]
    · have : ((a, b) == (m, x)) = false := by simp [h1]
      rw [this]
      simp [h1]
theorem fs_ne : ¬ (("first" : Str) = "second") := by decide +kernel
theorem jn_second (bk1 bk2 : Book) (r2 : Row) (y : Str) : (jn bk1 bk2 r2).lookup (kS y) = (bk2.lookup y).map (mkR "second") := by
  unfold jn jnl markB
  rw [lookup_app, lookup_mk, lookup_mk, if_pos rfl, if_neg (fun z => fs_ne z.symm), Option.or_none]
theorem jn_first (bk1 bk2 : Book) (r2 : Row) (y : Str) : (jn bk1 bk2 r2).lookup (kF y) = (bk1.lookup y).map (jnR r2) := by
  unfold jn jnl markB
  rw [lookup_app, lookup_mk, lookup_mk, if_neg fs_ne, if_pos rfl, Option.none_or]
theorem lookup_map {α β γ : Type} [BEq α] (f : β → γ) (l : List (α × β)) (a : α) : (l.map fun q => (q.1, f q.2)).lookup a = (l.lookup a).map f := by
  induction l with
  | nil => rfl
  | cons p l ih =>
    obtain ⟨x, y⟩ := p
    rw [List.map_cons, List.lookup_cons, List.lookup_cons, ih]
    cases a == x <;> rfl
theorem mkR_at (m : Str) (r : Row) (w : Str) : (mkR m r).2.lookup w = (r.2.lookup w).map fun g => (m, g) := lookup_map _ _ _
/-- what a book with pairs for keys keeps -/
structure KOk (kb : KBook) : Prop where
  nd : (kb.map (·.1)).Nodup
  row : ∀ p ∈ kb, (p.2.1 = "says" ∨ p.2.1 = "hears" ∨ p.2.1 = "done") ∧ (p.2.1 = "done" ↔ p.2.2 = []) ∧ (∀ q ∈ p.2.2, spelt q.1 = true) ∧ (p.2.2.map (·.1)).Nodup ∧ p.2.2.length ≤ 20
  cl : ∀ p ∈ kb, ∀ q ∈ p.2.2, q.2 ∈ kb.map (·.1)
  few : kb.length ≤ 26
theorem mkR_keys (m : Str) (r : Row) : (mkR m r).2.map (·.1) = r.2.map (·.1) := by unfold mkR; rw [List.map_map]; rfl
theorem mkR_ok {m : Str} {r : Row} (h : RowOk r) : ((mkR m r).1 = "says" ∨ (mkR m r).1 = "hears" ∨ (mkR m r).1 = "done") ∧ ((mkR m r).1 = "done" ↔ (mkR m r).2 = []) ∧ (∀ q ∈ (mkR m r).2, spelt q.1 = true) ∧ ((mkR m r).2.map (·.1)).Nodup ∧ (mkR m r).2.length ≤ 20 := by
  refine ⟨h.kind, h.done.trans ?_, fun q hq => ?_, by rw [mkR_keys]; exact h.nd, by unfold mkR; rw [List.length_map]; exact h.few⟩
  · unfold mkR; simp
  · obtain ⟨p, hp, rfl⟩ := List.mem_map.mp hq
    exact (h.sp p hp).1
theorem jn_keys (bk1 bk2 : Book) (r2 : Row) : (jn bk1 bk2 r2).map (·.1) = (bk2.map (·.1)).map (fun y => (("second" : Str), y)) ++ (bk1.map (·.1)).map (fun y => (("first" : Str), y)) := by
  unfold jn markB jnl
  rw [List.map_append, List.map_map, List.map_map, List.map_map, List.map_map]
  rfl
theorem nd_mark {l : List Str} (m : Str) (nd : l.Nodup) : (l.map fun y => (m, y)).Nodup := by
  unfold List.Nodup at nd ⊢
  rw [List.pairwise_map]
  exact nd.imp fun q z => q (Prod.mk.inj z).2
theorem jn_ok {bk1 bk2 : Book} {s2 : Str} {r2 : Row} (ok1 : BookOk bk1) (ok2 : BookOk bk2) (h2 : bk2.lookup s2 = some r2) (few : bk1.length + bk2.length ≤ 26) : KOk (jn bk1 bk2 r2) where
  nd := by
    rw [jn_keys]
    refine List.nodup_append.mpr ⟨nd_mark _ ok2.nd, nd_mark _ ok1.nd, fun x hx y hy e => ?_⟩
    obtain ⟨a, _, rfl⟩ := List.mem_map.mp hx
    obtain ⟨b, _, rfl⟩ := List.mem_map.mp hy
    exact fs_ne (Prod.mk.inj e).1.symm
  row := fun p hp => by
    rcases List.mem_append.mp hp with h | h
    · obtain ⟨q, hq, rfl⟩ := List.mem_map.mp h
      exact mkR_ok (ok2.row q hq)
    · obtain ⟨q, hq, rfl⟩ := List.mem_map.mp h
      show _ ∧ _
      unfold jnR
      split
      · exact mkR_ok (ok2.row _ (lookup_mem h2))
      · exact mkR_ok (ok1.row q hq)
  cl := fun p hp q hq => by
    rw [jn_keys, List.mem_append]
    have second : ∀ r, (∃ s, (s, r) ∈ bk2) → q ∈ (mkR "second" r).2 → q.2 ∈ (bk2.map (·.1)).map (fun y => (("second" : Str), y)) := fun r ⟨s, hs⟩ hq => by
      obtain ⟨t, ht, rfl⟩ := List.mem_map.mp hq
      exact List.mem_map.mpr ⟨t.2, ok2.cl _ hs t ht, rfl⟩
    rcases List.mem_append.mp hp with h | h
    · obtain ⟨u, hu, rfl⟩ := List.mem_map.mp h
      exact .inl (second u.2 ⟨u.1, hu⟩ hq)
    · obtain ⟨u, hu, rfl⟩ := List.mem_map.mp h
      have hq' : q ∈ (jnR r2 u.2).2 := hq
      unfold jnR at hq'
      split at hq'
      · exact .inl (second r2 ⟨s2, lookup_mem h2⟩ hq')
      · obtain ⟨t, ht, rfl⟩ := List.mem_map.mp hq'
        exact .inr (List.mem_map.mpr ⟨t.2, ok1.cl _ hu t ht, rfl⟩)
  few := by
    unfold jn markB jnl
    rw [List.length_append, List.length_map, List.length_map]; omega
theorem klookup_mem {kb : KBook} {k : Kk} {r : KRow} (h : kb.lookup k = some r) : (k, r) ∈ kb := by
  induction kb with
  | nil => cases h
  | cons p l ih =>
    obtain ⟨x, y⟩ := p
    rw [List.lookup_cons] at h
    by_cases e : k = x
    · subst e; simp at h; subst h; exact List.mem_cons_self
    · have : (k == x) = false := by simpa using e
      rw [this] at h
      exact List.mem_cons_of_mem _ (ih h)
theorem klookup_some {kb : KBook} {k : Kk} (h : k ∈ kb.map (·.1)) : ∃ r, kb.lookup k = some r := by
  induction kb with
  | nil => cases h
  | cons p l ih =>
    obtain ⟨x, y⟩ := p
    rw [List.lookup_cons]
    by_cases e : k = x
    · subst e; exact ⟨y, by simp⟩
    · have : (k == x) = false := by simpa using e
      rw [this]
      exact ih ((List.mem_cons.mp h).resolve_left e)
theorem Rch.kkey {kb : KBook} (ok : KOk kb) {bar : Option Kk} {s t : Kk} (hs : s ∈ kb.map (·.1)) (h : Rch kb bar s t) : t ∈ kb.map (·.1) :=
  h.within (· ∈ kb.map (·.1)) hs fun a b _ st _ => by
    obtain ⟨r, hr, m⟩ := st
    obtain ⟨q, hq, rfl⟩ := List.mem_map.mp m
    exact ok.cl _ (klookup_mem hr) q hq
/-- where a first book meets a second one: the two go like the whole -/
theorem jn_cut {bk ck : Book} {s x : Str} {r : Row} (D : DeskOk bk s) (Dc : DeskOk ck s) (W : Wst bk s x) (c : CutB bk s x ck) (hr : bk.lookup x = some r) : ∃ R : Kk → Str → Prop, R (kF s) s ∧ Bis (jn ck bk r) bk R := by
  have same : ∀ y q, y ≠ x → ck.lookup y = some q → bk.lookup y = some q ∧ Rch bk (some x) s y := fun y q ne h => by
    by_cases e : Rch bk (some x) s y
    · rw [c.on y ne e] at h; exact ⟨h, e⟩
    · rw [c.off y ne e] at h; cases h
  refine ⟨fun k b => (k = kF b ∧ b ∈ ck.map (·.1)) ∨ (k = kS b ∧ b ∈ bk.map (·.1)), .inl ⟨rfl, Dc.st⟩, ?_⟩
  have second : ∀ q, (∃ y, (y, q) ∈ bk) → ∀ w, OptR (fun (k : Kk) b => (k = kF b ∧ b ∈ ck.map (·.1)) ∨ (k = kS b ∧ b ∈ bk.map (·.1))) ((mkR "second" q).2.lookup w) (q.2.lookup w) := fun q ⟨y, hy⟩ w => by
    rw [mkR_at]
    cases e : q.2.lookup w with
    | none => trivial
    | some g => exact .inr ⟨rfl, D.ok.cl _ hy (w, g) (lookup_mem e)⟩
  rintro k b (⟨rfl, hb⟩ | ⟨rfl, hb⟩)
  · obtain ⟨q, hq, hm⟩ := Dc.ok.get hb
    rw [jn_first, hq]
    by_cases e : b = x
    · subst e
      rw [c.at_] at hq
      cases hq
      refine ⟨_, r, rfl, hr, ?_, ?_⟩
      · show (jnR r doneR).1 = r.1
        unfold jnR; rw [if_pos (show doneR.1 = "done" from rfl)]; rfl
      · intro w
        show OptR _ ((jnR r doneR).2.lookup w) _
        unfold jnR; rw [if_pos (show doneR.1 = "done" from rfl)]
        exact second r ⟨b, lookup_mem hr⟩ w
    · obtain ⟨hq2, rb⟩ := same b q e hq
      have nd : ¬ q.1 = "done" := fun z => W.2.2 ⟨b, rb, q, hq2, z⟩
      refine ⟨_, q, rfl, hq2, ?_, ?_⟩
      · show (jnR r q).1 = q.1
        unfold jnR; rw [if_neg nd]; rfl
      · intro w
        show OptR _ ((jnR r q).2.lookup w) _
        unfold jnR; rw [if_neg nd, mkR_at]
        cases e : q.2.lookup w with
        | none => trivial
        | some g => exact .inl ⟨rfl, Dc.ok.cl _ hm (w, g) (lookup_mem e)⟩
  · obtain ⟨q, hq, hm⟩ := D.ok.get hb
    exact ⟨_, q, by rw [jn_second, hq]; rfl, hq, rfl, second q ⟨b, hm⟩⟩
/-! ### new names -/
def nmL (ks : List Kk) : List (Kk × Str) := ks.zip letS
def nm (ks : List Kk) (k : Kk) : Str := ((nmL ks).lookup k).getD ""
theorem letS_nd : letS.Nodup := by decide +kernel
theorem letS_spelt : ∀ x ∈ letS, spelt x = true := by decide +kernel
theorem nmL_at {ks : List Kk} (nd : ks.Nodup) {i : Nat} {k : Kk} {x : Str} (h1 : ks[i]? = some k) (h2 : letS[i]? = some x) : (nmL ks).lookup k = some x := by
  unfold nmL
  generalize letS = L at h2 ⊢
  induction ks generalizing i L with
  | nil => cases h1
  | cons a l ih =>
    obtain ⟨n1, n2⟩ := List.nodup_cons.mp nd
    cases L with
    | nil => cases h2
    | cons b L =>
      rw [List.zip_cons_cons, List.lookup_cons]
      cases i with
      | zero => cases h1; cases h2; simp
      | succ i =>
        have h1' : l[i]? = some k := by simpa using h1
        have ne : (k == a) = false := by simpa using fun z : k = a => n1 (z ▸ List.mem_of_getElem? h1')
        rw [ne]
        exact ih n2 h1' L (by simpa using h2)
theorem nm_at {ks : List Kk} (nd : ks.Nodup) (few : ks.length ≤ 26) {i : Nat} {k : Kk} (h : ks[i]? = some k) : ∃ x, letS[i]? = some x ∧ nm ks k = x ∧ (nmL ks).lookup k = some x := by
  have hi : i < letS.length := by
    have := (List.getElem?_eq_some_iff.mp h).1
    rw [letS_len]; omega
  have e := nmL_at nd h (List.getElem?_eq_getElem hi)
  exact ⟨_, List.getElem?_eq_getElem hi, by unfold nm; rw [e]; rfl, e⟩
theorem nm_inj {ks : List Kk} (nd : ks.Nodup) (few : ks.length ≤ 26) {a b : Kk} (ha : a ∈ ks) (hb : b ∈ ks) (h : nm ks a = nm ks b) : a = b := by
  obtain ⟨i, hi⟩ := List.mem_iff_getElem?.mp ha
  obtain ⟨j, hj⟩ := List.mem_iff_getElem?.mp hb
  obtain ⟨x, hx, ex, _⟩ := nm_at nd few hi
  obtain ⟨y, hy, ey, _⟩ := nm_at nd few hj
  rw [ex, ey] at h
  subst h
  have : i = j := nd_ix letS_nd hx hy
  subst this
  rw [hi] at hj; cases hj; rfl
theorem nm_spelt {ks : List Kk} (nd : ks.Nodup) (few : ks.length ≤ 26) {a : Kk} (ha : a ∈ ks) : spelt (nm ks a) = true := by
  obtain ⟨i, hi⟩ := List.mem_iff_getElem?.mp ha
  obtain ⟨x, hx, ex, _⟩ := nm_at nd few hi
  rw [ex]
  exact letS_spelt x (List.mem_of_getElem? hx)
def nmR (ks : List Kk) (r : KRow) : Row := (r.1, r.2.map fun q => (q.1, nm ks q.2))
def nmB (ks : List Kk) (kb : KBook) : Book := ks.map fun k => (nm ks k, nmR ks ((kb.lookup k).getD ("done", [])))
theorem nmB_keys (ks : List Kk) (kb : KBook) : (nmB ks kb).map (·.1) = ks.map (nm ks) := by unfold nmB; rw [List.map_map]; rfl
theorem nm_nd {ks : List Kk} (nd : ks.Nodup) (few : ks.length ≤ 26) : (ks.map (nm ks)).Nodup := by
  unfold List.Nodup
  rw [List.pairwise_map]
  exact nd.imp_of_mem fun ha hb q z => q (nm_inj nd few ha hb z)
theorem nmB_at {ks : List Kk} {kb : KBook} (nd : ks.Nodup) (few : ks.length ≤ 26) {k : Kk} (h : k ∈ ks) : (nmB ks kb).lookup (nm ks k) = some (nmR ks ((kb.lookup k).getD ("done", []))) :=
  mem_lookup (by rw [nmB_keys]; exact nm_nd nd few) (List.mem_map.mpr ⟨k, h, rfl⟩)
theorem nmB_ok {ks : List Kk} {kb : KBook} {k0 : Kk} (ok : KOk kb) (h0 : k0 ∈ kb.map (·.1)) (nd : ks.Nodup) (hk : ∀ k, k ∈ ks ↔ Rch kb none k0 k) (few : ks.length ≤ 26) : BookOk (nmB ks kb) where
  ne := fun h => by
    have m := (hk k0).mpr (.refl (by simp))
    have : ks = [] := by have := congrArg List.length h; unfold nmB at this; simpa using this
    rw [this] at m; cases m
  nd := by rw [nmB_keys]; exact nm_nd nd few
  sp := fun p hp => by
    obtain ⟨k, hm, rfl⟩ := List.mem_map.mp hp
    exact nm_spelt nd few hm
  row := fun p hp => by
    obtain ⟨k, hm, rfl⟩ := List.mem_map.mp hp
    obtain ⟨r, hr⟩ := klookup_some (((hk k).mp hm).kkey ok h0)
    have mr := klookup_mem hr
    obtain ⟨a1, a2, a3, a4, a5⟩ := ok.row _ mr
    show RowOk (nmR ks ((kb.lookup k).getD ("done", [])))
    rw [hr]
    have goal : ∀ q ∈ r.2, q.2 ∈ ks := fun q hq => (hk q.2).mpr (.tail ((hk k).mp hm) ⟨r, hr, List.mem_map.mpr ⟨q, hq, rfl⟩⟩ (by simp))
    refine ⟨a1, a2.trans (by show r.2 = [] ↔ (r.2.map fun q => (q.1, nm ks q.2)) = []; simp), fun q hq => ?_, ?_, ?_⟩
    · obtain ⟨t, ht, rfl⟩ := List.mem_map.mp hq
      exact ⟨a3 t ht, nm_spelt nd few (goal t ht)⟩
    · show ((r.2.map fun q => (q.1, nm ks q.2)).map (·.1)).Nodup
      rw [List.map_map]; exact a4
    · show (r.2.map fun q => (q.1, nm ks q.2)).length ≤ 20
      rw [List.length_map]; exact a5
  cl := fun p hp q hq => by
    rw [nmB_keys]
    obtain ⟨k, hm, rfl⟩ := List.mem_map.mp hp
    obtain ⟨r, hr⟩ := klookup_some (((hk k).mp hm).kkey ok h0)
    have hq' : q ∈ (nmR ks ((kb.lookup k).getD ("done", []))).2 := hq
    rw [hr] at hq'
    obtain ⟨t, ht, rfl⟩ := List.mem_map.mp hq'
    exact List.mem_map.mpr ⟨t.2, (hk t.2).mpr (.tail ((hk k).mp hm) ⟨r, hr, List.mem_map.mpr ⟨t, ht, rfl⟩⟩ (by simp)), rfl⟩
  few := by unfold nmB; rw [List.length_map]; exact few
/-- the new names go like the old -/
theorem nmB_bis {ks : List Kk} {kb : KBook} {k0 : Kk} (ok : KOk kb) (h0 : k0 ∈ kb.map (·.1)) (nd : ks.Nodup) (hk : ∀ k, k ∈ ks ↔ Rch kb none k0 k) (few : ks.length ≤ 26) :
    Bis (nrm (nmB ks kb)) kb (fun a k => k ∈ ks ∧ a = nm ks k) := by
  rintro a k ⟨hm, rfl⟩
  have okb := nmB_ok ok h0 nd hk few
  obtain ⟨r, hr⟩ := klookup_some (((hk k).mp hm).kkey ok h0)
  have e := nmB_at (kb := kb) nd few hm
  rw [hr] at e
  refine ⟨rowN (nmR ks r), r, by rw [lookup_nrm okb.nd, e]; rfl, hr, rfl, fun w => ?_⟩
  have ndr : ((nmR ks r).2.map (·.1)).Nodup := (okb.row _ (lookup_mem e)).nd
  show OptR _ ((srtK (nmR ks r).2).lookup w) _
  rw [lookup_srtK ndr]
  show OptR _ ((r.2.map fun q => (q.1, nm ks q.2)).lookup w) _
  rw [lookup_map]
  cases q : r.2.lookup w with
  | none => trivial
  | some g => exact ⟨(hk g).mpr (.tail ((hk k).mp hm) ⟨r, hr, List.mem_map.mpr ⟨(w, g), by
      have gen : ∀ l : List (Str × Kk), l.lookup w = some g → (w, g) ∈ l := fun l h => by
        induction l with
        | nil => cases h
        | cons p l ih =>
          obtain ⟨x, y⟩ := p
          rw [List.lookup_cons] at h
          by_cases e : w = x
          · subst e; simp at h; subst h; exact List.mem_cons_self
          · have : (w == x) = false := by simpa using e
            rw [this] at h
            exact List.mem_cons_of_mem _ (ih h)
      exact gen _ q, rfl⟩⟩ (by simp)), rfl⟩
end K69
set_option Elab.async false
set_option linter.all false
set_option maxRecDepth 100000
set_option maxHeartbeats 2000000
/-! Dicts with tuples for keys: a display, dict(zip(..)); d.update(d2). -/
namespace K69
open PySem PySem.Spec PyProof.Rows L2
def mergeT (kvs more : List (List Key × V)) : List (List Key × V) := more.foldl (fun acc kv => putK acc kv.1 kv.2) kvs
theorem length_mergeT : ∀ (more kvs : List (List Key × V)), (mergeT kvs more).length ≤ kvs.length + more.length
  | [], kvs => by simp [mergeT]
  | p :: l, kvs => by
    have h1 := length_mergeT l (putK kvs p.1 p.2)
    have h2 := length_putK kvs p.1 p.2
    show (mergeT (putK kvs p.1 p.2) l).length ≤ _
    simp only [List.length_cons]
    omega
theorem KT.all {H : Hp} : ∀ {more : List (List Key × V)} {ys : List (List Key × Addr × Value)} {kvs : List (List Key × V)} {xs : List (List Key × Addr × Value)}, KT H more ys → KT H kvs xs → KT H (mergeT kvs more) (PySem.storedAllH xs ys) := by
  intro more ys kvs xs r
  unfold KT at r
  induction r generalizing kvs xs with
  | nil => intro q; exact q
  | @cons p q ps qs h _ ih =>
    intro r2
    obtain ⟨h1, h2, h3⟩ := h
    have := KT.put r2 p.1 h2 h3
    rw [h1] at this
    show KT H (mergeT (putK kvs p.1 p.2) ps) (PySem.storedAllH (storedH xs q.1 q.2.1 q.2.2) qs)
    rw [h1]
    exact ih this
theorem kt_upd {H : Hp} {a : Addr} {o u : HO} (e : H a = some u) (hu : ∀ ys, u ≠ .tup ys) : ∀ b ys, H b = some (.tup ys) → upd H a o b = some (.tup ys) := fun b ys h => by
  rw [upd_ne (fun z => by subst z; rw [e] at h; exact hu ys (Option.some.inj h))]; exact h
section
variable {X : Cx}
/-- d.update(d2): two dicts of one kind -/
def rUpdate : V → List V → Hp → VK → Prop := fun x xs H Q => ∃ d o, x = .ref d ∧ xs = [.ref o] ∧ d ≠ o ∧
  ((∃ kvs more, H d = some (.dK kvs) ∧ H o = some (.dK more) ∧ kvs.length + more.length ≤ sizeLine ∧ Q .non (upd H d (.dK (mergeK kvs more)))) ∨
   ∃ kvs more, H d = some (.dT kvs) ∧ H o = some (.dT more) ∧ kvs ≠ [] ∧ kvs.length + more.length ≤ sizeLine ∧ Q .non (upd H d (.dT (mergeT kvs more))))
theorem mtd_update (hu : X.A.units + 1 < cLine) : MtR X "dict.update" rUpdate := by
  intro pins s σ H x xs v us Q I rx rxs h
  obtain ⟨d, o, rfl, rfl, hdo, h⟩ := h
  cases rx
  rw [Vals.ref1 rxs]
  rcases h with ⟨kvs, more, hd, ho, hz, q⟩ | ⟨kvs, more, hd, ho, hne, hz, q⟩
  · obtain ⟨_, nd, vd, rd, dd⟩ := dk_of I.hok hd
    obtain ⟨_, no, vo, ro, dO⟩ := dk_of I.hok ho
    refine call_meetsIn PySem.F.slot_dict_update dd.typeIs PySem.F.entry_dict_update (PySem.F.args_dict_update_2 _ _) (meets_dict_update (mixKind X.prog X.w) d o hdo no)
      ⟨vd, vo, dd, dO, by rw [← rd.length, ← ro.length]; exact hz, fun h' d' o' hs => ?_⟩
    have hz2 : (mergeK kvs more).length ≤ sizeLine := Nat.le_trans (length_mergeK more kvs) hz
    have he : ∃ q, h'.get? d = some q := let ⟨q, _, _, hq, _⟩ := d'; ⟨q, hq⟩
    exact ⟨.non, _, d_write (t' := s.toks) I (by rw [hd]; exact True.intro) hs he (dk_new hz2 nd (KV.merge ro rd) d'), rfl, q⟩
  · obtain ⟨_, nd, vd, rd, dd⟩ := dt_of I.hok hd
    obtain ⟨_, no, vo, ro, dO⟩ := dt_of I.hok ho
    have ld := Paired.length rd
    have lo := Paired.length ro
    refine PySem.call_update_dictH (tupleKind_room_in1 hu) hdo no dd dO (.inl fun z => by subst z; cases rd; exact hne rfl) (by rw [← ld, ← lo]; exact hz) fun h' d' o' hs => ?_
    have hz2 : (mergeT kvs more).length ≤ sizeLine := Nat.le_trans (length_mergeT more kvs) hz
    obtain ⟨q', es, ep, hq, h2, h3, h4, _, h5⟩ := d'
    have ok : ObjOk X.prog X.w (upd H d (.dT (mergeT kvs more))) h' d (.dT (mergeT kvs more)) := ⟨hz2, nd, _, (KT.all ro rd).keeps (kt_upd hd fun ys z => nomatch z), q', es, ep, hq, h2, h3, h4, h5⟩
    exact ⟨.non, _, d_write (t' := s.toks) I (by rw [hd]; exact True.intro) hs ⟨q', hq⟩ ok, rfl, q⟩
end
end K69
set_option Elab.async false
set_option linter.all false
set_option maxRecDepth 100000
set_option maxHeartbeats 2000000
/-! Dicts with tuples for keys: a display, dict(zip(..)); d.update(d2). -/
namespace K69
open PySem PySem.Spec PyProof.Rows L2
section
variable {X : Cx}
/-- {k: v}, k a tuple -/
def tDispT (tk tv : TE) : TE := fun σ H Q => ∀ p, H p = none → tk σ (upd H p (.dT [])) fun x H1 => tv σ H1 fun y H2 => ∃ b k, x = .ref b ∧ H2 b = some (.tup (List.map kV k)) ∧ H2 p = some (.dT []) ∧ Q (.ref p) (upd H2 p (.dT [(k, y)]))
theorem pe_dispT {k v : Expr} {pos : Pos} {tk tv : TE} (hu : X.A.units + 1 < cLine) (hk : PE X k tk) (hv : PE X v tv) : PE X (.Dict [some k] [v] pos) (tDispT tk tv) := by
  refine ⟨fun pins s σ H Q I q => ?_⟩
  have hn := I.hok.fresh (Nat.le_refl s.heap.objs.size)
  have I1 := I.laid (a := s.heap.objs.size) (o := .dT []) (h' := s.heap.push { cls := .type "dict", data := .dict #[] }) (t' := s.toks) (fun _ _ q => Heap.get?_push_of_some _ q) (Nat.le_refl _) (dt_empty s.heap I.big)
  have q := q _ hn
  rw [arm_eval_Dict]
  have e0 : dictDisplay ((evalEachOpt [some k] X.env).zip ((evalEach [v] X.env).map fun v => do let x ← v; standAt pos; pure x)) = (do let d ← subDict [(eval k X.env, do let x ← eval v X.env; standAt pos; pure x)]; pure (.ref d)) :=
    dictDisplay_pairs [(eval k X.env, do let x ← eval v X.env; standAt pos; pure x)] (fun z => by cases z) (by show 1 < 17; decide)
  rw [e0]
  refine wpAny_bind (wpAny_standAt (wpAny_bind ?_))
  unfold subDict
  refine wpAny_bind (wpAny_alloc ?_)
  refine wpAny_bind (wpAny_holding ?_)
  refine wp_if_pos (by simp) ?_
  refine wpAny_bind (evalPairs_cons (thn (hk.run pins _ σ _ _ I1 q) fun ku s2 ⟨x, H1, I2, rx, q2⟩ => wpAny_bind (thn (hv.run pins _ σ _ _ I2 q2) fun vu s3 ⟨y, H2, I3, ry, b, k0, ex, hb, hp, q3⟩ => wpAny_bind (wpAny_standAt (wpAny_pure (wpAny_pure ?_))))))
  subst ex
  cases (show ku = Value.ref b from rx)
  obtain ⟨_, np, vp, rp, dp⟩ := dt_of I3.hok hp
  cases rp
  refine wpAny_holding ?_
  simp only [List.forIn_cons, List.forIn_nil]
  refine wpAny_bind (wpAny_bind (wpAny_bind (wpAny_dictSet_heap (hsz := by simp) (show (tupleKind (mixKind X.prog X.w)).room X.A from (by show X.A.units < cLine; omega)) (key_of I3.hok hb) dp fun h' d' hs => ?_)))
  refine wpAny_pure (wpAny_pure (wpAny_pure (wpAny_pure ?_)))
  obtain ⟨q', es, ep, hq, h2, h3, h4, _, h5⟩ := d'
  have kt : KT (upd H2 s.heap.objs.size (.dT [(k0, y)])) [(k0, y)] (storedH [] k0 b vu) := (KT.put (kvs := []) (xs := []) .nil k0 hb ry).keeps (kt_upd hp fun ys z => nomatch z)
  have ok : ObjOk X.prog X.w (upd H2 s.heap.objs.size (.dT [(k0, y)])) h' s.heap.objs.size (.dT [(k0, y)]) := ⟨by show 1 ≤ sizeLine; decide, np, _, kt, q', es, ep, hq, h2, h3, h4, h5⟩
  exact wpAny_pure ⟨.ref s.heap.objs.size, _, d_write I3 (by rw [hp]; exact True.intro) hs ⟨q', hq⟩ ok, rfl, q3⟩
end
end K69
set_option Elab.async false
set_option linter.all false
set_option maxRecDepth 100000
set_option maxHeartbeats 2000000
/-! Dicts with tuples for keys: a display, dict(zip(..)); d.update(d2). -/
namespace K69
open PySem PySem.Spec PyProof.Rows L2
section
variable {X : Cx}
/-- dict(zip(keys, xs)), keys tuples -/
def tDictZip (K : PySem.W.Frag) (ta : TA) : TE := fun σ H Q => ta σ H fun vs H1 => ∃ (a b : Addr) (ks : List (Addr × List Key)) (ws : List V), vs = [.ref a, .ref b] ∧ SqL K H1 a (ks.map fun p => V.ref p.1) ∧ SqL K H1 b ws ∧ ks.length = ws.length ∧
  (∀ p ∈ ks, H1 p.1 = some (HO.tup (p.2.map kV))) ∧ ∀ p, H1 p = none → Q (.ref p) (upd H1 p (.dT (mergeT [] ((ks.map (·.2)).zip ws))))
theorem kt_zip {H : Hp} : ∀ {ks : List (Addr × List Key)} {ws : List V} {us : List Value}, ks.length = ws.length → Vals ws us → (∀ p ∈ ks, H p.1 = some (HO.tup (p.2.map kV))) → KT H ((ks.map (·.2)).zip ws) ((ks.zip us).map fun q => (q.1.2, q.1.1, q.2))
  | [], [], _, _, r, _ => by cases r; exact .nil
  | p :: ks, v :: ws, _, hl, r, h => by
    cases r with
    | cons a t => exact .cons ⟨rfl, h p List.mem_cons_self, a⟩ (kt_zip (by simpa using hl) t fun q hq => h q (List.mem_cons_of_mem _ hq))
  | [], _ :: _, _, hl, _, _ => by simp at hl
  | _ :: _, [], _, hl, _, _ => by simp at hl
theorem refs_eq : ∀ {ks : List Addr} {us : List Value}, Vals (ks.map V.ref) us → us = ks.map Value.ref
  | [], _, r => by cases r; rfl
  | k :: ks, _, r => by
    cases r with
    | cons a t => cases a; rw [refs_eq t]; rfl
theorem pe_dictZip {e e2 : Expr} {ta : TA} {p p2 pos pos2 : Pos} (K : PySem.W.Frag) (hcalm : X.calm = true) (hu : X.A.units + 3 < cLine) (hg : Gl X "dict") (hm : X.mg "dict" = none) (hg2 : Gl X "zip") (hm2 : X.mg "zip" = none) (ha : PA X [e, e2] ta) (hK : X.K = K := by rfl)
    (hs : starEach [e, e2] X.env = (false, eval e X.env) :: starEach [e2] X.env := by rfl) (hpl : (backTo pos2 (starEach [e2] X.env)).any (·.1) = false := by rfl)
    (ho : starEach [.Call (.Name "zip" p2) [e, e2] [] pos2] X.env = [(false, eval (.Call (.Name "zip" p2) [e, e2] [] pos2) X.env)] := by rfl) :
    PE X (.Call (.Name "dict" p) [.Call (.Name "zip" p2) [e, e2] [] pos2] [] pos) (tDictZip K ta) := by
  subst hK
  refine ⟨fun pins s σ H Q I h => ?_⟩
  refine wpAny_Call_Name_kw (ld_blt I hg hm (by decide +kernel : bootBuiltins "dict" = some (.type "dict")) ?_ (by decide) (by decide))
  rw [show backTo pos (starEach [.Call (.Name "zip" p2) [e, e2] [] pos2] X.env) = backTo pos [(false, eval (.Call (.Name "zip" p2) [e, e2] [] pos2) X.env)] from by rw [ho]]
  show wpAny _ _ (callWith pos (.type "dict") [] (backTo pos [(false, eval (.Call (.Name "zip" p2) [e, e2] [] pos2) X.env)]) []) _ _ _
  refine PyProof.Rows.callWith_type ?_ (Calls.evalArgs_plain ?_)
  · rfl
  refine Calls.spliced_cons ?_
  refine (Call_ (ld_blt I hg2 hm2 PyProof.Rows.boot_zip (PyProof.Rows.callWith_type1 (thn (ha.run pos2 pins s σ H _ I (show ta σ H _ from h)) fun us s1 ⟨vs, H1, I1, r1, q1⟩ => ?_) hs hpl)))
  obtain ⟨a, b, ks, ws, rfl, hqx, hqy, hl, hks, q⟩ := q1
  obtain ⟨u1, u2, rfl, ra, rb⟩ := vals2 r1
  cases ra
  cases rb
  obtain ⟨its, rv, p1, _⟩ := I1.list hqx
  obtain ⟨its2, rv2, p2', hz2⟩ := I1.list hqy
  have la : a < s1.heap.objs.size := p1.lt
  have lb : b < s1.heap.objs.size := p2'.lt
  have ei : its = (ks.map (·.1)).map Value.ref := refs_eq (by rw [List.map_map]; exact rv)
  have l2 : its2.length = ws.length := rv2.length.symm
  refine call_zip_2 p1.isList p2'.isList fun h' hz hTI hTO h1 h2 hsz hk => Calls.spliced_nil ?_
  have I2 : Inv X pins σ H1 { s1 with heap := h' } := I1.kept (t' := s1.toks) hk
  have ZA := PySem.W.ktu_apart s1.heap.objs.size a b la lb
  have PA := PairArg.zip (prog := X.prog) (w := X.w) (s1.heap.objs.size + 4) (s1.heap.objs.size + 2) (s1.heap.objs.size + 3) s1.heap.objs.size (s1.heap.objs.size + 1) a b ZA its.toArray its2.toArray
  have okz : IsZip h' (s1.heap.objs.size + 4) (s1.heap.objs.size + 2) (s1.heap.objs.size + 3) .none ∧ IsPair h' (s1.heap.objs.size + 2) (.ref s1.heap.objs.size) (.ref (s1.heap.objs.size + 1)) ∧ (∃ a b, IsPair h' (s1.heap.objs.size + 3) a b) ∧ h'.IsListIter s1.heap.objs.size a 0 ∧ h'.IsListIter (s1.heap.objs.size + 1) b 0 ∧ h'.IsList a its.toArray ∧ h'.IsList b its2.toArray :=
    ⟨hz, hTI, ⟨_, _, hTO⟩, h1, h2, p1.isList.at fun o e => hk _ o e, p2'.isList.at fun o e => hk _ o e⟩
  have len1 : its.length = ks.length := by rw [ei, List.length_map, List.length_map]
  have nmin : min its.toArray.size its2.toArray.size = ks.length := by simp only [List.size_toArray]; omega
  have hc : PairsHaveH (tupleKind (mixKind X.prog X.w)) (min its.toArray.size its2.toArray.size) (fun i k v => its.toArray[i]? = some k ∧ its2.toArray[i]? = some v) ((ks.zip its2).map fun q => (q.1.2, q.1.1, q.2)) := by
    refine ⟨by rw [nmin, List.length_map, List.length_zip]; omega, fun i key v ⟨e1, e2⟩ => ?_⟩
    have e1' : its[i]? = some key := by simpa using e1
    have e2' : its2[i]? = some v := by simpa using e2
    rw [ei, List.map_map, List.getElem?_map] at e1'
    cases hki : ks[i]? with
    | none => rw [hki] at e1'; cases e1'
    | some p =>
      rw [hki] at e1'
      cases e1'
      exact ⟨p.2, p.1, by rw [List.getElem?_map, (List.getElem?_zip_eq_some (z := (p, v))).mpr ⟨hki, e2'⟩]; rfl, rfl⟩
  have old : ∀ {c : Addr}, c < s1.heap.objs.size → c ∉ [s1.heap.objs.size + 4, s1.heap.objs.size + 3, s1.heap.objs.size, s1.heap.objs.size + 1] := fun {c} hc z => by
    simp only [List.mem_cons, List.not_mem_nil, or_false] at z
    rcases z with z | z | z | z <;> subst z <;> revert hc <;> simp
  have hst : KeysStay (tupleKind (mixKind X.prog X.w)) h' h'.objs.size [s1.heap.objs.size + 4, s1.heap.objs.size + 3, s1.heap.objs.size, s1.heap.objs.size + 1] ((ks.zip its2).map fun q => (q.1.2, q.1.1, q.2)) := fun h2 hk2 x hx => by
    obtain ⟨q', hq', rfl⟩ := List.mem_map.mp hx
    have hp := hks q'.1 (List.of_mem_zip hq').1
    obtain ⟨_, its3, r3, o, g1, g2, n, g3⟩ := (show ObjOk X.prog X.w H1 s1.heap q'.1.1 (.tup (q'.1.2.map kV)) from I1.hok _ _ hp)
    have lt := Heap.lt_size g1
    exact ⟨o, its3.toArray, n, hk2 _ _ (Nat.ne_of_lt (Nat.lt_of_lt_of_le lt (by rw [hsz]; omega))) (old lt) (hk _ _ g1), g2, g3, by simpa using items_are r3⟩
  refine call_dict_pairsH (s := { s1 with heap := h' }) PA (I1.ok.hd hcalm) (tupleKind_room_in1 (A := X.A.in1) (by show X.A.units + 1 + 1 < cLine; omega)) okz hc hst (by rw [nmin]; omega) fun h3 tk d3 hk3 => ?_
  have kk : ∀ c o, s1.heap.get? c = some o → h3.get? c = some o := fun c o e => hk3 c o (old (Heap.lt_size e)) (hk c o e)
  have hle : s1.heap.objs.size ≤ h'.objs.size := by rw [hsz]; omega
  have hn := I1.hok.fresh hle
  have kt0 : KT H1 ((ks.map (·.2)).zip ws) ((ks.zip its2).map fun q => (q.1.2, q.1.1, q.2)) := kt_zip hl rv2 hks
  have kt : KT H1 (mergeT [] ((ks.map (·.2)).zip ws)) (PySem.storedAllH [] ((ks.zip its2).map fun q => (q.1.2, q.1.1, q.2))) := KT.all kt0 .nil
  have kt2 : KT (upd H1 h'.objs.size (.dT (mergeT [] ((ks.map (·.2)).zip ws)))) (mergeT [] ((ks.map (·.2)).zip ws)) (PySem.storedAllH [] ((ks.zip its2).map fun q => (q.1.2, q.1.1, q.2))) := kt.keeps fun c ys e => by
    rw [upd_ne (ne_of_none e hn)]; exact e
  have hz3 : (mergeT [] ((ks.map (·.2)).zip ws)).length ≤ sizeLine := by
    have e1 : ((ks.map (·.2)).zip ws).length = min ks.length ws.length := by rw [List.length_zip, List.length_map]
    have := length_mergeT ((ks.map (·.2)).zip ws) []
    rw [e1] at this
    have e0 : ([] : List (List Key × V)).length = 0 := rfl
    rw [e0] at this
    omega
  obtain ⟨q', es, ep, hq, g2, g3, g4, _, g5⟩ := d3
  have nsys : (h'.objs.size == sysModules) = false := by
    have hb := Nat.lt_of_lt_of_le I1.big hle
    have ne : h'.objs.size ≠ sysModules := Ne.symm (Nat.ne_of_lt hb)
    simpa using ne
  have ok : ObjOk X.prog X.w (upd H1 h'.objs.size (.dT (mergeT [] ((ks.map (·.2)).zip ws)))) h3 h'.objs.size (.dT (mergeT [] ((ks.map (·.2)).zip ws))) := ⟨hz3, nsys, _, kt2, q', es, ep, hq, g2, g3, g4, g5⟩
  exact ⟨.ref h'.objs.size, _, I1.laid (t' := tk) kk hle ok, rfl, q _ hn⟩
end
end K69
set_option Elab.async false
set_option linter.all false
set_option maxRecDepth 100000
set_option maxHeartbeats 4000000
/-! Books with pairs for keys, as they stand in a heap. -/
namespace K69
open PySem PySem.Spec PyProof.Rows L2
def kK (k : Kk) : List Key := [Sum.inr k.1, Sum.inr k.2]
theorem kK_inj {a b : Kk} (h : kK a = kK b) : a = b := by
  obtain ⟨x, y⟩ := a
  obtain ⟨u, v⟩ := b
  have h1 := List.cons.inj h
  have h2 := List.cons.inj h1.2
  have e1 : x = u := Sum.inr.inj h1.1
  have e2 : y = v := Sum.inr.inj h2.1
  rw [e1, e2]
def kvT (rs : List (Kk × Addr)) : List (List Key × V) := rs.map fun p => (kK p.1, .ref p.2)
def KeyAt (G : Hp) (a : Addr) (k : Kk) : Prop := G a = some (.tup [.str k.1, .str k.2])
abbrev GoalsAt (G : Hp) : List (Str × Addr) → List (Str × Kk) → Prop := Paired fun p q => p.1 = q.1 ∧ KeyAt G p.2 q.2
def KRowAt (G : Hp) (a : Addr) (r : KRow) : Prop := ∃ d gs, G a = some (.tup [.str r.1, .ref d]) ∧ G d = some (.dK (kvR gs)) ∧ GoalsAt G gs r.2
abbrev KRowsAt (G : Hp) : List (Kk × Addr) → KBook → Prop := Paired fun p q => p.1 = q.1 ∧ KRowAt G p.2 q.2
section
variable {G G' : Hp} {a b : Addr} {r : KRow} {k : Kk} {rs : List (Kk × Addr)} {kb : KBook}
theorem KeyAt.mono (h : KeyAt G a k) (e : Ex G G') : KeyAt G' a k := e _ _ h
theorem GoalsAt.mono {gs : List (Str × Addr)} {l : List (Str × Kk)} (h : GoalsAt G gs l) (e : Ex G G') : GoalsAt G' gs l := Paired.mapP h fun _ _ z => ⟨z.1, e _ _ z.2⟩
theorem KRowAt.mono (h : KRowAt G a r) (e : Ex G G') : KRowAt G' a r := let ⟨d, gs, x, y, z⟩ := h; ⟨d, gs, e _ _ x, e _ _ y, GoalsAt.mono z e⟩
theorem KRowsAt.mono (h : KRowsAt G rs kb) (e : Ex G G') : KRowsAt G' rs kb := Paired.mapP h fun _ _ z => ⟨z.1, z.2.mono e⟩
theorem valV_kvT {β : Type} (f : β → V) (rs : List (Kk × β)) (k : Kk) : valV (rs.map fun p => (kK p.1, f p.2)) (kK k) = (rs.lookup k).map f := by
  induction rs with
  | nil => rfl
  | cons p l ih =>
    obtain ⟨x, y⟩ := p
    show valV ((kK x, f y) :: _) (kK k) = _
    rw [List.lookup_cons]
    by_cases h : x = k
    · subst h
      rw [valV_pos rfl]
      simp
    · rw [valV_neg (fun z => h (kK_inj z)), ih]
      have : (k == x) = false := by simpa using fun z : k = x => h z.symm
      rw [this]
theorem putK_kvT {β : Type} (f : β → V) {rs : List (Kk × β)} {k : Kk} {x : β} (h : k ∉ rs.map (·.1)) : putK (rs.map fun p => (kK p.1, f p.2)) (kK k) (f x) = (rs ++ [(k, x)]).map fun p => (kK p.1, f p.2) := by
  rw [putK_new]
  · simp
  · rw [valV_kvT]
    have : rs.lookup k = none := by
      induction rs with
      | nil => rfl
      | cons p l ih =>
        obtain ⟨y, z⟩ := p
        rw [List.lookup_cons]
        have ne : (k == y) = false := by simpa using fun z : k = y => h (z ▸ List.mem_cons_self)
        rw [ne]
        exact ih fun m => h (List.mem_cons_of_mem _ m)
    rw [this]; rfl
theorem KRowsAt.keys (h : KRowsAt G rs kb) : rs.map (·.1) = kb.map (·.1) := by
  induction h with
  | nil => rfl
  | cons hq t ih => rw [List.map_cons, List.map_cons, ih, hq.1]
theorem KRowsAt.get (h : KRowsAt G rs kb) (e : kb.lookup k = some r) : ∃ a, valV (kvT rs) (kK k) = some (.ref a) ∧ KRowAt G a r := by
  unfold kvT
  rw [valV_kvT]
  induction h with
  | nil => cases e
  | @cons p q ps qs hq t ih =>
    obtain ⟨x, a⟩ := p
    obtain ⟨y, r'⟩ := q
    obtain ⟨rfl, hr⟩ := hq
    rw [List.lookup_cons] at e ⊢
    cases hb : k == x with
    | true => rw [hb] at e; cases e; exact ⟨a, rfl, hr⟩
    | false => rw [hb] at e; exact ih e
theorem GoalsAt.len {gs : List (Str × Addr)} {l : List (Str × Kk)} (h : GoalsAt G gs l) : gs.length = l.length := by
  induction h with
  | nil => rfl
  | cons _ _ ih => rw [List.length_cons, List.length_cons, ih]
theorem GoalsAt.keys {gs : List (Str × Addr)} {l : List (Str × Kk)} (h : GoalsAt G gs l) : gs.map (·.1) = l.map (·.1) := by
  induction h with
  | nil => rfl
  | cons hq t ih => rw [List.map_cons, List.map_cons, ih, hq.1]
theorem GoalsAt.at {gs : List (Str × Addr)} {l : List (Str × Kk)} (h : GoalsAt G gs l) {i : Nat} {p : Str × Addr} (e : gs[i]? = some p) : ∃ q, l[i]? = some q ∧ p.1 = q.1 ∧ KeyAt G p.2 q.2 := by
  induction h generalizing i with
  | nil => simp at e
  | cons hq t ih =>
    cases i with
    | zero => cases e; exact ⟨_, rfl, hq⟩
    | succ i => exact ih (by simpa using e)
end
theorem g_dnewT {σ : L2.St} {H : Hp} {Q : VK} (h : ∀ p, H p = none → Q (.ref p) (upd H p (.dT []))) : tDNewT σ H Q := h
theorem g_dispT {tk tv : TE} {σ : L2.St} {H : Hp} {Q : VK} (h : ∀ p, H p = none → tk σ (upd H p (.dT [])) fun x H1 => tv σ H1 fun y H2 => ∃ b k, x = .ref b ∧ H2 b = some (.tup (List.map kV k)) ∧ H2 p = some (.dT []) ∧ Q (.ref p) (upd H2 p (.dT [(k, y)]))) : tDispT tk tv σ H Q := h
end K69
set_option Elab.async false
set_option linter.all false
set_option maxRecDepth 100000
set_option maxHeartbeats 4000000
namespace K69
open PySem PySem.Spec PyProof.Rows L2
section
variable {P : Program} {w : World} {K : PySem.W.Frag} {mg : Str → Option Value} {base : Heap} {C : Addr}
local macro_rules | `(tactic| walk_at "lk") => `(tactic| first | assumption | exact upd_same | exact (by assumption : Ex _ _) _ _ (by assumption))
local macro_rules | `(tactic| walk_at "g1") => `(tactic| first
  | with_reducible refine g_seq ?_ | with_reducible refine g_asg ?_ | with_reducible refine g_name ?_ | with_reducible refine g_cons ?_ | with_reducible refine g_nil ?_
  | ((with_reducible refine' g_var ?e ?_); (case e => exact rfl)) | with_reducible refine g_C ?_ | with_reducible refine g_op ?_ | with_reducible refine g_fld0 ?_ | with_reducible refine g_dget ?_ | with_reducible refine g_cb ?_ | with_reducible refine g_call ?_
  | with_reducible refine g_ret ?_ | with_reducible refine g_ifS ?_ | with_reducible refine g_test ?_ | with_reducible refine g_B ?_ | with_reducible refine g_bl ?_ | with_reducible refine g_not ?_ | with_reducible refine g_or ?_ | with_reducible refine g_and ?_
  | with_reducible refine g_ite ?_ | with_reducible refine g_itf ?_ | with_reducible refine g_itnt ?_ | with_reducible refine g_itnf ?_ | with_reducible refine g_eqS ?_ | with_reducible refine g_neS ?_ | with_reducible refine g_neI ?_ | with_reducible refine g_eqB ?_ | with_reducible refine g_neB ?_ | with_reducible refine g_eqI ?_ | with_reducible refine g_rI0 ?_ | with_reducible refine g_ipI ?_ | with_reducible refine g_int ?_
  | with_reducible refine g_drop ?_ | with_reducible refine g_next ?_ | with_reducible refine g_bm ?_ | with_reducible refine g_bm0 ?_ | with_reducible refine g_din ?_ | with_reducible refine g_dnotin ?_ | with_reducible refine g_dput ?_ | ((with_reducible refine' g_aug ?e ?_); (case e => exact rfl))
  | with_reducible refine g_andV ?_ | with_reducible refine g_orV ?_ | with_reducible refine g_notV ?_ | with_reducible refine g_if ?_ | with_reducible refine g_isN ?_ | with_reducible refine g_notN ?_ | with_reducible refine g_sl ?_ | with_reducible refine g_nopart ?_ | with_reducible refine g_part ?_
  | with_reducible refine g_gcons ?_ | with_reducible refine g_gnil ?_ | with_reducible refine g_par2 ?_ | with_reducible refine g_par3 ?_ | with_reducible refine g_vw ?_ | with_reducible refine g_uvw ?_ | with_reducible refine g_yes ?_ | with_reducible refine g_un ?_ | with_reducible refine g_rU ?_ | with_reducible refine g_gsub ?_ | with_reducible refine g_chain ?_ | with_reducible refine g_for ?_ | with_reducible refine g_istr ?_ | with_reducible refine g_ilist ?_ | with_reducible refine g_itup ?_ | with_reducible refine g_ikeys ?_ | with_reducible refine g_ivals ?_ | with_reducible refine g_iitems ?_ | with_reducible refine g_irng1 ?_ | with_reducible refine g_izip ?_ | with_reducible refine g_while ?_ | with_reducible refine g_tru _ ?_ | with_reducible refine g_lc ?_ | with_reducible refine g_dc ?_ | with_reducible refine g_lc2 ?_ | with_reducible refine g_tup ?_ | with_reducible refine g_lst ?_ | with_reducible refine g_dnew ?_ | with_reducible refine g_sfld ?_ | with_reducible refine g_dget2 ?_ | with_reducible refine g_dzip ?_ | with_reducible refine g_dnewT ?_ | with_reducible refine g_dispT ?_ | with_reducible refine g_star ?_ | with_reducible refine g_disp ?_ | with_reducible refine g_prs ?_ | with_reducible refine g_prs0 ?_ | with_reducible refine g_sc ?_ | with_reducible refine g_make ?_ | with_reducible refine g_meth ?_
  | ((with_reducible refine' g_ixT ?h ?e ?_); (case h => walk_at "lk"); (case e => exact rfl)) | ((with_reducible refine' g_ixL ?h ?e ?_); (case h => walk_at "lk"); (case e => exact rfl))
  | ((with_reducible refine' g_fldK ?h ?c ?n ?l ?_); (case h => walk_at "lk"); (case c => exact C8.InsC.cl (Txt.insC (by assumption))); (case n => first | exact Txt.nR (by assumption) | exact Txt.nF (by assumption)); (case l => exact rfl)))
local macro_rules | `(tactic| walk_at "go") => `(tactic| (repeat walk_at "g1"))
local macro_rules | `(tactic| walk_at "ty") => `(tactic| first | exact .base (.str _) | exact .base .non | exact .base (.bl _) | exact .base (.int _) | exact .base (.tup (by assumption)) | exact .base (.lst (by assumption)) | exact .base (.dK (by assumption)) | exact .fDict (by assumption))
abbrev ssecond_row : Stmt := topS 23
abbrev Nsecond_row : List Str := ["desk", "kind", "turns", "word"]
theorem scsecond_row : FnScope Nsecond_row ["desk"] (defScope ssecond_row) := ⟨rfl, rfl, rfl, by decide +kernel, rfl, by decide +kernel, by decide +kernel⟩
def sp_second_row (C : Addr) : Sp := fun vs H Q _ => ∃ (a : Addr) (bk : Book) (s : Str) (r : Row) (G : Hp), vs = [.ref a] ∧ Ex G H ∧ DeskRd C H a bk s ∧ bk.lookup s = some r ∧ RowOk r ∧
  ∀ t G' H', Nxt none G H G' H' → KRowAt G' t (mkR "second" r) → Q (.ref t) H'
theorem cal_second_row (F : Has K mg "second_row" ssecond_row) (T : Txt K w mg C) : Cal P w K mg base 1 "second_row" (sp_second_row C) := by
  refine F.cal (fun _ _ _ _ _ _ us hl => match us, hl with | [_], _ => rfl) scsecond_row (fun vs H Q E h => ?_) (fun f cdv A outer s H vs Q E hr h => ?_)
  · obtain ⟨a, bk, s, r, G, rfl, _⟩ := h; rfl
  · obtain ⟨a, bk, s, r, G, rfl, eG, ⟨b, dx, rs, ha, hb, hrs⟩, hlk, okr, k⟩ := h
    have nd := scsecond_row.nd
    have hu := hu_of hr
    refine ⟨_, (pss_cons (ps_asg (pe_dget hu (kFld K (pv 0)) (kFld K (pv 0)) (fun _ _ => rfl)) (kgTup K (n := 2) rfl (pgs_cons (pg_name (i := 1) nd rfl (Or.inl rfl)) (pgs_cons (pg_name (i := 2) nd rfl (Or.inr rfl)) pgs_nil))))
  (pss_one (ps_ret (pe_tup (pa_cons (pv 1) (pa_cons (pe_lock (pe_dc (own := [("word", 3)]) rfl nd (pi_keys (pv 2)) (blkOk_by (N := Nsecond_row) (sc := defScope ssecond_row) (by decide +kernel)) (fun _ _ _ _ _ => (pg_name (i := 3) nd rfl (Or.inl rfl))) (fun _ _ _ _ _ => pts_nil) (fun _ _ _ _ _ => (pv 3)) (fun _ _ _ _ _ => (pe_tup (pa_cons pe_str (pa_cons (pe_dget hu (pv 2) (pv 3) (fun _ _ => rfl)) pa_nil)))))) pa_nil)))))), ?_⟩
    obtain ⟨c, hv, d, hc', hd'⟩ := RowsAt.get hrs hlk
    have few := okr.few
    walk_at "go"
    refine g_dgs (s := s) hb hv ?_
    refine g_gtup (SqT.of hc') rfl ?_
    walk_at "go"
    refine ⟨d, _, hd', trivial, fun od => ?_⟩
    have L := Lk.mk' (od := od) eG hd'
    generalize upd H d (.frz od (.dK (kvS r.2))) = HL at L ⊢
    walk_at "go"
    refine ⟨d, od, rfl, .inl ⟨kvS r.2, L.self, fun D hD => ?_⟩⟩
    refine dc_gen walk_keys L.ex hD (by simp only [kvS, List.length_map]; exact small1000 (by omega)) (fun i acc Gi => ∃ gs, acc = kvR gs ∧ GoalsAt Gi gs ((mkR "second" r).2.take i)) ⟨[], rfl, .nil⟩ (fun H' e => e _ _ L.self) ?_ ?_
    · rintro i y G3 H3 H4 acc Kt Kf hi N g0 hh hl' ⟨gs, rfl, pp⟩ ⟨rfl, k1, v1, hk, rfl⟩ ht hf
      obtain ⟨q, hq, rfl, rfl⟩ := kvS_get hk
      have hq2 : (mkR "second" r).2[i]? = some (q.1, (("second" : Str), q.2)) := by unfold mkR; rw [List.getElem?_map, hq]; rfl
      walk_at "go"
      refine ⟨rfl, ?_⟩
      walk_at "go"
      refine g_dgs (s := q.1) (.inr ⟨od, N.ex _ _ L.self⟩) (by rw [valV_kvS, mem_lookup okr.nd (List.mem_of_getElem? hq)]; rfl) ?_
      walk_at "go"
      refine ⟨by show 2 ≤ sizeLine; decide, fun p hp => ?_⟩
      refine ht (Sum.inr q.1) (.ref p) _ _ (Nxt.new1 N.gh hp) ⟨gs ++ [(q.1, p)], ?_, ?_⟩
      · refine putK_kvG V.ref ?_
        rw [pp.keys]
        exact take_nd (by rw [mkR_keys]; exact okr.nd) hq2
      · rw [take_snoc hq2]
        exact Paired.snoc (GoalsAt.mono pp (Ex.new (N.gh.back hp))) ⟨rfl, upd_same⟩
    · rintro G3 H3 acc N g0 hh hl' ⟨gs, rfl, pp⟩
      rw [List.take_of_length_le (by simp [kvS, mkR])] at pp
      obtain ⟨G4, N4, hd3, e34, _, g34⟩ := L.back _ _ (N.frz g0 hh hD)
      refine ⟨hd3, ?_⟩
      have gD : G4 D = some (.dK (kvR gs)) := by rw [g34 D (L.fresh D hD).2, upd_same]
      have pp4 := GoalsAt.mono pp ((Ex.new g0).trans e34)
      generalize upd H3 d (.dK (kvS r.2)) = H4 at N4 ⊢
      walk_at "go"
      refine ⟨by show 2 ≤ sizeLine; decide, fun t ht => ?_⟩
      have ex : Ex G4 (upd G4 t (.tup [.str r.1, .ref D])) := Ex.new (N4.gh.back ht)
      exact k t _ _ (N4.new ht (N4.none0 ht)) ⟨D, gs, upd_same, ex _ _ gD, GoalsAt.mono pp4 ex⟩
abbrev smarked : Stmt := topS 20
abbrev Nmarked : List Str := ["mark", "desk", "rows", "state", "kind", "turns", "word"]
theorem scmarked : FnScope Nmarked ["mark", "desk"] (defScope smarked) := ⟨rfl, rfl, rfl, by decide +kernel, rfl, by decide +kernel, by decide +kernel⟩
def sp_marked (C : Addr) : Sp := fun vs H Q _ => ∃ (a : Addr) (m : Str) (bk : Book) (s : Str) (G : Hp), vs = [.str m, .ref a] ∧ Ex G H ∧ DeskAt C G a bk s ∧ BookOk bk ∧
  ∀ p G' H' rs, Nxt none G H G' H' → G' p = none → H' p = some (.dT (kvT rs)) → KRowsAt G' rs (markB m bk) → H p = none → Q (.ref p) H'
theorem cal_marked (F : Has K mg "marked" smarked) (T : Txt K w mg C) : Cal P w K mg base 1 "marked" (sp_marked C) := by
  refine F.cal (fun _ _ _ _ _ _ us hl => match us, hl with | [_, _], _ => rfl) scmarked (fun vs H Q E h => ?_) (fun f cdv A outer s H vs Q E hr h => ?_)
  · obtain ⟨a, m, bk, s, G, rfl, _⟩ := h; rfl
  · obtain ⟨a, m, bk, s, G, rfl, eG, ⟨b, dx, hag, _, rs, hbg, hrs⟩, ok, k⟩ := h
    have nd := scmarked.nd
    have hu := hu_of hr
    refine ⟨_, (pss_cons (ps_set (i := 2) nd rfl (Or.inl rfl) pe_dnewT)
  (pss_cons (ps_lock (ps_for PassesOwn.never rfl (pi_items (kFld K (pv 1))) (kgTup K (n := 2) rfl (pgs_cons (pg_name (i := 3) nd rfl (Or.inl rfl)) (pgs_cons (kgTup K (n := 2) rfl (pgs_cons (pg_name (i := 4) nd rfl (Or.inl rfl)) (pgs_cons (pg_name (i := 5) nd rfl (Or.inr rfl)) pgs_nil))) pgs_nil)))
    (pss_one (ps_dput hu (pv 2) (pe_tup (pa_cons (pv 0) (pa_cons (pv 3) pa_nil))) (pe_tup (pa_cons (pv 4) (pa_cons (pe_lock (pe_dc (own := [("word", 6)]) rfl nd (pi_keys (pv 5)) (blkOk_by (N := Nmarked) (sc := defScope smarked) (by decide +kernel)) (fun _ _ _ _ _ => (pg_name (i := 6) nd rfl (Or.inl rfl))) (fun _ _ _ _ _ => pts_nil) (fun _ _ _ _ _ => (pv 6)) (fun _ _ _ _ _ => (pe_tup (pa_cons (pv 0) (pa_cons (pe_dget hu (pv 5) (pv 6) (fun _ _ => rfl)) pa_nil)))))) pa_nil))) rfl))))
  (pss_one (ps_ret (pv 2))))), ?_⟩
    have ha := eG _ _ hag
    have hb := eG _ _ hbg
    have few := ok.few
    have ne : rs ≠ [] := fun z => ok.ne (by have := hrs.len; rw [z] at this; exact List.eq_nil_of_length_eq_zero this.symm)
    walk_at "go"
    intro p hp
    have npb : p ≠ b := fun z => by subst z; rw [hb] at hp; cases hp
    have nab : a ≠ b := ne_of ha hb (by intro z; cases z)
    walk_at "go"
    have N1 : Nxt none G H G (upd H p (.dT [])) := (Nxt.refl eG).own hp hp
    have hp1 : (upd H p (.dT [])) p = some (.dT []) := upd_same
    generalize upd H p (.dT []) = H1 at N1 hp1 ⊢
    have hb1 := N1.ex _ _ hb
    have ha1 := N1.ex _ _ ha
    refine ⟨b, _, hb1, trivial, fun od => ?_⟩
    have haL : (upd H1 b (.frz od (.dK (kvR rs)))) a = some (.ins C dx (dFs b s)) := by rw [upd_ne nab]; exact ha1
    walk_at "go"
    refine ⟨b, od, kvR rs, rfl, upd_same, ?_⟩
    refine for_it walk_items (fun i σ' H' => ∃ (ks : List (Kk × Addr)) (Gi Hu : Hp) (x3 x4 x5 : Option V), σ' = [some (.str m), some (.ref a), some (.ref p), x3, x4, x5, none] ∧ H' = upd Hu b (.frz od (.dK (kvR rs))) ∧ Hu b = some (.dK (kvR rs)) ∧ Nxt none G H Gi Hu ∧ Gi p = none ∧ Hu p = some (.dT (kvT ks)) ∧ KRowsAt Gi ks ((markB m bk).take i))
      ⟨[], G, H1, none, none, none, rfl, rfl, hb1, N1, eG.back hp, hp1, .nil⟩ ?_ ?_ ?_
    · rintro i σ' H' _ ⟨ks, Gi, Hu, x3, x4, x5, rfl, rfl, hub, _⟩
      exact upd_same
    · rintro i y σ' H' H'' hi ⟨ks, Gi, Hu, x3, x4, x5, rfl, rfl, hub, Ni, gpi, hpu, pk⟩ ⟨Tt, kx, vx, rfl, hT, rfl, e1, e2⟩
      obtain ⟨x, c, hx⟩ : ∃ x c, rs[i]? = some (x, c) := by
        have hi' : i < rs.length := by simpa [kvR] using hi
        exact ⟨_, _, List.getElem?_eq_getElem hi'⟩
      have hkv : (kvR rs)[i]? = some (Sum.inr x, V.ref c) := by unfold kvR; rw [List.getElem?_map, hx]; rfl
      have e1 : Option.map (fun kv : Key × V => kV kv.1) ((kvR rs)[i]?) = some kx := e1
      have e2 : Option.map Prod.snd ((kvR rs)[i]?) = some vx := e2
      rw [hkv] at e1 e2
      cases e1
      cases e2
      obtain ⟨⟨x', r⟩, hbx, ex, hcr⟩ := hrs.at hx
      cases ex
      obtain ⟨d, hcg, hdg⟩ := hcr
      have mem := List.mem_of_getElem? hbx
      have okr : RowOk r := ok.row _ mem
      have rfew := okr.few
      have L := Lk.mk' (od := od) Ni.gh hub
      have hcu := Ni.gh _ _ (Ni.gg _ _ hcg)
      have hdu := Ni.gh _ _ (Ni.gg _ _ hdg)
      have hcL := L.keep c _ (ne_of hcu hub (by intro z; cases z)) hcu
      have hdL := L.keep d _ (book_ne hbg hdg ne) hdu
      have hpL := L.keep p _ npb hpu
      have hbL := L.self
      clear hdu hcu
      generalize hHL : upd Hu b (.frz od (.dK (kvR rs))) = HL at L hcL hdL hpL hbL hT ⊢
      have N2 : Nxt none (cut Gi b) HL (cut Gi b) (upd HL Tt (.tup [kV (Sum.inr x), .ref c])) := Nxt.flat L.ex (Ex.new hT)
      have hT2 : (upd HL Tt (.tup [kV (Sum.inr x), .ref c])) Tt = _ := upd_same
      generalize upd HL Tt (.tup [kV (Sum.inr x), .ref c]) = H2 at N2 hT2 ⊢
      have hc2 := N2.ex _ _ hcL
      have hd2 := N2.ex _ _ hdL
      refine g_gtup (SqT.of hT2) rfl ?_
      walk_at "go"
      refine g_gtup (SqT.of hc2) rfl ?_
      walk_at "go"
      refine ⟨d, _, hd2, trivial, fun od2 => ?_⟩
      have L2 := Lk.mk' (od := od2) N2.gh hd2
      generalize upd H2 d (.frz od2 (.dK (kvS r.2))) = HM at L2 ⊢
      walk_at "go"
      refine ⟨d, od2, rfl, .inl ⟨kvS r.2, L2.self, fun D hD => ?_⟩⟩
      refine dc_gen walk_keys L2.ex hD (by simp only [kvS, List.length_map]; exact small1000 (by omega)) (fun i acc Gi => ∃ gs, acc = kvR gs ∧ GoalsAt Gi gs ((mkR m r).2.take i)) ⟨[], rfl, .nil⟩ (fun H' e => e _ _ L2.self) ?_ ?_
      · rintro i2 y G3 H3 H4 acc Kt Kf hi2 N g0 hh hl' ⟨gs, rfl, pp⟩ ⟨rfl, k1, v1, hk, rfl⟩ ht hf
        obtain ⟨q, hq, rfl, rfl⟩ := kvS_get hk
        have hq2 : (mkR m r).2[i2]? = some (q.1, (m, q.2)) := by unfold mkR; rw [List.getElem?_map, hq]; rfl
        walk_at "go"
        refine ⟨rfl, ?_⟩
        walk_at "go"
        refine g_dgs (s := q.1) (.inr ⟨od2, N.ex _ _ L2.self⟩) (by rw [valV_kvS, mem_lookup okr.nd (List.mem_of_getElem? hq)]; rfl) ?_
        walk_at "go"
        refine ⟨by show 2 ≤ sizeLine; decide, fun q2 hq2' => ?_⟩
        refine ht (Sum.inr q.1) (.ref q2) _ _ (Nxt.new1 N.gh hq2') ⟨gs ++ [(q.1, q2)], ?_, ?_⟩
        · refine putK_kvG V.ref ?_
          rw [pp.keys]
          exact take_nd (by rw [mkR_keys]; exact okr.nd) hq2
        · rw [take_snoc hq2]
          exact Paired.snoc (GoalsAt.mono pp (Ex.new (N.gh.back hq2'))) ⟨rfl, upd_same⟩
      · rintro G3 H3 acc N g0 hh hl' ⟨gs, rfl, pp⟩
        rw [List.take_of_length_le (by simp [kvS, mkR])] at pp
        obtain ⟨G4, N4, hd3, e34, _, g34⟩ := L2.back _ _ (N.frz g0 hh hD)
        refine ⟨hd3, ?_⟩
        have gD : G4 D = some (.dK (kvR gs)) := by rw [g34 D (L2.fresh D hD).2, upd_same]
        have pp4 := GoalsAt.mono pp ((Ex.new g0).trans e34)
        generalize upd H3 d (.dK (kvS r.2)) = H4 at N4 ⊢
        walk_at "go"
        refine ⟨by show 2 ≤ sizeLine; decide, fun t ht => ?_⟩
        have ex : Ex G4 (upd G4 t (.tup [.str r.1, .ref D])) := Ex.new (N4.gh.back ht)
        have kr : KRowAt (upd G4 t (.tup [.str r.1, .ref D])) t (mkR m r) := ⟨D, gs, upd_same, ex _ _ gD, GoalsAt.mono pp4 ex⟩
        have N5 := N2.trans (N4.new (o := .tup [.str r.1, .ref D]) ht (N4.none0 ht))
        generalize upd G4 t (.tup [.str r.1, .ref D]) = G5 at kr N5
        generalize upd H4 t (.tup [.str r.1, .ref D]) = H5 at N5 ⊢
        walk_at "go"
        refine ⟨by show 2 ≤ sizeLine; decide, fun kt hkt => ?_⟩
        have N7 := N5.own (o := .tup [.str m, kV (Sum.inr x)]) hkt (N5.none0 hkt)
        have hkt7 : (upd H5 kt (.tup [.str m, kV (Sum.inr x)])) kt = some (.tup (List.map kV (kK (m, x)))) := upd_same
        generalize upd H5 kt (.tup [.str m, kV (Sum.inr x)]) = H7 at N7 hkt7 ⊢
        have hp7 := N7.ex _ _ hpL
        have klen : ks.length ≤ 26 := by
          have e := congrArg List.length pk.keys
          have e2 : (markB m bk).length = bk.length := by unfold markB; rw [List.length_map]
          simp only [List.length_map, List.length_take] at e
          omega
        refine ⟨p, _, rfl, DPut.t hp7 hkt7 (by unfold kvT; rw [List.length_map]; exact small1000 (by omega)), ?_⟩
        have hbx2 : (markB m bk)[i]? = some ((m, x), mkR m r) := by unfold markB; rw [List.getElem?_map, hbx]; rfl
        have ndm : ((markB m bk).map (·.1)).Nodup := by
          unfold markB; rw [List.map_map]
          have : (bk.map ((fun x => x.1) ∘ fun p => ((m, p.1), mkR m p.2))) = (bk.map (·.1)).map fun y => (m, y) := by rw [List.map_map]; rfl
          rw [this]
          exact nd_mark m ok.nd
        have nin : (m, x) ∉ ks.map (·.1) := by
          rw [pk.keys]
          intro hmem
          obtain ⟨q, hq, e⟩ := List.mem_map.mp hmem
          obtain ⟨j, hj⟩ := List.mem_iff_getElem?.mp hq
          have hji : j < i := by
            have := (List.getElem?_eq_some_iff.mp hj).1
            simp at this; omega
          rw [List.getElem?_take, if_pos hji] at hj
          have a1 : ((markB m bk).map (·.1))[j]? = some q.1 := by rw [List.getElem?_map, hj]; rfl
          have a2 : ((markB m bk).map (·.1))[i]? = some (m, x) := by rw [List.getElem?_map, hbx2]; rfl
          rw [e] at a1
          have := nd_ix ndm a1 a2
          omega
        have eput : putK (kvT ks) (kK (m, x)) (.ref t) = kvT (ks ++ [((m, x), t)]) := putK_kvT V.ref nin
        rw [eput]
        obtain ⟨G8, N8, hb7, e58, _, _⟩ := L.back _ _ N7
        have gp8 : G8 p = none := (N8.fr p _ hpu).trans gpi
        refine ⟨ks ++ [((m, x), t)], G8, upd (upd H7 b (.dK (kvR rs))) p (.dT (kvT (ks ++ [((m, x), t)]))), _, _, _, rfl, ?_, ?_, (Ni.trans N8).mut gp8 hp, gp8, upd_same, ?_⟩
        · rw [upd_sw npb, upd_upd, upd_id hb7]
        · rw [upd_ne (Ne.symm npb), upd_same]
        · rw [take_snoc hbx2]
          exact Paired.snoc (KRowsAt.mono pk N8.gg) ⟨rfl, kr.mono e58⟩
    · rintro σ' H' ⟨ks, Gi, Hu, x3, x4, x5, rfl, rfl, hub, Ni, gpi, hpu, pk⟩
      rw [List.take_of_length_le (by simp [kvR, markB, hrs.len])] at pk
      refine ⟨upd_same, ?_⟩
      rw [upd_un hub]
      walk_at "go"
      exact k p Gi Hu ks Ni gpi hpu pk hp
end
end K69
set_option Elab.async false
set_option linter.all false
set_option maxRecDepth 100000
set_option maxHeartbeats 4000000
namespace K69
open PySem PySem.Spec PyProof.Rows L2
def kvK (ks : List Kk) : List (List Key × V) := ks.map fun k => (kK k, V.bl true)
theorem valV_kvK (ks : List Kk) (k : Kk) : valV (kvK ks) (kK k) = if k ∈ ks then some (.bl true) else none := by
  induction ks with
  | nil => rfl
  | cons a l ih =>
    show valV ((kK a, V.bl true) :: kvK l) (kK k) = _
    by_cases h : a = k
    · subst h; rw [valV_pos rfl]; simp
    · rw [valV_neg (fun z => h (kK_inj z)), ih]
      have : ¬ k = a := fun z => h z.symm
      simp [this]
theorem putK_kvK {ks : List Kk} {k : Kk} (h : k ∉ ks) : putK (kvK ks) (kK k) (.bl true) = kvK (ks ++ [k]) := by
  rw [putK_new]
  · simp [kvK]
  · rw [valV_kvK, if_neg h]
abbrev KeysAt (G : Hp) : List Addr → List Kk → Prop := Paired (KeyAt G)
theorem KeysAt.mono {G G' : Hp} {as : List Addr} {ks : List Kk} (h : KeysAt G as ks) (e : Ex G G') : KeysAt G' as ks := Paired.mapP h fun _ _ z => e _ _ z
theorem KeysAt.at {G : Hp} {as : List Addr} {ks : List Kk} (h : KeysAt G as ks) {i : Nat} {a : Addr} (e : as[i]? = some a) : ∃ k, ks[i]? = some k ∧ KeyAt G a k := by
  induction h generalizing i with
  | nil => simp at e
  | cons hq t ih =>
    cases i with
    | zero => cases e; exact ⟨_, rfl, hq⟩
    | succ i => exact ih (by simpa using e)
theorem KeysAt.len {G : Hp} {as : List Addr} {ks : List Kk} (h : KeysAt G as ks) : as.length = ks.length := Paired.length h
theorem kkeys_le {kb : KBook} (ok : KOk kb) {s : Kk} (hs : s ∈ kb.map (·.1)) {l : List Kk} (nd : l.Nodup) (h : ∀ x ∈ l, Rch kb none s x) : l.length ≤ 26 := by
  have h1 := nodup_le l (kb.map (·.1)) nd fun x hx => (h x hx).kkey ok hs
  have h2 := ok.few
  rw [List.length_map] at h1; omega
theorem DGet.tt {H : Hp} {a b : Addr} {kvs : List (List Key × V)} {k : Kk} {o : Option V} (e : Rd H a (.dT kvs)) (hb : KeyAt H b k) (h : valV kvs (kK k) = o) : DGet H a (.ref b) o := .inr ⟨kvs, kK k, b, e, rfl, hb, h.symm⟩
theorem DPut.tt {H : Hp} {a b : Addr} {kvs : List (List Key × V)} {k : Kk} {v : V} (e : H a = some (.dT kvs)) (hb : KeyAt H b k) (hl : kvs.length < sizeLine) : DPut H a (.ref b) v (upd H a (.dT (putK kvs (kK k) v))) := .inr ⟨kvs, kK k, b, e, rfl, hb, hl, rfl⟩
theorem g_dgt {H : Hp} {a b : Addr} {kvs : List (List Key × V)} {k : Kk} {v : V} {PV : V → Prop} (e : Rd H a (.dT kvs)) (hb : KeyAt H b k) (h : valV kvs (kK k) = some v) (q : PV v) : ∃ a' v', V.ref a = .ref a' ∧ DGet H a' (.ref b) (some v') ∧ PV v' := ⟨a, v, rfl, DGet.tt e hb h, q⟩
theorem refs_get {l : List Addr} {i : Nat} {x : V} (h : (l.map V.ref)[i]? = some x) : ∃ y, l[i]? = some y ∧ x = .ref y := by
  rw [List.getElem?_map] at h
  cases e : l[i]? with
  | none => rw [e] at h; cases h
  | some y => rw [e] at h; cases h; exact ⟨y, rfl, rfl⟩
section
variable {P : Program} {w : World} {K : PySem.W.Frag} {mg : Str → Option Value} {base : Heap} {C : Addr}
local macro_rules | `(tactic| walk_at "lk") => `(tactic| first | assumption | exact upd_same | exact (by assumption : Ex _ _) _ _ (by assumption))
local macro_rules | `(tactic| walk_at "g1") => `(tactic| first
  | with_reducible refine g_seq ?_ | with_reducible refine g_asg ?_ | with_reducible refine g_name ?_ | with_reducible refine g_cons ?_ | with_reducible refine g_nil ?_
  | ((with_reducible refine' g_var ?e ?_); (case e => exact rfl)) | with_reducible refine g_C ?_ | with_reducible refine g_op ?_ | with_reducible refine g_fld0 ?_ | with_reducible refine g_dget ?_ | with_reducible refine g_cb ?_ | with_reducible refine g_call ?_
  | with_reducible refine g_ret ?_ | with_reducible refine g_ifS ?_ | with_reducible refine g_test ?_ | with_reducible refine g_B ?_ | with_reducible refine g_bl ?_ | with_reducible refine g_not ?_ | with_reducible refine g_or ?_ | with_reducible refine g_and ?_
  | with_reducible refine g_ite ?_ | with_reducible refine g_itf ?_ | with_reducible refine g_itnt ?_ | with_reducible refine g_itnf ?_ | with_reducible refine g_eqS ?_ | with_reducible refine g_neS ?_ | with_reducible refine g_neI ?_ | with_reducible refine g_eqB ?_ | with_reducible refine g_neB ?_ | with_reducible refine g_eqI ?_ | with_reducible refine g_rI0 ?_ | with_reducible refine g_ipI ?_ | with_reducible refine g_int ?_
  | with_reducible refine g_drop ?_ | with_reducible refine g_next ?_ | with_reducible refine g_bm ?_ | with_reducible refine g_bm0 ?_ | with_reducible refine g_din ?_ | with_reducible refine g_dnotin ?_ | with_reducible refine g_dput ?_ | ((with_reducible refine' g_aug ?e ?_); (case e => exact rfl))
  | with_reducible refine g_andV ?_ | with_reducible refine g_orV ?_ | with_reducible refine g_notV ?_ | with_reducible refine g_if ?_ | with_reducible refine g_isN ?_ | with_reducible refine g_notN ?_ | with_reducible refine g_sl ?_ | with_reducible refine g_nopart ?_ | with_reducible refine g_part ?_
  | with_reducible refine g_gcons ?_ | with_reducible refine g_gnil ?_ | with_reducible refine g_par2 ?_ | with_reducible refine g_par3 ?_ | with_reducible refine g_vw ?_ | with_reducible refine g_uvw ?_ | with_reducible refine g_yes ?_ | with_reducible refine g_un ?_ | with_reducible refine g_rU ?_ | with_reducible refine g_gsub ?_ | with_reducible refine g_chain ?_ | with_reducible refine g_for ?_ | with_reducible refine g_istr ?_ | with_reducible refine g_ilist ?_ | with_reducible refine g_itup ?_ | with_reducible refine g_ikeys ?_ | with_reducible refine g_ivals ?_ | with_reducible refine g_iitems ?_ | with_reducible refine g_irng1 ?_ | with_reducible refine g_izip ?_ | with_reducible refine g_while ?_ | with_reducible refine g_tru _ ?_ | with_reducible refine g_lc ?_ | with_reducible refine g_dc ?_ | with_reducible refine g_lc2 ?_ | with_reducible refine g_tup ?_ | with_reducible refine g_lst ?_ | with_reducible refine g_dnew ?_ | with_reducible refine g_sfld ?_ | with_reducible refine g_dget2 ?_ | with_reducible refine g_dzip ?_ | with_reducible refine g_dnewT ?_ | with_reducible refine g_dispT ?_ | with_reducible refine g_star ?_ | with_reducible refine g_disp ?_ | with_reducible refine g_prs ?_ | with_reducible refine g_prs0 ?_ | with_reducible refine g_sc ?_ | with_reducible refine g_make ?_ | with_reducible refine g_meth ?_
  | ((with_reducible refine' g_ixT ?h ?e ?_); (case h => walk_at "lk"); (case e => exact rfl)) | ((with_reducible refine' g_ixL ?h ?e ?_); (case h => walk_at "lk"); (case e => exact rfl))
  | ((with_reducible refine' g_fldK ?h ?c ?n ?l ?_); (case h => walk_at "lk"); (case c => exact C8.InsC.cl (Txt.insC (by assumption))); (case n => first | exact Txt.nR (by assumption) | exact Txt.nF (by assumption)); (case l => exact rfl)))
local macro_rules | `(tactic| walk_at "go") => `(tactic| (repeat walk_at "g1"))
local macro_rules | `(tactic| walk_at "ty") => `(tactic| first | exact .base (.str _) | exact .base .non | exact .base (.bl _) | exact .base (.int _) | exact .base (.tup (by assumption)) | exact .base (.lst (by assumption)) | exact .base (.dK (by assumption)) | exact .fDict (by assumption))
abbrev sreached_in : Stmt := topS 19
abbrev Nreached_in : List Str := ["rows", "start", "found", "met", "at", "goal"]
theorem screached_in : FnScope Nreached_in ["rows", "start"] (defScope sreached_in) := ⟨rfl, rfl, rfl, by decide +kernel, rfl, by decide +kernel, by decide +kernel⟩
def sp_reached_in : Sp := fun vs H Q _ => ∃ (b a0 : Addr) (kb : KBook) (k0 : Kk) (rs : List (Kk × Addr)) (G : Hp), vs = [.ref b, .ref a0] ∧ Ex G H ∧ G b = some (.dT (kvT rs)) ∧ KRowsAt G rs kb ∧ KOk kb ∧ KeyAt G a0 k0 ∧ k0 ∈ kb.map (·.1) ∧
  ∀ p G' H' (as : List Addr) (ks : List Kk), Nxt none G H G' H' → G' p = some (.lst (as.map V.ref)) → KeysAt G as ks → ks.Nodup → (∀ k, k ∈ ks ↔ Rch kb none k0 k) → H p = none → Q (.ref p) H'
theorem cal_reached_in (F : Has K mg "reached_in" sreached_in) (T : Txt K w mg C) : Cal P w K mg base 1 "reached_in" sp_reached_in := by
  refine F.cal (fun _ _ _ _ _ _ us hl => match us, hl with | [_, _], _ => rfl) screached_in (fun vs H Q E h => ?_) (fun f cdv A outer s H vs Q E hr h => ?_)
  · obtain ⟨b, a0, kb, k0, rs, G, rfl, _⟩ := h; rfl
  · obtain ⟨b, a0, kb, k0, rs, G, rfl, eG, hbg, hrs, ok, ha0, hk0, k⟩ := h
    have nd := screached_in.nd
    have hu := hu_of hr
    refine ⟨_, (pss_cons (ps_par3 (i := 2) (j := 3) (l := 4) rfl nd rfl rfl rfl (by decide) (by decide) (by decide) rfl rfl rfl (pa_cons (pe_lst (pa_cons (pv 1) pa_nil)) (pa_cons (pe_dispT hu (pv 1) pe_bl) (pa_cons pe_int pa_nil))) (by rfl))
  (pss_cons (ps_while PassesOwn.never (pt_cmpR op_lt (pv 4) (pe_callB (kLen K) (by rfl) T.len (by decide +kernel) (pa_cons (pv 2) pa_nil)) (nomark _))
    (pss_cons (ps_lock (ps_for PassesOwn.never rfl (pi_values (pe_ix (kIxT K) (pe_dget hu (pv 0) (pe_ix (kIxL K) (pv 2) (pv 4) (fun _ _ => rfl)) (fun _ _ => rfl)) pe_int (fun _ _ => rfl))) (pg_name (i := 5) nd rfl (Or.inl rfl))
      (pss_one (ps_if (pt_cmp (pc_dnotin hu (pv 5) (pv 3)))
        (pss_cons (ps_dput hu (pv 3) (pv 5) pe_bl rfl)
        (pss_one (ps_expr (kBm K PySem.F.plainAttrs_list PySem.F.slot_list_append PySem.F.type_list_append mt_append (pv 2) (pa_cons (pv 5) pa_nil))))) pss_nil))))
    (pss_one (ps_set (i := 4) nd rfl (Or.inl rfl) (pe_op op_add (pv 4) pe_int)))))
  (pss_one (ps_ret (pv 2))))), ?_⟩
    have hb := eG _ _ hbg
    walk_at "go"
    refine ⟨by show 1 ≤ sizeLine; decide, fun fp hfp => ?_⟩
    have e1 : Ex H (upd H fp (.lst [.ref a0])) := Ex.new hfp
    have hf1 : (upd H fp (.lst [.ref a0])) fp = some (.lst ([a0].map V.ref)) := upd_same
    generalize upd H fp (.lst [.ref a0]) = H1 at e1 hf1 ⊢
    walk_at "go"
    intro mp hmp
    have hmp0 := e1.back hmp
    have nfm : fp ≠ mp := ne_of_none hf1 hmp
    walk_at "go"
    refine ⟨a0, kK k0, rfl, (e1.trans (Ex.new hmp)) _ _ (eG _ _ ha0), upd_same, ?_⟩
    rw [upd_upd]
    walk_at "go"
    have cvr : ∀ (as : List Addr) (ks : List Kk) (x5 : Option V) (i : Nat), True := fun _ _ _ _ => trivial
    refine ⟨fun m σ H' => ∃ (i : Nat) (as : List Addr) (ks : List Kk) (x5 : Option V), σ = [some (.ref b), some (.ref a0), some (.ref fp), some (.ref mp), some (.int (i : Int)), x5] ∧ Ex H H' ∧ H' fp = some (.lst (as.map V.ref)) ∧ H' mp = some (.dT (kvK ks)) ∧ KeysAt G as ks ∧ ks.Nodup ∧ k0 ∈ ks ∧ (∀ k ∈ ks, Rch kb none k0 k) ∧ i ≤ ks.length ∧ (∀ j k, j < i → ks[j]? = some k → ∀ c, stp kb k c → c ∈ ks) ∧ m = 26 - i, ?_, ?_⟩
    · exact ⟨26, 0, [a0], [k0], none, rfl, e1.up hmp0, by rw [upd_ne nfm]; exact hf1, upd_same, .cons ha0 .nil, by simp, by simp, fun k hk => by rw [List.mem_singleton.mp hk]; exact .refl (by simp), by simp, fun j k h => by omega, rfl⟩
    · rintro m σ H2 ⟨i, as, ks, x5, rfl, e2, hf2, hm2, hks, ndk, mk0, rk, hi, cl, rfl⟩
      have klen := kkeys_le ok hk0 ndk rk
      walk_at "go"
      refine ⟨fp, _, rfl, .inl (SqL.of hf2), ?_⟩
      walk_at "go"
      rw [List.length_map, hks.len]
      refine ite2 (fun hlt => ?_) (fun hlt => ?_)
      · have hlt : i < ks.length := by
          have : (i : Int) < (ks.length : Int) := by simpa using hlt
          omega
        obtain ⟨a, ha⟩ : ∃ a, as[i]? = some a := ⟨_, List.getElem?_eq_getElem (by rw [hks.len]; exact hlt)⟩
        obtain ⟨kk, hkk, hka⟩ := hks.at ha
        have rkk := rk kk (List.mem_of_getElem? hkk)
        obtain ⟨r, hlk⟩ := klookup_some (rkk.kkey ok hk0)
        obtain ⟨o1, o2, o3, o4, rfew⟩ := ok.row _ (klookup_mem hlk)
        obtain ⟨c, hv, d, gs, hc, hd, hgs⟩ := KRowsAt.get hrs hlk
        have eG2 := eG.trans e2
        have hb2 := eG2 _ _ hbg
        have hd2 := eG2 _ _ hd
        have hc2 := eG2 _ _ hc
        have nbd : b ≠ d := ne_of hbg hd (by intro z; cases z)
        have ncd : c ≠ d := ne_of hc hd (by intro z; cases z)
        have nad : a ≠ d := ne_of hka hd (by intro z; cases z)
        have hd0 := eG _ _ hd
        have nfd : fp ≠ d := fun z => by subst z; rw [hd0] at hfp; cases hfp
        have nmd : mp ≠ d := fun z => by subst z; rw [hd0] at hmp0; cases hmp0
        refine ⟨fun σ H' => ∃ (as : List Addr) (ks : List Kk) (x5 : Option V), σ = [some (.ref b), some (.ref a0), some (.ref fp), some (.ref mp), some (.int ((i + 1 : Nat) : Int)), x5] ∧ Ex H H' ∧ H' fp = some (.lst (as.map V.ref)) ∧ H' mp = some (.dT (kvK ks)) ∧ KeysAt G as ks ∧ ks.Nodup ∧ k0 ∈ ks ∧ (∀ k ∈ ks, Rch kb none k0 k) ∧ i + 1 ≤ ks.length ∧ (∀ j k, j < i + 1 → ks[j]? = some k → ∀ c, stp kb k c → c ∈ ks), ?_, ?_⟩
        · rintro σ' H' ⟨as', ks', x5', rfl, r1, r2, r3, r4, r5, r6, r7, r8, r9⟩
          exact ⟨26 - (i + 1), by omega, i + 1, as', ks', x5', rfl, r1, r2, r3, r4, r5, r6, r7, r8, r9, rfl⟩
        · walk_at "go"
          refine ⟨d, _, hd2, trivial, fun od => ?_⟩
          have L := Lk.mk' (od := od) (Ex.refl H2) hd2
          have hfL := L.keep fp _ nfd hf2
          have hbL := L.keep b _ nbd hb2
          have hcL := L.keep c _ ncd hc2
          have haL := L.keep a _ nad (eG2 _ _ hka)
          walk_at "go"
          refine g_ixL (v := .ref a) hfL ?_ ?_
          · exact atI_nat (by rw [List.getElem?_map, ha]; rfl)
          walk_at "go"
          refine g_dgt (.inl hbL) haL hv ?_
          walk_at "go"
          refine ⟨d, od, kvR gs, rfl, L.self, ?_⟩
          clear hfL hbL hcL haL L
          refine for_it walk_values (fun j σ' H' => ∃ (as' : List Addr) (ks' : List Kk) (x5 : Option V) (Hu : Hp), σ' = [some (.ref b), some (.ref a0), some (.ref fp), some (.ref mp), some (.int (i : Int)), x5] ∧ H' = upd Hu d (.frz od (.dK (kvR gs))) ∧ Hu d = some (.dK (kvR gs)) ∧ Ex H Hu ∧ Hu fp = some (.lst (as'.map V.ref)) ∧ Hu mp = some (.dT (kvK ks')) ∧
            KeysAt G as' ks' ∧ ks'.Nodup ∧ k0 ∈ ks' ∧ (∀ k ∈ ks', Rch kb none k0 k) ∧ (∃ ex, ks' = ks ++ ex) ∧ (∀ q ∈ r.2.take j, q.2 ∈ ks')) ?_ ?_ ?_ ?_
          · exact ⟨as, ks, x5, H2, rfl, rfl, hd2, e2, hf2, hm2, hks, ndk, mk0, rk, ⟨[], by simp⟩, by simp⟩
          · rintro j σ' H' _ ⟨as', ks', x5', Hu, rfl, rfl, hud, _⟩
            exact upd_same
          · rintro j y σ' H' H'' hj ⟨as', ks', x5', Hu, rfl, rfl, hud, eu, hfu, hmu, hks', ndk', mk0', rk', ⟨ex, hex⟩, hq'⟩ ⟨rfl, k1, hk1⟩
            obtain ⟨⟨wd, ga⟩, hgs', rfl, rfl⟩ := kvR_get hk1
            obtain ⟨⟨wd', gk⟩, hg, ew, hga⟩ := hgs.at hgs'
            have klen' := kkeys_le ok hk0 ndk' rk'
            have stq : stp kb kk gk := ⟨r, hlk, List.mem_map.mpr ⟨_, List.mem_of_getElem? hg, rfl⟩⟩
            have ngd : ga ≠ d := ne_of hga hd (by intro z; cases z)
            have hgu : KeyAt (upd Hu d (.frz od (.dK (kvR gs)))) ga gk := by
              show (upd Hu d _) ga = _
              rw [upd_ne ngd]; exact eu _ _ (eG _ _ hga)
            have hmL : (upd Hu d (.frz od (.dK (kvR gs)))) mp = some (.dT (kvK ks')) := by rw [upd_ne nmd]; exact hmu
            walk_at "go"
            refine ⟨mp, _, rfl, DGet.tt (.inl hmL) hgu rfl, ?_⟩
            rw [valV_kvK]
            walk_at "go"
            by_cases hgm : gk ∈ ks'
            · rw [if_pos hgm]
              refine g_itnt ?_
              walk_at "go"
              refine ⟨as', ks', _, Hu, rfl, rfl, hud, eu, hfu, hmu, hks', ndk', mk0', rk', ⟨ex, hex⟩, fun z hz => ?_⟩
              rw [take_snoc hg] at hz
              rcases List.mem_append.mp hz with h | h
              · exact hq' z h
              · rw [List.mem_singleton] at h; subst h; exact hgm
            · rw [if_neg hgm]
              refine g_itnf ?_
              walk_at "go"
              refine ⟨mp, _, rfl, DPut.tt hmL hgu (by unfold kvK; rw [List.length_map]; exact small1000 (by omega)), ?_⟩
              rw [putK_kvK hgm, upd_sw (Ne.symm nmd)]
              have eu2 : Ex H (upd Hu mp (.dT (kvK (ks' ++ [gk])))) := eu.up hmp0
              have hfu2 : (upd Hu mp (.dT (kvK (ks' ++ [gk])))) fp = some (.lst (as'.map V.ref)) := by rw [upd_ne nfm]; exact hfu
              have hmu2 : (upd Hu mp (.dT (kvK (ks' ++ [gk])))) mp = some (.dT (kvK (ks' ++ [gk]))) := upd_same
              have hud2 : (upd Hu mp (.dT (kvK (ks' ++ [gk])))) d = some (.dK (kvR gs)) := by rw [upd_ne (Ne.symm nmd)]; exact hud
              generalize upd Hu mp (.dT (kvK (ks' ++ [gk]))) = Hv at eu2 hfu2 hmu2 hud2 ⊢
              have hfv : (upd Hv d (.frz od (.dK (kvR gs)))) fp = some (.lst (as'.map V.ref)) := by rw [upd_ne nfd]; exact hfu2
              walk_at "go"
              refine ⟨.inl ⟨rfl, _, SqL.of hfv⟩, ?_⟩
              walk_at "go"
              refine ⟨fp, _, .ref ga, rfl, rfl, hfv, by rw [List.length_map, hks'.len]; exact small1000 (by omega), ?_⟩
              walk_at "go"
              rw [upd_sw (Ne.symm nfd)]
              refine ⟨as' ++ [ga], ks' ++ [gk], _, _, rfl, rfl, by rw [upd_ne (Ne.symm nfd)]; exact hud2, eu2.up hfp, by rw [upd_same, List.map_append]; rfl, by rw [upd_ne (Ne.symm nfm)]; exact hmu2, Paired.snoc hks' hga,
                List.nodup_append.mpr ⟨ndk', by simp, fun z hz y hy e => hgm (by rw [List.mem_singleton] at hy; rw [← hy, ← e]; exact hz)⟩, List.mem_append_left _ mk0', fun z hz => ?_, ⟨ex ++ [gk], by rw [hex]; simp⟩, fun z hz => ?_⟩
              · rcases List.mem_append.mp hz with h | h
                · exact rk' z h
                · rw [List.mem_singleton] at h; subst h; exact .tail rkk stq (by simp)
              · rw [take_snoc hg] at hz
                rcases List.mem_append.mp hz with h | h
                · exact List.mem_append_left _ (hq' z h)
                · rw [List.mem_singleton] at h; subst h
                  exact List.mem_append_right _ (by simp)
          · rintro σ' H' ⟨as', ks', x5', Hu, rfl, rfl, hud, eu, hfu, hmu, hks', ndk', mk0', rk', ⟨ex, hex⟩, hq'⟩
            rw [List.take_of_length_le (by simp [kvR, hgs.len])] at hq'
            refine ⟨upd_same, ?_⟩
            rw [upd_un hud]
            walk_at "go"
            refine ⟨as', ks', _, by rfl, eu, hfu, hmu, hks', ndk', mk0', rk', by rw [hex, List.length_append]; omega, fun j k' hj hkj c' st' => ?_⟩
            have inn : ∀ z ∈ ks, z ∈ ks' := fun z hz => by rw [hex]; exact List.mem_append_left _ hz
            rw [hex, List.getElem?_append_left (by omega)] at hkj
            by_cases hji : j < i
            · exact inn _ (cl j k' hji hkj c' st')
            · obtain rfl : j = i := by omega
              rw [hkk] at hkj; cases hkj
              obtain ⟨r', h1, h2⟩ := st'
              rw [hlk] at h1; cases h1
              obtain ⟨q, hq, rfl⟩ := List.mem_map.mp h2
              exact hq' q hq
      · have hlt : ¬ i < ks.length := by
          have : ¬ (i : Int) < (ks.length : Int) := by simpa using hlt
          omega
        walk_at "go"
        refine k fp _ _ as ks ((Nxt.flat eG e2).frz (eG.back hfp) hf2 hfp) upd_same hks ndk (fun z => ⟨rk z, fun h => h.within (· ∈ ks) mk0 fun a c ha st _ => ?_⟩) hfp
        obtain ⟨j, hj⟩ := List.mem_iff_getElem?.mp ha
        have : j < ks.length := (List.getElem?_eq_some_iff.mp hj).1
        exact cl j a (by omega) hj c st
end
end K69
set_option Elab.async false
set_option linter.all false
set_option maxRecDepth 100000
set_option maxHeartbeats 4000000
namespace K69
open PySem PySem.Spec PyProof.Rows L2
theorem g_dzip {K : PySem.W.Frag} {ta : TA} {σ : L2.St} {H : Hp} {Q : VK} (h : ta σ H fun vs H1 => ∃ (a b : Addr) (ks : List (Addr × List Key)) (ws : List V), vs = [.ref a, .ref b] ∧ SqL K H1 a (ks.map fun p => V.ref p.1) ∧ SqL K H1 b ws ∧ ks.length = ws.length ∧
  (∀ p ∈ ks, H1 p.1 = some (HO.tup (p.2.map kV))) ∧ ∀ p, H1 p = none → Q (.ref p) (upd H1 p (.dT (mergeT [] ((ks.map (·.2)).zip ws))))) : tDictZip K ta σ H Q := h
theorem mergeT_nd : ∀ (kvs acc : List (List Key × V)), ((acc ++ kvs).map (·.1)).Nodup → mergeT acc kvs = acc ++ kvs
  | [], acc, _ => by simp [mergeT]
  | p :: l, acc, nd => by
    have e : putK acc p.1 p.2 = acc ++ [p] := by
      unfold putK
      rw [if_neg]
      intro h
      obtain ⟨q, hq, e⟩ := List.any_eq_true.mp h
      rw [List.map_append, List.map_cons, List.nodup_append] at nd
      exact nd.2.2 q.1 (List.mem_map.mpr ⟨q, hq, rfl⟩) p.1 List.mem_cons_self (of_decide_eq_true e)
    show mergeT (putK acc p.1 p.2) l = _
    rw [e, mergeT_nd l (acc ++ [p]) (by simpa using nd)]
    simp
def kvN (ks : List Kk) : List (List Key × V) := (nmL ks).map fun p => (kK p.1, V.str p.2)
theorem kK_nd {l : List Kk} (nd : l.Nodup) : (l.map kK).Nodup := by
  unfold List.Nodup at nd ⊢
  rw [List.pairwise_map]
  exact nd.imp fun q z => q (kK_inj z)
theorem names_eq {ks : List Kk} (nd : ks.Nodup) (few : ks.length ≤ 26) : mergeT [] ((ks.map kK).zip ((letS.take ks.length).map V.str)) = kvN ks := by
  have e : (ks.map kK).zip ((letS.take ks.length).map V.str) = kvN ks := by
    unfold kvN nmL
    have gen : ∀ (l : List Kk) (m : List Str), (l.map kK).zip ((m.take l.length).map V.str) = (l.zip m).map fun p => (kK p.1, V.str p.2) := by
      intro l
      induction l with
      | nil => intro m; simp
      | cons a l ih => intro m; cases m with
        | nil => simp
        | cons b m => simp; rw [← List.map_take]; exact ih m
    exact gen ks letS
  rw [e, mergeT_nd]
  · rfl
  · rw [List.nil_append]
    have e2 : (kvN ks).map (·.1) = ks.map kK := by
      unfold kvN nmL
      rw [List.map_map]
      have gen : ∀ (l : List Kk) (m : List Str), l.length ≤ m.length → (l.zip m).map ((fun x => x.1) ∘ fun p => (kK p.1, V.str p.2)) = l.map kK := by
        intro l
        induction l with
        | nil => intro m _; rfl
        | cons a l ih => intro m hm; cases m with
          | nil => simp at hm
          | cons b m => simp at hm ⊢; exact ih m hm
      exact gen ks letS (by rw [letS_len]; exact few)
    rw [e2]
    exact kK_nd nd
theorem valV_kvN {ks : List Kk} (nd : ks.Nodup) (few : ks.length ≤ 26) {k : Kk} (h : k ∈ ks) : valV (kvN ks) (kK k) = some (.str (nm ks k)) := by
  obtain ⟨i, hi⟩ := List.mem_iff_getElem?.mp h
  obtain ⟨x, _, ex, el⟩ := nm_at nd few hi
  unfold kvN
  rw [valV_kvT, el, ex]
  rfl
section
variable {P : Program} {w : World} {K : PySem.W.Frag} {mg : Str → Option Value} {base : Heap} {C : Addr}
local macro_rules | `(tactic| walk_at "lk") => `(tactic| first | assumption | exact upd_same | exact (by assumption : Ex _ _) _ _ (by assumption))
local macro_rules | `(tactic| walk_at "g1") => `(tactic| first
  | with_reducible refine g_seq ?_ | with_reducible refine g_asg ?_ | with_reducible refine g_name ?_ | with_reducible refine g_cons ?_ | with_reducible refine g_nil ?_
  | ((with_reducible refine' g_var ?e ?_); (case e => exact rfl)) | with_reducible refine g_C ?_ | with_reducible refine g_op ?_ | with_reducible refine g_fld0 ?_ | with_reducible refine g_dget ?_ | with_reducible refine g_cb ?_ | with_reducible refine g_call ?_
  | with_reducible refine g_ret ?_ | with_reducible refine g_ifS ?_ | with_reducible refine g_test ?_ | with_reducible refine g_B ?_ | with_reducible refine g_bl ?_ | with_reducible refine g_not ?_ | with_reducible refine g_or ?_ | with_reducible refine g_and ?_
  | with_reducible refine g_ite ?_ | with_reducible refine g_itf ?_ | with_reducible refine g_itnt ?_ | with_reducible refine g_itnf ?_ | with_reducible refine g_eqS ?_ | with_reducible refine g_neS ?_ | with_reducible refine g_neI ?_ | with_reducible refine g_eqB ?_ | with_reducible refine g_neB ?_ | with_reducible refine g_eqI ?_ | with_reducible refine g_rI0 ?_ | with_reducible refine g_ipI ?_ | with_reducible refine g_int ?_
  | with_reducible refine g_drop ?_ | with_reducible refine g_next ?_ | with_reducible refine g_bm ?_ | with_reducible refine g_bm0 ?_ | with_reducible refine g_din ?_ | with_reducible refine g_dnotin ?_ | with_reducible refine g_dput ?_ | ((with_reducible refine' g_aug ?e ?_); (case e => exact rfl))
  | with_reducible refine g_andV ?_ | with_reducible refine g_orV ?_ | with_reducible refine g_notV ?_ | with_reducible refine g_if ?_ | with_reducible refine g_isN ?_ | with_reducible refine g_notN ?_ | with_reducible refine g_sl ?_ | with_reducible refine g_nopart ?_ | with_reducible refine g_part ?_
  | with_reducible refine g_gcons ?_ | with_reducible refine g_gnil ?_ | with_reducible refine g_par2 ?_ | with_reducible refine g_par3 ?_ | with_reducible refine g_vw ?_ | with_reducible refine g_uvw ?_ | with_reducible refine g_yes ?_ | with_reducible refine g_un ?_ | with_reducible refine g_rU ?_ | with_reducible refine g_gsub ?_ | with_reducible refine g_chain ?_ | with_reducible refine g_for ?_ | with_reducible refine g_istr ?_ | with_reducible refine g_ilist ?_ | with_reducible refine g_itup ?_ | with_reducible refine g_ikeys ?_ | with_reducible refine g_ivals ?_ | with_reducible refine g_iitems ?_ | with_reducible refine g_irng1 ?_ | with_reducible refine g_izip ?_ | with_reducible refine g_while ?_ | with_reducible refine g_tru _ ?_ | with_reducible refine g_lc ?_ | with_reducible refine g_dc ?_ | with_reducible refine g_lc2 ?_ | with_reducible refine g_tup ?_ | with_reducible refine g_lst ?_ | with_reducible refine g_dnew ?_ | with_reducible refine g_sfld ?_ | with_reducible refine g_dget2 ?_ | with_reducible refine g_dzip ?_ | with_reducible refine g_dnewT ?_ | with_reducible refine g_dispT ?_ | with_reducible refine g_star ?_ | with_reducible refine g_disp ?_ | with_reducible refine g_prs ?_ | with_reducible refine g_prs0 ?_ | with_reducible refine g_sc ?_ | with_reducible refine g_make ?_ | with_reducible refine g_meth ?_
  | ((with_reducible refine' g_ixT ?h ?e ?_); (case h => walk_at "lk"); (case e => exact rfl)) | ((with_reducible refine' g_ixL ?h ?e ?_); (case h => walk_at "lk"); (case e => exact rfl))
  | ((with_reducible refine' g_fldK ?h ?c ?n ?l ?_); (case h => walk_at "lk"); (case c => exact C8.InsC.cl (Txt.insC (by assumption))); (case n => first | exact Txt.nR (by assumption) | exact Txt.nF (by assumption)); (case l => exact rfl)))
local macro_rules | `(tactic| walk_at "go") => `(tactic| (repeat walk_at "g1"))
local macro_rules | `(tactic| walk_at "ty") => `(tactic| first | exact .base (.str _) | exact .base .non | exact .base (.bl _) | exact .base (.int _) | exact .base (.tup (by assumption)) | exact .base (.lst (by assumption)) | exact .base (.dK (by assumption)) | exact .fDict (by assumption))
abbrev smade : Stmt := topS 18
abbrev Nmade : List Str := ["rows", "start", "keys", "names", "book", "key", "kind", "turns", "word"]
theorem scmade : FnScope Nmade ["rows", "start"] (defScope smade) := ⟨rfl, rfl, rfl, by decide +kernel, rfl, by decide +kernel, by decide +kernel⟩
def sp_made (C : Addr) : Sp := fun vs H Q _ => ∃ (b a0 : Addr) (kb : KBook) (k0 : Kk) (rs : List (Kk × Addr)) (G : Hp), vs = [.ref b, .ref a0] ∧ Ex G H ∧ G b = some (.dT (kvT rs)) ∧ KRowsAt G rs kb ∧ KOk kb ∧ KeyAt G a0 k0 ∧ k0 ∈ kb.map (·.1) ∧
  ∀ x G' H' (ks : List Kk), Nxt none G H G' H' → ks.Nodup → (∀ k, k ∈ ks ↔ Rch kb none k0 k) → ks.length ≤ 26 → DeskAt C G' x (nrm (nmB ks kb)) (nm ks k0) → H x = none → Q (.ref x) H'
theorem cal_made (F : Has K mg "made" smade) (T : Txt K w mg C) (c_reached_in : Cal P w K mg base 1 "reached_in" sp_reached_in) (c_first_words : Cal P w K mg base 1 "first_words" sp_first_words) (c_Desk : Mak P w K mg base 4 "Desk" C (sp_init C)) : Cal P w K mg base 6 "made" (sp_made C) := by
  refine F.cal (fun _ _ _ _ _ _ us hl => match us, hl with | [_, _], _ => rfl) scmade (fun vs H Q E h => ?_) (fun f cdv A outer s H vs Q E hr h => ?_)
  · obtain ⟨b, a0, kb, k0, rs, G, rfl, _⟩ := h; rfl
  · obtain ⟨b, a0, kb, k0, rs, G, rfl, eG, hbg, hrs, ok, ha0, hk0, k⟩ := h
    have nd := scmade.nd
    have hu := hu_of hr
    refine ⟨_, (pss_cons (ps_set (i := 2) nd rfl (Or.inl rfl) (kc c_reached_in hr (pa_cons (pv 0) (pa_cons (pv 1) pa_nil))))
  (pss_cons (ps_set (i := 3) nd rfl (Or.inr rfl) (pe_dictZip K rfl (Nat.lt_of_le_of_lt (Nat.add_le_add_left (show 3 ≤ 65 by decide) _) (units65 hr)) (by rfl) T.tdict (by rfl) T.zip (pa_cons (pv 2) (pa_cons (kc c_first_words hr (pa_cons (pe_lst pa_nil) (pa_cons (pe_callB (kLen K) (by rfl) T.len (by decide +kernel) (pa_cons (pv 2) pa_nil)) pa_nil))) pa_nil))))
  (pss_cons (ps_set (i := 4) nd rfl (Or.inl rfl) pe_dnewK)
  (pss_cons (ps_for PassesOwn.never rfl (kpList K (pv 2)) (pg_name (i := 5) nd rfl (Or.inl rfl))
    (pss_cons (ps_asg (pe_dget hu (pv 0) (pv 5) (fun _ _ => rfl)) (kgTup K (n := 2) rfl (pgs_cons (pg_name (i := 6) nd rfl (Or.inl rfl)) (pgs_cons (pg_name (i := 7) nd rfl (Or.inr rfl)) pgs_nil))))
    (pss_one (ps_dput hu (pv 4) (pe_dget hu (pv 3) (pv 5) (fun _ _ => rfl)) (pe_tup (pa_cons (pv 6) (pa_cons (pe_lock (pe_dc (own := [("word", 8)]) rfl nd (pi_keys (pv 7)) (blkOk_by (N := Nmade) (sc := defScope smade) (by decide +kernel)) (fun _ _ _ _ _ => (pg_name (i := 8) nd rfl (Or.inl rfl))) (fun _ _ _ _ _ => pts_nil) (fun _ _ _ _ _ => (pv 8)) (fun _ _ _ _ _ => (pe_dget hu (pv 3) (pe_dget hu (pv 7) (pv 8) (fun _ _ => rfl)) (fun _ _ => rfl))))) pa_nil))) rfl))))
  (pss_one (ps_ret (kmk c_Desk hr (pa_cons (pv 4) (pa_cons (pe_dget hu (pv 3) (pv 1) (fun _ _ => rfl)) pa_nil))))))))), ?_⟩
    walk_at "go"
    refine ⟨b, a0, kb, k0, rs, G, rfl, eG, hbg, hrs, ok, ha0, hk0, fun p1 G1 H1 as ks N1 gp1 hks ndk mk hp1 => ?_⟩
    have klen := kkeys_le ok hk0 ndk fun x hx => (mk x).mp hx
    have alen := hks.len
    have hp1' := N1.gh _ _ gp1
    walk_at "go"
    refine ⟨Nat.zero_le _, fun e he => ?_⟩
    have N2 : Nxt none G H G1 (upd H1 e (.lst [])) := N1.own he (N1.none0 he)
    have he2 : (upd H1 e (.lst [])) e = some (.lst []) := upd_same
    have hp2 := (Ex.new (o := .lst []) he) _ _ hp1'
    generalize upd H1 e (.lst []) = H2 at N2 he2 hp2 ⊢
    walk_at "go"
    refine ⟨p1, _, rfl, .inl (SqL.of hp2), ?_⟩
    rw [List.length_map, alen]
    walk_at "go"
    refine ⟨e, ks.length, G1, rfl, N2.gh, he2, klen, fun p2 G3 H3 N3 gp2 hp2' => ?_⟩
    have N4 := N2.trans N3
    walk_at "go"
    have hz : ((as.zip (ks.map kK)).map fun p => V.ref p.1) = as.map V.ref := by
      have gen : ∀ (l : List Addr) (m : List (List Key)), l.length = m.length → (l.zip m).map (fun p => V.ref p.1) = l.map V.ref := by
        intro l
        induction l with
        | nil => intro m _; rfl
        | cons a l ih => intro m hm; cases m with
          | nil => simp at hm
          | cons b m => simp at hm ⊢; exact ih m hm
      exact gen _ _ (by rw [List.length_map]; exact alen)
    have hz2 : ((as.zip (ks.map kK)).map fun p => p.2) = ks.map kK := by
      have gen : ∀ (l : List Addr) (m : List (List Key)), l.length = m.length → (l.zip m).map (fun p => p.2) = m := by
        intro l
        induction l with
        | nil => intro m hm; cases m with
          | nil => rfl
          | cons _ _ => simp at hm
        | cons a l ih => intro m hm; cases m with
          | nil => simp at hm
          | cons b m => simp at hm ⊢; exact ih m hm
      exact gen _ _ (by rw [List.length_map]; exact alen)
    have hks3 : KeysAt H3 as ks := hks.mono (N1.gg.trans (N3.gg.trans N3.gh) |> fun e => N4.ex |> fun _ => e)
    refine ⟨p1, p2, as.zip (ks.map kK), (letS.take ks.length).map V.str, rfl, by rw [hz]; exact SqL.of (N3.ex _ _ hp2), SqL.of (N3.gh _ _ gp2), ?_, ?_, fun q hq => ?_⟩
    · rw [List.length_zip, List.length_map, List.length_map, List.length_take, letS_len]; omega
    · intro p hp
      obtain ⟨i, hi⟩ := List.mem_iff_getElem?.mp hp
      obtain ⟨e1, e2⟩ := List.getElem?_zip_eq_some.mp hi
      obtain ⟨kk, hkk, hat⟩ := hks3.at e1
      rw [List.getElem?_map, hkk] at e2
      have e3 : kK kk = p.2 := Option.some.inj e2
      rw [← e3]
      exact hat
    · rw [hz2, names_eq ndk klen]
      have hq0 := N4.none0 hq
      have N5 : Nxt none G H G3 (upd H3 q (.dT (kvN ks))) := N4.own hq hq0
      have hq5 : (upd H3 q (.dT (kvN ks))) q = some (.dT (kvN ks)) := upd_same
      have hp5 := (Ex.new (o := .dT (kvN ks)) hq) _ _ (N3.ex _ _ hp2)
      have gq5 := N4.gh.back hq
      generalize upd H3 q (.dT (kvN ks)) = H5 at N5 hq5 hp5 ⊢
      walk_at "go"
      intro bp hbp
      have hbp0 := N5.none0 hbp
      have nqb : q ≠ bp := ne_of_none hq5 hbp
      have npb : p1 ≠ bp := ne_of_none hp5 hbp
      have gb6 := N5.gh.back hbp
      have N6 : Nxt none G H G3 (upd H5 bp (.dK [])) := N5.own hbp hbp0
      have hb6 : (upd H5 bp (.dK [])) bp = some (.dK (kvR [])) := upd_same
      have hq6 := (Ex.new (o := .dK []) hbp) _ _ hq5
      have hp6 := (Ex.new (o := .dK []) hbp) _ _ hp5
      generalize upd H5 bp (.dK []) = H6 at N6 hb6 hq6 hp6 ⊢
      walk_at "go"
      refine ⟨p1, rfl, ⟨_, SqL.of hp6⟩, ?_⟩
      refine for_it walk_list (fun i σ' H' => ∃ (ps : List (Str × Addr)) (Gi : Hp) (x5 x6 x7 : Option V), σ' = [some (.ref b), some (.ref a0), some (.ref p1), some (.ref q), some (.ref bp), x5, x6, x7, none] ∧ Nxt none G H Gi H' ∧ Ex G3 Gi ∧ Gi bp = none ∧ H' bp = some (.dK (kvR ps)) ∧ Gi q = none ∧ H' q = some (.dT (kvN ks)) ∧ RowsAt Gi ps ((nmB ks kb).take i))
        ⟨[], G3, none, none, none, rfl, N6, Ex.refl G3, gb6, hb6, gq5, hq6, .nil⟩ (fun i σ' H' _ ⟨ps, Gi, _, _, _, _, N, e, _⟩ => SqL.of (N.gh _ _ (e _ _ (N3.gg _ _ gp1)))) ?_ ?_
      · rintro i y σ' H7 H8 hi ⟨ps, Gi, x5, x6, x7, rfl, Ni, eGi, gbi, hbi, gqi, hqi, hps⟩ ⟨rfl, hy⟩
        obtain ⟨a, ha, rfl⟩ := refs_get hy
        clear hy
        obtain ⟨kk, hkk, hka⟩ := hks.at ha
        have mkk := List.mem_of_getElem? hkk
        have rkk := (mk kk).mp mkk
        obtain ⟨r, hlk⟩ := klookup_some (rkk.kkey ok hk0)
        obtain ⟨o1, o2, o3, o4, rfew⟩ := ok.row _ (klookup_mem hlk)
        have o4 : (r.2.map (·.1)).Nodup := o4
        have rfew : r.2.length ≤ 20 := rfew
        obtain ⟨c, hv, d, gs, hc, hd, hgs⟩ := KRowsAt.get hrs hlk
        have eGH := Ni.gg.trans Ni.gh
        have hb7 := eGH _ _ hbg
        have hc7 := eGH _ _ hc
        have hd7 := eGH _ _ hd
        have goal : ∀ z ∈ r.2, z.2 ∈ ks := fun z hz => (mk z.2).mpr (.tail rkk ⟨r, hlk, List.mem_map.mpr ⟨z, hz, rfl⟩⟩ (by simp))
        walk_at "go"
        refine g_dgt (.inl hb7) (hka.mono eGH) hv ?_
        refine g_gtup (SqT.of hc7) rfl ?_
        walk_at "go"
        refine ⟨d, _, hd7, trivial, fun od => ?_⟩
        have L := Lk.mk' (od := od) Ni.gh hd7
        have ndq : q ≠ d := ne_of hqi hd7 (by intro z; cases z)
        have ndb : bp ≠ d := fun z => by subst z; rw [Ni.gg _ _ hd] at gbi; cases gbi
        have hqL := L.keep q _ ndq hqi
        have hbL := L.keep bp _ ndb hbi
        have hgL : ∀ (g : Addr) (kk' : Kk), KeyAt G g kk' → (upd H8 d (.frz od (.dK (kvR gs)))) g = some (.tup [.str kk'.1, .str kk'.2]) := fun g kk' h => by
          rw [upd_ne (ne_of h hd (by intro z; cases z))]; exact eGH _ _ h
        generalize upd H8 d (.frz od (.dK (kvR gs))) = HL at L hqL hbL hgL ⊢
        walk_at "go"
        refine ⟨d, od, rfl, .inl ⟨kvR gs, L.self, fun D hD => ?_⟩⟩
        refine dc_gen walk_keys L.ex hD (by simp only [kvR, List.length_map, hgs.len]; exact small1000 (by omega)) (fun i acc _ => acc = kvS ((nmR ks r).2.take i)) rfl (fun H' e => e _ _ L.self) ?_ ?_
        · rintro i2 y G9 H9 H10 acc Kt Kf hi2 N g0 hh hl' rfl ⟨rfl, k1, v1, hk, rfl⟩ ht hf
          obtain ⟨⟨wd, ga⟩, hgi, rfl, rfl⟩ := kvR_get hk
          obtain ⟨⟨wd', gk⟩, hg, ew, hga⟩ := hgs.at hgi
          have ew : wd = wd' := ew
          subst ew
          have hg2 : (nmR ks r).2[i2]? = some (wd, nm ks gk) := by unfold nmR; rw [List.getElem?_map, hg]; rfl
          have ndg : (gs.map (·.1)).Nodup := by rw [hgs.keys]; exact o4
          walk_at "go"
          refine ⟨rfl, ?_⟩
          walk_at "go"
          refine g_dgs (s := wd) (.inr ⟨od, N.ex _ _ L.self⟩) (by rw [valV_kvR, mem_lookup ndg (List.mem_of_getElem? hgi)]; rfl) ?_
          refine g_dgt (.inl (N.ex _ _ hqL)) (N.ex _ _ (hgL ga gk hga)) (valV_kvN ndk klen (goal _ (List.mem_of_getElem? hg))) ?_
          refine ht (Sum.inr wd) (.str (nm ks gk)) G9 H10 (Nxt.refl N.gh) ?_
          have ndn : ((nmR ks r).2.map (·.1)).Nodup := by unfold nmR; rw [List.map_map]; exact o4
          exact putK_take V.str ndn hg2
        · rintro G9 H9 acc N g0 hh hl' rfl
          rw [List.take_of_length_le (by simp [kvR, nmR, hgs.len])] at hh
          obtain ⟨G10, N10, hd9, e910, _, g910⟩ := L.back _ _ (N.frz g0 hh hD)
          refine ⟨hd9, ?_⟩
          have gD : G10 D = some (.dK (kvS (nmR ks r).2)) := by rw [g910 D (L.fresh D hD).2, upd_same]
          have hb10 : (upd H9 d (.dK (kvR gs))) bp = some (.dK (kvR ps)) := by rw [upd_ne ndb]; exact N.ex _ _ hbL
          have hq10 : (upd H9 d (.dK (kvR gs))) q = some (.dT (kvN ks)) := by rw [upd_ne ndq]; exact N.ex _ _ hqL
          generalize upd H9 d (.dK (kvR gs)) = H10 at N10 hb10 hq10 ⊢
          walk_at "go"
          refine ⟨by show 2 ≤ sizeLine; decide, fun t ht => ?_⟩
          have ex : Ex G10 (upd G10 t (.tup [.str r.1, .ref D])) := Ex.new (N10.gh.back ht)
          have kr : RowAt (upd G10 t (.tup [.str r.1, .ref D])) t (nmR ks r) := ⟨D, upd_same, ex _ _ gD⟩
          have N11 := N10.new (o := .tup [.str r.1, .ref D]) ht (N10.none0 ht)
          have hb11 := (Ex.new (o := .tup [.str r.1, .ref D]) ht) _ _ hb10
          have hq11 := (Ex.new (o := .tup [.str r.1, .ref D]) ht) _ _ hq10
          generalize upd G10 t (.tup [.str r.1, .ref D]) = G11 at kr N11 ex
          generalize upd H10 t (.tup [.str r.1, .ref D]) = H11 at N11 hb11 hq11 ⊢
          walk_at "go"
          refine g_dgt (.inl hq11) (hka.mono (Ni.gg.trans (N11.gg.trans N11.gh))) (valV_kvN ndk klen mkk) ?_
          have plen : ps.length ≤ 26 := by
            have e := congrArg List.length hps.keys
            have e2 : (nmB ks kb).length = ks.length := by unfold nmB; rw [List.length_map]
            simp only [List.length_map, List.length_take] at e
            omega
          refine ⟨bp, _, rfl, DPut.s hb11 (by unfold kvR; rw [List.length_map]; exact small1000 (by omega)), ?_⟩
          have hbx2 : (nmB ks kb)[i]? = some (nm ks kk, nmR ks r) := by unfold nmB; rw [List.getElem?_map, hkk]; show some (nm ks kk, nmR ks ((kb.lookup kk).getD ("done", []))) = _; rw [hlk]; rfl
          have nin : nm ks kk ∉ ps.map (·.1) := by
            rw [hps.keys]
            exact take_nd (by rw [nmB_keys]; exact nm_nd ndk klen) hbx2
          have eput : putK (kvR ps) (Sum.inr (nm ks kk) : Key) (.ref t) = kvR (ps ++ [(nm ks kk, t)]) := putK_kvG V.ref nin
          rw [eput]
          have gb11 : G11 bp = none := (N11.fr bp _ hbi).trans gbi
          have gq11 : G11 q = none := (N11.fr q _ hqi).trans gqi
          refine ⟨ps ++ [(nm ks kk, t)], G11, _, _, _, rfl, (Ni.trans N11).mut gb11 hbp0, eGi.trans N11.gg, gb11, upd_same, gq11, by rw [upd_ne nqb]; exact hq11, ?_⟩
          rw [take_snoc hbx2]
          exact RowsAt.snoc (hps.mono N11.gg) kr
      · rintro σ' H7 ⟨ps, Gi, x5, x6, x7, rfl, Ni, eGi, gbi, hbi, gqi, hqi, hps⟩
        rw [List.take_of_length_le (by unfold nmB; simp [alen])] at hps
        have N8 := Ni.frz gbi hbi hbp0
        have bkx : BookAt (upd Gi bp (.dK (kvR ps))) bp (nmB ks kb) := ⟨ps, upd_same, hps.mono (Ex.new gbi)⟩
        generalize upd Gi bp (.dK (kvR ps)) = G8 at N8 bkx
        have m0 : k0 ∈ ks := (mk k0).mpr (.refl (by simp))
        walk_at "go"
        refine g_dgt (.inl hqi) (ha0.mono (N8.gg.trans N8.gh)) (valV_kvN ndk klen m0) ?_
        walk_at "go"
        refine mk_desk N8.gh (bkx.mono N8.gh) (nmB_ok ok hk0 ndk mk klen) (by rw [nmB_keys]; exact List.mem_map.mpr ⟨k0, m0, rfl⟩) fun x G9 H9 N9 dk hx => ?_
        exact k x _ _ ks (N8.trans N9) ndk mk klen dk (N8.none0 hx)
end
end K69
set_option Elab.async false
set_option linter.all false
set_option maxRecDepth 100000
set_option maxHeartbeats 4000000
namespace K69
open PySem PySem.Spec PyProof.Rows L2
theorem Lk.rows {G H HL : Hp} {b : Addr} {od : Obj} {rs : List (Str × Addr)} {bk : Book} (L : Lk G H b (.dK (kvR rs)) od HL) (hb : H b = some (.dK (kvR rs))) {rs' : List (Str × Addr)} (h : RowsAt H rs' bk) (ne : rs ≠ []) : RowsAt HL rs' bk :=
  Paired.mapP h fun _ _ ⟨e, d, x, y⟩ => ⟨e, d, L.keep _ _ (ne_of x hb (by intro z; cases z)) x, L.keep _ _ (book_ne hb y ne) y⟩
def setT (rs : List (Kk × Addr)) (k : Kk) (t : Addr) : List (Kk × Addr) := rs.map fun p => if p.1 = k then (p.1, t) else p
theorem putK_setT {rs : List (Kk × Addr)} {k : Kk} {t : Addr} (h : k ∈ rs.map (·.1)) : putK (kvT rs) (kK k) (.ref t) = kvT (setT rs k t) := by
  obtain ⟨p, hp, e⟩ := List.mem_map.mp h
  have an : ((kvT rs).any fun kv => decide (kv.1 = kK k)) = true := List.any_eq_true.mpr ⟨(kK p.1, .ref p.2), List.mem_map.mpr ⟨p, hp, rfl⟩, by simp [e]⟩
  unfold putK
  rw [if_pos an]
  unfold kvT setT
  rw [List.map_map, List.map_map]
  refine List.map_congr_left fun p _ => ?_
  show (if kK p.1 = kK k then (kK p.1, V.ref t) else (kK p.1, V.ref p.2)) = (kK (if p.1 = k then (p.1, t) else p).1, V.ref (if p.1 = k then (p.1, t) else p).2)
  by_cases h : p.1 = k
  · rw [if_pos (by rw [h]), if_pos h]
  · rw [if_neg (fun z => h (kK_inj z)), if_neg h]
theorem setT_id {rs : List (Kk × Addr)} {k : Kk} {t : Addr} (h : k ∉ rs.map (·.1)) : setT rs k t = rs := by
  unfold setT
  refine (List.map_congr_left fun p hp => ?_).trans (List.map_id _)
  show (if p.1 = k then (p.1, t) else p) = p
  rw [if_neg fun z => h (List.mem_map.mpr ⟨p, hp, z⟩)]
theorem setT_app (rs qs : List (Kk × Addr)) (k : Kk) (t : Addr) : setT (rs ++ qs) k t = setT rs k t ++ setT qs k t := by unfold setT; rw [List.map_append]
/-- the first book's rows, those of S already put behind -/
def curR (r2 : Row) (S : List Str) (p : Str × Row) : KRow := if p.1 ∈ S ∧ p.2.1 = ("done" : Str) then mkR "second" r2 else mkR "first" p.2
theorem curR_eq {r2 : Row} {S S' : List Str} {p : Str × Row} (h : (p.1 ∈ S' ∧ p.2.1 = ("done" : Str)) ↔ (p.1 ∈ S ∧ p.2.1 = ("done" : Str))) : curR r2 S' p = curR r2 S p := by
  unfold curR
  by_cases z : p.1 ∈ S ∧ p.2.1 = ("done" : Str)
  · rw [if_pos z, if_pos (h.mpr z)]
  · rw [if_neg z, if_neg (fun y => z (h.mp y))]
def cur (bk1 : Book) (r2 : Row) (S : List Str) : KBook := bk1.map fun p => (kF p.1, curR r2 S p)
theorem cur_nil (bk1 : Book) (r2 : Row) : cur bk1 r2 [] = markB "first" bk1 := by
  unfold cur markB
  refine List.map_congr_left fun p _ => ?_
  unfold curR
  rw [if_neg (fun z => by cases z.1)]
theorem cur_all (bk1 : Book) (r2 : Row) : cur bk1 r2 (bk1.map (·.1)) = jnl bk1 r2 := by
  unfold cur jnl
  refine List.map_congr_left fun p hp => ?_
  have m : p.1 ∈ bk1.map (·.1) := List.mem_map.mpr ⟨p, hp, rfl⟩
  unfold jnR curR
  by_cases h : p.2.1 = "done"
  · rw [if_pos ⟨m, h⟩, if_pos h]
  · rw [if_neg (fun z => h z.2), if_neg h]
theorem cur_keys (bk1 : Book) (r2 : Row) (S : List Str) : (cur bk1 r2 S).map (·.1) = (bk1.map (·.1)).map kF := by
  unfold cur
  rw [List.map_map, List.map_map]
  rfl
theorem cur_set {G : Hp} {bk1 : Book} {r2 : Row} {S : List Str} {rs : List (Kk × Addr)} (h : KRowsAt G rs (cur bk1 r2 S)) (nd : (bk1.map (·.1)).Nodup) {x : Str} {r : Row} (hx : bk1.lookup x = some r) (hd : r.1 = "done") {t : Addr} (ht : KRowAt G t (mkR "second" r2)) :
    KRowsAt G (setT rs (kF x) t) (cur bk1 r2 (S ++ [x])) := by
  have all : ∀ p ∈ bk1, p.1 = x → p.2.1 = "done" := fun p hp e => by
    have := mem_lookup nd (show (p.1, p.2) ∈ bk1 from hp)
    rw [e, hx] at this
    cases this; exact hd
  have gen : ∀ (l : Book), (∀ p ∈ l, p.1 = x → p.2.1 = "done") → ∀ {rs : List (Kk × Addr)}, KRowsAt G rs (cur l r2 S) → KRowsAt G (setT rs (kF x) t) (cur l r2 (S ++ [x])) := by
    intro l
    induction l with
    | nil => intro _ rs h; cases h; exact .nil
    | cons p l ih =>
      intro ha rs h
      cases h with
      | @cons q _ qs _ hq hr =>
        refine .cons ?_ (ih (fun p hp => ha p (List.mem_cons_of_mem _ hp)) hr)
        obtain ⟨e, kr⟩ := hq
        show (if q.1 = kF x then (q.1, t) else q).1 = kF p.1 ∧ KRowAt G (if q.1 = kF x then (q.1, t) else q).2 (curR r2 (S ++ [x]) p)
        have e : q.1 = kF p.1 := e
        have kr : KRowAt G q.2 (curR r2 S p) := kr
        by_cases z : p.1 = x
        · unfold curR
          rw [if_pos (by rw [e, z]), if_pos ⟨by rw [z]; simp, ha p List.mem_cons_self z⟩]
          exact ⟨e, ht⟩
        · rw [if_neg (fun y => z (Prod.mk.inj (e.symm.trans y)).2)]
          refine ⟨e, ?_⟩
          have eq : (p.1 ∈ S ++ [x] ∧ p.2.1 = "done") ↔ (p.1 ∈ S ∧ p.2.1 = "done") := by simp [z]
          rw [curR_eq eq]
          exact kr
  exact gen bk1 all h
theorem cur_skip {bk1 : Book} {r2 : Row} {S : List Str} (nd : (bk1.map (·.1)).Nodup) {x : Str} {r : Row} (hx : bk1.lookup x = some r) (hd : ¬ r.1 = "done") : cur bk1 r2 (S ++ [x]) = cur bk1 r2 S := by
  unfold cur
  refine List.map_congr_left fun p hp => ?_
  have eq : (p.1 ∈ S ++ [x] ∧ p.2.1 = "done") ↔ (p.1 ∈ S ∧ p.2.1 = "done") := by
    by_cases z : p.1 = x
    · have := mem_lookup nd (show (p.1, p.2) ∈ bk1 from hp)
      rw [z, hx] at this
      cases this
      exact ⟨fun h => absurd h.2 hd, fun h => absurd h.2 hd⟩
    · simp [z]
  rw [curR_eq eq]
section
variable {P : Program} {w : World} {K : PySem.W.Frag} {mg : Str → Option Value} {base : Heap} {C : Addr}
local macro_rules | `(tactic| walk_at "lk") => `(tactic| first | assumption | exact upd_same | exact (by assumption : Ex _ _) _ _ (by assumption))
local macro_rules | `(tactic| walk_at "g1") => `(tactic| first
  | with_reducible refine g_seq ?_ | with_reducible refine g_asg ?_ | with_reducible refine g_name ?_ | with_reducible refine g_cons ?_ | with_reducible refine g_nil ?_
  | ((with_reducible refine' g_var ?e ?_); (case e => exact rfl)) | with_reducible refine g_C ?_ | with_reducible refine g_op ?_ | with_reducible refine g_fld0 ?_ | with_reducible refine g_dget ?_ | with_reducible refine g_cb ?_ | with_reducible refine g_call ?_
  | with_reducible refine g_ret ?_ | with_reducible refine g_ifS ?_ | with_reducible refine g_test ?_ | with_reducible refine g_B ?_ | with_reducible refine g_bl ?_ | with_reducible refine g_not ?_ | with_reducible refine g_or ?_ | with_reducible refine g_and ?_
  | with_reducible refine g_ite ?_ | with_reducible refine g_itf ?_ | with_reducible refine g_itnt ?_ | with_reducible refine g_itnf ?_ | with_reducible refine g_eqS ?_ | with_reducible refine g_neS ?_ | with_reducible refine g_neI ?_ | with_reducible refine g_eqB ?_ | with_reducible refine g_neB ?_ | with_reducible refine g_eqI ?_ | with_reducible refine g_rI0 ?_ | with_reducible refine g_ipI ?_ | with_reducible refine g_int ?_
  | with_reducible refine g_drop ?_ | with_reducible refine g_next ?_ | with_reducible refine g_bm ?_ | with_reducible refine g_bm0 ?_ | with_reducible refine g_din ?_ | with_reducible refine g_dnotin ?_ | with_reducible refine g_dput ?_ | ((with_reducible refine' g_aug ?e ?_); (case e => exact rfl))
  | with_reducible refine g_andV ?_ | with_reducible refine g_orV ?_ | with_reducible refine g_notV ?_ | with_reducible refine g_if ?_ | with_reducible refine g_isN ?_ | with_reducible refine g_notN ?_ | with_reducible refine g_sl ?_ | with_reducible refine g_nopart ?_ | with_reducible refine g_part ?_
  | with_reducible refine g_gcons ?_ | with_reducible refine g_gnil ?_ | with_reducible refine g_par2 ?_ | with_reducible refine g_par3 ?_ | with_reducible refine g_vw ?_ | with_reducible refine g_uvw ?_ | with_reducible refine g_yes ?_ | with_reducible refine g_un ?_ | with_reducible refine g_rU ?_ | with_reducible refine g_gsub ?_ | with_reducible refine g_chain ?_ | with_reducible refine g_for ?_ | with_reducible refine g_istr ?_ | with_reducible refine g_ilist ?_ | with_reducible refine g_itup ?_ | with_reducible refine g_ikeys ?_ | with_reducible refine g_ivals ?_ | with_reducible refine g_iitems ?_ | with_reducible refine g_irng1 ?_ | with_reducible refine g_izip ?_ | with_reducible refine g_while ?_ | with_reducible refine g_tru _ ?_ | with_reducible refine g_lc ?_ | with_reducible refine g_dc ?_ | with_reducible refine g_lc2 ?_ | with_reducible refine g_tup ?_ | with_reducible refine g_lst ?_ | with_reducible refine g_dnew ?_ | with_reducible refine g_sfld ?_ | with_reducible refine g_dget2 ?_ | with_reducible refine g_dzip ?_ | with_reducible refine g_dnewT ?_ | with_reducible refine g_dispT ?_ | with_reducible refine g_star ?_ | with_reducible refine g_disp ?_ | with_reducible refine g_prs ?_ | with_reducible refine g_prs0 ?_ | with_reducible refine g_sc ?_ | with_reducible refine g_make ?_ | with_reducible refine g_meth ?_
  | ((with_reducible refine' g_ixT ?h ?e ?_); (case h => walk_at "lk"); (case e => exact rfl)) | ((with_reducible refine' g_ixL ?h ?e ?_); (case h => walk_at "lk"); (case e => exact rfl))
  | ((with_reducible refine' g_fldK ?h ?c ?n ?l ?_); (case h => walk_at "lk"); (case c => exact C8.InsC.cl (Txt.insC (by assumption))); (case n => first | exact Txt.nR (by assumption) | exact Txt.nF (by assumption)); (case l => exact rfl)))
local macro_rules | `(tactic| walk_at "go") => `(tactic| (repeat walk_at "g1"))
local macro_rules | `(tactic| walk_at "ty") => `(tactic| first | exact .base (.str _) | exact .base .non | exact .base (.bl _) | exact .base (.int _) | exact .base (.tup (by assumption)) | exact .base (.lst (by assumption)) | exact .base (.dK (by assumption)) | exact .fDict (by assumption))
abbrev sjoined_then : Stmt := topS 22
abbrev Njoined_then : List Str := ["first", "second", "rows", "state"]
theorem scjoined_then : FnScope Njoined_then ["first", "second"] (defScope sjoined_then) := ⟨rfl, rfl, rfl, by decide +kernel, rfl, by decide +kernel, by decide +kernel⟩
def sp_joined_then (C : Addr) : Sp := fun vs H Q _ => ∃ (a1 a2 : Addr) (bk1 bk2 : Book) (s1 s2 : Str) (r2 : Row) (G : Hp), vs = [.ref a1, .ref a2] ∧ Ex G H ∧ DeskAt C G a1 bk1 s1 ∧ DeskAt C G a2 bk2 s2 ∧ DeskOk bk1 s1 ∧ DeskOk bk2 s2 ∧ bk2.lookup s2 = some r2 ∧ bk1.length + bk2.length ≤ 26 ∧
  ∀ x G' H' tk t, Nxt none G H G' H' → DeskAt C G' x tk t → DeskOk tk t → tk.length ≤ bk1.length + bk2.length → (∃ R : Str → Kk → Prop, R t (kF s1) ∧ Bis tk (jn bk1 bk2 r2) R) → H x = none → Q (.ref x) H'
theorem cal_joined_then (F : Has K mg "joined_then" sjoined_then) (T : Txt K w mg C) (c_marked : Cal P w K mg base 1 "marked" (sp_marked C)) (c_is_done : Cal P w K mg base 1 "is_done" (sp_is_done C)) (c_second_row : Cal P w K mg base 1 "second_row" (sp_second_row C))
    (c_made : Cal P w K mg base 6 "made" (sp_made C)) : Cal P w K mg base 7 "joined_then" (sp_joined_then C) := by
  refine F.cal (fun _ _ _ _ _ _ us hl => match us, hl with | [_, _], _ => rfl) scjoined_then (fun vs H Q E h => ?_) (fun f cdv A outer s H vs Q E hr h => ?_)
  · obtain ⟨a1, a2, bk1, bk2, s1, s2, r2, G, rfl, _⟩ := h; rfl
  · obtain ⟨a1, a2, bk1, bk2, s1, s2, r2, G, rfl, eG, da1, da2, D1, D2, hr2, few, k⟩ := h
    have nd := scjoined_then.nd
    have hu := hu_of hr
    refine ⟨_, (pss_cons (ps_set (i := 2) nd rfl (Or.inl rfl) (kc c_marked hr (pa_cons pe_str (pa_cons (pv 1) pa_nil))))
  (pss_cons (ps_expr (kBm K PySem.F.plainAttrs_dict PySem.F.slot_dict_update PySem.F.type_dict_update (mtd_update hu) (pv 2) (pa_cons (kc c_marked hr (pa_cons pe_str (pa_cons (pv 0) pa_nil))) pa_nil)))
  (pss_cons (ps_lock (ps_for PassesOwn.never rfl (pi_keys (kFld K (pv 0))) (pg_name (i := 3) nd rfl (Or.inl rfl))
    (pss_one (ps_if (pt_val (kc c_is_done hr (pa_cons (pv 0) (pa_cons (pv 3) pa_nil))))
      (pss_one (ps_dput hu (pv 2) (pe_tup (pa_cons pe_str (pa_cons (pv 3) pa_nil))) (kc c_second_row hr (pa_cons (pv 1) pa_nil)) rfl)) pss_nil))))
  (pss_one (ps_ret (kc c_made hr (pa_cons (pv 2) (pa_cons (pe_tup (pa_cons pe_str (pa_cons (kFld K (pv 0)) pa_nil))) pa_nil)))))))), ?_⟩
    walk_at "go"
    refine ⟨a2, "second", bk2, s2, G, rfl, eG, da2, D2.ok, fun p G1 H1 rs2 N1 gp1 hp1 hrs2 hp0 => ?_⟩
    walk_at "go"
    refine ⟨.inr (.inr (.inl ⟨rfl, .inr ⟨_, hp1⟩⟩)), ?_⟩
    walk_at "go"
    refine ⟨a1, "first", bk1, s1, G1, rfl, N1.gh, da1.mono N1.gg, D1.ok, fun p' G2 H2 rs1 N2 gp2' hp2' hrs1 hp'1 => ?_⟩
    have npp : p ≠ p' := ne_of_none hp1 hp'1
    obtain ⟨gp2, hp2⟩ := N2.keep gp1 hp1
    have N3 := N1.trans N2
    have k2 := hrs2.keys
    have k1 := hrs1.keys
    have ndall : ((rs2 ++ rs1).map (·.1)).Nodup := by
      have := (jn_ok D1.ok D2.ok hr2 few).nd
      rw [jn_keys] at this
      rw [List.map_append, k2, k1]
      unfold markB
      rw [List.map_map, List.map_map]
      rw [List.map_map, List.map_map] at this
      exact this
    have em : mergeT (kvT rs2) (kvT rs1) = kvT (rs2 ++ rs1) := by
      rw [mergeT_nd]
      · unfold kvT; rw [List.map_append]
      · have : (kvT rs2 ++ kvT rs1).map (·.1) = ((rs2 ++ rs1).map (·.1)).map kK := by unfold kvT; rw [← List.map_append, List.map_map, List.map_map]; rfl
        rw [this]
        exact kK_nd ndall
    have l2 : rs2.length = bk2.length := by have := congrArg List.length k2; unfold markB at this; rw [List.length_map, List.length_map, List.length_map] at this; exact this
    have l1 : rs1.length = bk1.length := by have := congrArg List.length k1; unfold markB at this; rw [List.length_map, List.length_map, List.length_map] at this; exact this
    walk_at "go"
    refine ⟨p, p', rfl, rfl, npp, .inr ⟨kvT rs2, kvT rs1, hp2, hp2', ?_, ?_, ?_⟩⟩
    · intro z
      have : rs2 = [] := by
        have := congrArg List.length z
        unfold kvT at this
        rw [List.length_map] at this
        exact List.eq_nil_of_length_eq_zero this
      rw [this] at l2
      exact D2.ok.ne (List.eq_nil_of_length_eq_zero l2.symm)
    · unfold kvT; rw [List.length_map, List.length_map]; exact Nat.le_of_lt (small1000 (by omega))
    · rw [em]
      have N4 : Nxt none G H G2 (upd H2 p (.dT (kvT (rs2 ++ rs1)))) := N3.mut gp2 hp0
      have hp4 : (upd H2 p (.dT (kvT (rs2 ++ rs1)))) p = some (.dT (kvT (rs2 ++ rs1))) := upd_same
      generalize upd H2 p (.dT (kvT (rs2 ++ rs1))) = H4 at N4 hp4 ⊢
      have da1' := da1
      obtain ⟨b, dx, hag, _, rs, hbg, hrs⟩ := da1'
      have ne : rs ≠ [] := fun z => D1.ok.ne (by have := hrs.len; rw [z] at this; exact List.eq_nil_of_length_eq_zero this.symm)
      have eG4 := N4.gg.trans N4.gh
      have ha4 := eG4 _ _ hag
      have hb4 := eG4 _ _ hbg
      have npb : p ≠ b := ne_of hp4 hb4 (by intro z; cases z)
      walk_at "go"
      refine ⟨b, _, hb4, trivial, fun od => ?_⟩
      have L0 := Lk.mk' (od := od) N4.gh hb4
      have ha5 := L0.keep a1 _ (ne_of ha4 hb4 (by intro z; cases z)) ha4
      walk_at "go"
      refine ⟨b, od, rfl, .inl ⟨kvR rs, L0.self, ?_⟩⟩
      clear ha5 L0
      refine for_it walk_keys (fun i σ' H' => ∃ (rsA : List (Kk × Addr)) (Gi Hu : Hp) (x3 : Option V), σ' = [some (.ref a1), some (.ref a2), some (.ref p), x3] ∧ H' = upd Hu b (.frz od (.dK (kvR rs))) ∧ Hu b = some (.dK (kvR rs)) ∧ Nxt none G H Gi Hu ∧ Ex G2 Gi ∧ Gi p = none ∧ Hu p = some (.dT (kvT (rs2 ++ rsA))) ∧ KRowsAt Gi rsA (cur bk1 r2 ((bk1.map (·.1)).take i)))
        ⟨rs1, G2, H4, none, rfl, rfl, hb4, N4, Ex.refl G2, gp2, hp4, by rw [List.take_zero, cur_nil]; exact hrs1⟩ ?_ ?_ ?_
      · rintro i σ' H' _ ⟨rsA, Gi, Hu, x3, rfl, rfl, hub, _⟩
        exact upd_same
      · rintro i y σ' H5 H6 hi ⟨rsA, Gi, Hu, x3, rfl, rfl, hub, Ni, eGi, gpi, hpu, hA⟩ ⟨rfl, k1', v1', hk, rfl⟩
        obtain ⟨⟨x, c⟩, hx, rfl, rfl⟩ := kvR_get hk
        obtain ⟨⟨x', r⟩, hbx, ex, hcr⟩ := hrs.at hx
        cases ex
        have mem := List.mem_of_getElem? hbx
        have hlx := mem_lookup D1.ok.nd mem
        have L := Lk.mk' (od := od) Ni.gh hub
        have eGu := Ni.gg.trans Ni.gh
        have hau := eGu _ _ hag
        have haL := L.keep a1 _ (ne_of hau hub (by intro z; cases z)) hau
        have hpL := L.keep p _ npb hpu
        have rL := L.rows hub (hrs.mono eGu) ne
        obtain ⟨b2, dx2, hag2, _, rsz, hbg2, hrsz⟩ := da2
        have hau2 := eGu _ _ hag2
        have haL2 := L.keep a2 _ (ne_of hau2 hub (by intro z; cases z)) hau2
        have rL2 := L.rows hub (hrsz.mono eGu) ne
        have rd2 : DeskRd C (upd Hu b (.frz od (.dK (kvR rs)))) a2 bk2 s2 := by
          refine ⟨b2, dx2, rsz, haL2, ?_, rL2⟩
          by_cases z : b2 = b
          · subst z
            have e2 := eGu _ _ hbg2
            rw [hub] at e2
            rw [← Option.some.inj e2]
            exact .inr ⟨od, L.self⟩
          · exact .inl (L.keep b2 _ z (eGu _ _ hbg2))
        walk_at "go"
        refine ⟨a1, bk1, s1, x, r, rfl, ⟨b, dx, rs, haL, .inr ⟨od, L.self⟩, rL⟩, hlx, ?_⟩
        have tk : (bk1.map (·.1)).take (i + 1) = (bk1.map (·.1)).take i ++ [x] := take_snoc (by rw [List.getElem?_map, hbx]; rfl)
        walk_at "go"
        refine ite2 (fun hdn => ?_) (fun hdn => ?_)
        · have hdn : r.1 = "done" := by simpa using hdn
          clear haL2
          generalize hHL : upd Hu b (.frz od (.dK (kvR rs))) = HL at L haL hpL rL rd2 ⊢
          walk_at "go"
          refine ⟨a2, bk2, s2, r2, cut Gi b, rfl, L.ex, rd2, hr2, D2.ok.row _ (lookup_mem hr2), fun t G7 H7 N7 ht => ?_⟩
          walk_at "go"
          refine ⟨by show 2 ≤ sizeLine; decide, fun kt hkt => ?_⟩
          have N8 := N7.own (o := .tup [.str (PySem.Str.ofString "first"), kV (Sum.inr x)]) hkt (N7.none0 hkt)
          have hkt8 : KeyAt (upd H7 kt (.tup [.str (PySem.Str.ofString "first"), kV (Sum.inr x)])) kt (kF x) := upd_same
          generalize upd H7 kt (.tup [.str (PySem.Str.ofString "first"), kV (Sum.inr x)]) = H8 at N8 hkt8 ⊢
          have hp8 := N8.ex _ _ hpL
          have lA : rsA.length = bk1.length := by have := congrArg List.length (KRowsAt.keys hA); unfold cur at this; rw [List.length_map, List.length_map, List.length_map] at this; exact this
          refine ⟨p, _, rfl, DPut.tt hp8 hkt8 (by unfold kvT; rw [List.length_map, List.length_append]; exact small1000 (by omega)), ?_⟩
          have kA : rsA.map (·.1) = (bk1.map (·.1)).map kF := (KRowsAt.keys hA).trans (cur_keys _ _ _)
          have mx : kF x ∈ rsA.map (·.1) := by rw [kA]; exact List.mem_map.mpr ⟨x, List.mem_map.mpr ⟨_, mem, rfl⟩, rfl⟩
          have n2 : kF x ∉ rs2.map (·.1) := by
            rw [k2]
            intro m
            obtain ⟨q, hq, e⟩ := List.mem_map.mp m
            obtain ⟨u, hu, rfl⟩ := List.mem_map.mp hq
            exact fs_ne (Prod.mk.inj e).1.symm
          rw [putK_setT (by rw [List.map_append]; exact List.mem_append_right _ mx), setT_app, setT_id n2]
          obtain ⟨G9, N9, hb8, e79, _, _⟩ := L.back _ _ N8
          have gp9 : G9 p = none := (N9.fr p _ hpu).trans gpi
          refine ⟨setT rsA (kF x) t, G9, upd (upd H8 b (.dK (kvR rs))) p (.dT (kvT (rs2 ++ setT rsA (kF x) t))), _, rfl, ?_, ?_, (Ni.trans N9).mut gp9 hp0, eGi.trans N9.gg, gp9, upd_same, ?_⟩
          · rw [upd_sw npb, upd_upd, upd_id hb8]
          · rw [upd_ne (Ne.symm npb), upd_same]
          · rw [tk]
            exact cur_set (KRowsAt.mono hA N9.gg) D1.ok.nd hlx hdn (ht.mono e79)
        · have hdn : ¬ r.1 = "done" := by simpa using hdn
          walk_at "go"
          refine ⟨rsA, Gi, Hu, _, rfl, rfl, hub, Ni, eGi, gpi, hpu, ?_⟩
          rw [tk, cur_skip D1.ok.nd hlx hdn]
          exact hA
      · rintro σ' H5 ⟨rsA, Gi, Hu, x3, rfl, rfl, hub, Ni, eGi, gpi, hpu, hA⟩
        rw [List.take_of_length_le (by simp [kvR, hrs.len]), cur_all] at hA
        refine ⟨upd_same, ?_⟩
        rw [upd_un hub]
        have N6 := Ni.frz gpi hpu hp0
        have gp6 : (upd Gi p (.dT (kvT (rs2 ++ rsA)))) p = some (.dT (kvT (rs2 ++ rsA))) := upd_same
        have kr6 : KRowsAt (upd Gi p (.dT (kvT (rs2 ++ rsA)))) (rs2 ++ rsA) (jn bk1 bk2 r2) := by
          have ex := Ex.new (o := .dT (kvT (rs2 ++ rsA))) gpi
          have gen : ∀ {a b : List (Kk × Addr)} {c d : KBook}, KRowsAt (upd Gi p (.dT (kvT (rs2 ++ rsA)))) a c → KRowsAt (upd Gi p (.dT (kvT (rs2 ++ rsA)))) b d → KRowsAt (upd Gi p (.dT (kvT (rs2 ++ rsA)))) (a ++ b) (c ++ d) := by
            intro a b c d h1 h2
            induction h1 with
            | nil => exact h2
            | cons h _ ih => exact .cons h ih
          exact gen (KRowsAt.mono hrs2 (N2.gg.trans (eGi.trans ex))) (KRowsAt.mono hA ex)
        generalize upd Gi p (.dT (kvT (rs2 ++ rsA))) = G6 at N6 gp6 kr6
        have ha6 := N6.gh _ _ (N6.gg _ _ hag)
        walk_at "go"
        refine ⟨by show 2 ≤ sizeLine; decide, fun kt hkt => ?_⟩
        have N7 := N6.new (o := .tup [.str (PySem.Str.ofString "first"), .str s1]) hkt (N6.none0 hkt)
        have hkt7 : KeyAt (upd G6 kt (.tup [.str (PySem.Str.ofString "first"), .str s1])) kt (kF s1) := upd_same
        have ex7 : Ex G6 (upd G6 kt (.tup [.str (PySem.Str.ofString "first"), .str s1])) := Ex.new (N6.gh.back hkt)
        have ok := jn_ok D1.ok D2.ok hr2 few
        have mk0 : kF s1 ∈ (jn bk1 bk2 r2).map (·.1) := by
          rw [jn_keys]
          exact List.mem_append_right _ (List.mem_map.mpr ⟨s1, D1.st, rfl⟩)
        generalize upd G6 kt (.tup [.str (PySem.Str.ofString "first"), .str s1]) = G7 at N7 hkt7 ex7
        refine ⟨p, kt, jn bk1 bk2 r2, kF s1, rs2 ++ rsA, G7, rfl, N7.gh, ex7 _ _ gp6, KRowsAt.mono kr6 ex7, ok, hkt7, mk0, fun x G8 H8 ks N8 ndk mk klen dk hx => ?_⟩
        have okb := nmB_ok ok mk0 ndk mk klen
        have m0 : kF s1 ∈ ks := (mk _).mpr (.refl (by simp))
        refine k x _ _ _ _ (N7.trans N8) dk (DeskOk.mk' okb (by rw [nmB_keys]; exact List.mem_map.mpr ⟨_, m0, rfl⟩)) ?_ ⟨_, ⟨m0, rfl⟩, nmB_bis ok mk0 ndk mk klen⟩ (N7.none0 hx)
        rw [nrm_len]
        have h1 := nodup_le ks ((jn bk1 bk2 r2).map (·.1)) ndk fun z hz => ((mk z).mp hz).kkey ok mk0
        rw [jn_keys] at h1
        unfold nmB
        simp at h1 ⊢
        omega
abbrev sthen : Stmt := topS 24
abbrev Nthen : List Str := ["first", "second"]
theorem scthen : FnScope Nthen ["first", "second"] (defScope sthen) := ⟨rfl, rfl, rfl, by decide +kernel, rfl, by decide +kernel, by decide +kernel⟩
theorem cal_then (F : Has K mg "then" sthen) (T : Txt K w mg C) (c_check_desk : Cal P w K mg base 1 "check_desk" (sp_check_desk C)) (c_joined_then : Cal P w K mg base 7 "joined_then" (sp_joined_then C)) : Cal P w K mg base 8 "then" (sp_joined_then C) := by
  refine F.cal (fun _ _ _ _ _ _ us hl => match us, hl with | [_, _], _ => rfl) scthen (fun vs H Q E h => ?_) (fun f cdv A outer s H vs Q E hr h => ?_)
  · obtain ⟨a1, a2, bk1, bk2, s1, s2, r2, G, rfl, _⟩ := h; rfl
  · obtain ⟨a1, a2, bk1, bk2, s1, s2, r2, G, rfl, eG, da1, da2, D1, D2, hr2, few, k⟩ := h
    have nd := scthen.nd
    have hu := hu_of hr
    refine ⟨_, (pss_cons (ps_expr (kc c_check_desk hr (pa_cons (pv 0) pa_nil)))
  (pss_cons (ps_expr (kc c_check_desk hr (pa_cons (pv 1) pa_nil)))
  (pss_one (ps_ret (kc c_joined_then hr (pa_cons (pv 0) (pa_cons (pv 1) pa_nil))))))), ?_⟩
    have da1' := da1
    have da2' := da2
    obtain ⟨b, dx, hag, _⟩ := da1'
    obtain ⟨b2, dx2, hag2, _⟩ := da2'
    walk_at "go"
    refine ⟨a1, dx, _, rfl, eG _ _ hag, ?_⟩
    walk_at "go"
    refine ⟨a2, dx2, _, rfl, eG _ _ hag2, ?_⟩
    walk_at "go"
    exact ⟨a1, a2, bk1, bk2, s1, s2, r2, G, rfl, eG, da1, da2, D1, D2, hr2, few, k⟩
end
end K69
set_option Elab.async false
set_option linter.all false
set_option maxRecDepth 100000
set_option maxHeartbeats 4000000
namespace K69
open PySem PySem.Spec PyProof.Rows L2
def spE (E : V → V → Hp → Prop) : Sp := fun vs H Q _ => ∃ x y, vs = [x, y] ∧ E x y H ∧ ∀ H', Ex H H' → Q (.bl true) H'
def E0 : V → V → Hp → Prop := fun x y _ => ∃ s, x = .str s ∧ y = .str s
def EL (E : V → V → Hp → Prop) : V → V → Hp → Prop := fun x y H => ∃ a b xs ys, x = .ref a ∧ y = .ref b ∧ H a = some (.lst xs) ∧ H b = some (.lst ys) ∧ xs.length = ys.length ∧ xs.length ≤ 900 ∧ ∀ (i : Nat) u v, xs[i]? = some u → ys[i]? = some v → E u v H
def MonE (E : V → V → Hp → Prop) : Prop := ∀ x y H H', Ex H H' → E x y H → E x y H'
theorem monE0 : MonE E0 := fun _ _ _ _ _ h => h
theorem monEL {E : V → V → Hp → Prop} (m : MonE E) : MonE (EL E) := fun x y H H' e ⟨a, b, xs, ys, h1, h2, h3, h4, h5, h6, h7⟩ => ⟨a, b, xs, ys, h1, h2, e _ _ h3, e _ _ h4, h5, h6, fun i u v p q => m _ _ _ _ e (h7 i u v p q)⟩
theorem g_isiT2 {K : PySem.W.Frag} {H : Hp} {Q : VK} {x : V} {tp : Addr} {T a b : String} {k1 k2 : Bool} (h : H tp = some (.tup [.ty a, .ty b])) (ty : TyX K H x (.type T)) (e1 : kitB T a = some k1) (e2 : kitB T b = some k2) (q : Q (.bl (k1 || k2)) H) : rIsiT K [x, .ref tp] H Q := by
  refine ⟨x, tp, _, .type T, [.type a, .type b], k1 || k2, rfl, h, .cons (.ty a) (.cons (.ty b) .nil), ty, ?_, q⟩
  have h1 := kit_ty (K := K) e1
  have h2 := kit_ty (K := K) e2
  unfold PySem.W.kitAny
  cases k1 <;> cases k2 <;> simp [h1, h2, PySem.W.kitAny]
section
variable {P : Program} {w : World} {K : PySem.W.Frag} {mg : Str → Option Value} {base : Heap} {C : Addr}
local macro_rules | `(tactic| walk_at "lk") => `(tactic| first | assumption | exact upd_same | exact (by assumption : Ex _ _) _ _ (by assumption))
local macro_rules | `(tactic| walk_at "g1") => `(tactic| first
  | with_reducible refine g_seq ?_ | with_reducible refine g_asg ?_ | with_reducible refine g_name ?_ | with_reducible refine g_cons ?_ | with_reducible refine g_nil ?_
  | ((with_reducible refine' g_var ?e ?_); (case e => exact rfl)) | with_reducible refine g_C ?_ | with_reducible refine g_op ?_ | with_reducible refine g_fld0 ?_ | with_reducible refine g_dget ?_ | with_reducible refine g_cb ?_ | with_reducible refine g_call ?_
  | with_reducible refine g_ret ?_ | with_reducible refine g_ifS ?_ | with_reducible refine g_test ?_ | with_reducible refine g_B ?_ | with_reducible refine g_bl ?_ | with_reducible refine g_not ?_ | with_reducible refine g_or ?_ | with_reducible refine g_and ?_
  | with_reducible refine g_ite ?_ | with_reducible refine g_itf ?_ | with_reducible refine g_itnt ?_ | with_reducible refine g_itnf ?_ | with_reducible refine g_eqS ?_ | with_reducible refine g_neS ?_ | with_reducible refine g_neI ?_ | with_reducible refine g_eqB ?_ | with_reducible refine g_neB ?_ | with_reducible refine g_eqI ?_ | with_reducible refine g_rI0 ?_ | with_reducible refine g_ipI ?_ | with_reducible refine g_int ?_
  | with_reducible refine g_drop ?_ | with_reducible refine g_next ?_ | with_reducible refine g_bm ?_ | with_reducible refine g_bm0 ?_ | with_reducible refine g_din ?_ | with_reducible refine g_dnotin ?_ | with_reducible refine g_dput ?_ | ((with_reducible refine' g_aug ?e ?_); (case e => exact rfl))
  | with_reducible refine g_andV ?_ | with_reducible refine g_orV ?_ | with_reducible refine g_notV ?_ | with_reducible refine g_if ?_ | with_reducible refine g_isN ?_ | with_reducible refine g_notN ?_ | with_reducible refine g_sl ?_ | with_reducible refine g_nopart ?_ | with_reducible refine g_part ?_
  | with_reducible refine g_gcons ?_ | with_reducible refine g_gnil ?_ | with_reducible refine g_par2 ?_ | with_reducible refine g_par3 ?_ | with_reducible refine g_vw ?_ | with_reducible refine g_uvw ?_ | with_reducible refine g_yes ?_ | with_reducible refine g_un ?_ | with_reducible refine g_rU ?_ | with_reducible refine g_gsub ?_ | with_reducible refine g_chain ?_ | with_reducible refine g_for ?_ | with_reducible refine g_istr ?_ | with_reducible refine g_ilist ?_ | with_reducible refine g_itup ?_ | with_reducible refine g_ikeys ?_ | with_reducible refine g_ivals ?_ | with_reducible refine g_iitems ?_ | with_reducible refine g_irng1 ?_ | with_reducible refine g_izip ?_ | with_reducible refine g_while ?_ | with_reducible refine g_tru _ ?_ | with_reducible refine g_lc ?_ | with_reducible refine g_dc ?_ | with_reducible refine g_lc2 ?_ | with_reducible refine g_tup ?_ | with_reducible refine g_lst ?_ | with_reducible refine g_dnew ?_ | with_reducible refine g_sfld ?_ | with_reducible refine g_dget2 ?_ | with_reducible refine g_dzip ?_ | with_reducible refine g_dnewT ?_ | with_reducible refine g_dispT ?_ | with_reducible refine g_star ?_ | with_reducible refine g_disp ?_ | with_reducible refine g_prs ?_ | with_reducible refine g_prs0 ?_ | with_reducible refine g_sc ?_ | with_reducible refine g_make ?_ | with_reducible refine g_meth ?_
  | ((with_reducible refine' g_ixT ?h ?e ?_); (case h => walk_at "lk"); (case e => exact rfl)) | ((with_reducible refine' g_ixL ?h ?e ?_); (case h => walk_at "lk"); (case e => exact rfl))
  | ((with_reducible refine' g_fldK ?h ?c ?n ?l ?_); (case h => walk_at "lk"); (case c => exact C8.InsC.cl (Txt.insC (by assumption))); (case n => first | exact Txt.nR (by assumption) | exact Txt.nF (by assumption)); (case l => exact rfl)))
local macro_rules | `(tactic| walk_at "go") => `(tactic| (repeat walk_at "g1"))
local macro_rules | `(tactic| walk_at "ty") => `(tactic| first | exact .base (.str _) | exact .base .non | exact .base (.bl _) | exact .base (.int _) | exact .base (.tup (by assumption)) | exact .base (.lst (by assumption)) | exact .base (.dK (by assumption)) | exact .fDict (by assumption))
abbrev sl_exact : Stmt := topS 36
abbrev Nl_exact : List Str := ["_law_mine", "_law_theirs", "_law_alike_here", "_law_a", "_law_b", "_law_key"]
theorem scl_exact : FnScope Nl_exact ["_law_mine", "_law_theirs"] (defScope sl_exact) := ⟨rfl, rfl, rfl, by decide +kernel, rfl, by decide +kernel, by decide +kernel⟩
theorem cal_exact0 (F : Has K mg "_law_exact" sl_exact) (T : Txt K w mg C) : Cal P w K mg base 1 "_law_exact" (spE E0) := by
  refine F.cal (fun _ _ _ _ _ _ us hl => match us, hl with | [_, _], _ => rfl) scl_exact (fun vs H Q E h => ?_) (fun f cdv A outer s H vs Q E hr h => ?_)
  · obtain ⟨x, y, rfl, _⟩ := h; rfl
  · obtain ⟨_, _, rfl, ⟨x, rfl, rfl⟩, k⟩ := h
    have nd := scl_exact.nd
    have hu := hu_of hr
    refine ⟨_, (pss_cons (ps_if (pt_val (pe_callB (kIsiT K) (by rfl) T.isinstance (by decide +kernel) (pa_cons (pv 0) (pa_cons (pe_tup (pa_cons (pe_bltn (v := .ty "list") (by rfl) T.tlist (by decide +kernel) rfl) (pa_cons (pe_bltn (v := .ty "tuple") (by rfl) T.ttuple (by decide +kernel) rfl) pa_nil))) pa_nil))))
    (pss_cons ps_never
    (pss_one ps_never)) pss_nil)
  (pss_cons (ps_if (pt_val (pe_callB (kIsi K) (by rfl) T.isinstance (by decide +kernel) (pa_cons (pv 0) (pa_cons (pe_bltn (v := .ty "dict") (by rfl) T.tdict (by decide +kernel) rfl) pa_nil))))
    (pss_cons ps_never
    (pss_one ps_never)) pss_nil)
  (pss_one (ps_ret (pe_and (pe_cmpR op_eq (pe_callB (kIsi K) (by rfl) T.isinstance (by decide +kernel) (pa_cons (pv 0) (pa_cons (pe_bltn (v := .ty "bool") (by rfl) T.tbool (by decide +kernel) rfl) pa_nil))) (pe_callB (kIsi K) (by rfl) T.isinstance (by decide +kernel) (pa_cons (pv 1) (pa_cons (pe_bltn (v := .ty "bool") (by rfl) T.tbool (by decide +kernel) rfl) pa_nil))) (nomark _)) (pe_one (pe_cmpR op_eq (pv 0) (pv 1) (nomark _)))))))), ?_⟩
    walk_at "go"
    refine ⟨by show 2 ≤ sizeLine; decide, fun p hp => ?_⟩
    have e1 : Ex H (upd H p (.tup [.ty "list", .ty "tuple"])) := Ex.new hp
    walk_at "g1"
    refine g_isiT2 (a := "list") (b := "tuple") (T := "str") (k1 := false) (k2 := false) upd_same (.base (.str x)) (by decide +kernel) (by decide +kernel) ?_
    generalize upd H p (.tup [.ty "list", .ty "tuple"]) = H1 at e1 ⊢
    refine g_bl ?_
    refine g_itf ?_
    walk_at "go"
    refine g_isi (T := "str") (k := false) (by walk_at "ty") (by decide +kernel) ?_
    walk_at "go"
    refine g_isi (T := "str") (k := false) (by walk_at "ty") (by decide +kernel) ?_
    walk_at "go"
    refine g_isi (T := "str") (k := false) (by walk_at "ty") (by decide +kernel) ?_
    walk_at "go"
    rw [decide_eq_true rfl]
    walk_at "go"
    rw [decide_eq_true rfl]
    exact k H1 e1
theorem cal_exactL (F : Has K mg "_law_exact" sl_exact) (T : Txt K w mg C) {En : V → V → Hp → Prop} (mE : MonE En) {k : Nat} (c_law_exact : Cal P w K mg base k "_law_exact" (spE En)) : Cal P w K mg base (k + 1) "_law_exact" (spE (EL En)) := by
  refine F.cal (fun _ _ _ _ _ _ us hl => match us, hl with | [_, _], _ => rfl) scl_exact (fun vs H Q E h => ?_) (fun f cdv A outer s H vs Q E hr h => ?_)
  · obtain ⟨x, y, rfl, _⟩ := h; rfl
  · obtain ⟨_, _, rfl, ⟨a, b, xs, ys, rfl, rfl, ha, hb, hl, few, hE⟩, kq⟩ := h
    have nd := scl_exact.nd
    have hu := hu_of hr
    refine ⟨_, (pss_cons (ps_if (pt_val (pe_callB (kIsiT K) (by rfl) T.isinstance (by decide +kernel) (pa_cons (pv 0) (pa_cons (pe_tup (pa_cons (pe_bltn (v := .ty "list") (by rfl) T.tlist (by decide +kernel) rfl) (pa_cons (pe_bltn (v := .ty "tuple") (by rfl) T.ttuple (by decide +kernel) rfl) pa_nil))) pa_nil))))
    (pss_cons (ps_set (i := 2) nd rfl (Or.inl rfl) (pe_and (pe_cmpR op_eq (pe_callB (kIsi K) (by rfl) T.isinstance (by decide +kernel) (pa_cons (pv 1) (pa_cons (pe_bltn (v := .ty "list") (by rfl) T.tlist (by decide +kernel) rfl) pa_nil))) (pe_callB (kIsi K) (by rfl) T.isinstance (by decide +kernel) (pa_cons (pv 0) (pa_cons (pe_bltn (v := .ty "list") (by rfl) T.tlist (by decide +kernel) rfl) pa_nil))) (nomark _)) (pe_one (pe_cmpR op_eq (pe_callB (kIsi K) (by rfl) T.isinstance (by decide +kernel) (pa_cons (pv 1) (pa_cons (pe_bltn (v := .ty "tuple") (by rfl) T.ttuple (by decide +kernel) rfl) pa_nil))) (pe_callB (kIsi K) (by rfl) T.isinstance (by decide +kernel) (pa_cons (pv 0) (pa_cons (pe_bltn (v := .ty "tuple") (by rfl) T.ttuple (by decide +kernel) rfl) pa_nil))) (nomark _)))))
    (pss_one (ps_ret (pe_and (pv 2) (pe_and (pe_cmpR op_eq (pe_callB (kLen K) (by rfl) T.len (by decide +kernel) (pa_cons (pv 0) pa_nil)) (pe_callB (kLen K) (by rfl) T.len (by decide +kernel) (pa_cons (pv 1) pa_nil)) (nomark _)) (pe_one (pe_callB (kAll K rfl) (by rfl) T.all (by decide +kernel) (pa_cons (pe_lc (own := [("_law_a", 3), ("_law_b", 4)]) rfl nd (kpZip K T.zip (pa_cons (pv 0) (pa_cons (pv 1) pa_nil))) (blkOk_by (N := Nl_exact) (sc := defScope sl_exact) (by decide +kernel)) (fun _ _ _ _ _ => (kgTup K (n := 2) rfl (pgs_cons (pg_name (i := 3) nd rfl (Or.inl rfl)) (pgs_cons (pg_name (i := 4) nd rfl (Or.inl rfl)) pgs_nil)))) (fun _ _ _ _ _ => pts_nil) (fun _ _ _ _ _ => (kc c_law_exact hr (pa_cons (pv 3) (pa_cons (pv 4) pa_nil)) (hk := Nat.le_refl k)))) pa_nil)))))))) pss_nil)
  (pss_cons (ps_if (pt_val (pe_callB (kIsi K) (by rfl) T.isinstance (by decide +kernel) (pa_cons (pv 0) (pa_cons (pe_bltn (v := .ty "dict") (by rfl) T.tdict (by decide +kernel) rfl) pa_nil))))
    (pss_cons ps_never
    (pss_one ps_never)) pss_nil)
  (pss_one (ps_ret (pe_and (pe_cmpR op_eq (pe_callB (kIsi K) (by rfl) T.isinstance (by decide +kernel) (pa_cons (pv 0) (pa_cons (pe_bltn (v := .ty "bool") (by rfl) T.tbool (by decide +kernel) rfl) pa_nil))) (pe_callB (kIsi K) (by rfl) T.isinstance (by decide +kernel) (pa_cons (pv 1) (pa_cons (pe_bltn (v := .ty "bool") (by rfl) T.tbool (by decide +kernel) rfl) pa_nil))) (nomark _)) (pe_one (pe_cmpR op_eq (pv 0) (pv 1) (nomark _)))))))), ?_⟩
    walk_at "go"
    refine ⟨by show 2 ≤ sizeLine; decide, fun p hp => ?_⟩
    have e1 : Ex H (upd H p (.tup [.ty "list", .ty "tuple"])) := Ex.new hp
    have ha1 := e1 _ _ ha
    have hb1 := e1 _ _ hb
    walk_at "g1"
    refine g_isiT2 (a := "list") (b := "tuple") (T := "list") (k1 := true) (k2 := false) upd_same (.base (.lst ha1)) (by decide +kernel) (by decide +kernel) ?_
    generalize upd H p (.tup [.ty "list", .ty "tuple"]) = H1 at e1 ha1 hb1 ⊢
    refine g_bl ?_
    refine g_ite ?_
    walk_at "go"
    refine g_isi (T := "list") (k := true) (.base (.lst hb1)) (by decide +kernel) ?_
    walk_at "go"
    refine g_isi (T := "list") (k := true) (.base (.lst ha1)) (by decide +kernel) ?_
    walk_at "go"
    rw [decide_eq_true rfl]
    walk_at "go"
    refine g_isi (T := "list") (k := false) (.base (.lst hb1)) (by decide +kernel) ?_
    walk_at "go"
    refine g_isi (T := "list") (k := false) (.base (.lst ha1)) (by decide +kernel) ?_
    walk_at "go"
    rw [decide_eq_true rfl]
    walk_at "go"
    refine ⟨a, _, rfl, .inl (SqL.of ha1), ?_⟩
    walk_at "go"
    refine ⟨b, _, rfl, .inl (SqL.of hb1), ?_⟩
    walk_at "go"
    rw [decide_eq_true (by rw [hl])]
    walk_at "go"
    refine ⟨a, b, xs, ys, rfl, SqL.of ha1, SqL.of hb1, fun D hD => ?_⟩
    refine lc_gen (walk_zip (n := xs.length) (by omega)) (Ex.refl H1) hD (small1000 (by omega)) (fun i acc _ => acc = (List.replicate i true).map V.bl) rfl (fun H' e => ⟨SqL.of (e _ _ ha1), SqL.of (e _ _ hb1)⟩) ?_ ?_
    · rintro i x G3 H3 H4 acc Kt Kf hi N g0 hh hl' rfl ⟨Tt, u, v, rfl, hT, rfl, hu1, hv1⟩ ht hf
      have N2 : Nxt none G3 H3 G3 (upd H3 Tt (.tup [u, v])) := Nxt.flat N.gh (Ex.new hT)
      have hT2 : (upd H3 Tt (.tup [u, v])) Tt = some (.tup [u, v]) := upd_same
      generalize upd H3 Tt (.tup [u, v]) = H5 at N2 hT2 ⊢
      refine g_gtup (SqT.of hT2) rfl ?_
      walk_at "go"
      refine ⟨rfl, ?_⟩
      walk_at "go"
      refine ⟨u, v, rfl, mE _ _ _ _ (e1.trans (N.ex.trans N2.ex)) (hE i u v hu1 hv1), fun H6 e6 => ?_⟩
      exact ht (.bl true) _ _ (N2.trans (Nxt.flat N2.gh e6)) (by rw [List.replicate_succ']; simp)
    · rintro G3 H3 acc N g0 hh hl' rfl
      walk_at "go"
      refine ⟨D, _, rfl, SqL.of hh, ?_⟩
      have : (List.replicate xs.length true).all id = true := by simp
      rw [this]
      exact kq H3 (e1.trans N.ex)
end
end K69
set_option Elab.async false
set_option linter.all false
set_option maxRecDepth 100000
set_option maxHeartbeats 4000000
/-! The law's search for a parting of two worlds: what it holds. -/
namespace K69
open PySem PySem.Spec PyProof.Rows L2
/-- a block within a block that takes no name from without -/
theorem blkOk_nf {N : List Str} {sc scope : Scope} {own : List (Str × Nat)} (h : blkC N scope scope own = true) (hf : (scope.names.all fun y => decide (y.2 ≠ .free)) = true) : BlkOk N sc scope own :=
  let b := blkOk_by h
  ⟨b.kind, b.uniq, b.ix, fun y hy e => absurd e (of_decide_eq_true (List.all_eq_true.mp hf y hy)), b.own⟩
abbrev okS (s : Str) : Prop := PyData.strOk s = true
/-- what a row, a book keeps for the law's own search -/
structure RowW (r : Row) : Prop where
  sp : ∀ p ∈ r.2, spelt p.1 = true ∧ okS p.2
  nd : (r.2.map (·.1)).Nodup
  few : r.2.length ≤ 20
structure BookW (bk : Book) : Prop where
  row : ∀ p ∈ bk, RowW p.2
  key : ∀ p ∈ bk, okS p.1
  few : bk.length ≤ 26
theorem RowOk.w {r : Row} (h : RowOk r) : RowW r := ⟨fun p hp => ⟨(h.sp p hp).1, spelt_ok (h.sp p hp).2⟩, h.nd, h.few⟩
theorem BookOk.w {bk : Book} (h : BookOk bk) : BookW bk := ⟨fun p hp => (h.row p hp).w, fun p hp => spelt_ok (h.sp p hp), h.few⟩
theorem key_of_lookup {bk : Book} {x : Str} {r : Row} (h : bk.lookup x = some r) : x ∈ bk.map (·.1) := List.mem_map.mpr ⟨_, lookup_mem h, rfl⟩
/-- alike rows have the same words -/
theorem optR_keys {R : Str → Str → Prop} {r r' : Row} (n : (r.2.map (·.1)).Nodup) (n' : (r'.2.map (·.1)).Nodup) (h : ∀ w, OptR R (r.2.lookup w) (r'.2.lookup w)) : srtS (r.2.map (·.1)) = srtS (r'.2.map (·.1)) := by
  refine srtS_congr (perm_nd n n' fun w => ?_)
  have := h w
  constructor
  · intro m
    cases e : r'.2.lookup w with
    | none =>
      rw [e] at this
      cases e2 : r.2.lookup w with
      | none => exact absurd m (lookup_none.mp e2)
      | some g => rw [e2] at this; exact this.elim
    | some g => exact List.mem_map.mpr ⟨_, lookup_mem e, rfl⟩
  · intro m
    cases e : r.2.lookup w with
    | none =>
      rw [e] at this
      cases e2 : r'.2.lookup w with
      | none => exact absurd m (lookup_none.mp e2)
      | some g => rw [e2] at this; exact this.elim
    | some g => exact List.mem_map.mpr ⟨_, lookup_mem e, rfl⟩
/-! ### the pairs of a layer -/
def ItemAt (n : Nat) (G : Hp) (a : Addr) (q : Kk) : Prop := ∃ (pa ta : Addr) (ws : List Str), G a = some (.tup [.ref pa, .ref ta]) ∧ KeyAt G pa q ∧ G ta = some (.lst (ws.map V.str)) ∧ ws.length ≤ n ∧ ∀ x ∈ ws, spelt x = true
abbrev ItemsAt (n : Nat) (G : Hp) : List Addr → List Kk → Prop := Paired (ItemAt n G)
theorem ItemAt.mono {n m : Nat} {G G' : Hp} {a : Addr} {q : Kk} (h : ItemAt n G a q) (e : Ex G G') (l : n ≤ m) : ItemAt m G' a q := let ⟨pa, ta, xs, h1, h2, h3, h4, h5⟩ := h; ⟨pa, ta, xs, e _ _ h1, e _ _ h2, e _ _ h3, Nat.le_trans h4 l, h5⟩
theorem ItemsAt.mono {n m : Nat} {G G' : Hp} {as : List Addr} {qs : List Kk} (h : ItemsAt n G as qs) (e : Ex G G') (l : n ≤ m) : ItemsAt m G' as qs := Paired.mapP h fun _ _ z => z.mono e l
theorem ItemsAt.at {n : Nat} {G : Hp} {as : List Addr} {qs : List Kk} (h : ItemsAt n G as qs) {i : Nat} {a : Addr} (e : as[i]? = some a) : ∃ q, qs[i]? = some q ∧ ItemAt n G a q := by
  induction h generalizing i with
  | nil => simp at e
  | cons hq t ih =>
    cases i with
    | zero => cases e; exact ⟨_, rfl, hq⟩
    | succ i => exact ih (by simpa using e)
theorem ItemsAt.take {n : Nat} {G : Hp} {as : List Addr} {qs : List Kk} (h : ItemsAt n G as qs) (i : Nat) : ItemsAt n G (as.take i) (qs.take i) := by
  induction h generalizing i with
  | nil => simp; exact .nil
  | cons hq t ih =>
    cases i with
    | zero => exact .nil
    | succ i => exact .cons hq (ih i)
theorem putK_kvK' {ks : List Kk} {k : Kk} (h : k ∈ ks) : putK (kvK ks) (kK k) (.bl true) = kvK ks := by
  have an : ((kvK ks).any fun kv => decide (kv.1 = kK k)) = true := List.any_eq_true.mpr ⟨(kK k, .bl true), List.mem_map.mpr ⟨k, h, rfl⟩, by simp⟩
  unfold putK
  rw [if_pos an]
  unfold kvK
  rw [List.map_map]
  refine List.map_congr_left fun y _ => ?_
  show (if kK y = kK k then (kK y, V.bl true) else (kK y, V.bl true)) = _
  split <;> rfl
/-- a pair more is known -/
def addK (ks : List Kk) (k : Kk) : List Kk := if k ∈ ks then ks else ks ++ [k]
theorem putK_addK (ks : List Kk) (k : Kk) : putK (kvK ks) (kK k) (.bl true) = kvK (addK ks k) := by
  unfold addK
  by_cases h : k ∈ ks
  · rw [if_pos h, putK_kvK' h]
  · rw [if_neg h, putK_kvK h]
theorem addK_nd {ks : List Kk} {k : Kk} (h : ks.Nodup) : (addK ks k).Nodup := by
  unfold addK
  by_cases m : k ∈ ks
  · rw [if_pos m]; exact h
  · rw [if_neg m]
    exact List.nodup_append.mpr ⟨h, by simp, fun z hz y hy e => m (by rw [List.mem_singleton] at hy; rw [← hy, ← e]; exact hz)⟩
theorem addK_mem {ks : List Kk} {k x : Kk} : x ∈ addK ks k ↔ x ∈ ks ∨ x = k := by
  unfold addK
  by_cases m : k ∈ ks
  · rw [if_pos m]
    exact ⟨.inl, fun h => h.elim id fun e => e ▸ m⟩
  · rw [if_neg m]; simp
/-- all the pairs of two books' states -/
def prods (bk1 bk2 : Book) : List Kk := (bk1.map (·.1)).flatMap fun x => (bk2.map (·.1)).map fun y => (x, y)
theorem prods_len {bk1 bk2 : Book} (h1 : bk1.length ≤ 26) (h2 : bk2.length ≤ 26) : (prods bk1 bk2).length ≤ 676 := by
  have gen : ∀ l : List Str, (l.flatMap fun x => (bk2.map (·.1)).map fun y => (x, y)).length = l.length * bk2.length := fun l => by
    induction l with
    | nil => simp
    | cons a l ih => simp [List.flatMap_cons, Nat.succ_mul] at ih ⊢; omega
  unfold prods
  rw [gen, List.length_map]
  exact Nat.le_trans (Nat.mul_le_mul h1 h2) (by decide)
theorem prods_mem {bk1 bk2 : Book} {x y : Str} (h1 : x ∈ bk1.map (·.1)) (h2 : y ∈ bk2.map (·.1)) : ((x, y) : Kk) ∈ prods bk1 bk2 := List.mem_flatMap.mpr ⟨x, h1, List.mem_map.mpr ⟨y, h2, rfl⟩⟩
/-- related pairs, without repeats, are not many -/
theorem pairs_le {bk1 bk2 : Book} {R : Str → Str → Prop} (B : Bis bk1 bk2 R) (h1 : bk1.length ≤ 26) (h2 : bk2.length ≤ 26) {l : List Kk} (nd : l.Nodup) (h : ∀ q ∈ l, R q.1 q.2) : l.length ≤ 676 := by
  refine Nat.le_trans (nodup_le l (prods bk1 bk2) nd fun q hq => ?_) (prods_len h1 h2)
  obtain ⟨r, r', e1, e2, _⟩ := B q.1 q.2 (h q hq)
  exact prods_mem (key_of_lookup e1) (key_of_lookup e2)
/-! ### == and in of pairs -/
def pD (q : Kk) : PyData := .tuple [.str q.1, .str q.2]
theorem pD_lay {q : Kk} (h1 : okS q.1) (h2 : okS q.2) : (pD q).canLay0 = true := by
  have h1' : PyData.strOk q.1 = true := h1
  have h2' : PyData.strOk q.2 = true := h2
  simp [pD, PyData.canLay0, PyData.canLayAll0, h1', h2']
theorem pD_dep (q : Kk) : (pD q).depth ≤ 1 := by simp [pD, PyData.depth, PyData.depthAll]
theorem pD_shaped {q : Kk} (h1 : okS q.1) (h2 : okS q.2) : SeqAt.shaped (pD q) = true := by
  have h := pD_dep q
  show ((pD q).canLay0 && decide ((pD q).depth ≤ 64)) = true
  rw [Bool.and_eq_true]
  exact ⟨pD_lay h1 h2, decide_eq_true (by omega)⟩
theorem pDs_shaped {qs : List Kk} (h : ∀ q ∈ qs, okS q.1 ∧ okS q.2) : SeqAt.shaped (.list (qs.map pD)) = true := by
  have a : ∀ l : List Kk, (∀ q ∈ l, okS q.1 ∧ okS q.2) → PyData.canLayAll0 (l.map pD) = true := fun l => by
    induction l with
    | nil => intro _; simp [PyData.canLayAll0]
    | cons x l ih =>
      intro h
      rw [List.map_cons]
      simp only [PyData.canLayAll0, Bool.and_eq_true]
      exact ⟨pD_lay (h x List.mem_cons_self).1 (h x List.mem_cons_self).2, ih fun q hq => h q (List.mem_cons_of_mem _ hq)⟩
  have b : ∀ l : List Kk, PyData.depthAll (l.map pD) ≤ 2 := fun l => by
    induction l with
    | nil => simp [PyData.depthAll]
    | cons x l ih =>
      have := pD_dep x
      simp only [List.map_cons, PyData.depthAll]
      omega
  have h2 : PyData.depth (.list (qs.map pD)) ≤ 64 := by
    have := b qs
    simp only [PyData.depth]; omega
  show (PyData.canLay0 (.list (qs.map pD)) && decide (PyData.depth (.list (qs.map pD)) ≤ 64)) = true
  rw [Bool.and_eq_true]
  exact ⟨by simp only [PyData.canLay0]; exact a qs h, decide_eq_true h2⟩
theorem pD_eqv (q p : Kk) : PyData.eqv (pD q) (pD p) = decide (q = p) := by
  obtain ⟨a, b⟩ := q
  obtain ⟨c, d⟩ := p
  have e : PyData.eqv (pD (a, b)) (pD (c, d)) = ((a == c) && ((b == d) && true)) := by simp only [pD, PyData.eqv, PyData.eqvAll]
  rw [e]
  by_cases h1 : a = c
  · by_cases h2 : b = d
    · subst h1; subst h2; simp
    · simp [h2]
  · simp [h1]
theorem pD_any (qs : List Kk) (p : Kk) : ((qs.map pD).any fun z => PyData.eqv z (pD p)) = decide (p ∈ qs) := by
  induction qs with
  | nil => simp
  | cons a l ih =>
    rw [List.map_cons, List.any_cons, ih, pD_eqv]
    by_cases h : a = p
    · subst h; simp
    · have : ¬ p = a := fun z => h z.symm
      simp [h, this]
theorem dp_pair {K : PySem.W.Frag} {H : Hp} {a : Addr} {q : Kk} (h : KeyAt H a q) : Dp K H (.ref a) (pD q) := .tup (SqT.of h) (.cons (.str _) (.cons (.str _) .nil))
theorem dp_pairs {K : PySem.W.Frag} {H : Hp} : ∀ {as : List Addr} {qs : List Kk}, KeysAt H as qs → DpAll K H (as.map V.ref) (qs.map pD)
  | [], _, h => by cases h; exact .nil
  | a :: as, _, h => by
    cases h with
    | cons h t => exact .cons (dp_pair h) (dp_pairs t)
/-- a layer as data -/
theorem items_dp {K : PySem.W.Frag} {n : Nat} {H : Hp} {as : List Addr} {qs : List Kk} (h : ItemsAt n H as qs) (ok : ∀ q ∈ qs, okS q.1 ∧ okS q.2) : ∃ ds, DpAll K H (as.map V.ref) ds ∧ PyData.canLayAll0 ds = true ∧ PyData.depthAll ds ≤ 3 ∧ ds.length = qs.length := by
  induction h with
  | nil => exact ⟨[], .nil, by simp [PyData.canLayAll0], by simp [PyData.depthAll], rfl⟩
  | @cons a q as qs h _ ih =>
    obtain ⟨ds, d1, d2, d3, d4⟩ := ih fun q hq => ok q (List.mem_cons_of_mem _ hq)
    obtain ⟨pa, ta, ws, h1, h2, h3, _, h5⟩ := h
    obtain ⟨o1, o2⟩ := ok q List.mem_cons_self
    refine ⟨.tuple [pD q, .list (ws.map .str)] :: ds, .cons (.tup (SqT.of h1) (.cons (dp_pair h2) (.cons (.lst (SqL.of h3) (dp_strs ws)) .nil))) d1, ?_, ?_, by simp [d4]⟩
    · simp only [PyData.canLayAll0, PyData.canLay0, Bool.and_eq_true]
      exact ⟨⟨pD_lay o1 o2, lay_strs ws h5, trivial⟩, d2⟩
    · have := dep_strs ws
      have := pD_dep q
      simp only [PyData.depthAll, PyData.depth]
      omega
theorem g_neItems {K : PySem.W.Frag} {n : Nat} {H : Hp} {as : List Addr} {qs : List Kk} {p q : Addr} {Q : VK} (h : ItemsAt n H as qs) (ok : ∀ q ∈ qs, okS q.1 ∧ okS q.2) (hp : H p = some (.lst (as.map V.ref))) (hq : H q = some (.lst [])) (k : Q (.bl (!qs.isEmpty)) H) : rNeD K (.ref p) (.ref q) H Q := by
  obtain ⟨ds, d1, d2, d3, d4⟩ := items_dp (K := K) h ok
  have sh : SeqAt.shaped (.list ds) = true := by
    have h2 : PyData.depth (.list ds) ≤ 64 := by simp only [PyData.depth]; omega
    show (PyData.canLay0 (.list ds) && decide (PyData.depth (.list ds) ≤ 64)) = true
    rw [Bool.and_eq_true]
    exact ⟨by simp only [PyData.canLay0]; exact d2, decide_eq_true h2⟩
  refine ⟨_, _, .lst (SqL.of hp) d1, .lst (SqL.of hq) .nil, sh, shaped_strs (l := []) (fun _ z => by cases z), ?_⟩
  have e : PyData.eqv (.list ds) (.list []) = qs.isEmpty := by
    cases ds with
    | nil => cases qs with
      | nil => simp [PyData.eqv, PyData.eqvAll]
      | cons _ _ => simp at d4
    | cons _ _ => cases qs with
      | nil => simp at d4
      | cons _ _ => simp [PyData.eqv, PyData.eqvAll]
  rw [e]; exact k
/-- the first of each pair only -/
def firstOf (qs : List Kk) (i : Nat) : List Nat := (List.range i).filter fun j => decide (∀ q, qs[j]? = some q → q ∉ qs.take j)
end K69
set_option Elab.async false
set_option linter.all false
set_option maxRecDepth 100000
set_option maxHeartbeats 8000000
namespace K69
open PySem PySem.Spec PyProof.Rows L2
theorem sz {n : Nat} (h : n ≤ 1000000) : n < sizeLine := by rw [sizeLine_eq]; omega
theorem g_neStrs {K : PySem.W.Frag} {H : Hp} {p q : Addr} {l : List Str} {Q : VK} (h1 : SqL K H p (l.map V.str)) (h2 : SqL K H q (l.map V.str)) (sp : ∀ x ∈ l, spelt x = true) (k : Q (.bl false) H) : rNeD K (.ref p) (.ref q) H Q := by
  refine ⟨_, _, .lst h1 (dp_strs l), .lst h2 (dp_strs l), shaped_strs sp, shaped_strs sp, ?_⟩
  have e : ∀ l : List Str, PyData.eqvAll (l.map PyData.str) (l.map PyData.str) = true := fun l => by
    induction l with
    | nil => simp [PyData.eqvAll]
    | cons a l ih => simp [PyData.eqvAll, PyData.eqv, ih]
  have : PyData.eqv (.list (l.map PyData.str)) (.list (l.map PyData.str)) = true := by simp only [PyData.eqv]; exact e l
  rw [this]; exact k
theorem cut_take {xs : List V} {i : Nat} : cutV xs none (some (i : Int)) = xs.take i := by
  unfold cutV
  rw [HT.sIx_none, HT.sIx_nat, List.drop_zero, Nat.sub_zero]
  by_cases h : i ≤ xs.length
  · rw [Nat.min_eq_left h]
  · rw [Nat.min_eq_right (by omega), List.take_of_length_le (Nat.le_refl _), List.take_of_length_le (by omega)]
section
variable {P : Program} {w : World} {K : PySem.W.Frag} {mg : Str → Option Value} {base : Heap} {C : Addr}
local macro_rules | `(tactic| walk_at "lk") => `(tactic| first | assumption | exact upd_same | exact (by assumption : Ex _ _) _ _ (by assumption))
local macro_rules | `(tactic| walk_at "g1") => `(tactic| first
  | with_reducible refine g_seq ?_ | with_reducible refine g_asg ?_ | with_reducible refine g_name ?_ | with_reducible refine g_cons ?_ | with_reducible refine g_nil ?_
  | ((with_reducible refine' g_var ?e ?_); (case e => exact rfl)) | with_reducible refine g_C ?_ | with_reducible refine g_op ?_ | with_reducible refine g_fld0 ?_ | with_reducible refine g_dget ?_ | with_reducible refine g_cb ?_ | with_reducible refine g_call ?_
  | with_reducible refine g_ret ?_ | with_reducible refine g_ifS ?_ | with_reducible refine g_test ?_ | with_reducible refine g_B ?_ | with_reducible refine g_bl ?_ | with_reducible refine g_not ?_ | with_reducible refine g_or ?_ | with_reducible refine g_and ?_
  | with_reducible refine g_ite ?_ | with_reducible refine g_itf ?_ | with_reducible refine g_itnt ?_ | with_reducible refine g_itnf ?_ | with_reducible refine g_eqS ?_ | with_reducible refine g_neS ?_ | with_reducible refine g_neI ?_ | with_reducible refine g_eqB ?_ | with_reducible refine g_neB ?_ | with_reducible refine g_eqI ?_ | with_reducible refine g_rI0 ?_ | with_reducible refine g_ipI ?_ | with_reducible refine g_int ?_
  | with_reducible refine g_drop ?_ | with_reducible refine g_next ?_ | with_reducible refine g_bm ?_ | with_reducible refine g_bm0 ?_ | with_reducible refine g_din ?_ | with_reducible refine g_dnotin ?_ | with_reducible refine g_dput ?_ | ((with_reducible refine' g_aug ?e ?_); (case e => exact rfl))
  | with_reducible refine g_andV ?_ | with_reducible refine g_orV ?_ | with_reducible refine g_notV ?_ | with_reducible refine g_if ?_ | with_reducible refine g_isN ?_ | with_reducible refine g_notN ?_ | with_reducible refine g_sl ?_ | with_reducible refine g_nopart ?_ | with_reducible refine g_part ?_
  | with_reducible refine g_gcons ?_ | with_reducible refine g_gnil ?_ | with_reducible refine g_par2 ?_ | with_reducible refine g_par3 ?_ | with_reducible refine g_vw ?_ | with_reducible refine g_uvw ?_ | with_reducible refine g_yes ?_ | with_reducible refine g_un ?_ | with_reducible refine g_rU ?_ | with_reducible refine g_gsub ?_ | with_reducible refine g_chain ?_ | with_reducible refine g_for ?_ | with_reducible refine g_istr ?_ | with_reducible refine g_ilist ?_ | with_reducible refine g_itup ?_ | with_reducible refine g_ikeys ?_ | with_reducible refine g_ivals ?_ | with_reducible refine g_iitems ?_ | with_reducible refine g_irng1 ?_ | with_reducible refine g_izip ?_ | with_reducible refine g_while ?_ | with_reducible refine g_tru _ ?_ | with_reducible refine g_lc ?_ | with_reducible refine g_dc ?_ | with_reducible refine g_lc2 ?_ | with_reducible refine g_tup ?_ | with_reducible refine g_lst ?_ | with_reducible refine g_dnew ?_ | with_reducible refine g_sfld ?_ | with_reducible refine g_dget2 ?_ | with_reducible refine g_dzip ?_ | with_reducible refine g_dnewT ?_ | with_reducible refine g_dispT ?_ | with_reducible refine g_star ?_ | with_reducible refine g_disp ?_ | with_reducible refine g_prs ?_ | with_reducible refine g_prs0 ?_ | with_reducible refine g_sc ?_ | with_reducible refine g_make ?_ | with_reducible refine g_meth ?_
  | ((with_reducible refine' g_ixT ?h ?e ?_); (case h => walk_at "lk"); (case e => exact rfl)) | ((with_reducible refine' g_ixL ?h ?e ?_); (case h => walk_at "lk"); (case e => exact rfl))
  | ((with_reducible refine' g_fldK ?h ?c ?n ?l ?_); (case h => walk_at "lk"); (case c => exact C8.InsC.cl (Txt.insC (by assumption))); (case n => first | exact Txt.nR (by assumption) | exact Txt.nF (by assumption)); (case l => exact rfl)))
local macro_rules | `(tactic| walk_at "go") => `(tactic| (repeat walk_at "g1"))
local macro_rules | `(tactic| walk_at "ty") => `(tactic| first | exact .base (.str _) | exact .base .non | exact .base (.bl _) | exact .base (.int _) | exact .base (.tup (by assumption)) | exact .base (.lst (by assumption)) | exact .base (.dK (by assumption)) | exact .fDict (by assumption))
abbrev sl_differ : Stmt := topS 52
abbrev Nl_differ : List Str := ["_law_one", "_law_two", "_law_pair", "_law_first", "_law_second"]
theorem scl_differ : FnScope Nl_differ ["_law_one", "_law_two", "_law_pair"] (defScope sl_differ) := ⟨rfl, rfl, rfl, by decide +kernel, rfl, by decide +kernel, by decide +kernel⟩
def sp_differ : Sp := fun vs H Q _ => ∃ (w1 w2 pr : Addr) (bk1 bk2 : Book) (s1 s2 : Str) (q : Kk) (r r' : Row), vs = [.ref w1, .ref w2, .ref pr] ∧ WorldAt H w1 bk1 s1 ∧ WorldAt H w2 bk2 s2 ∧ KeyAt H pr q ∧ bk1.lookup q.1 = some r ∧ bk2.lookup q.2 = some r' ∧ r.1 = r'.1 ∧ srtS (r.2.map (·.1)) = srtS (r'.2.map (·.1)) ∧ RowW r ∧ RowW r' ∧
  ∀ H', Ex H H' → Q (.bl false) H'
theorem cal_differ (F : Has K mg "_law_differ" sl_differ) (T : Txt K w mg C) : Cal P w K mg base 1 "_law_differ" sp_differ := by
  refine F.cal (fun _ _ _ _ _ _ us hl => match us, hl with | [_, _, _], _ => rfl) scl_differ (fun vs H Q E h => ?_) (fun f cdv A outer s H vs Q E hr h => ?_)
  · obtain ⟨_, _, _, _, _, _, _, _, _, _, rfl, _⟩ := h; rfl
  · obtain ⟨w1, w2, pr, bk1, bk2, s1, s2, q, r, r', rfl, ⟨b1, hw1, rs1, hb1, hrs1⟩, ⟨b2, hw2, rs2, hb2, hrs2⟩, hk, l1, l2, ek, es, ok1, ok2, k⟩ := h
    have nd := scl_differ.nd
    have hu := hu_of hr
    refine ⟨_, (pss_cons (ps_par (i := 3) (j := 4) rfl nd rfl rfl (by decide) rfl rfl (pa_cons (pe_dget hu (pe_ix (kIxL K) (pv 0) pe_int (fun _ _ => rfl)) (pe_ix (kIxT K) (pv 2) pe_int (fun _ _ => rfl)) (fun _ _ => rfl)) (pa_cons (pe_dget hu (pe_ix (kIxL K) (pv 1) pe_int (fun _ _ => rfl)) (pe_ix (kIxT K) (pv 2) pe_int (fun _ _ => rfl)) (fun _ _ => rfl)) pa_nil)) (by rfl))
  (pss_one (ps_ret (pe_or (pe_cmpR op_ne (pe_ix (kIxT K) (pv 3) pe_int (fun _ _ => rfl)) (pe_ix (kIxT K) (pv 4) pe_int (fun _ _ => rfl)) (nomark _)) (pe_one (pe_cmpR (kNeD K hr.units) (pe_callB (call_sortedD rfl) (by rfl) T.sorted (by decide +kernel) (pa_cons (pe_ix (kIxT K) (pv 3) pe_int (fun _ _ => rfl)) pa_nil)) (pe_callB (call_sortedD rfl) (by rfl) T.sorted (by decide +kernel) (pa_cons (pe_ix (kIxT K) (pv 4) pe_int (fun _ _ => rfl)) pa_nil)) (nomark _))))))), ?_⟩
    have hk' : H pr = some (.tup [.str q.1, .str q.2]) := hk
    obtain ⟨c1, hv1, d1, hc1, hd1⟩ := RowsAt.get hrs1 l1
    obtain ⟨c2, hv2, d2, hc2, hd2⟩ := RowsAt.get hrs2 l2
    have f1 := ok1.few
    have f2 := ok2.few
    walk_at "go"
    refine g_dgs (s := q.1) (.inl hb1) hv1 ?_
    walk_at "go"
    refine g_dgs (s := q.2) (.inl hb2) hv2 ?_
    walk_at "go"
    rw [decide_eq_true ek]
    walk_at "go"
    refine ⟨d1, kvS r.2, r.2.map (·.1), rfl, .inl hd1, kvS_keys _, by rw [List.length_map]; omega, fun ys p pm so hp => ?_⟩
    obtain rfl := srtS_of pm so
    have e1 : Ex H (upd H p (.lst ((srtS (r.2.map (·.1))).map V.str))) := Ex.new hp
    have hp1 : (upd H p (.lst ((srtS (r.2.map (·.1))).map V.str))) p = some (.lst ((srtS (r.2.map (·.1))).map V.str)) := upd_same
    generalize upd H p (.lst ((srtS (r.2.map (·.1))).map V.str)) = H1 at e1 hp1 ⊢
    have hc2' := e1 _ _ hc2
    walk_at "go"
    refine ⟨d2, kvS r'.2, r'.2.map (·.1), rfl, .inl (e1 _ _ hd2), kvS_keys _, by rw [List.length_map]; omega, fun ys p2 pm2 so2 hp2 => ?_⟩
    obtain rfl := srtS_of pm2 so2
    rw [← es]
    have e2 : Ex H1 (upd H1 p2 (.lst ((srtS (r.2.map (·.1))).map V.str))) := Ex.new hp2
    refine g_neStrs (SqL.of (e2 _ _ hp1)) (SqL.of upd_same) (fun x hx => ?_) (k _ (e1.trans e2))
    rw [srtS_mem] at hx
    obtain ⟨z, hz, rfl⟩ := List.mem_map.mp hx
    exact (ok1.sp z hz).1
abbrev sl_parting : Stmt := topS 53
abbrev Nl_parting : List Str := ["_law_one", "_law_two", "_law_layer", "_law_known", "_law_longer", "_law_pair", "_law_talk", "_law_word_here", "_law_row", "_law_at"]
theorem scl_parting : FnScope Nl_parting ["_law_one", "_law_two"] (defScope sl_parting) := ⟨rfl, rfl, rfl, by decide +kernel, rfl, by decide +kernel, by decide +kernel⟩
def sp_parting : Sp := fun vs H Q _ => ∃ (w1 w2 : Addr) (bk1 bk2 : Book) (s1 s2 : Str) (R : Str → Str → Prop), vs = [.ref w1, .ref w2] ∧ WorldAt H w1 bk1 s1 ∧ WorldAt H w2 bk2 s2 ∧ BookW bk1 ∧ BookW bk2 ∧ R s1 s2 ∧ Bis bk1 bk2 R ∧
  ∀ p H', Ex H H' → H' p = some (.lst []) → Q (.ref p) H'
theorem cal_parting (F : Has K mg "_law_parting" sl_parting) (T : Txt K w mg C) (c_law_differ : Cal P w K mg base 1 "_law_differ" sp_differ) : Cal P w K mg base 2 "_law_parting" sp_parting := by
  refine F.cal (fun _ _ _ _ _ _ us hl => match us, hl with | [_, _], _ => rfl) scl_parting (fun vs H Q E h => ?_) (fun f cdv A outer s H vs Q E hr h => ?_)
  · obtain ⟨_, _, _, _, _, _, _, rfl, _⟩ := h; rfl
  · obtain ⟨w1, w2, bk1, bk2, s1, s2, R, rfl, W1, W2, ok1, ok2, hR, B, k⟩ := h
    have nd := scl_parting.nd
    have hu := hu_of hr
    refine ⟨_, (pss_cons (ps_asg (pe_tup (pa_cons (pe_lst (pa_cons (pe_tup (pa_cons (pe_tup (pa_cons (pe_ix (kIxL K) (pv 0) pe_int (fun _ _ => rfl)) (pa_cons (pe_ix (kIxL K) (pv 1) pe_int (fun _ _ => rfl)) pa_nil))) (pa_cons (pe_lst pa_nil) pa_nil))) pa_nil)) (pa_cons pe_dnewT pa_nil))) (kgTup K (n := 2) rfl (pgs_cons (pg_name (i := 2) nd rfl (Or.inr rfl)) (pgs_cons (pg_name (i := 3) nd rfl (Or.inr rfl)) pgs_nil))))
  (pss_cons (ps_while PassesOwn.never (pt_cmpR (kNeD K hr.units) (pv 2) (pe_lst pa_nil) (nomark _))
    (pss_cons (ps_set (i := 4) nd rfl (Or.inl rfl) (pe_lst pa_nil))
    (pss_cons (ps_for PassesOwn.never rfl (kpList K (pv 2)) (kgTup K (n := 2) rfl (pgs_cons (pg_name (i := 5) nd rfl (Or.inl rfl)) (pgs_cons (pg_name (i := 6) nd rfl (Or.inl rfl)) pgs_nil)))
      (pss_cons (ps_if (pt_val (kc c_law_differ hr (pa_cons (pv 0) (pa_cons (pv 1) (pa_cons (pv 5) pa_nil)))))
        (pss_one (ps_ret (pe_lst (pa_cons (pe_callB (kLen K) (by rfl) T.len (by decide +kernel) (pa_cons (pv 6) pa_nil)) pa_nil)))) pss_nil)
      (pss_cons (ps_dput hu (pv 3) (pv 5) pe_bl rfl)
      (pss_one (ps_for PassesOwn.never rfl (kpList K (pe_callB (call_sortedD rfl) (by rfl) T.sorted (by decide +kernel) (pa_cons (pe_ix (kIxT K) (pe_dget hu (pe_ix (kIxL K) (pv 0) pe_int (fun _ _ => rfl)) (pe_ix (kIxT K) (pv 5) pe_int (fun _ _ => rfl)) (fun _ _ => rfl)) pe_int (fun _ _ => rfl)) pa_nil))) (pg_name (i := 7) nd rfl (Or.inl rfl))
        (pss_one (ps_expr (kBm K PySem.F.plainAttrs_list PySem.F.slot_list_append PySem.F.type_list_append mt_append (pv 4) (pa_cons (pe_tup (pa_cons (pe_tup (pa_cons (pe_dget hu (pe_ix (kIxT K) (pe_dget hu (pe_ix (kIxL K) (pv 0) pe_int (fun _ _ => rfl)) (pe_ix (kIxT K) (pv 5) pe_int (fun _ _ => rfl)) (fun _ _ => rfl)) pe_int (fun _ _ => rfl)) (pv 7) (fun _ _ => rfl)) (pa_cons (pe_dget hu (pe_ix (kIxT K) (pe_dget hu (pe_ix (kIxL K) (pv 1) pe_int (fun _ _ => rfl)) (pe_ix (kIxT K) (pv 5) pe_int (fun _ _ => rfl)) (fun _ _ => rfl)) pe_int (fun _ _ => rfl)) (pv 7) (fun _ _ => rfl)) pa_nil))) (pa_cons (pe_op op_cat (pv 6) (pe_lst (pa_cons (pv 7) pa_nil))) pa_nil))) pa_nil)))))))))
    (pss_cons (ps_set (i := 2) nd rfl (Or.inr rfl) (pe_lc (own := [("_law_row", 8)]) rfl nd (kpList K (pv 4)) (blkOk_by (N := Nl_parting) (sc := defScope sl_parting) (by decide +kernel)) (fun _ _ _ _ _ => (pg_name (i := 8) nd rfl (Or.inl rfl))) (fun _ _ _ _ _ => pts_one (pt_cmp (pc_dnotin hu (pe_ix (kIxT K) (pv 8) pe_int (fun _ _ => rfl)) (pv 3)))) (fun _ _ _ _ _ => (pv 8))))
    (pss_one (ps_set (i := 2) nd rfl (Or.inr rfl) (pe_lc (own := [("_law_at", 9)]) rfl nd (pi_range1 (by rfl) T.range (pa_cons (pe_callB (kLen K) (by rfl) T.len (by decide +kernel) (pa_cons (pv 2) pa_nil)) pa_nil)) (blkOk_by (N := Nl_parting) (sc := defScope sl_parting) (by decide +kernel)) (fun _ _ _ _ _ => (pg_name (i := 9) nd rfl (Or.inl rfl))) (fun _ _ _ _ _ => pts_one (pt_cmpR (kNotInD K (units65 hr)) (pe_ix (kIxT K) (pe_ix (kIxL K) (pv 2) (pv 9) (fun _ _ => rfl)) pe_int (fun _ _ => rfl)) (pe_lc (own := [("_law_row", 8)]) rfl nd (kpList K (pe_slice (kSlL K) (pv 2) po_none (po_some (pv 9)))) (blkOk_nf (N := Nl_parting) (by decide +kernel) (by decide +kernel)) (fun _ _ _ _ _ => (pg_name (i := 8) nd rfl (Or.inl rfl))) (fun _ _ _ _ _ => pts_nil) (fun _ _ _ _ _ => (pe_ix (kIxT K) (pv 8) pe_int (fun _ _ => rfl)))) rfl)) (fun _ _ _ _ _ => (pe_ix (kIxL K) (pv 2) (pv 9) (fun _ _ => rfl))))))))))
  (pss_one (ps_ret (pe_lst pa_nil))))), ?_⟩
    have W1' := W1
    have W2' := W2
    obtain ⟨b1, hw1, rs1, hb1, hrs1⟩ := W1'
    obtain ⟨b2, hw2, rs2, hb2, hrs2⟩ := W2'
    have okq : ∀ q : Kk, R q.1 q.2 → okS q.1 ∧ okS q.2 := fun q h => by
      obtain ⟨r, r', e1, e2, _⟩ := B _ _ h
      exact ⟨ok1.key _ (lookup_mem e1), ok2.key _ (lookup_mem e2)⟩
    walk_at "go"
    refine ⟨by show 2 ≤ sizeLine; decide, fun pa hpa => ?_⟩
    have N1 := Nxt.new1 (o := .tup [.str s1, .str s2]) (Ex.refl H) hpa
    have gpa : (upd H pa (.tup [.str s1, .str s2])) pa = some (.tup [.str s1, .str s2]) := upd_same
    generalize upd H pa (.tup [.str s1, .str s2]) = H1 at N1 gpa ⊢
    walk_at "go"
    refine ⟨Nat.zero_le _, fun ta hta => ?_⟩
    have N2 := N1.new (o := .lst []) hta (N1.none0 hta)
    have gpa2 := (Ex.new (o := .lst []) hta) _ _ gpa
    have gta2 : (upd H1 ta (.lst [])) ta = some (.lst []) := upd_same
    generalize upd H1 ta (.lst []) = H2 at N2 gpa2 gta2 ⊢
    walk_at "go"
    refine ⟨by show 2 ≤ sizeLine; decide, fun it hit => ?_⟩
    have N3 := N2.new (o := .tup [.ref pa, .ref ta]) hit (N2.none0 hit)
    have e3 := Ex.new (o := .tup [.ref pa, .ref ta]) hit
    have git3 : ItemAt 0 (upd H2 it (.tup [.ref pa, .ref ta])) it (s1, s2) := ⟨pa, ta, [], upd_same, e3 _ _ gpa2, e3 _ _ gta2, Nat.le_refl _, fun _ z => by cases z⟩
    generalize upd H2 it (.tup [.ref pa, .ref ta]) = H3 at N3 git3 ⊢
    walk_at "go"
    refine ⟨by show 1 ≤ sizeLine; decide, fun lp hlp => ?_⟩
    have N4 := N3.new (o := .lst [.ref it]) hlp (N3.none0 hlp)
    have glp4 : (upd H3 lp (.lst [.ref it])) lp = some (.lst ([it].map V.ref)) := upd_same
    have git4 := git3.mono (Ex.new (o := .lst [.ref it]) hlp) (Nat.le_refl 0)
    generalize upd H3 lp (.lst [.ref it]) = H4 at N4 glp4 git4 ⊢
    walk_at "go"
    intro kp hkp
    have hkp0 := N4.none0 hkp
    have gkp4 : H4 kp = none := hkp
    have N5 : Nxt none H H H4 (upd H4 kp (.dT [])) := N4.own hkp hkp0
    have hkp5 : (upd H4 kp (.dT [])) kp = some (.dT (kvK [])) := upd_same
    generalize upd H4 kp (.dT []) = H5 at N5 hkp5 ⊢
    walk_at "go"
    refine ⟨by show 2 ≤ sizeLine; decide, fun tp htp => ?_⟩
    have N6 : Nxt none H H H4 (upd H5 tp (.tup [.ref lp, .ref kp])) := N5.own htp (N5.none0 htp)
    have hkp6 := (Ex.new (o := .tup [.ref lp, .ref kp]) htp) _ _ hkp5
    have htp6 : (upd H5 tp (.tup [.ref lp, .ref kp])) tp = some (.tup [.ref lp, .ref kp]) := upd_same
    generalize upd H5 tp (.tup [.ref lp, .ref kp]) = H6 at N6 hkp6 htp6 ⊢
    refine g_gtup (SqT.of htp6) rfl ?_
    walk_at "go"
    refine ⟨fun m σ H' => ∃ (lp : Addr) (as : List Addr) (qs : List Kk) (Kl : List Kk) (Gi : Hp) (x4 x5 x6 x7 : Option V), σ = [some (.ref w1), some (.ref w2), some (.ref lp), some (.ref kp), x4, x5, x6, x7, none, none] ∧ Nxt none H H Gi H' ∧ Gi kp = none ∧ H' kp = some (.dT (kvK Kl)) ∧ Gi lp = some (.lst (as.map V.ref)) ∧ ItemsAt (677 - m) Gi as qs ∧
      Kl.Nodup ∧ (∀ q ∈ Kl, R q.1 q.2) ∧ qs.Nodup ∧ (∀ q ∈ qs, R q.1 q.2 ∧ q ∉ Kl) ∧ m = 677 - Kl.length, ?_, ?_⟩
    · exact ⟨677, lp, [it], [(s1, s2)], [], H4, none, none, none, none, rfl, N6, gkp4, hkp6, glp4, .cons git4 .nil, List.nodup_nil, by simp, by simp, by simpa using hR, rfl⟩
    · rintro m σ H7 ⟨lp, as, qs, Kl, Gi, x4, x5, x6, x7, rfl, Ni, gki, hki, gli, hit, ndK, RK, ndq, Rq, hm⟩
      have Klen := pairs_le B ok1.few ok2.few ndK RK
      have qlen := pairs_le B ok1.few ok2.few ndq fun q hq => (Rq q hq).1
      have alen : as.length = qs.length := Paired.length hit
      have hl7 := Ni.gh _ _ gli
      walk_at "go"
      refine ⟨Nat.zero_le _, fun e he => ?_⟩
      have N8 : Nxt none H H Gi (upd H7 e (.lst [])) := Ni.own he (Ni.none0 he)
      have he8 : (upd H7 e (.lst [])) e = some (.lst []) := upd_same
      have hl8 := (Ex.new (o := .lst []) he) _ _ hl7
      have hk8 := (Ex.new (o := .lst []) he) _ _ hki
      generalize upd H7 e (.lst []) = H8 at N8 he8 hl8 hk8 ⊢
      have oks : ∀ q ∈ qs, okS q.1 ∧ okS q.2 := fun q hq => okq q (Rq q hq).1
      refine g_neItems (ItemsAt.mono hit N8.gh (Nat.le_refl _)) oks hl8 he8 ?_
      walk_at "go"
      have hne : qs = [] ∨ qs ≠ [] := Classical.em _
      rcases hne with rfl | hne
      · refine g_itf ?_
        walk_at "go"
        refine ⟨Nat.zero_le _, fun z hz => ?_⟩
        exact k z _ (N8.ex.trans (Ex.new hz)) upd_same
      · have hemp : qs.isEmpty = false := by cases qs with | nil => exact absurd rfl hne | cons _ _ => rfl
        rw [hemp]
        refine g_itnf ?_
        refine ⟨fun σ' H' => ∃ (lp : Addr) (as' : List Addr) (qs' : List Kk) (Kl' : List Kk) (Gi : Hp) (x4 x5 x6 x7 : Option V), σ' = [some (.ref w1), some (.ref w2), some (.ref lp), some (.ref kp), x4, x5, x6, x7, none, none] ∧ Nxt none H H Gi H' ∧ Gi kp = none ∧ H' kp = some (.dT (kvK Kl')) ∧ Gi lp = some (.lst (as'.map V.ref)) ∧ ItemsAt (Kl.length + 1) Gi as' qs' ∧
          Kl'.Nodup ∧ (∀ q ∈ Kl', R q.1 q.2) ∧ qs'.Nodup ∧ (∀ q ∈ qs', R q.1 q.2 ∧ q ∉ Kl') ∧ Kl.length < Kl'.length, ?_, ?_⟩
        · rintro σ' H' ⟨lp', as', qs', Kl', Gi', x4', x5', x6', x7', rfl, r1, r2, r3, r4, r5, r6, r7, r8, r9, r10⟩
          have := pairs_le B ok1.few ok2.few r6 r7
          exact ⟨677 - Kl'.length, by omega, lp', as', qs', Kl', Gi', x4', x5', x6', x7', rfl, r1, r2, r3, r4, ItemsAt.mono r5 (Ex.refl _) (by omega), r6, r7, r8, r9, rfl⟩
        · have hitn : ItemsAt Kl.length Gi as qs := ItemsAt.mono hit (Ex.refl _) (by omega)
          clear hit
          walk_at "go"
          refine ⟨Nat.zero_le _, fun lo hlo => ?_⟩
          have hlo0 := N8.none0 hlo
          have glo := N8.gh.back hlo
          have nkl : kp ≠ lo := ne_of_none hk8 hlo
          have N9 : Nxt none H H Gi (upd H8 lo (.lst [])) := N8.own hlo hlo0
          have hlo9 : (upd H8 lo (.lst [])) lo = some (.lst (([] : List Addr).map V.ref)) := upd_same
          have hk9 := (Ex.new (o := .lst []) hlo) _ _ hk8
          have hl9 := (Ex.new (o := .lst []) hlo) _ _ hl8
          generalize upd H8 lo (.lst []) = H9 at N9 hlo9 hk9 hl9 ⊢
          walk_at "go"
          refine ⟨lp, rfl, ⟨_, SqL.of hl9⟩, ?_⟩
          refine for_it walk_list (fun i σ' H' => ∃ (as2 : List Addr) (qs2 Kl2 : List Kk) (Gj : Hp) (x5 x6 x7 : Option V), σ' = [some (.ref w1), some (.ref w2), some (.ref lp), some (.ref kp), some (.ref lo), x5, x6, x7, none, none] ∧ Nxt none H H Gj H' ∧ Ex Gi Gj ∧ Gj kp = none ∧ H' kp = some (.dT (kvK Kl2)) ∧ Gj lo = none ∧ H' lo = some (.lst (as2.map V.ref)) ∧ ItemsAt (Kl.length + 1) Gj as2 qs2 ∧
            (∀ q ∈ qs2, R q.1 q.2) ∧ qs2.length ≤ i * 20 ∧ Kl2.Nodup ∧ (∀ q ∈ Kl2, R q.1 q.2) ∧ (∀ q ∈ Kl, q ∈ Kl2) ∧ (∀ q ∈ qs.take i, q ∈ Kl2))
            ⟨[], [], Kl, Gi, x5, x6, x7, rfl, N9, Ex.refl Gi, gki, hk9, glo, hlo9, .nil, by simp, by simp, ndK, RK, fun q h => h, by simp⟩
            (fun i σ' H' _ ⟨_, _, _, Gj, _, _, _, _, N, e, _⟩ => SqL.of (N.gh _ _ (e _ _ gli))) ?_ ?_
          · rintro i y σ' H10 H11 hi ⟨as2, qs2, Kl2, Gj, x5, x6, x7, rfl, Nj, eij, gkj, hkj, gloj, hloj, hit2, R2, len2, ndK2, RK2, sub2, tk2⟩ ⟨rfl, hy⟩
            obtain ⟨a, ha, rfl⟩ := refs_get hy
            clear hy
            obtain ⟨q, hq, pa, ta, ws, h1, h2, h3, h4, h5⟩ := hitn.at ha
            have mq := List.mem_of_getElem? hq
            have rq := (Rq q mq).1
            obtain ⟨r, r', el1, el2, ek, eo⟩ := B q.1 q.2 rq
            have or1 := ok1.row _ (lookup_mem el1)
            have or2 := ok2.row _ (lookup_mem el2)
            have or1 : RowW r := or1
            have or2 : RowW r' := or2
            have es := optR_keys or1.nd or2.nd eo
            have fr1 := or1.few
            have e10 := eij.trans Nj.gh
            have hi' : i < as.length := by simpa using hi
            refine g_gtup (SqT.of (e10 _ _ h1)) rfl ?_
            walk_at "go"
            refine ⟨w1, w2, pa, bk1, bk2, s1, s2, q, r, r', rfl, W1.mono Nj.ex, W2.mono Nj.ex, h2.mono e10, el1, el2, ek, es, or1, or2, fun H12 e12 => ?_⟩
            have N12 : Nxt none H H Gj H12 := Nj.trans (Nxt.flat Nj.gh e12)
            have hk12 := e12 _ _ hkj
            have hlo12 := e12 _ _ hloj
            walk_at "go"
            have K2len := pairs_le B ok1.few ok2.few ndK2 RK2
            refine ⟨kp, _, rfl, DPut.tt hk12 (h2.mono (eij.trans N12.gh)) (by unfold kvK; rw [List.length_map]; exact sz (by omega)), ?_⟩
            rw [putK_addK]
            have ndK3 := addK_nd (k := q) ndK2
            have RK3 : ∀ z ∈ addK Kl2 q, R z.1 z.2 := fun z hz => (addK_mem.mp hz).elim (RK2 z) fun e => by rw [e]; exact rq
            have sub3 : ∀ z ∈ Kl, z ∈ addK Kl2 q := fun z hz => addK_mem.mpr (.inl (sub2 z hz))
            have tk3 : ∀ z ∈ qs.take (i + 1), z ∈ addK Kl2 q := fun z hz => by
              rw [take_snoc hq] at hz
              rcases List.mem_append.mp hz with h | h
              · exact addK_mem.mpr (.inl (tk2 z h))
              · exact addK_mem.mpr (.inr (List.mem_singleton.mp h))
            generalize addK Kl2 q = Kl3 at ndK3 RK3 sub3 tk3 ⊢
            have N13 : Nxt none H H Gj (upd H12 kp (.dT (kvK Kl3))) := N12.mut gkj hkp0
            have hk13 : (upd H12 kp (.dT (kvK Kl3))) kp = some (.dT (kvK Kl3)) := upd_same
            have hlo13 : (upd H12 kp (.dT (kvK Kl3))) lo = some (.lst (as2.map V.ref)) := by rw [upd_ne (Ne.symm nkl)]; exact hlo12
            generalize upd H12 kp (.dT (kvK Kl3)) = H13 at N13 hk13 hlo13 ⊢
            obtain ⟨c1, hv1, d1, hc1, hd1⟩ := RowsAt.get hrs1 el1
            obtain ⟨c2, hv2, d2, hc2, hd2⟩ := RowsAt.get hrs2 el2
            have hw13 := N13.ex _ _ hw1
            have hpa13 : H13 pa = some (.tup [.str q.1, .str q.2]) := (eij.trans N13.gh) _ _ h2
            have hc13 := N13.ex _ _ hc1
            walk_at "go"
            refine g_dgs (s := q.1) (.inl (N13.ex _ _ hb1)) hv1 ?_
            walk_at "go"
            refine ⟨d1, kvS r.2, r.2.map (·.1), rfl, .inl (N13.ex _ _ hd1), kvS_keys _, by rw [List.length_map]; omega, fun ys sl pm so hsl => ?_⟩
            obtain rfl := srtS_of pm so
            have N14 := N13.new (o := .lst ((srtS (r.2.map (·.1))).map V.str)) hsl (N13.none0 hsl)
            have gsl : (upd Gj sl (.lst ((srtS (r.2.map (·.1))).map V.str))) sl = some (.lst ((srtS (r.2.map (·.1))).map V.str)) := upd_same
            have ex14 : Ex Gj (upd Gj sl (.lst ((srtS (r.2.map (·.1))).map V.str))) := Ex.new (N13.gh.back hsl)
            have gk14 : (upd Gj sl (.lst ((srtS (r.2.map (·.1))).map V.str))) kp = none := by rw [upd_ne (ne_of_none hk13 hsl)]; exact gkj
            have glo14 : (upd Gj sl (.lst ((srtS (r.2.map (·.1))).map V.str))) lo = none := by rw [upd_ne (ne_of_none hlo13 hsl)]; exact gloj
            have hk14 := (Ex.new (o := .lst ((srtS (r.2.map (·.1))).map V.str)) hsl) _ _ hk13
            have hlo14 := (Ex.new (o := .lst ((srtS (r.2.map (·.1))).map V.str)) hsl) _ _ hlo13
            generalize upd Gj sl (.lst ((srtS (r.2.map (·.1))).map V.str)) = G14 at N14 gsl ex14 gk14 glo14
            generalize upd H13 sl (.lst ((srtS (r.2.map (·.1))).map V.str)) = H14 at N14 hk14 hlo14 ⊢
            refine ⟨sl, rfl, ⟨_, SqL.of (N14.gh _ _ gsl)⟩, ?_⟩
            have slen : (srtS (r.2.map (·.1))).length ≤ 20 := by rw [srtS_len, List.length_map]; exact fr1
            refine for_it walk_list (fun j σ' H' => ∃ (as3 : List Addr) (qs3 : List Kk) (Gk : Hp) (x7 : Option V), σ' = [some (.ref w1), some (.ref w2), some (.ref lp), some (.ref kp), some (.ref lo), some (.ref pa), some (.ref ta), x7, none, none] ∧ Nxt none H H Gk H' ∧ Ex G14 Gk ∧ Gk kp = none ∧ H' kp = some (.dT (kvK Kl3)) ∧ Gk lo = none ∧ H' lo = some (.lst (as3.map V.ref)) ∧ ItemsAt (Kl.length + 1) Gk as3 qs3 ∧
              (∀ q ∈ qs3, R q.1 q.2) ∧ qs3.length ≤ i * 20 + j)
              ⟨as2, qs2, G14, x7, rfl, N14, Ex.refl _, gk14, hk14, glo14, hlo14, ItemsAt.mono hit2 ex14 (Nat.le_refl _), R2, len2⟩
              (fun j σ' H' _ ⟨_, _, Gk, _, _, N, e, _⟩ => SqL.of (N.gh _ _ (e _ _ gsl))) ?_ ?_
            · rintro j y σ' H15 H16 hj ⟨as3, qs3, Gk, x7, rfl, Nk, eGk, gkk, hkk, glok, hlok, hit3, R3, len3⟩ ⟨rfl, hy⟩
              obtain ⟨wd, hwd, rfl⟩ := strs_get hy
              clear hy
              have mwd : wd ∈ r.2.map (·.1) := srtS_mem.mp (List.mem_of_getElem? hwd)
              have hj' : j < 20 := by rw [List.length_map] at hj; omega
              obtain ⟨g, hg⟩ : ∃ g, r.2.lookup wd = some g := by
                cases e : r.2.lookup wd with
                | none => exact absurd mwd (lookup_none.mp e)
                | some g => exact ⟨g, rfl⟩
              obtain ⟨g', hg', Rg⟩ : ∃ g', r'.2.lookup wd = some g' ∧ R g g' := by
                have := eo wd
                rw [hg] at this
                cases e : r'.2.lookup wd with
                | none => rw [e] at this; exact this.elim
                | some g' => rw [e] at this; exact ⟨g', rfl, this⟩
              have swd : spelt wd = true := (or1.sp _ (lookup_mem hg)).1
              have e16 := Nk.ex
              have e17 := eij.trans (ex14.trans (eGk.trans Nk.gh))
              have hw1' := e16 _ _ hw1
              have hw2' := e16 _ _ hw2
              have hpa' : H16 pa = some (.tup [.str q.1, .str q.2]) := e17 _ _ h2
              have hc1' := e16 _ _ hc1
              have hc2' := e16 _ _ hc2
              have a3len : as3.length = qs3.length := Paired.length hit3
              walk_at "go"
              refine ⟨.inl ⟨rfl, _, SqL.of hlok⟩, ?_⟩
              walk_at "go"
              refine g_dgs (s := q.1) (.inl (e16 _ _ hb1)) hv1 ?_
              walk_at "go"
              refine g_dgs (s := wd) (.inl (e16 _ _ hd1)) (by rw [valV_kvS, hg]; rfl) ?_
              walk_at "go"
              refine g_dgs (s := q.2) (.inl (e16 _ _ hb2)) hv2 ?_
              walk_at "go"
              refine g_dgs (s := wd) (.inl (e16 _ _ hd2)) (by rw [valV_kvS, hg']; rfl) ?_
              walk_at "go"
              refine ⟨by show 2 ≤ sizeLine; decide, fun pn hpn => ?_⟩
              have N18 := Nk.new (o := .tup [.str g, .str g']) hpn (Nk.none0 hpn)
              have ex18 : Ex Gk (upd Gk pn (.tup [.str g, .str g'])) := Ex.new (Nk.gh.back hpn)
              have gpn : KeyAt (upd Gk pn (.tup [.str g, .str g'])) pn (g, g') := upd_same
              have gk18 : (upd Gk pn (.tup [.str g, .str g'])) kp = none := by rw [upd_ne (ne_of_none hkk hpn)]; exact gkk
              have glo18 : (upd Gk pn (.tup [.str g, .str g'])) lo = none := by rw [upd_ne (ne_of_none hlok hpn)]; exact glok
              have hk18 := (Ex.new (o := .tup [.str g, .str g']) hpn) _ _ hkk
              have hlo18 := (Ex.new (o := .tup [.str g, .str g']) hpn) _ _ hlok
              have hta18 := (Ex.new (o := .tup [.str g, .str g']) hpn) _ _ (e17 _ _ h3)
              generalize upd Gk pn (.tup [.str g, .str g']) = G18 at N18 ex18 gpn gk18 glo18
              generalize upd H16 pn (.tup [.str g, .str g']) = H18 at N18 hk18 hlo18 hta18 ⊢
              walk_at "go"
              refine ⟨by show 1 ≤ sizeLine; decide, fun wl hwl => ?_⟩
              have N19 : Nxt none H H G18 (upd H18 wl (.lst [.str wd])) := N18.own hwl (N18.none0 hwl)
              have hk19 := (Ex.new (o := .lst [.str wd]) hwl) _ _ hk18
              have hlo19 := (Ex.new (o := .lst [.str wd]) hwl) _ _ hlo18
              have hta19 := (Ex.new (o := .lst [.str wd]) hwl) _ _ hta18
              have hwl19 : (upd H18 wl (.lst [.str wd])) wl = some (.lst [.str wd]) := upd_same
              generalize upd H18 wl (.lst [.str wd]) = H19 at N19 hk19 hlo19 hta19 hwl19 ⊢
              refine ⟨ta, wl, ws.map V.str, [.str wd], rfl, rfl, hta19, hwl19, by rw [List.length_map]; exact Nat.le_of_lt (sz (by simp; omega)), fun tn htn => ?_⟩
              have N20 := N19.new (o := .lst (ws.map V.str ++ [.str wd])) htn (N19.none0 htn)
              have ex20 : Ex G18 (upd G18 tn (.lst (ws.map V.str ++ [.str wd]))) := Ex.new (N19.gh.back htn)
              have gtn : (upd G18 tn (.lst (ws.map V.str ++ [.str wd]))) tn = some (.lst ((ws ++ [wd]).map V.str)) := by rw [upd_same, List.map_append]; rfl
              have gk20 : (upd G18 tn (.lst (ws.map V.str ++ [.str wd]))) kp = none := by rw [upd_ne (ne_of_none hk19 htn)]; exact gk18
              have glo20 : (upd G18 tn (.lst (ws.map V.str ++ [.str wd]))) lo = none := by rw [upd_ne (ne_of_none hlo19 htn)]; exact glo18
              have hk20 := (Ex.new (o := .lst (ws.map V.str ++ [.str wd])) htn) _ _ hk19
              have hlo20 := (Ex.new (o := .lst (ws.map V.str ++ [.str wd])) htn) _ _ hlo19
              generalize upd G18 tn (.lst (ws.map V.str ++ [.str wd])) = G20 at N20 ex20 gtn gk20 glo20
              generalize upd H19 tn (.lst (ws.map V.str ++ [.str wd])) = H20 at N20 hk20 hlo20 ⊢
              walk_at "go"
              refine ⟨by show 2 ≤ sizeLine; decide, fun it hit' => ?_⟩
              have N21 := N20.new (o := .tup [.ref pn, .ref tn]) hit' (N20.none0 hit')
              have ex21 : Ex G20 (upd G20 it (.tup [.ref pn, .ref tn])) := Ex.new (N20.gh.back hit')
              have git : ItemAt (Kl.length + 1) (upd G20 it (.tup [.ref pn, .ref tn])) it (g, g') := ⟨pn, tn, ws ++ [wd], upd_same, ex21 _ _ (ex20 _ _ gpn), ex21 _ _ gtn, by rw [List.length_append]; simp; omega, fun x hx => by
                rcases List.mem_append.mp hx with h | h
                · exact h5 x h
                · rw [List.mem_singleton.mp h]; exact swd⟩
              have gk21 : (upd G20 it (.tup [.ref pn, .ref tn])) kp = none := by rw [upd_ne (ne_of_none hk20 hit')]; exact gk20
              have glo21 : (upd G20 it (.tup [.ref pn, .ref tn])) lo = none := by rw [upd_ne (ne_of_none hlo20 hit')]; exact glo20
              have hk21 := (Ex.new (o := .tup [.ref pn, .ref tn]) hit') _ _ hk20
              have hlo21 := (Ex.new (o := .tup [.ref pn, .ref tn]) hit') _ _ hlo20
              generalize upd G20 it (.tup [.ref pn, .ref tn]) = G21 at N21 ex21 git gk21 glo21
              generalize upd H20 it (.tup [.ref pn, .ref tn]) = H21 at N21 hk21 hlo21 ⊢
              refine ⟨lo, _, .ref it, rfl, rfl, hlo21, by rw [List.length_map]; exact sz (by omega), ?_⟩
              walk_at "go"
              have exx : Ex Gk G21 := ex18.trans (ex20.trans ex21)
              refine ⟨as3 ++ [it], qs3 ++ [(g, g')], G21, _, rfl, N21.mut glo21 hlo0, eGk.trans exx, gk21, by rw [upd_ne nkl]; exact hk21, glo21, by rw [upd_same, List.map_append]; rfl, Paired.snoc (ItemsAt.mono hit3 exx (Nat.le_refl _)) git, fun z hz => ?_, by rw [List.length_append]; simp; omega⟩
              rcases List.mem_append.mp hz with h | h
              · exact R3 z h
              · rw [List.mem_singleton.mp h]; exact Rg
            · rintro σ' H15 ⟨as3, qs3, Gk, x7, rfl, Nk, eGk, gkk, hkk, glok, hlok, hit3, R3, len3⟩
              rw [List.length_map] at len3
              exact ⟨as3, qs3, Kl3, Gk, _, _, x7, rfl, Nk, eij.trans (ex14.trans eGk), gkk, hkk, glok, hlok, hit3, R3, by rw [Nat.succ_mul]; omega, ndK3, RK3, sub3, tk3⟩
          · rintro σ' H10 ⟨as2, qs2, Kl2, Gj, x5, x6, x7, rfl, Nj, eij, gkj, hkj, gloj, hloj, hit2, R2, len2, ndK2, RK2, sub2, tk2⟩
            rw [List.length_map, alen] at len2
            rw [List.length_map, alen, List.take_length] at tk2
            have a2len : as2.length = qs2.length := Paired.length hit2
            walk_at "go"
            refine ⟨lo, rfl, ⟨_, SqL.of hloj⟩, fun D hD => ?_⟩
            refine lc_gen walk_list Nj.gh hD (by rw [List.length_map]; exact sz (by omega)) (fun i acc Gi => ∃ as' qs', acc = as'.map V.ref ∧ ItemsAt (Kl.length + 1) Gi as' qs' ∧ ∀ q ∈ qs', R q.1 q.2 ∧ q ∉ Kl2) ⟨[], [], rfl, .nil, by simp⟩ (fun H' e => SqL.of (e _ _ hloj)) ?_ ?_
            · rintro i y G22 H22 H23 acc Kt Kf hi N g0 hh hl' ⟨as', qs', rfl, it', Rq'⟩ ⟨rfl, hy⟩ ht hf
              obtain ⟨a, ha, rfl⟩ := refs_get hy
              clear hy
              obtain ⟨q, hq, hia⟩ := hit2.at ha
              have hia2 := hia
              obtain ⟨pa, ta, ws, h1, h2, h3, h4, h5⟩ := hia2
              have h1' := N.ex _ _ (Nj.gh _ _ h1)
              have h2' : KeyAt H23 pa q := h2.mono (Nj.gh.trans N.ex)
              walk_at "go"
              refine ⟨rfl, ?_⟩
              walk_at "go"
              refine ⟨kp, _, rfl, DGet.tt (.inl (N.ex _ _ hkj)) h2' rfl, ?_⟩
              rw [valV_kvK]
              walk_at "go"
              by_cases hm : q ∈ Kl2
              · rw [if_pos hm]
                refine g_itnt ?_
                exact hf G22 H23 (Nxt.refl N.gh) ⟨as', qs', rfl, it', Rq'⟩
              · rw [if_neg hm]
                refine g_itnf ?_
                walk_at "go"
                refine ht (.ref a) G22 H23 (Nxt.refl N.gh) ⟨as' ++ [a], qs' ++ [q], by rw [List.map_append]; rfl, Paired.snoc it' (hia.mono N.gg (Nat.le_refl _)), fun z hz => ?_⟩
                rcases List.mem_append.mp hz with h | h
                · exact Rq' z h
                · rw [List.mem_singleton.mp h]; exact ⟨R2 q (List.mem_of_getElem? hq), hm⟩
            · rintro G22 H22 acc N g0 hh hl' ⟨as1, qs1, rfl, it1, Rq1⟩
              have hD0 := Nj.none0 hD
              have N23 := (Nj.trans N).frz g0 hh hD0
              have ex23 : Ex G22 (upd G22 D (.lst (as1.map V.ref))) := Ex.new g0
              have gD : (upd G22 D (.lst (as1.map V.ref))) D = some (.lst (as1.map V.ref)) := upd_same
              have it1 := ItemsAt.mono it1 ex23 (Nat.le_refl _)
              have nkD : kp ≠ D := ne_of_none hkj hD
              have gk23 : (upd G22 D (.lst (as1.map V.ref))) kp = none := by rw [upd_ne nkD]; exact (N.fr kp _ hkj).trans gkj
              have hk23 := N.ex _ _ hkj
              have a1len : as1.length ≤ 13520 := by rw [List.length_map, List.length_map] at hl'; omega
              have a1q : as1.length = qs1.length := Paired.length it1
              clear hh
              generalize upd G22 D (.lst (as1.map V.ref)) = G23 at N23 ex23 gD it1 gk23
              have hD23 := N23.gh _ _ gD
              have okq1 : ∀ q ∈ qs1, okS q.1 ∧ okS q.2 := fun q hq => okq q (Rq1 q hq).1
              walk_at "go"
              refine ⟨D, _, rfl, .inl (SqL.of hD23), ?_⟩
              rw [List.length_map]
              walk_at "go"
              refine ⟨(as1.length : Int), rfl, by omega, by omega, ?_⟩
              have kt : ((as1.length : Int)).toNat = as1.length := by omega
              rw [kt]
              intro D2 hD2
              refine lc_gen walk_range N23.gh hD2 (sz (by omega)) (fun i acc Gi => ∃ as' qs', acc = as'.map V.ref ∧ ItemsAt (Kl.length + 1) Gi as' qs' ∧ qs'.Nodup ∧ ∀ q ∈ qs', q ∈ qs1.take i) ⟨[], [], rfl, .nil, List.nodup_nil, by simp⟩ (fun _ _ => trivial) ?_ ?_
              · rintro i y G24 H24 H25 acc Kt Kf hi N4 g4 hh4 hl4 ⟨as', qs', rfl, it', ndq', sub'⟩ ⟨rfl, rfl⟩ ht hf
                obtain ⟨a, ha⟩ : ∃ a, as1[i]? = some a := ⟨_, List.getElem?_eq_getElem hi⟩
                obtain ⟨q, hq, hia⟩ := it1.at ha
                have hia2 := hia
                obtain ⟨pa, ta, ws, h1, h2, h3, h4, h5⟩ := hia2
                have hDx := N4.ex _ _ hD23
                have h1' := N4.ex _ _ (N23.gh _ _ h1)
                show gName 9 (V.int (0 + (i : Int))) _ _ _
                have oi : (0 + (i : Int)) = (i : Int) := by omega
                rw [oi]
                walk_at "go"
                refine ⟨rfl, ?_⟩
                walk_at "go"
                refine g_ixL (v := .ref a) hDx (atI_nat (by rw [List.getElem?_map, ha]; rfl)) ?_
                walk_at "go"
                refine ⟨D, _, rfl, SqL.of hDx, fun p hp => ?_⟩
                rw [cut_take]
                have N5 : Nxt none G24 H25 G24 (upd H25 p (.lst ((as1.map V.ref).take i))) := Nxt.flat N4.gh (Ex.new hp)
                have hp5 : (upd H25 p (.lst ((as1.map V.ref).take i))) p = some (.lst ((as1.map V.ref).take i)) := upd_same
                generalize upd H25 p (.lst ((as1.map V.ref).take i)) = H26 at N5 hp5 ⊢
                refine ⟨p, rfl, ⟨_, SqL.of hp5⟩, fun D3 hD3 => ?_⟩
                refine lc_gen walk_list N5.gh hD3 (by rw [List.length_take, List.length_map]; exact sz (by omega)) (fun j acc Gi => ∃ pas, acc = pas.map V.ref ∧ KeysAt Gi pas ((qs1.take i).take j)) ⟨[], rfl, .nil⟩ (fun H' e => SqL.of (e _ _ hp5)) ?_ ?_
                · rintro j z G27 H27 H28 acc Kt2 Kf2 hj N7 g7 hh7 hl7 ⟨pas, rfl, pk⟩ ⟨rfl, hz⟩ ht2 hf2
                  rw [← List.map_take] at hz
                  obtain ⟨a2, ha2, rfl⟩ := refs_get hz
                  clear hz
                  obtain ⟨q2, hq2, pa2, ta2, ws2, i1, i2, _⟩ := (it1.take i).at ha2
                  have eall := N23.gh.trans (N4.ex.trans (N5.ex.trans N7.ex))
                  have i1' := eall _ _ i1
                  walk_at "go"
                  refine ⟨rfl, ?_⟩
                  walk_at "go"
                  refine ht2 (.ref pa2) G27 H28 (Nxt.refl N7.gh) ⟨pas ++ [pa2], by rw [List.map_append]; rfl, ?_⟩
                  rw [take_snoc hq2]
                  exact Paired.snoc pk (i2.mono (N4.gg.trans (N5.gg.trans N7.gg)))
                · rintro G27 H27 acc N7 g7 hh7 hl7 ⟨pas, rfl, pk⟩
                  rw [List.take_of_length_le (by rw [List.length_take, List.length_take, List.length_map]; omega)] at pk
                  have mq : q ∈ qs1 := List.mem_of_getElem? hq
                  have mt : ∀ z ∈ qs1.take i, z ∈ qs1 := fun z hz => List.mem_of_mem_take hz
                  refine ⟨pD q, _, dp_pair (h2.mono (N23.gh.trans (N4.ex.trans (N5.ex.trans N7.ex)))), .lst (SqL.of hh7) (dp_pairs (pk.mono N7.gh)), pD_shaped (okq1 q mq).1 (okq1 q mq).2, pDs_shaped fun z hz => okq1 z (mt z hz), ?_⟩
                  rw [pD_any]
                  walk_at "go"
                  have N8' : Nxt none G24 H25 G24 H27 := N5.trans N7.forget
                  have hDy := N8'.ex _ _ hDx
                  have tks := take_snoc hq
                  by_cases hm : q ∈ qs1.take i
                  · rw [decide_eq_true hm]
                    refine g_itnt ?_
                    exact hf G24 H27 N8' ⟨as', qs', rfl, it', ndq', fun z hz => by rw [tks]; exact List.mem_append_left _ (sub' z hz)⟩
                  · rw [decide_eq_false hm]
                    refine g_itnf ?_
                    walk_at "go"
                    refine g_ixL (v := .ref a) hDy (atI_nat (by rw [List.getElem?_map, ha]; rfl)) ?_
                    refine ht (.ref a) G24 H27 N8' ⟨as' ++ [a], qs' ++ [q], by rw [List.map_append]; rfl, Paired.snoc it' (hia.mono N4.gg (Nat.le_refl _)), ?_, fun z hz => ?_⟩
                    · exact List.nodup_append.mpr ⟨ndq', by simp, fun x hx y hy e => hm (by rw [List.mem_singleton] at hy; rw [← hy, ← e]; exact sub' x hx)⟩
                    · rw [tks]
                      rcases List.mem_append.mp hz with h | h
                      · exact List.mem_append_left _ (sub' z h)
                      · exact List.mem_append_right _ h
              · rintro G24 H24 acc N4 g4 hh4 hl4 ⟨as', qs', rfl, it', ndq', sub'⟩
                rw [List.take_of_length_le (by omega)] at sub'
                have hD20 := N23.none0 hD2
                have N25 := (N23.trans N4).frz g4 hh4 hD20
                have ex25 : Ex G24 (upd G24 D2 (.lst (as'.map V.ref))) := Ex.new g4
                have nk2 : kp ≠ D2 := ne_of_none hk23 hD2
                walk_at "go"
                refine ⟨D2, as', qs', Kl2, _, _, _, _, _, rfl, N25, by rw [upd_ne nk2]; exact (N4.fr kp _ hk23).trans gk23, N4.ex _ _ hk23, upd_same, ItemsAt.mono it' ex25 (Nat.le_refl _), ndK2, RK2, ndq', fun z hz => Rq1 z (sub' z hz), ?_⟩
                -- something new is known
                obtain ⟨q0, hq0⟩ : ∃ q, q ∈ qs := by cases qs with | nil => exact absurd rfl hne | cons a l => exact ⟨a, List.mem_cons_self⟩
                have ndm : (q0 :: Kl).Nodup := List.nodup_cons.mpr ⟨(Rq q0 hq0).2, ndK⟩
                have := nodup_le (q0 :: Kl) Kl2 ndm fun z hz => by
                  rcases List.mem_cons.mp hz with rfl | h
                  · exact tk2 z hq0
                  · exact sub2 z h
                rw [List.length_cons] at this
                omega
abbrev sl_alike : Stmt := topS 54
abbrev Nl_alike : List Str := ["_law_one", "_law_two"]
theorem scl_alike : FnScope Nl_alike ["_law_one", "_law_two"] (defScope sl_alike) := ⟨rfl, rfl, rfl, by decide +kernel, rfl, by decide +kernel, by decide +kernel⟩
def sp_alike : Sp := fun vs H Q _ => ∃ (w1 w2 : Addr) (bk1 bk2 : Book) (s1 s2 : Str) (R : Str → Str → Prop), vs = [.ref w1, .ref w2] ∧ WorldAt H w1 bk1 s1 ∧ WorldAt H w2 bk2 s2 ∧ BookW bk1 ∧ BookW bk2 ∧ R s1 s2 ∧ Bis bk1 bk2 R ∧
  ∀ H', Ex H H' → Q (.bl true) H'
theorem cal_alike (F : Has K mg "_law_alike" sl_alike) (T : Txt K w mg C) (c_law_parting : Cal P w K mg base 2 "_law_parting" sp_parting) : Cal P w K mg base 3 "_law_alike" sp_alike := by
  refine F.cal (fun _ _ _ _ _ _ us hl => match us, hl with | [_, _], _ => rfl) scl_alike (fun vs H Q E h => ?_) (fun f cdv A outer s H vs Q E hr h => ?_)
  · obtain ⟨_, _, _, _, _, _, _, rfl, _⟩ := h; rfl
  · obtain ⟨w1, w2, bk1, bk2, s1, s2, R, rfl, W1, W2, ok1, ok2, hR, B, k⟩ := h
    have nd := scl_alike.nd
    have hu := hu_of hr
    refine ⟨_, (pss_one (ps_ret (pe_cmpR (kEqD K hr.units) (kc c_law_parting hr (pa_cons (pv 0) (pa_cons (pv 1) pa_nil))) (pe_lst pa_nil) (nomark _)))), ?_⟩
    walk_at "go"
    refine ⟨w1, w2, bk1, bk2, s1, s2, R, rfl, W1, W2, ok1, ok2, hR, B, fun p H1 e1 hp => ?_⟩
    walk_at "go"
    refine ⟨Nat.zero_le _, fun q hq => ?_⟩
    have e2 : Ex H1 (upd H1 q (.lst [])) := Ex.new hq
    exact g_eqNil (l := []) (SqL.of (e2 _ _ hp)) (SqL.of upd_same) (fun _ z => by cases z) (k _ (e1.trans e2))
end
end K69
set_option Elab.async false
set_option linter.all false
set_option maxRecDepth 100000
set_option maxHeartbeats 8000000
namespace K69
open PySem PySem.Spec PyProof.Rows L2
section
variable {P : Program} {w : World} {K : PySem.W.Frag} {mg : Str → Option Value} {base : Heap} {C : Addr}
local macro_rules | `(tactic| walk_at "lk") => `(tactic| first | assumption | exact upd_same | exact (by assumption : Ex _ _) _ _ (by assumption))
local macro_rules | `(tactic| walk_at "g1") => `(tactic| first
  | with_reducible refine g_seq ?_ | with_reducible refine g_asg ?_ | with_reducible refine g_name ?_ | with_reducible refine g_cons ?_ | with_reducible refine g_nil ?_
  | ((with_reducible refine' g_var ?e ?_); (case e => exact rfl)) | with_reducible refine g_C ?_ | with_reducible refine g_op ?_ | with_reducible refine g_fld0 ?_ | with_reducible refine g_dget ?_ | with_reducible refine g_cb ?_ | with_reducible refine g_call ?_
  | with_reducible refine g_ret ?_ | with_reducible refine g_ifS ?_ | with_reducible refine g_test ?_ | with_reducible refine g_B ?_ | with_reducible refine g_bl ?_ | with_reducible refine g_not ?_ | with_reducible refine g_or ?_ | with_reducible refine g_and ?_
  | with_reducible refine g_ite ?_ | with_reducible refine g_itf ?_ | with_reducible refine g_itnt ?_ | with_reducible refine g_itnf ?_ | with_reducible refine g_eqS ?_ | with_reducible refine g_neS ?_ | with_reducible refine g_neI ?_ | with_reducible refine g_eqB ?_ | with_reducible refine g_neB ?_ | with_reducible refine g_eqI ?_ | with_reducible refine g_rI0 ?_ | with_reducible refine g_ipI ?_ | with_reducible refine g_int ?_
  | with_reducible refine g_drop ?_ | with_reducible refine g_next ?_ | with_reducible refine g_bm ?_ | with_reducible refine g_bm0 ?_ | with_reducible refine g_din ?_ | with_reducible refine g_dnotin ?_ | with_reducible refine g_dput ?_ | ((with_reducible refine' g_aug ?e ?_); (case e => exact rfl))
  | with_reducible refine g_andV ?_ | with_reducible refine g_orV ?_ | with_reducible refine g_notV ?_ | with_reducible refine g_if ?_ | with_reducible refine g_isN ?_ | with_reducible refine g_notN ?_ | with_reducible refine g_sl ?_ | with_reducible refine g_nopart ?_ | with_reducible refine g_part ?_
  | with_reducible refine g_gcons ?_ | with_reducible refine g_gnil ?_ | with_reducible refine g_par2 ?_ | with_reducible refine g_par3 ?_ | with_reducible refine g_vw ?_ | with_reducible refine g_uvw ?_ | with_reducible refine g_yes ?_ | with_reducible refine g_un ?_ | with_reducible refine g_rU ?_ | with_reducible refine g_gsub ?_ | with_reducible refine g_chain ?_ | with_reducible refine g_for ?_ | with_reducible refine g_istr ?_ | with_reducible refine g_ilist ?_ | with_reducible refine g_itup ?_ | with_reducible refine g_ikeys ?_ | with_reducible refine g_ivals ?_ | with_reducible refine g_iitems ?_ | with_reducible refine g_irng1 ?_ | with_reducible refine g_izip ?_ | with_reducible refine g_while ?_ | with_reducible refine g_tru _ ?_ | with_reducible refine g_lc ?_ | with_reducible refine g_dc ?_ | with_reducible refine g_lc2 ?_ | with_reducible refine g_tup ?_ | with_reducible refine g_lst ?_ | with_reducible refine g_dnew ?_ | with_reducible refine g_sfld ?_ | with_reducible refine g_dget2 ?_ | with_reducible refine g_dzip ?_ | with_reducible refine g_dnewT ?_ | with_reducible refine g_dispT ?_ | with_reducible refine g_star ?_ | with_reducible refine g_disp ?_ | with_reducible refine g_prs ?_ | with_reducible refine g_prs0 ?_ | with_reducible refine g_sc ?_ | with_reducible refine g_make ?_ | with_reducible refine g_meth ?_
  | ((with_reducible refine' g_ixT ?h ?e ?_); (case h => walk_at "lk"); (case e => exact rfl)) | ((with_reducible refine' g_ixL ?h ?e ?_); (case h => walk_at "lk"); (case e => exact rfl))
  | ((with_reducible refine' g_fldK ?h ?c ?n ?l ?_); (case h => walk_at "lk"); (case c => exact C8.InsC.cl (Txt.insC (by assumption))); (case n => first | exact Txt.nR (by assumption) | exact Txt.nF (by assumption)); (case l => exact rfl)))
local macro_rules | `(tactic| walk_at "go") => `(tactic| (repeat walk_at "g1"))
local macro_rules | `(tactic| walk_at "ty") => `(tactic| first | exact .base (.str _) | exact .base .non | exact .base (.bl _) | exact .base (.int _) | exact .base (.tup (by assumption)) | exact .base (.lst (by assumption)) | exact .base (.dK (by assumption)) | exact .fDict (by assumption))
abbrev sl_world_of : Stmt := topS 44
abbrev Nl_world_of : List Str := ["_law_desk_here"]
theorem scl_world_of : FnScope Nl_world_of ["_law_desk_here"] (defScope sl_world_of) := ⟨rfl, rfl, rfl, by decide +kernel, rfl, by decide +kernel, by decide +kernel⟩
def sp_world_of (C : Addr) : Sp := fun vs H Q _ => ∃ (a : Addr) (bk : Book) (s : Str) (G : Hp), vs = [.ref a] ∧ Ex G H ∧ DeskAt C G a bk s ∧ DeskOk bk s ∧ ∀ x G' H', Nxt none G H G' H' → WorldAt G' x bk s → Q (.ref x) H'
theorem cal_world_of (F : Has K mg "_law_world_of" sl_world_of) (T : Txt K w mg C) (c_Desk_book : Met P w K mg base 2 C "book" (sp_book C)) (c_Desk_start : Met P w K mg base 1 C "start" (sp_start C)) : Cal P w K mg base 3 "_law_world_of" (sp_world_of C) := by
  refine F.cal (fun _ _ _ _ _ _ us hl => match us, hl with | [_], _ => rfl) scl_world_of (fun vs H Q E h => ?_) (fun f cdv A outer s H vs Q E hr h => ?_)
  · obtain ⟨_, _, _, _, rfl, _⟩ := h; rfl
  · obtain ⟨a, bk, s, G, rfl, eG, da, D, k⟩ := h
    have nd := scl_world_of.nd
    have hu := hu_of hr
    refine ⟨_, (pss_one (ps_ret (pe_lst (pa_cons (kmt0 c_Desk_book hr (pv 0)) (pa_cons (kmt0 c_Desk_start hr (pv 0)) pa_nil))))), ?_⟩
    have da' := da
    obtain ⟨b, dx, hag, _⟩ := da'
    walk_at "go"
    refine ⟨a, dx, _, rfl, eG _ _ hag, rfl, a, bk, s, G, rfl, eG, da, D, fun b' G1 H1 N1 hb' _ => ?_⟩
    walk_at "go"
    refine ⟨a, dx, _, rfl, N1.gh _ _ (N1.gg _ _ hag), rfl, a, b, dx, s, rfl, N1.gh _ _ (N1.gg _ _ hag), ?_⟩
    walk_at "go"
    refine ⟨by show 2 ≤ sizeLine; decide, fun x hx => ?_⟩
    exact k x _ _ (N1.new (o := .lst [.ref b', .str s]) hx (N1.none0 hx)) ⟨b', upd_same, hb'.mono (Ex.new (N1.gh.back hx))⟩
abbrev sl_desk : Stmt := topS 43
abbrev Nl_desk : List Str := ["_law_world_here", "_law_state"]
theorem scl_desk : FnScope Nl_desk ["_law_world_here"] (defScope sl_desk) := ⟨rfl, rfl, rfl, by decide +kernel, rfl, by decide +kernel, by decide +kernel⟩
def sp_l_desk (C : Addr) : Sp := fun vs H Q _ => ∃ (a : Addr) (bk : Book) (s : Str) (G : Hp), vs = [.ref a] ∧ Ex G H ∧ WorldAt G a bk s ∧ BookOk bk ∧ s ∈ bk.map (·.1) ∧ ∀ x G' H', Nxt none G H G' H' → DeskAt C G' x (nrm bk) s → Q (.ref x) H'
theorem cal_l_desk (F : Has K mg "_law_desk" sl_desk) (T : Txt K w mg C) (c_Desk : Mak P w K mg base 4 "Desk" C (sp_init C)) : Cal P w K mg base 6 "_law_desk" (sp_l_desk C) := by
  refine F.cal (fun _ _ _ _ _ _ us hl => match us, hl with | [_], _ => rfl) scl_desk (fun vs H Q E h => ?_) (fun f cdv A outer s H vs Q E hr h => ?_)
  · obtain ⟨_, _, _, _, rfl, _⟩ := h; rfl
  · obtain ⟨a, bk, s, G, rfl, eG, ⟨b, hag, rs, hbg, hrs⟩, ok, hs, k⟩ := h
    have nd := scl_desk.nd
    have hu := hu_of hr
    refine ⟨_, (pss_one (ps_ret (kmk c_Desk hr (pa_cons (pe_callTy (kDictP K rfl) (by rfl) T.tdict (by decide +kernel) (pa_cons (pe_lock (pe_lc (own := [("_law_state", 1)]) rfl nd (pi_keys (pe_ix (kIxL K) (pv 0) pe_int (fun _ _ => rfl))) (blkOk_by (N := Nl_desk) (sc := defScope sl_desk) (by decide +kernel)) (fun _ _ _ _ _ => (pg_name (i := 1) nd rfl (Or.inl rfl))) (fun _ _ _ _ _ => pts_nil) (fun _ _ _ _ _ => (pe_tup (pa_cons (pv 1) (pa_cons (pe_tup (pa_cons (pe_ix (kIxT K) (pe_dget hu (pe_ix (kIxL K) (pv 0) pe_int (fun _ _ => rfl)) (pv 1) (fun _ _ => rfl)) pe_int (fun _ _ => rfl)) (pa_cons (pe_callTy call_dictD (by rfl) T.tdict (by decide +kernel) (pa_cons (pe_ix (kIxT K) (pe_dget hu (pe_ix (kIxL K) (pv 0) pe_int (fun _ _ => rfl)) (pv 1) (fun _ _ => rfl)) pe_int (fun _ _ => rfl)) pa_nil)) pa_nil))) pa_nil)))))) pa_nil)) (pa_cons (pe_ix (kIxL K) (pv 0) pe_int (fun _ _ => rfl)) pa_nil))))), ?_⟩
    have ha := eG _ _ hag
    have hb := eG _ _ hbg
    have few := ok.few
    have ne : rs ≠ [] := fun z => ok.ne (by have := hrs.len; rw [z] at this; exact List.eq_nil_of_length_eq_zero this.symm)
    walk_at "go"
    refine ⟨b, _, hb, trivial, fun od => ?_⟩
    have L := Lk.mk' (od := od) eG hb
    have haL := L.keep a _ (ne_of ha hb (by intro z; cases z)) ha
    have rL := L.rows hb (hrs.mono eG) ne
    generalize upd H b (.frz od (.dK (kvR rs))) = HL at L haL rL ⊢
    walk_at "go"
    refine ⟨b, od, rfl, .inl ⟨kvR rs, L.self, fun D hD => ?_⟩⟩
    refine lc_gen walk_keys L.ex hD (by simp only [kvR, List.length_map, hrs.len]; exact small1000 (by omega)) (fun i acc Gi => ∃ (ps : List Addr) (rs2 : List (Str × Addr)), acc = ps.map V.ref ∧ Paired (fun p q => Gi p = some (.tup [.str q.1, .ref q.2])) ps rs2 ∧ RowsAt Gi rs2 (bk.take i)) ⟨[], [], rfl, .nil, .nil⟩ (fun H' e => e _ _ L.self) ?_ ?_
    · rintro i y G3 H3 H4 acc Kt Kf hi N g0 hh hl' ⟨ps, rs2, rfl, pp, pr⟩ ⟨rfl, k1, v1, hk, rfl⟩ ht hf
      obtain ⟨⟨x, c⟩, hx, rfl, rfl⟩ := kvR_get hk
      obtain ⟨⟨x', r⟩, hbx, ex, _⟩ := hrs.at hx
      cases ex
      have mem := List.mem_of_getElem? hbx
      obtain ⟨c', hv, d, hc, hd⟩ := RowsAt.get rL (mem_lookup ok.nd mem)
      have ha4 := N.ex _ _ haL
      have hc4 := N.ex _ _ hc
      have hd4 := N.ex _ _ hd
      walk_at "go"
      refine ⟨rfl, ?_⟩
      walk_at "go"
      refine g_dgs (s := x) (.inr ⟨od, N.ex _ _ L.self⟩) hv ?_
      walk_at "go"
      refine g_dgs (s := x) (.inr ⟨od, N.ex _ _ L.self⟩) hv ?_
      walk_at "go"
      refine ⟨d, kvS r.2, rfl, .inl hd4, fun p hp => ?_⟩
      have N5 := Nxt.new1 (o := .dK (kvS r.2)) N.gh hp
      have gp5 : (upd G3 p (.dK (kvS r.2))) p = some (.dK (kvS r.2)) := upd_same
      generalize upd G3 p (.dK (kvS r.2)) = G5 at N5 gp5
      generalize upd H4 p (.dK (kvS r.2)) = H5 at N5 ⊢
      walk_at "go"
      refine ⟨by show 2 ≤ sizeLine; decide, fun t htt => ?_⟩
      have N6 := N5.new (o := .tup [.str r.1, .ref p]) htt (N5.none0 htt)
      have ex6 : Ex G5 (upd G5 t (.tup [.str r.1, .ref p])) := Ex.new (N5.gh.back htt)
      have rt6 : RowAt (upd G5 t (.tup [.str r.1, .ref p])) t r := ⟨p, upd_same, ex6 _ _ gp5⟩
      generalize upd G5 t (.tup [.str r.1, .ref p]) = G6 at N6 ex6 rt6
      generalize upd H5 t (.tup [.str r.1, .ref p]) = H6 at N6 ⊢
      walk_at "go"
      refine ⟨by show 2 ≤ sizeLine; decide, fun u hu => ?_⟩
      have N7 := N6.new (o := .tup [kV (Sum.inr x), .ref t]) hu (N6.none0 hu)
      have ex7 : Ex G6 (upd G6 u (.tup [kV (Sum.inr x), .ref t])) := Ex.new (N6.gh.back hu)
      refine ht (.ref u) _ _ N7 ⟨ps ++ [u], rs2 ++ [(x, t)], by rw [List.map_append]; rfl, ?_, ?_⟩
      · exact Paired.snoc (Paired.mapP pp fun a b e => N7.gg _ _ e) upd_same
      · rw [take_snoc hbx]
        exact RowsAt.snoc (pr.mono N7.gg) (rt6.mono ex7)
    · rintro G3 H3 acc N g0 hh hl' ⟨ps, rs2, rfl, pp, pr⟩
      rw [List.take_of_length_le (by simp [kvR, hrs.len])] at pr
      obtain ⟨G4, N4, hd3, e34, g3d, g34⟩ := L.back _ _ (N.frz g0 hh hD)
      refine ⟨hd3, ?_⟩
      have nDb : D ≠ b := (L.fresh D hD).2
      have hD4 : (upd H3 b (.dK (kvR rs))) D = some (.lst (ps.map V.ref)) := by rw [upd_ne nDb]; exact hh
      have pr4 := pr.mono ((Ex.new g0).trans e34)
      have pp4 : Paired (fun p q => G4 p = some (.tup [.str q.1, .ref q.2])) ps rs2 := Paired.mapP pp fun a b e => e34 _ _ ((Ex.new g0) _ _ e)
      generalize upd H3 b (.dK (kvR rs)) = H4 at N4 hD4 ⊢
      walk_at "go"
      have pk : Paired (fun p (kv : Key × V) => SqT K H4 p [kV kv.1, kv.2]) ps (kvR rs2) := by
        have gen : ∀ {ps : List Addr} {rs2 : List (Str × Addr)}, Paired (fun p q => G4 p = some (.tup [.str q.1, .ref q.2])) ps rs2 → Paired (fun p (kv : Key × V) => SqT K H4 p [kV kv.1, kv.2]) ps (kvR rs2) := by
          intro ps rs2 h
          induction h with
          | nil => exact .nil
          | cons e _ ih => exact .cons (SqT.of (N4.gh _ _ e)) ih
        exact gen pp4
      refine ⟨D, ps, kvR rs2, rfl, SqL.of hD4, pk, fun p hp => ?_⟩
      rw [mergeK_kvR (by rw [pr4.keys]; exact ok.nd)]
      have N5 := N4.new (o := .dK (kvR rs2)) hp (N4.none0 hp)
      have bk5 : BookAt (upd G4 p (.dK (kvR rs2))) p bk := ⟨rs2, upd_same, pr4.mono (Ex.new (N4.gh.back hp))⟩
      generalize upd G4 p (.dK (kvR rs2)) = G5 at N5 bk5
      generalize upd H4 p (.dK (kvR rs2)) = H5 at N5 ⊢
      have ha5 := N5.gh _ _ (N5.gg _ _ hag)
      walk_at "go"
      exact mk_desk N5.gh (bk5.mono N5.gh) ok hs fun x G6 H6 N6 dk hx => k x _ _ (N5.trans N6) dk
abbrev sl_trimmed : Stmt := topS 46
abbrev Nl_trimmed : List Str := ["_law_world_here", "_law_come", "_law_state"]
theorem scl_trimmed : FnScope Nl_trimmed ["_law_world_here"] (defScope sl_trimmed) := ⟨rfl, rfl, rfl, by decide +kernel, rfl, by decide +kernel, by decide +kernel⟩
def sp_trimmed : Sp := fun vs H Q _ => ∃ (a : Addr) (bk : Book) (s : Str) (G : Hp), vs = [.ref a] ∧ Ex G H ∧ WorldAt G a bk s ∧ BookOk bk ∧ s ∈ bk.map (·.1) ∧
  ∀ x G' H' (tb : Book), Nxt none G H G' H' → WorldAt G' x tb s → (∀ y, Rch bk none s y → tb.lookup y = bk.lookup y) → Q (.ref x) H'
theorem cal_trimmed (F : Has K mg "_law_trimmed" sl_trimmed) (T : Txt K w mg C) (c_law_come_to : Cal P w K mg base 1 "_law_come_to" sp_come_to) : Cal P w K mg base 2 "_law_trimmed" sp_trimmed := by
  refine F.cal (fun _ _ _ _ _ _ us hl => match us, hl with | [_], _ => rfl) scl_trimmed (fun vs H Q E h => ?_) (fun f cdv A outer s H vs Q E hr h => ?_)
  · obtain ⟨_, _, _, _, rfl, _⟩ := h; rfl
  · obtain ⟨a, bk, s, G, rfl, eG, W, ok, hs, k⟩ := h
    have nd := scl_trimmed.nd
    have hu := hu_of hr
    refine ⟨_, (pss_cons (ps_set (i := 1) nd rfl (Or.inr rfl) (kc c_law_come_to hr (pa_cons (pv 0) pa_nil)))
  (pss_one (ps_ret (pe_lst (pa_cons (pe_callTy (kDictP K rfl) (by rfl) T.tdict (by decide +kernel) (pa_cons (pe_lock (pe_lc (own := [("_law_state", 2)]) rfl nd (pi_keys (pe_ix (kIxL K) (pv 0) pe_int (fun _ _ => rfl))) (blkOk_by (N := Nl_trimmed) (sc := defScope sl_trimmed) (by decide +kernel)) (fun _ _ _ _ _ => (pg_name (i := 2) nd rfl (Or.inl rfl))) (fun _ _ _ _ _ => pts_one (pt_cmpR (kIn K) (pv 2) (pv 1) rfl)) (fun _ _ _ _ _ => (pe_tup (pa_cons (pv 2) (pa_cons (pe_dget hu (pe_ix (kIxL K) (pv 0) pe_int (fun _ _ => rfl)) (pv 2) (fun _ _ => rfl)) pa_nil)))))) pa_nil)) (pa_cons (pe_ix (kIxL K) (pv 0) pe_int (fun _ _ => rfl)) pa_nil)))))), ?_⟩
    walk_at "go"
    refine ⟨a, bk, s, G, rfl, eG, W, ok, hs, fun cp G1 H1 l N1 gcp hcp ndl ml => ?_⟩
    obtain ⟨b, hag, rs, hbg, hrs⟩ := W
    have few := ok.few
    have ne : rs ≠ [] := fun z => ok.ne (by have := hrs.len; rw [z] at this; exact List.eq_nil_of_length_eq_zero this.symm)
    have eG1 := N1.gg.trans N1.gh
    have ha := eG1 _ _ hag
    have hb := eG1 _ _ hbg
    have hc := N1.gh _ _ gcp
    walk_at "go"
    refine ⟨b, _, hb, trivial, fun od => ?_⟩
    have L := Lk.mk' (od := od) N1.gh hb
    have haL := L.keep a _ (ne_of ha hb (by intro z; cases z)) ha
    have hcL := L.keep cp _ (ne_of hc hb (by intro z; cases z)) hc
    have rL := L.rows hb (hrs.mono eG1) ne
    generalize upd H1 b (.frz od (.dK (kvR rs))) = HL at L haL hcL rL ⊢
    walk_at "go"
    refine ⟨b, od, rfl, .inl ⟨kvR rs, L.self, fun D hD => ?_⟩⟩
    refine lc_gen walk_keys L.ex hD (by simp only [kvR, List.length_map, hrs.len]; exact small1000 (by omega)) (fun i acc Gi => ∃ (ps : List Addr) (rs2 : List (Str × Addr)), acc = ps.map V.ref ∧ Paired (fun p q => Gi p = some (.tup [.str q.1, .ref q.2])) ps rs2 ∧ RowsAt G rs2 ((bk.take i).filter fun p => decide (p.1 ∈ l))) ⟨[], [], rfl, .nil, .nil⟩ (fun H' e => e _ _ L.self) ?_ ?_
    · rintro i y G3 H3 H4 acc Kt Kf hi N g0 hh hl' ⟨ps, rs2, rfl, pp, pr⟩ ⟨rfl, k1, v1, hk, rfl⟩ ht hf
      obtain ⟨⟨x, c⟩, hx, rfl, rfl⟩ := kvR_get hk
      obtain ⟨⟨x', r⟩, hbx, ex, _⟩ := hrs.at hx
      cases ex
      have mem := List.mem_of_getElem? hbx
      obtain ⟨c', hv, hcr⟩ := RowsAt.get hrs (mem_lookup ok.nd mem)
      have ha4 := N.ex _ _ haL
      have hc4 := N.ex _ _ hcL
      walk_at "go"
      refine ⟨rfl, ?_⟩
      walk_at "go"
      refine g_in (.inl (SqL.of hc4)) rfl (flatS l) (inV_str x l) ?_
      walk_at "go"
      cases hm : decide (x ∈ l) with
      | false =>
        refine g_itf ?_
        refine hf G3 H4 (Nxt.refl N.gh) ⟨ps, rs2, rfl, pp, ?_⟩
        rw [take_snoc hbx, List.filter_append, List.filter_cons_of_neg (p := fun p : Str × Row => decide (p.1 ∈ l)) (a := (x, r)) (by show ¬ decide (x ∈ l) = true; rw [hm]; simp)]
        simpa using pr
      | true =>
        refine g_ite ?_
        walk_at "go"
        refine g_dgs (s := x) (.inr ⟨od, N.ex _ _ L.self⟩) hv ?_
        walk_at "go"
        refine ⟨by show 2 ≤ sizeLine; decide, fun u hu => ?_⟩
        have N7 := Nxt.new1 (o := .tup [kV (Sum.inr x), .ref c']) N.gh hu
        refine ht (.ref u) _ _ N7 ⟨ps ++ [u], rs2 ++ [(x, c')], by rw [List.map_append]; rfl, ?_, ?_⟩
        · exact Paired.snoc (Paired.mapP pp fun a b e => N7.gg _ _ e) upd_same
        · rw [take_snoc hbx, List.filter_append, List.filter_cons_of_pos (p := fun p : Str × Row => decide (p.1 ∈ l)) (a := (x, r)) hm]
          exact RowsAt.snoc pr hcr
    · rintro G3 H3 acc N g0 hh hl' ⟨ps, rs2, rfl, pp, pr⟩
      rw [List.take_of_length_le (by simp [kvR, hrs.len])] at pr
      obtain ⟨G4, N4, hd3, e34, g3d, g34⟩ := L.back _ _ (N.frz g0 hh hD)
      refine ⟨hd3, ?_⟩
      have nDb : D ≠ b := (L.fresh D hD).2
      have hD4 : (upd H3 b (.dK (kvR rs))) D = some (.lst (ps.map V.ref)) := by rw [upd_ne nDb]; exact hh
      have pp4 : Paired (fun p q => G4 p = some (.tup [.str q.1, .ref q.2])) ps rs2 := Paired.mapP pp fun a b e => e34 _ _ ((Ex.new g0) _ _ e)
      generalize upd H3 b (.dK (kvR rs)) = H4 at N4 hD4 ⊢
      walk_at "go"
      have pk : Paired (fun p (kv : Key × V) => SqT K H4 p [kV kv.1, kv.2]) ps (kvR rs2) := by
        have gen : ∀ {ps : List Addr} {rs2 : List (Str × Addr)}, Paired (fun p q => G4 p = some (.tup [.str q.1, .ref q.2])) ps rs2 → Paired (fun p (kv : Key × V) => SqT K H4 p [kV kv.1, kv.2]) ps (kvR rs2) := by
          intro ps rs2 h
          induction h with
          | nil => exact .nil
          | cons e _ ih => exact .cons (SqT.of (N4.gh _ _ e)) ih
        exact gen pp4
      refine ⟨D, ps, kvR rs2, rfl, SqL.of hD4, pk, fun p hp => ?_⟩
      have ndf : ((bk.filter fun p => decide (p.1 ∈ l)).map (·.1)).Nodup := (List.filter_sublist.map _).nodup ok.nd
      rw [mergeK_kvR (by rw [pr.keys]; exact ndf)]
      have N5 := N4.new (o := .dK (kvR rs2)) hp (N4.none0 hp)
      have ex5 : Ex G4 (upd G4 p (.dK (kvR rs2))) := Ex.new (N4.gh.back hp)
      have N6 := N1.trans N5
      have bk5 : BookAt (upd G4 p (.dK (kvR rs2))) p (bk.filter fun p => decide (p.1 ∈ l)) := ⟨rs2, upd_same, pr.mono (N1.gg.trans (N4.gg.trans ex5))⟩
      generalize upd G4 p (.dK (kvR rs2)) = G5 at N6 bk5
      generalize upd H4 p (.dK (kvR rs2)) = H5 at N6 ⊢
      have ha5 := N6.gh _ _ (N6.gg _ _ hag)
      walk_at "go"
      refine ⟨by show 2 ≤ sizeLine; decide, fun x hx => ?_⟩
      refine k x _ _ _ (N6.new (o := .lst [.ref p, .str s]) hx (N6.none0 hx)) ⟨p, upd_same, bk5.mono (Ex.new (N6.gh.back hx))⟩ fun y hy => ?_
      have my := (ml y).mpr hy
      have gen : ∀ q : Book, (q.filter fun p => decide (p.1 ∈ l)).lookup y = q.lookup y := fun q => by
        induction q with
        | nil => rfl
        | cons p q ih =>
          obtain ⟨z, r⟩ := p
          by_cases e : y = z
          · subst e
            rw [List.filter_cons_of_pos (p := fun p : Str × Row => decide (p.1 ∈ l)) (a := (y, r)) (by simpa using my), List.lookup_cons, List.lookup_cons]
            simp
          · have b : (y == z) = false := by simpa using e
            by_cases hz : z ∈ l
            · rw [List.filter_cons_of_pos (p := fun p : Str × Row => decide (p.1 ∈ l)) (a := (z, r)) (by simpa using hz), List.lookup_cons, List.lookup_cons, b, ih]
            · rw [List.filter_cons_of_neg (p := fun p : Str × Row => decide (p.1 ∈ l)) (a := (z, r)) (by simpa using hz), List.lookup_cons, b, ih]
      exact gen bk
end
end K69
set_option Elab.async false
set_option linter.all false
set_option maxRecDepth 100000
set_option maxHeartbeats 8000000
namespace K69
open PySem PySem.Spec PyProof.Rows L2
theorem g_eqStrs {K : PySem.W.Frag} {H : Hp} {p q : Addr} {l : List Str} {Q : VK} (h1 : SqL K H p (l.map V.str)) (h2 : SqL K H q (l.map V.str)) (sp : ∀ x ∈ l, spelt x = true) (k : Q (.bl true) H) : rEqD K (.ref p) (.ref q) H Q := by
  refine ⟨_, _, .lst h1 (dp_strs l), .lst h2 (dp_strs l), shaped_strs sp, shaped_strs sp, ?_⟩
  have e : ∀ l : List Str, PyData.eqvAll (l.map PyData.str) (l.map PyData.str) = true := fun l => by
    induction l with
    | nil => simp [PyData.eqvAll]
    | cons a l ih => simp [PyData.eqvAll, PyData.eqv, ih]
  have : PyData.eqv (.list (l.map PyData.str)) (.list (l.map PyData.str)) = true := by simp only [PyData.eqv]; exact e l
  rw [this]; exact k
theorem srtK_fix {α : Type} {l : List (Str × α)} (h : srtK l = l) : srtS (l.map (·.1)) = l.map (·.1) := by rw [← srtK_keys, h]
section
variable {P : Program} {w : World} {K : PySem.W.Frag} {mg : Str → Option Value} {base : Heap} {C : Addr}
local macro_rules | `(tactic| walk_at "lk") => `(tactic| first | assumption | exact upd_same | exact (by assumption : Ex _ _) _ _ (by assumption))
local macro_rules | `(tactic| walk_at "g1") => `(tactic| first
  | with_reducible refine g_seq ?_ | with_reducible refine g_asg ?_ | with_reducible refine g_name ?_ | with_reducible refine g_cons ?_ | with_reducible refine g_nil ?_
  | ((with_reducible refine' g_var ?e ?_); (case e => exact rfl)) | with_reducible refine g_C ?_ | with_reducible refine g_op ?_ | with_reducible refine g_fld0 ?_ | with_reducible refine g_dget ?_ | with_reducible refine g_cb ?_ | with_reducible refine g_call ?_
  | with_reducible refine g_ret ?_ | with_reducible refine g_ifS ?_ | with_reducible refine g_test ?_ | with_reducible refine g_B ?_ | with_reducible refine g_bl ?_ | with_reducible refine g_not ?_ | with_reducible refine g_or ?_ | with_reducible refine g_and ?_
  | with_reducible refine g_ite ?_ | with_reducible refine g_itf ?_ | with_reducible refine g_itnt ?_ | with_reducible refine g_itnf ?_ | with_reducible refine g_eqS ?_ | with_reducible refine g_neS ?_ | with_reducible refine g_neI ?_ | with_reducible refine g_eqB ?_ | with_reducible refine g_neB ?_ | with_reducible refine g_eqI ?_ | with_reducible refine g_rI0 ?_ | with_reducible refine g_ipI ?_ | with_reducible refine g_int ?_
  | with_reducible refine g_drop ?_ | with_reducible refine g_next ?_ | with_reducible refine g_bm ?_ | with_reducible refine g_bm0 ?_ | with_reducible refine g_din ?_ | with_reducible refine g_dnotin ?_ | with_reducible refine g_dput ?_ | ((with_reducible refine' g_aug ?e ?_); (case e => exact rfl))
  | with_reducible refine g_andV ?_ | with_reducible refine g_orV ?_ | with_reducible refine g_notV ?_ | with_reducible refine g_if ?_ | with_reducible refine g_isN ?_ | with_reducible refine g_notN ?_ | with_reducible refine g_sl ?_ | with_reducible refine g_nopart ?_ | with_reducible refine g_part ?_
  | with_reducible refine g_gcons ?_ | with_reducible refine g_gnil ?_ | with_reducible refine g_par2 ?_ | with_reducible refine g_par3 ?_ | with_reducible refine g_vw ?_ | with_reducible refine g_uvw ?_ | with_reducible refine g_yes ?_ | with_reducible refine g_un ?_ | with_reducible refine g_rU ?_ | with_reducible refine g_gsub ?_ | with_reducible refine g_chain ?_ | with_reducible refine g_for ?_ | with_reducible refine g_istr ?_ | with_reducible refine g_ilist ?_ | with_reducible refine g_itup ?_ | with_reducible refine g_ikeys ?_ | with_reducible refine g_ivals ?_ | with_reducible refine g_iitems ?_ | with_reducible refine g_irng1 ?_ | with_reducible refine g_izip ?_ | with_reducible refine g_while ?_ | with_reducible refine g_tru _ ?_ | with_reducible refine g_lc ?_ | with_reducible refine g_dc ?_ | with_reducible refine g_lc2 ?_ | with_reducible refine g_tup ?_ | with_reducible refine g_lst ?_ | with_reducible refine g_dnew ?_ | with_reducible refine g_sfld ?_ | with_reducible refine g_dget2 ?_ | with_reducible refine g_dzip ?_ | with_reducible refine g_dnewT ?_ | with_reducible refine g_dispT ?_ | with_reducible refine g_star ?_ | with_reducible refine g_disp ?_ | with_reducible refine g_prs ?_ | with_reducible refine g_prs0 ?_ | with_reducible refine g_sc ?_ | with_reducible refine g_make ?_ | with_reducible refine g_meth ?_
  | ((with_reducible refine' g_ixT ?h ?e ?_); (case h => walk_at "lk"); (case e => exact rfl)) | ((with_reducible refine' g_ixL ?h ?e ?_); (case h => walk_at "lk"); (case e => exact rfl))
  | ((with_reducible refine' g_fldK ?h ?c ?n ?l ?_); (case h => walk_at "lk"); (case c => exact C8.InsC.cl (Txt.insC (by assumption))); (case n => first | exact Txt.nR (by assumption) | exact Txt.nF (by assumption)); (case l => exact rfl)))
local macro_rules | `(tactic| walk_at "go") => `(tactic| (repeat walk_at "g1"))
local macro_rules | `(tactic| walk_at "ty") => `(tactic| first | exact .base (.str _) | exact .base .non | exact .base (.bl _) | exact .base (.int _) | exact .base (.tup (by assumption)) | exact .base (.lst (by assumption)) | exact .base (.dK (by assumption)) | exact .fDict (by assumption))
abbrev sl_is_sound : Stmt := topS 58
abbrev Nl_is_sound : List Str := ["_law_desk_here", "_law_book", "_law_state", "_law_letter"]
theorem scl_is_sound : FnScope Nl_is_sound ["_law_desk_here"] (defScope sl_is_sound) := ⟨rfl, rfl, rfl, by decide +kernel, rfl, by decide +kernel, by decide +kernel⟩
def sp_is_sound (C : Addr) : Sp := fun vs H Q _ => ∃ (a : Addr) (bk : Book) (s : Str) (G : Hp), vs = [.ref a] ∧ Ex G H ∧ DeskAt C G a bk s ∧ DeskOk bk s ∧ ∀ H', Ex H H' → Q (.bl true) H'
theorem cal_is_sound (F : Has K mg "_law_is_sound" sl_is_sound) (T : Txt K w mg C) (c_Desk_book : Met P w K mg base 2 C "book" (sp_book C)) (c_Desk_start : Met P w K mg base 1 C "start" (sp_start C)) (c_Desk : Mak P w K mg base 4 "Desk" C (sp_init C))
    (c_Desk_eq : Eqs P w K mg base 1 C (ReqD C)) : Cal P w K mg base 6 "_law_is_sound" (sp_is_sound C) := by
  refine F.cal (fun _ _ _ _ _ _ us hl => match us, hl with | [_], _ => rfl) scl_is_sound (fun vs H Q E h => ?_) (fun f cdv A outer s H vs Q E hr h => ?_)
  · obtain ⟨_, _, _, _, rfl, _⟩ := h; rfl
  · obtain ⟨a, bk, s, G, rfl, eG, da, D, k⟩ := h
    have nd := scl_is_sound.nd
    have hu := hu_of hr
    refine ⟨_, (pss_cons (ps_if (PW.pt (pw_or (pt_not (pt_val (pe_callB (C8.call_isC T.insC) (by rfl) T.isinstance (by decide +kernel) (pa_cons (pv 0) (pa_cons (pe_glob (v := .ref C) rfl T.desk rfl) pa_nil))))) (pw_or1 (pt_not (pt_val (pe_callB (kIsi K) (by rfl) T.isinstance (by decide +kernel) (pa_cons (kmt0 c_Desk_book hr (pv 0)) (pa_cons (pe_bltn (v := .ty "dict") (by rfl) T.tdict (by decide +kernel) rfl) pa_nil))))))))
    (pss_one (ps_ret pe_bl)) pss_nil)
  (pss_cons (ps_set (i := 1) nd rfl (Or.inl rfl) (kmt0 c_Desk_book hr (pv 0)))
  (pss_cons (ps_lock (ps_for PassesOwn.never rfl (pi_keys (pv 1)) (pg_name (i := 2) nd rfl (Or.inl rfl))
    (pss_cons (ps_if (PW.pt (pw_or (pt_not (pt_val (pe_callB (kIsi K) (by rfl) T.isinstance (by decide +kernel) (pa_cons (pv 2) (pa_cons (pe_bltn (v := .ty "str") (by rfl) T.tstr (by decide +kernel) rfl) pa_nil))))) (pw_or (pt_not (pt_chain op_lt op_lt pe_int (pe_callB call_len_str (by rfl) T.len (by decide +kernel) (pa_cons (pv 2) pa_nil)) pe_int)) (pw_or1 (pt_cmpR (kNeD K hr.units) (pe_callTy (call_listD rfl) (by rfl) T.tlist (by decide +kernel) (pa_cons (pe_ix (kIxT K) (pe_dget hu (pv 1) (pv 2) (fun _ _ => rfl)) pe_int (fun _ _ => rfl)) pa_nil)) (pe_callB (call_sortedD rfl) (by rfl) T.sorted (by decide +kernel) (pa_cons (pe_ix (kIxT K) (pe_dget hu (pv 1) (pv 2) (fun _ _ => rfl)) pe_int (fun _ _ => rfl)) pa_nil)) (nomark _))))))
      (pss_one (ps_ret pe_bl)) pss_nil)
    (pss_one (ps_if (pt_val (pe_callB (kAny K rfl) (by rfl) T.any (by decide +kernel) (pa_cons (pe_lc (own := [("_law_letter", 3)]) rfl nd (kpList K (pe_callTy (call_list_strV rfl) (by rfl) T.tlist (by decide +kernel) (pa_cons (pv 2) pa_nil))) (blkOk_by (N := Nl_is_sound) (sc := defScope sl_is_sound) (by decide +kernel)) (fun _ _ _ _ _ => (pg_name (i := 3) nd rfl (Or.inl rfl))) (fun _ _ _ _ _ => pts_nil) (fun _ _ _ _ _ => (pe_cmpR op_notIn_sign (pv 3) pe_str rfl))) pa_nil)))
      (pss_one (ps_ret pe_bl)) pss_nil)))))
  (pss_one (ps_ret (pe_and (pe_cmpR (kEqD K hr.units) (pe_callTy (call_listD rfl) (by rfl) T.tlist (by decide +kernel) (pa_cons (pv 1) pa_nil)) (pe_callB (call_sortedD rfl) (by rfl) T.sorted (by decide +kernel) (pa_cons (pv 1) pa_nil)) (nomark _)) (pe_one (pe_cmpR (kqi c_Desk_eq hr) (kmk c_Desk hr (pa_cons (pv 1) (pa_cons (kmt0 c_Desk_start hr (pv 0)) pa_nil))) (pv 0) (nomark _))))))))), ?_⟩
    have da' := da
    obtain ⟨b, dx, hag, hdx, hbb⟩ := da'
    have ha := eG _ _ hag
    have few := D.ok.few
    walk_at "go"
    refine ⟨a, dx, _, rfl, ha, ?_⟩
    walk_at "go"
    refine ⟨a, dx, _, rfl, ha, rfl, a, bk, s, G, rfl, eG, da, D, fun b1 G1 H1 N1 hb1 _ => ?_⟩
    obtain ⟨rs1, hb1', _⟩ := hb1
    have hb1'' := N1.gh _ _ hb1'
    have ha1 := N1.gh _ _ (N1.gg _ _ hag)
    walk_at "go"
    refine g_isi (T := "dict") (k := true) (.base (.dK hb1'')) (by decide +kernel) ?_
    walk_at "go"
    refine ⟨a, dx, _, rfl, ha1, rfl, a, bk, s, G1, rfl, N1.gh, da.mono N1.gg, D, fun b2 G2 H2 N2 hb2 _ => ?_⟩
    have M := N1.trans N2
    have hb2' := hb2
    obtain ⟨rs, hbg, hrs⟩ := hb2'
    have hb := N2.gh _ _ hbg
    have ne : rs ≠ [] := fun z => D.ok.ne (by have := hrs.len; rw [z] at this; exact List.eq_nil_of_length_eq_zero this.symm)
    walk_at "go"
    refine ⟨b2, _, hb, trivial, fun od => ?_⟩
    have L0 := Lk.mk' (od := od) N2.gh hb
    walk_at "go"
    refine ⟨b2, od, rfl, .inl ⟨kvR rs, L0.self, ?_⟩⟩
    clear L0
    refine for_it walk_keys (fun i σ' H' => ∃ (Hu : Hp) (x2 : Option V), σ' = [some (.ref a), some (.ref b2), x2, none] ∧ H' = upd Hu b2 (.frz od (.dK (kvR rs))) ∧ Hu b2 = some (.dK (kvR rs)) ∧ Ex H2 Hu) ⟨H2, none, rfl, rfl, hb, Ex.refl _⟩ ?_ ?_ ?_
    · rintro i σ' H' _ ⟨Hu, x2, rfl, rfl, hub, _⟩
      exact upd_same
    · rintro i y σ' H3 H4 hi ⟨Hu, x2, rfl, rfl, hub, eu⟩ ⟨rfl, k1, v1, hk, rfl⟩
      obtain ⟨⟨x, c⟩, hx, rfl, rfl⟩ := kvR_get hk
      obtain ⟨⟨x', r⟩, hbx, ex, hcr⟩ := hrs.at hx
      cases ex
      have mem := List.mem_of_getElem? hbx
      have okr : RowOk r := D.ok.row _ mem
      have rfew := okr.few
      have spx : spelt x = true := D.ok.sp _ mem
      have L := Lk.mk' (od := od) (Ex.refl Hu) hub
      have rL := L.rows hub (hrs.mono (N2.gh.trans eu)) ne
      obtain ⟨c', hv, d, hc, hd⟩ := RowsAt.get rL (mem_lookup D.ok.nd mem)
      have hlen : 0 < x.length ∧ x.length < 9 := by
        unfold spelt at spx
        simp only [Bool.and_eq_true, decide_eq_true_eq] at spx
        exact ⟨spx.1.1, spx.1.2⟩
      have hal : ∀ z ∈ x.cps.toList, z ∈ lets.cps.toList := by
        unfold spelt at spx
        simp only [Bool.and_eq_true] at spx
        intro z hz
        simpa using List.all_eq_true.mp spx.2 z hz
      generalize hHL : upd Hu b2 (.frz od (.dK (kvR rs))) = HL at L rL hc hd ⊢
      walk_at "go"
      refine g_isi (T := "str") (k := true) (.base (.str x)) (by decide +kernel) ?_
      walk_at "go"
      refine ⟨_, rfl, Nat.le_trans (spelt_len spx) (by decide), ?_⟩
      walk_at "go"
      rw [decide_eq_true (show (0 : Int) < (x.length : Int) by omega)]
      walk_at "go"
      rw [decide_eq_true (show (x.length : Int) < 9 by omega)]
      walk_at "go"
      refine g_dgs (s := x) (.inr ⟨od, L.self⟩) hv ?_
      walk_at "go"
      refine ⟨d, kvS r.2, rfl, .inl hd, fun p hp => ?_⟩
      have ekk : (kvS r.2).map (fun kv => kV kv.1) = (r.2.map (·.1)).map V.str := by unfold kvS; rw [List.map_map, List.map_map]; rfl
      rw [ekk]
      have e5 : Ex HL (upd HL p (.lst ((r.2.map (·.1)).map V.str))) := Ex.new hp
      have hp5 : (upd HL p (.lst ((r.2.map (·.1)).map V.str))) p = some (.lst ((r.2.map (·.1)).map V.str)) := upd_same
      generalize upd HL p (.lst ((r.2.map (·.1)).map V.str)) = H5 at e5 hp5 ⊢
      have hc5 := e5 _ _ hc
      walk_at "go"
      refine g_dgs (s := x) (.inr ⟨od, e5 _ _ L.self⟩) hv ?_
      walk_at "go"
      refine ⟨d, kvS r.2, r.2.map (·.1), rfl, .inl (e5 _ _ hd), kvS_keys _, by rw [List.length_map]; omega, fun ys p2 pm so hp2 => ?_⟩
      obtain rfl := srtS_of pm so
      rw [srtK_fix (D.row mem)]
      have e6 : Ex H5 (upd H5 p2 (.lst ((r.2.map (·.1)).map V.str))) := Ex.new hp2
      refine g_neStrs (SqL.of (e6 _ _ hp5)) (SqL.of upd_same) (fun z hz => ?_) ?_
      · obtain ⟨q, hq, rfl⟩ := List.mem_map.mp hz
        exact (okr.sp q hq).1
      generalize upd H5 p2 (.lst ((r.2.map (·.1)).map V.str)) = H6 at e6 ⊢
      walk_at "go"
      refine ⟨x, rfl, Nat.le_trans (spelt_len spx) (by decide), fun p3 hp3 => ?_⟩
      have e7 : Ex H6 (upd H6 p3 (.lst (signsV x))) := Ex.new hp3
      have hp7 : (upd H6 p3 (.lst (signsV x))) p3 = some (.lst (signsV x)) := upd_same
      generalize upd H6 p3 (.lst (signsV x)) = H7 at e7 hp7 ⊢
      have slen : (signsV x).length = x.length := by unfold signsV; rw [List.length_map, Array.length_toList]; rfl
      refine ⟨p3, rfl, ⟨_, SqL.of hp7⟩, fun D3 hD3 => ?_⟩
      refine lc_gen walk_list (Ex.refl H7) hD3 (by rw [slen]; exact small1000 (by omega)) (fun i acc _ => acc = (List.replicate i false).map V.bl) rfl (fun H' e => SqL.of (e _ _ hp7)) ?_ ?_
      · rintro j z G8 H8 H9 acc Kt Kf hj N g0 hh hl' rfl ⟨rfl, hz⟩ ht hf
        obtain ⟨cp, hcp, rfl⟩ : ∃ cp, x.cps.toList[j]? = some cp ∧ z = V.str ⟨#[cp]⟩ := by
          unfold signsV at hz
          rw [List.getElem?_map] at hz
          cases e : x.cps.toList[j]? with
          | none => rw [e] at hz; cases hz
          | some cp => rw [e] at hz; cases hz; exact ⟨cp, rfl, rfl⟩
        have mcp := hal cp (List.mem_of_getElem? hcp)
        walk_at "go"
        refine ⟨rfl, ?_⟩
        walk_at "go"
        refine ⟨cp, _, rfl, rfl, ?_⟩
        have : decide (cp ∈ (PySem.Str.ofString "abcdefghijklmnopqrstuvwxyz").cps.toList) = true := decide_eq_true mcp
        rw [this]
        exact ht (.bl false) _ _ (Nxt.refl N.gh) (by rw [List.replicate_succ']; simp)
      · rintro G8 H8 acc N g0 hh hl' rfl
        walk_at "go"
        refine ⟨D3, _, rfl, SqL.of hh, ?_⟩
        have : (List.replicate (signsV x).length false).any id = false := by simp
        rw [this]
        walk_at "go"
        have eall : Ex HL H8 := e5.trans (e6.trans (e7.trans N.ex))
        have h8 := eall _ _ L.self
        refine ⟨upd H8 b2 (.dK (kvR rs)), _, rfl, ?_, upd_same, fun u o hu2 => ?_⟩
        · rw [upd_upd, upd_id h8]
        · by_cases z : u = b2
          · subst z; rw [upd_same]; have := eu _ _ hu2; rw [hub] at this; exact this
          · rw [upd_ne z]; exact eall _ _ (L.keep u _ z (eu _ _ hu2))
    · rintro σ' H3 ⟨Hu, x2, rfl, rfl, hub, eu⟩
      refine ⟨upd_same, ?_⟩
      rw [upd_un hub]
      walk_at "go"
      refine ⟨b2, kvR rs, rfl, .inl hub, fun p hp => ?_⟩
      have ekk : (kvR rs).map (fun kv => kV kv.1) = (bk.map (·.1)).map V.str := by unfold kvR; rw [← hrs.keys, List.map_map, List.map_map]; rfl
      rw [ekk]
      have e5 : Ex Hu (upd Hu p (.lst ((bk.map (·.1)).map V.str))) := Ex.new hp
      have hp5 : (upd Hu p (.lst ((bk.map (·.1)).map V.str))) p = some (.lst ((bk.map (·.1)).map V.str)) := upd_same
      generalize upd Hu p (.lst ((bk.map (·.1)).map V.str)) = H5 at e5 hp5 ⊢
      walk_at "go"
      refine ⟨b2, kvR rs, bk.map (·.1), rfl, .inl (e5 _ _ hub), by rw [kvR_keys, hrs.keys], by rw [List.length_map]; omega, fun ys p2 pm so hp2 => ?_⟩
      obtain rfl := srtS_of pm so
      have eb : srtS (bk.map (·.1)) = bk.map (·.1) := srtK_fix (by rw [← D.n]; exact srtK_idem _)
      rw [eb]
      have e6 : Ex H5 (upd H5 p2 (.lst ((bk.map (·.1)).map V.str))) := Ex.new hp2
      refine g_eqStrs (SqL.of (e6 _ _ hp5)) (SqL.of upd_same) (fun z hz => ?_) ?_
      · obtain ⟨q, hq, rfl⟩ := List.mem_map.mp hz
        exact D.ok.sp q hq
      generalize upd H5 p2 (.lst ((bk.map (·.1)).map V.str)) = H6 at e6 ⊢
      have e26 : Ex H2 H6 := eu.trans (e5.trans e6)
      have eG6 := M.gg.trans (N2.gh.trans e26)
      have ha6 := eG6 _ _ hag
      walk_at "go"
      refine ⟨a, dx, _, rfl, ha6, rfl, a, b, dx, s, rfl, ha6, ?_⟩
      walk_at "go"
      refine mk_desk (Ex.refl H6) (hb2.mono (N2.gh.trans e26)) D.ok D.st fun x G7 H7 N7 dk hx => ?_
      walk_at "go"
      rw [D.n] at dk
      obtain ⟨bx, dxx, hx7, hdx7, hbx7⟩ := dk.mono N7.gh
      have ha7 := N7.ex _ _ ha6
      refine ⟨⟨x, a, dxx, dx, _, _, rfl, rfl, hx7, ha7, bk, s, ⟨bx, dxx, hx7, hdx7, hbx7⟩, (da.mono eG6).mono N7.ex, D⟩, fun H8 e8 => ?_⟩
      exact k H8 (M.ex.trans (e26.trans (N7.ex.trans e8)))
end
end K69
set_option Elab.async false
set_option linter.all false
set_option maxRecDepth 100000
set_option maxHeartbeats 8000000
namespace K69
open PySem PySem.Spec PyProof.Rows L2
/-- the words l lead from a to b -/
def Path (bk : Book) (a : Str) : List Str → Str → Prop
  | [], b => a = b
  | w :: l, b => ∃ r c, bk.lookup a = some r ∧ r.2.lookup w = some c ∧ Path bk c l b
/-- .. with x at the end only -/
def PathX (bk : Book) (x a : Str) : List Str → Str → Prop
  | [], b => a = b
  | w :: l, b => a ≠ x ∧ ∃ r c, bk.lookup a = some r ∧ r.2.lookup w = some c ∧ PathX bk x c l b
theorem Path.snoc {bk : Book} {b c w : Str} {r : Row} (h1 : bk.lookup b = some r) (h2 : r.2.lookup w = some c) : ∀ {l : List Str} {a : Str}, Path bk a l b → Path bk a (l ++ [w]) c
  | [], _, h => by cases h; exact ⟨r, c, h1, h2, rfl⟩
  | _ :: _, _, ⟨r', c', a1, a2, a3⟩ => ⟨r', c', a1, a2, Path.snoc h1 h2 a3⟩
theorem PathX.snoc {bk : Book} {x b c w : Str} {r : Row} (ne : b ≠ x) (h1 : bk.lookup b = some r) (h2 : r.2.lookup w = some c) : ∀ {l : List Str} {a : Str}, PathX bk x a l b → PathX bk x a (l ++ [w]) c
  | [], _, h => by cases h; exact ⟨ne, r, c, h1, h2, rfl⟩
  | _ :: _, _, ⟨n, r', c', a1, a2, a3⟩ => ⟨n, r', c', a1, a2, PathX.snoc ne h1 h2 a3⟩
theorem g_dget2 {td ty tx : TE} {σ : L2.St} {H : Hp} {Q : VK} (h : td σ H fun x H1 => ∃ a, x = .ref a ∧ IsD H1 a ∧ ty σ H1 fun y H2 => tx σ H2 fun z H3 => ∃ o, DGet H3 a y o ∧ Q (o.getD z) H3) : tDGet2 td ty tx σ H Q := h
section
variable {P : Program} {w : World} {K : PySem.W.Frag} {mg : Str → Option Value} {base : Heap} {C : Addr}
local macro_rules | `(tactic| walk_at "lk") => `(tactic| first | assumption | exact upd_same | exact (by assumption : Ex _ _) _ _ (by assumption))
local macro_rules | `(tactic| walk_at "g1") => `(tactic| first
  | with_reducible refine g_seq ?_ | with_reducible refine g_asg ?_ | with_reducible refine g_name ?_ | with_reducible refine g_cons ?_ | with_reducible refine g_nil ?_
  | ((with_reducible refine' g_var ?e ?_); (case e => exact rfl)) | with_reducible refine g_C ?_ | with_reducible refine g_op ?_ | with_reducible refine g_fld0 ?_ | with_reducible refine g_dget ?_ | with_reducible refine g_cb ?_ | with_reducible refine g_call ?_
  | with_reducible refine g_ret ?_ | with_reducible refine g_ifS ?_ | with_reducible refine g_test ?_ | with_reducible refine g_B ?_ | with_reducible refine g_bl ?_ | with_reducible refine g_not ?_ | with_reducible refine g_or ?_ | with_reducible refine g_and ?_
  | with_reducible refine g_ite ?_ | with_reducible refine g_itf ?_ | with_reducible refine g_itnt ?_ | with_reducible refine g_itnf ?_ | with_reducible refine g_eqS ?_ | with_reducible refine g_neS ?_ | with_reducible refine g_neI ?_ | with_reducible refine g_eqB ?_ | with_reducible refine g_neB ?_ | with_reducible refine g_eqI ?_ | with_reducible refine g_rI0 ?_ | with_reducible refine g_ipI ?_ | with_reducible refine g_int ?_
  | with_reducible refine g_drop ?_ | with_reducible refine g_next ?_ | with_reducible refine g_bm ?_ | with_reducible refine g_bm0 ?_ | with_reducible refine g_din ?_ | with_reducible refine g_dnotin ?_ | with_reducible refine g_dput ?_ | ((with_reducible refine' g_aug ?e ?_); (case e => exact rfl))
  | with_reducible refine g_andV ?_ | with_reducible refine g_orV ?_ | with_reducible refine g_notV ?_ | with_reducible refine g_if ?_ | with_reducible refine g_isN ?_ | with_reducible refine g_notN ?_ | with_reducible refine g_sl ?_ | with_reducible refine g_nopart ?_ | with_reducible refine g_part ?_
  | with_reducible refine g_gcons ?_ | with_reducible refine g_gnil ?_ | with_reducible refine g_par2 ?_ | with_reducible refine g_par3 ?_ | with_reducible refine g_vw ?_ | with_reducible refine g_uvw ?_ | with_reducible refine g_yes ?_ | with_reducible refine g_un ?_ | with_reducible refine g_rU ?_ | with_reducible refine g_gsub ?_ | with_reducible refine g_chain ?_ | with_reducible refine g_for ?_ | with_reducible refine g_istr ?_ | with_reducible refine g_ilist ?_ | with_reducible refine g_itup ?_ | with_reducible refine g_ikeys ?_ | with_reducible refine g_ivals ?_ | with_reducible refine g_iitems ?_ | with_reducible refine g_irng1 ?_ | with_reducible refine g_izip ?_ | with_reducible refine g_while ?_ | with_reducible refine g_tru _ ?_ | with_reducible refine g_lc ?_ | with_reducible refine g_dc ?_ | with_reducible refine g_lc2 ?_ | with_reducible refine g_tup ?_ | with_reducible refine g_lst ?_ | with_reducible refine g_dnew ?_ | with_reducible refine g_sfld ?_ | with_reducible refine g_dget2 ?_ | with_reducible refine g_dzip ?_ | with_reducible refine g_dnewT ?_ | with_reducible refine g_dispT ?_ | with_reducible refine g_star ?_ | with_reducible refine g_disp ?_ | with_reducible refine g_prs ?_ | with_reducible refine g_prs0 ?_ | with_reducible refine g_sc ?_ | with_reducible refine g_make ?_ | with_reducible refine g_meth ?_
  | ((with_reducible refine' g_ixT ?h ?e ?_); (case h => walk_at "lk"); (case e => exact rfl)) | ((with_reducible refine' g_ixL ?h ?e ?_); (case h => walk_at "lk"); (case e => exact rfl))
  | ((with_reducible refine' g_fldK ?h ?c ?n ?l ?_); (case h => walk_at "lk"); (case c => exact C8.InsC.cl (Txt.insC (by assumption))); (case n => first | exact Txt.nR (by assumption) | exact Txt.nF (by assumption)); (case l => exact rfl)))
local macro_rules | `(tactic| walk_at "go") => `(tactic| (repeat walk_at "g1"))
local macro_rules | `(tactic| walk_at "ty") => `(tactic| first | exact .base (.str _) | exact .base .non | exact .base (.bl _) | exact .base (.int _) | exact .base (.tup (by assumption)) | exact .base (.lst (by assumption)) | exact .base (.dK (by assumption)) | exact .fDict (by assumption))
abbrev sl_goes : Stmt := topS 56
abbrev Nl_goes : List Str := ["_law_desk_here", "_law_world_here"]
theorem scl_goes : FnScope Nl_goes ["_law_desk_here", "_law_world_here"] (defScope sl_goes) := ⟨rfl, rfl, rfl, by decide +kernel, rfl, by decide +kernel, by decide +kernel⟩
def sp_goes (C : Addr) : Sp := fun vs H Q _ => ∃ (a w2 : Addr) (bk wb : Book) (s ws : Str) (R : Str → Str → Prop) (G : Hp), vs = [.ref a, .ref w2] ∧ Ex G H ∧ DeskAt C G a bk s ∧ DeskOk bk s ∧ WorldAt H w2 wb ws ∧ BookW wb ∧ R s ws ∧ Bis bk wb R ∧ ∀ H', Ex H H' → Q (.bl true) H'
theorem cal_goes (F : Has K mg "_law_goes" sl_goes) (T : Txt K w mg C) (c_law_is_sound : Cal P w K mg base 6 "_law_is_sound" (sp_is_sound C)) (c_law_world_of : Cal P w K mg base 3 "_law_world_of" (sp_world_of C)) (c_law_alike : Cal P w K mg base 3 "_law_alike" sp_alike) : Cal P w K mg base 7 "_law_goes" (sp_goes C) := by
  refine F.cal (fun _ _ _ _ _ _ us hl => match us, hl with | [_, _], _ => rfl) scl_goes (fun vs H Q E h => ?_) (fun f cdv A outer s H vs Q E hr h => ?_)
  · obtain ⟨_, _, _, _, _, _, _, _, rfl, _⟩ := h; rfl
  · obtain ⟨a, w2, bk, wb, s, ws, R, G, rfl, eG, da, D, W, okw, hR, B, k⟩ := h
    have nd := scl_goes.nd
    have hu := hu_of hr
    refine ⟨_, (pss_one (ps_ret (pe_and (kc c_law_is_sound hr (pa_cons (pv 0) pa_nil)) (pe_one (kc c_law_alike hr (pa_cons (kc c_law_world_of hr (pa_cons (pv 0) pa_nil)) (pa_cons (pv 1) pa_nil))))))), ?_⟩
    walk_at "go"
    refine ⟨a, bk, s, G, rfl, eG, da, D, fun H1 e1 => ⟨true, rfl, ?_⟩⟩
    walk_at "go"
    refine ⟨a, bk, s, G, rfl, eG.trans e1, da, D, fun x G2 H2 N2 W2 => ?_⟩
    walk_at "go"
    exact ⟨x, w2, bk, wb, s, ws, R, rfl, W2.mono N2.gh, (W.mono e1).mono N2.ex, D.ok.w, okw, hR, B, fun H3 e3 => k H3 (e1.trans (N2.ex.trans e3))⟩
abbrev sl_stays : Stmt := topS 57
abbrev Nl_stays : List Str := ["_law_desk_here", "_law_world_here"]
theorem scl_stays : FnScope Nl_stays ["_law_desk_here", "_law_world_here"] (defScope sl_stays) := ⟨rfl, rfl, rfl, by decide +kernel, rfl, by decide +kernel, by decide +kernel⟩
def sp_stays (C : Addr) : Sp := fun vs H Q _ => ∃ (a w2 : Addr) (wb : Book) (s : Str) (G : Hp), vs = [.ref a, .ref w2] ∧ Ex G H ∧ DeskAt C G a (nrm wb) s ∧ WorldAt G w2 wb s ∧ BookOk wb ∧ s ∈ wb.map (·.1) ∧ ∀ H', Ex H H' → Q (.bl true) H'
theorem cal_stays (F : Has K mg "_law_stays" sl_stays) (T : Txt K w mg C) (c_law_is_sound : Cal P w K mg base 6 "_law_is_sound" (sp_is_sound C)) (c_law_desk : Cal P w K mg base 6 "_law_desk" (sp_l_desk C)) (c_Desk_eq : Eqs P w K mg base 1 C (ReqD C))
    (c_law_exact : Cal P w K mg base 1 "_law_exact" (spE E0)) (c_Desk_start : Met P w K mg base 1 C "start" (sp_start C)) : Cal P w K mg base 7 "_law_stays" (sp_stays C) := by
  refine F.cal (fun _ _ _ _ _ _ us hl => match us, hl with | [_, _], _ => rfl) scl_stays (fun vs H Q E h => ?_) (fun f cdv A outer s H vs Q E hr h => ?_)
  · obtain ⟨_, _, _, _, _, rfl, _⟩ := h; rfl
  · obtain ⟨a, w2, wb, s, G, rfl, eG, da, W, ok, hs, k⟩ := h
    have nd := scl_stays.nd
    have hu := hu_of hr
    refine ⟨_, (pss_one (ps_ret (pe_and (kc c_law_is_sound hr (pa_cons (pv 0) pa_nil)) (pe_and (pe_cmpR (kqi c_Desk_eq hr) (pv 0) (kc c_law_desk hr (pa_cons (pv 1) pa_nil)) (nomark _)) (pe_one (kc c_law_exact hr (pa_cons (kmt0 c_Desk_start hr (pv 0)) (pa_cons (pe_ix (kIxL K) (pv 1) pe_int (fun _ _ => rfl)) pa_nil)))))))), ?_⟩
    have D := DeskOk.mk' ok hs
    have da' := da
    obtain ⟨b, dx, hag, _⟩ := da'
    walk_at "go"
    refine ⟨a, _, s, G, rfl, eG, da, D, fun H1 e1 => ⟨true, rfl, ?_⟩⟩
    have eG1 := eG.trans e1
    walk_at "go"
    refine ⟨w2, wb, s, G, rfl, eG1, W, ok, hs, fun x G2 H2 N2 dk => ?_⟩
    obtain ⟨bx, dxx, hx, hdx, hbx⟩ := dk.mono N2.gh
    have ha2 := N2.gh _ _ (N2.gg _ _ hag)
    refine ⟨⟨a, x, dx, dxx, _, _, rfl, rfl, ha2, hx, nrm wb, s, (da.mono N2.gg).mono N2.gh, ⟨bx, dxx, hx, hdx, hbx⟩, D⟩, fun H3 e3 => ⟨true, rfl, ?_⟩⟩
    have ha3 := e3 _ _ ha2
    obtain ⟨bw, hw, _⟩ := W
    have hw3 := e3 _ _ (N2.gh _ _ (N2.gg _ _ hw))
    walk_at "go"
    refine ⟨a, dx, _, rfl, ha3, rfl, a, b, dx, s, rfl, ha3, ?_⟩
    walk_at "go"
    exact ⟨.str s, .str s, rfl, ⟨s, rfl, rfl⟩, fun H4 e4 => k H4 (e1.trans (N2.ex.trans (e3.trans e4)))⟩
abbrev sl_behind : Stmt := topS 48
abbrev Nl_behind : List Str := ["_law_world_here", "_law_talk", "_law_state", "_law_word_here"]
theorem scl_behind : FnScope Nl_behind ["_law_world_here", "_law_talk"] (defScope sl_behind) := ⟨rfl, rfl, rfl, by decide +kernel, rfl, by decide +kernel, by decide +kernel⟩
def sp_behind : Sp := fun vs H Q _ => ∃ (a t : Addr) (bk : Book) (s b : Str) (l : List Str), vs = [.ref a, .ref t] ∧ WorldAt H a bk s ∧ H t = some (.lst (l.map V.str)) ∧ Path bk s l b ∧ Q (.str b) H
theorem cal_behind (F : Has K mg "_law_behind" sl_behind) (T : Txt K w mg C) : Cal P w K mg base 1 "_law_behind" sp_behind := by
  refine F.cal (fun _ _ _ _ _ _ us hl => match us, hl with | [_, _], _ => rfl) scl_behind (fun vs H Q E h => ?_) (fun f cdv A outer s H vs Q E hr h => ?_)
  · obtain ⟨_, _, _, _, _, _, rfl, _⟩ := h; rfl
  · obtain ⟨a, t, bk, s, b, l, rfl, ⟨bb, ha, rs, hb, hrs⟩, ht, hp, k⟩ := h
    have nd := scl_behind.nd
    have hu := hu_of hr
    refine ⟨_, (pss_cons (ps_set (i := 2) nd rfl (Or.inl rfl) (pe_ix (kIxL K) (pv 0) pe_int (fun _ _ => rfl)))
  (pss_cons (ps_for PassesOwn.never rfl (kpList K (pv 1)) (pg_name (i := 3) nd rfl (Or.inl rfl))
    (pss_one (ps_if (pt_cmp (pc_notN (pv 2)))
      (pss_one (ps_set (i := 2) nd rfl (Or.inl rfl) (pe_dget2 hu (pe_ix (kIxT K) (pe_dget hu (pe_ix (kIxL K) (pv 0) pe_int (fun _ _ => rfl)) (pv 2) (fun _ _ => rfl)) pe_int (fun _ _ => rfl)) (pv 3) pe_non ⟨rfl, rfl, rfl, rfl⟩))) pss_nil)))
  (pss_one (ps_ret (pv 2))))), ?_⟩
    walk_at "go"
    refine ⟨t, rfl, ⟨_, SqL.of ht⟩, ?_⟩
    refine for_it walk_list (fun i σ' H' => H' = H ∧ ∃ (c : Str) (x3 : Option V), σ' = [some (.ref a), some (.ref t), some (.str c), x3] ∧ Path bk c (l.drop i) b) ⟨rfl, s, none, rfl, by simpa using hp⟩ (fun i σ' H' _ q => by rw [q.1]; exact SqL.of ht) ?_ ?_
    · rintro i y σ' H1 H2 hi ⟨rfl, c, x3, rfl, hpc⟩ ⟨rfl, hy⟩
      obtain ⟨wd, hwd, rfl⟩ := strs_get hy
      clear hy
      have hil : i < l.length := (List.getElem?_eq_some_iff.mp hwd).1
      have ed : l.drop i = wd :: l.drop (i + 1) := by
        rw [List.drop_eq_getElem_cons hil, (List.getElem?_eq_some_iff.mp hwd).2]
      rw [ed] at hpc
      obtain ⟨r, c2, h1, h2, h3⟩ := hpc
      obtain ⟨ca, hv, d, hca, hd⟩ := RowsAt.get hrs h1
      walk_at "go"
      have nn : decide (V.str c = V.non) = false := decide_eq_false (by simp)
      rw [nn]
      walk_at "go"
      refine g_dgs (s := c) (.inl hb) hv ?_
      walk_at "go"
      refine ⟨d, rfl, .inl ⟨_, .inl hd⟩, ?_⟩
      walk_at "go"
      refine ⟨some (.str c2), DGet.s (.inl hd) (by rw [valV_kvS, h2]; rfl), ?_⟩
      walk_at "go"
      exact ⟨rfl, c2, _, rfl, h3⟩
    · rintro σ' H1 ⟨rfl, c, x3, rfl, hpc⟩
      rw [List.drop_of_length_le (by simp)] at hpc
      have hpc : c = b := hpc
      subst hpc
      walk_at "go"
      exact k
abbrev sl_met : Stmt := topS 62
abbrev Nl_met : List Str := ["_law_world_here", "_law_state", "_law_talk", "_law_here", "_law_word_here"]
theorem scl_met : FnScope Nl_met ["_law_world_here", "_law_state", "_law_talk"] (defScope sl_met) := ⟨rfl, rfl, rfl, by decide +kernel, rfl, by decide +kernel, by decide +kernel⟩
def sp_met : Sp := fun vs H Q _ => ∃ (a t : Addr) (bk : Book) (s x b : Str) (l : List Str), vs = [.ref a, .str x, .ref t] ∧ WorldAt H a bk s ∧ H t = some (.lst (l.map V.str)) ∧ PathX bk x s l b ∧ Q (.str b) H
theorem cal_met (F : Has K mg "_law_met" sl_met) (T : Txt K w mg C) : Cal P w K mg base 1 "_law_met" sp_met := by
  refine F.cal (fun _ _ _ _ _ _ us hl => match us, hl with | [_, _, _], _ => rfl) scl_met (fun vs H Q E h => ?_) (fun f cdv A outer s H vs Q E hr h => ?_)
  · obtain ⟨_, _, _, _, _, _, _, rfl, _⟩ := h; rfl
  · obtain ⟨a, t, bk, s, x, b, l, rfl, ⟨bb, ha, rs, hb, hrs⟩, ht, hp, k⟩ := h
    have nd := scl_met.nd
    have hu := hu_of hr
    refine ⟨_, (pss_cons (ps_set (i := 3) nd rfl (Or.inl rfl) (pe_ix (kIxL K) (pv 0) pe_int (fun _ _ => rfl)))
  (pss_cons (ps_for PassesOwn.never rfl (kpList K (pv 2)) (pg_name (i := 4) nd rfl (Or.inl rfl))
    (pss_cons (ps_if (PW.pt (pw_or (pt_cmpR op_eq (pv 3) (pv 1) (nomark _)) (pw_or1 (pt_cmp (pc_dnotin hu (pv 4) (pe_ix (kIxT K) (pe_dget hu (pe_ix (kIxL K) (pv 0) pe_int (fun _ _ => rfl)) (pv 3) (fun _ _ => rfl)) pe_int (fun _ _ => rfl)))))))
      (pss_one (ps_ret pe_non)) pss_nil)
    (pss_one (ps_set (i := 3) nd rfl (Or.inl rfl) (pe_dget hu (pe_ix (kIxT K) (pe_dget hu (pe_ix (kIxL K) (pv 0) pe_int (fun _ _ => rfl)) (pv 3) (fun _ _ => rfl)) pe_int (fun _ _ => rfl)) (pv 4) (fun _ _ => rfl))))))
  (pss_one (ps_ret (pv 3))))), ?_⟩
    walk_at "go"
    refine ⟨t, rfl, ⟨_, SqL.of ht⟩, ?_⟩
    refine for_it walk_list (fun i σ' H' => H' = H ∧ ∃ (c : Str) (x3 : Option V), σ' = [some (.ref a), some (.str x), some (.ref t), some (.str c), x3] ∧ PathX bk x c (l.drop i) b) ⟨rfl, s, none, rfl, by simpa using hp⟩ (fun i σ' H' _ q => by rw [q.1]; exact SqL.of ht) ?_ ?_
    · rintro i y σ' H1 H2 hi ⟨rfl, c, x3, rfl, hpc⟩ ⟨rfl, hy⟩
      obtain ⟨wd, hwd, rfl⟩ := strs_get hy
      clear hy
      have hil : i < l.length := (List.getElem?_eq_some_iff.mp hwd).1
      have ed : l.drop i = wd :: l.drop (i + 1) := by
        rw [List.drop_eq_getElem_cons hil, (List.getElem?_eq_some_iff.mp hwd).2]
      rw [ed] at hpc
      obtain ⟨ne, r, c2, h1, h2, h3⟩ := hpc
      obtain ⟨ca, hv, d, hca, hd⟩ := RowsAt.get hrs h1
      walk_at "go"
      rw [decide_eq_false ne]
      walk_at "go"
      refine g_dgs (s := c) (.inl hb) hv ?_
      walk_at "go"
      refine ⟨d, some (.str c2), rfl, DGet.s (.inl hd) (by rw [valV_kvS, h2]; rfl), ?_⟩
      refine g_bl ?_
      refine g_itnt ?_
      walk_at "go"
      refine g_dgs (s := c) (.inl hb) hv ?_
      walk_at "go"
      refine g_dgs (s := wd) (.inl hd) (by rw [valV_kvS, h2]; rfl) ?_
      walk_at "go"
      exact ⟨rfl, c2, _, rfl, h3⟩
    · rintro σ' H1 ⟨rfl, c, x3, rfl, hpc⟩
      rw [List.drop_of_length_le (by simp)] at hpc
      have hpc : c = b := hpc
      subst hpc
      walk_at "go"
      exact k
end
end K69
set_option Elab.async false
set_option linter.all false
set_option maxRecDepth 100000
set_option maxHeartbeats 8000000
namespace K69
open PySem PySem.Spec PyProof.Rows L2
/-- at a: a talk of n words at most, gone along in both -/
def TalkAt (bk tb : Book) (x s : Str) (n : Nat) (G : Hp) (a : Addr) : Prop := ∃ (l : List Str) (b : Str), G a = some (.lst (l.map V.str)) ∧ l.length ≤ n ∧ PathX bk x s l b ∧ Path tb s l b
theorem TalkAt.mono {bk tb : Book} {x s : Str} {n m : Nat} {G G' : Hp} {a : Addr} (h : TalkAt bk tb x s n G a) (e : Ex G G') (l : n ≤ m) : TalkAt bk tb x s m G' a := let ⟨t, b, h1, h2, h3⟩ := h; ⟨t, b, e _ _ h1, Nat.le_trans h2 l, h3⟩
section
variable {P : Program} {w : World} {K : PySem.W.Frag} {mg : Str → Option Value} {base : Heap} {C : Addr}
local macro_rules | `(tactic| walk_at "lk") => `(tactic| first | assumption | exact upd_same | exact (by assumption : Ex _ _) _ _ (by assumption))
local macro_rules | `(tactic| walk_at "g1") => `(tactic| first
  | with_reducible refine g_seq ?_ | with_reducible refine g_asg ?_ | with_reducible refine g_name ?_ | with_reducible refine g_cons ?_ | with_reducible refine g_nil ?_
  | ((with_reducible refine' g_var ?e ?_); (case e => exact rfl)) | with_reducible refine g_C ?_ | with_reducible refine g_op ?_ | with_reducible refine g_fld0 ?_ | with_reducible refine g_dget ?_ | with_reducible refine g_cb ?_ | with_reducible refine g_call ?_
  | with_reducible refine g_ret ?_ | with_reducible refine g_ifS ?_ | with_reducible refine g_test ?_ | with_reducible refine g_B ?_ | with_reducible refine g_bl ?_ | with_reducible refine g_not ?_ | with_reducible refine g_or ?_ | with_reducible refine g_and ?_
  | with_reducible refine g_ite ?_ | with_reducible refine g_itf ?_ | with_reducible refine g_itnt ?_ | with_reducible refine g_itnf ?_ | with_reducible refine g_eqS ?_ | with_reducible refine g_neS ?_ | with_reducible refine g_neI ?_ | with_reducible refine g_eqB ?_ | with_reducible refine g_neB ?_ | with_reducible refine g_eqI ?_ | with_reducible refine g_rI0 ?_ | with_reducible refine g_ipI ?_ | with_reducible refine g_int ?_
  | with_reducible refine g_drop ?_ | with_reducible refine g_next ?_ | with_reducible refine g_bm ?_ | with_reducible refine g_bm0 ?_ | with_reducible refine g_din ?_ | with_reducible refine g_dnotin ?_ | with_reducible refine g_dput ?_ | ((with_reducible refine' g_aug ?e ?_); (case e => exact rfl))
  | with_reducible refine g_andV ?_ | with_reducible refine g_orV ?_ | with_reducible refine g_notV ?_ | with_reducible refine g_if ?_ | with_reducible refine g_isN ?_ | with_reducible refine g_notN ?_ | with_reducible refine g_sl ?_ | with_reducible refine g_nopart ?_ | with_reducible refine g_part ?_
  | with_reducible refine g_gcons ?_ | with_reducible refine g_gnil ?_ | with_reducible refine g_par2 ?_ | with_reducible refine g_par3 ?_ | with_reducible refine g_vw ?_ | with_reducible refine g_uvw ?_ | with_reducible refine g_yes ?_ | with_reducible refine g_un ?_ | with_reducible refine g_rU ?_ | with_reducible refine g_gsub ?_ | with_reducible refine g_chain ?_ | with_reducible refine g_for ?_ | with_reducible refine g_istr ?_ | with_reducible refine g_ilist ?_ | with_reducible refine g_itup ?_ | with_reducible refine g_ikeys ?_ | with_reducible refine g_ivals ?_ | with_reducible refine g_iitems ?_ | with_reducible refine g_irng1 ?_ | with_reducible refine g_izip ?_ | with_reducible refine g_while ?_ | with_reducible refine g_tru _ ?_ | with_reducible refine g_lc ?_ | with_reducible refine g_dc ?_ | with_reducible refine g_lc2 ?_ | with_reducible refine g_tup ?_ | with_reducible refine g_lst ?_ | with_reducible refine g_dnew ?_ | with_reducible refine g_sfld ?_ | with_reducible refine g_dget2 ?_ | with_reducible refine g_dzip ?_ | with_reducible refine g_dnewT ?_ | with_reducible refine g_dispT ?_ | with_reducible refine g_star ?_ | with_reducible refine g_disp ?_ | with_reducible refine g_prs ?_ | with_reducible refine g_prs0 ?_ | with_reducible refine g_sc ?_ | with_reducible refine g_make ?_ | with_reducible refine g_meth ?_
  | ((with_reducible refine' g_ixT ?h ?e ?_); (case h => walk_at "lk"); (case e => exact rfl)) | ((with_reducible refine' g_ixL ?h ?e ?_); (case h => walk_at "lk"); (case e => exact rfl))
  | ((with_reducible refine' g_fldK ?h ?c ?n ?l ?_); (case h => walk_at "lk"); (case c => exact C8.InsC.cl (Txt.insC (by assumption))); (case n => first | exact Txt.nR (by assumption) | exact Txt.nF (by assumption)); (case l => exact rfl)))
local macro_rules | `(tactic| walk_at "go") => `(tactic| (repeat walk_at "g1"))
local macro_rules | `(tactic| walk_at "ty") => `(tactic| first | exact .base (.str _) | exact .base .non | exact .base (.bl _) | exact .base (.int _) | exact .base (.tup (by assumption)) | exact .base (.lst (by assumption)) | exact .base (.dK (by assumption)) | exact .fDict (by assumption))
abbrev sl_firsts_right : Stmt := topS 63
abbrev Nl_firsts_right : List Str := ["_law_world_here", "_law_state", "_law_first", "_law_layer", "_law_size", "_law_longer", "_law_talk", "_law_here", "_law_there", "_law_word_here"]
theorem scl_firsts_right : FnScope Nl_firsts_right ["_law_world_here", "_law_state", "_law_first"] (defScope sl_firsts_right) := ⟨rfl, rfl, rfl, by decide +kernel, rfl, by decide +kernel, by decide +kernel⟩
def sp_firsts : Sp := fun vs H Q _ => ∃ (a f : Addr) (bk tb : Book) (s x : Str) (G : Hp), vs = [.ref a, .str x, .ref f] ∧ Ex G H ∧ WorldAt G a bk s ∧ WorldAt G f tb s ∧
  (∀ l b, PathX bk x s l b → (b = x → ∃ r, tb.lookup b = some r ∧ r.1 = "done") ∧ (b ≠ x → ∃ r r', bk.lookup b = some r ∧ tb.lookup b = some r' ∧ (¬ r'.1 = "done") ∧ RowW r ∧ ∀ w, r.2.lookup w = r'.2.lookup w)) ∧ ∀ H', Ex H H' → Q (.bl true) H'
theorem cal_firsts (F : Has K mg "_law_firsts_right" sl_firsts_right) (T : Txt K w mg C) (c_law_met : Cal P w K mg base 1 "_law_met" sp_met) (c_law_behind : Cal P w K mg base 1 "_law_behind" sp_behind) : Cal P w K mg base 2 "_law_firsts_right" sp_firsts := by
  refine F.cal (fun _ _ _ _ _ _ us hl => match us, hl with | [_, _, _], _ => rfl) scl_firsts_right (fun vs H Q E h => ?_) (fun f cdv A outer s H vs Q E hr h => ?_)
  · obtain ⟨_, _, _, _, _, _, _, rfl, _⟩ := h; rfl
  · obtain ⟨a, fw, bk, tb, s, x, G, rfl, eG, W, Wf, hF, k⟩ := h
    have nd := scl_firsts_right.nd
    have hu := hu_of hr
    refine ⟨_, (pss_cons (ps_set (i := 3) nd rfl (Or.inl rfl) (pe_lst (pa_cons (pe_lst pa_nil) pa_nil)))
  (pss_cons (ps_for PassesOwn.never rfl (pi_range1 (by rfl) T.range (pa_cons pe_int pa_nil)) (pg_name (i := 4) nd rfl (Or.inl rfl))
    (pss_cons (ps_set (i := 5) nd rfl (Or.inl rfl) (pe_lst pa_nil))
    (pss_cons (ps_for PassesOwn.never rfl (kpList K (pv 3)) (pg_name (i := 6) nd rfl (Or.inr rfl))
      (pss_cons (ps_par (i := 7) (j := 8) rfl nd rfl rfl (by decide) rfl rfl (pa_cons (kc c_law_met hr (pa_cons (pv 0) (pa_cons (pv 1) (pa_cons (pv 6) pa_nil)))) (pa_cons (kc c_law_behind hr (pa_cons (pv 2) (pa_cons (pv 6) pa_nil))) pa_nil)) (by rfl))
      (pss_cons (ps_if (PW.pt (pw_or (pt_cmp (pc_isN (pv 8))) (pw_or1 (pt_cmpR op_ne (pe_cmpR op_eq (pe_ix (kIxT K) (pe_dget hu (pe_ix (kIxL K) (pv 2) pe_int (fun _ _ => rfl)) (pv 8) (fun _ _ => rfl)) pe_int (fun _ _ => rfl)) pe_str (nomark _)) (pe_cmpR op_eq (pv 7) (pv 1) (nomark _)) (nomark _)))))
        (pss_one (ps_ret pe_bl)) pss_nil)
      (pss_one (ps_if (pt_cmpR op_ne (pv 7) (pv 1) (nomark _))
        (pss_one (ps_set (i := 5) nd rfl (Or.inl rfl) (pe_op op_cat (pv 5) (pe_lc (own := [("_law_word_here", 9)]) rfl nd (kpList K (pe_callB (call_sortedD rfl) (by rfl) T.sorted (by decide +kernel) (pa_cons (pe_ix (kIxT K) (pe_dget hu (pe_ix (kIxL K) (pv 0) pe_int (fun _ _ => rfl)) (pv 7) (fun _ _ => rfl)) pe_int (fun _ _ => rfl)) pa_nil))) (blkOk_by (N := Nl_firsts_right) (sc := defScope sl_firsts_right) (by decide +kernel)) (fun _ _ _ _ _ => (pg_name (i := 9) nd rfl (Or.inl rfl))) (fun _ _ _ _ _ => pts_nil) (fun _ _ _ _ _ => (pe_op op_cat (pv 6) (pe_lst (pa_cons (pv 9) pa_nil)))))))) pss_nil)))))
    (pss_one (ps_set (i := 3) nd rfl (Or.inl rfl) (pe_slice (kSlL K) (pv 5) po_none (po_some pe_int)))))))
  (pss_one (ps_ret pe_bl)))), ?_⟩
    have W' := W
    have Wf' := Wf
    obtain ⟨bw, haw, rs, hbw, hrs⟩ := W'
    obtain ⟨bf, haf, rsf, hbf, hrsf⟩ := Wf'
    walk_at "go"
    refine ⟨Nat.zero_le _, fun e he => ?_⟩
    have N1 := Nxt.new1 (o := .lst []) eG he
    have ge : TalkAt bk tb x s 0 (upd G e (.lst [])) e := ⟨[], s, upd_same, Nat.le_refl _, rfl, rfl⟩
    generalize upd G e (.lst []) = G1 at N1 ge
    generalize upd H e (.lst []) = H1 at N1 ⊢
    walk_at "go"
    refine ⟨by show 1 ≤ sizeLine; decide, fun lp hlp => ?_⟩
    have N2 := N1.new (o := .lst [.ref e]) hlp (N1.none0 hlp)
    have glp : (upd G1 lp (.lst [.ref e])) lp = some (.lst ([e].map V.ref)) := upd_same
    have ge2 := ge.mono (Ex.new (o := .lst [.ref e]) (N1.gh.back hlp)) (Nat.le_refl 0)
    generalize upd G1 lp (.lst [.ref e]) = G2 at N2 glp ge2
    generalize upd H1 lp (.lst [.ref e]) = H2 at N2 ⊢
    walk_at "go"
    refine ⟨5, rfl, by decide, by decide, ?_⟩
    refine for_it walk_range (fun i σ' H' => ∃ (lp : Addr) (as : List Addr) (Gi : Hp) (x4 x5 x6 x7 x8 : Option V), σ' = [some (.ref a), some (.str x), some (.ref fw), some (.ref lp), x4, x5, x6, x7, x8, none] ∧ Nxt none G H Gi H' ∧ Gi lp = some (.lst (as.map V.ref)) ∧ as.length ≤ 40 ∧ ∀ y ∈ as, TalkAt bk tb x s i Gi y)
      ⟨lp, [e], G2, none, none, none, none, none, rfl, N2, glp, by simp, fun y hy => by rw [List.mem_singleton.mp hy]; exact ge2⟩ (fun _ _ _ _ _ => trivial) ?_ ?_
    · rintro i y σ' H3 H4 hi ⟨lp, as, Gi, x4, x5, x6, x7, x8, rfl, Ni, glp, alen, hT⟩ ⟨rfl, rfl⟩
      have hi5 : i < 5 := hi
      show gName 4 (V.int (0 + (i : Int))) _ _ _
      walk_at "go"
      refine ⟨Nat.zero_le _, fun lo hlo => ?_⟩
      have N5 := Ni.new (o := .lst []) hlo (Ni.none0 hlo)
      have glo : (upd Gi lo (.lst [])) lo = some (.lst (([] : List Addr).map V.ref)) := upd_same
      have ex5 : Ex Gi (upd Gi lo (.lst [])) := Ex.new (Ni.gh.back hlo)
      generalize upd Gi lo (.lst []) = G5 at N5 glo ex5
      generalize upd H4 lo (.lst []) = H5 at N5 ⊢
      have glp5 := ex5 _ _ glp
      walk_at "go"
      refine ⟨lp, rfl, ⟨_, SqL.of (N5.gh _ _ glp5)⟩, ?_⟩
      refine for_it walk_list (fun j σ' H' => ∃ (lo : Addr) (bs : List Addr) (Gj : Hp) (x6 x7 x8 : Option V), σ' = [some (.ref a), some (.str x), some (.ref fw), some (.ref lp), some (.int (0 + (i : Int))), some (.ref lo), x6, x7, x8, none] ∧ Nxt none G H Gj H' ∧ Ex G5 Gj ∧ Gj lo = some (.lst (bs.map V.ref)) ∧ bs.length ≤ j * 20 ∧ ∀ y ∈ bs, TalkAt bk tb x s (i + 1) Gj y)
        ⟨lo, [], G5, x6, x7, x8, rfl, N5, Ex.refl _, glo, by simp, by simp⟩ (fun j σ' H' _ ⟨_, _, Gj, _, _, _, _, N, e, _⟩ => SqL.of (N.gh _ _ (e _ _ glp5))) ?_ ?_
      · rintro j y σ' H6 H7 hj ⟨lo, bs, Gj, x6, x7, x8, rfl, Nj, ej, glo, blen, hB⟩ ⟨rfl, hy⟩
        obtain ⟨tk, htk, rfl⟩ := refs_get hy
        clear hy
        have hj40 : j < 40 := by rw [List.length_map] at hj; omega
        obtain ⟨l, b, ht, hl, hpx, hp⟩ := hT tk (List.mem_of_getElem? htk)
        have ht7 := Nj.gh _ _ (ej _ _ (ex5 _ _ ht))
        have eG7 := Nj.gg.trans Nj.gh
        obtain ⟨f1, f2⟩ := hF l b hpx
        walk_at "go"
        refine ⟨a, tk, bk, s, x, b, l, rfl, W.mono eG7, ht7, hpx, ?_⟩
        walk_at "go"
        refine ⟨fw, tk, tb, s, b, l, rfl, Wf.mono eG7, ht7, hp, ?_⟩
        walk_at "go"
        have nn : decide (V.str b = V.non) = false := decide_eq_false (by simp)
        rw [nn]
        have haf7 := eG7 _ _ haf
        have haw7 := eG7 _ _ haw
        walk_at "go"
        by_cases hbx : b = x
        · obtain ⟨r, hr1, hr2⟩ := f1 hbx
          obtain ⟨c, hv, d, hc, hd⟩ := RowsAt.get hrsf hr1
          have hc7 := eG7 _ _ hc
          refine g_dgs (s := b) (.inl (eG7 _ _ hbf)) hv ?_
          walk_at "go"
          rw [decide_eq_true hr2, decide_eq_true hbx]
          rw [decide_eq_true rfl]
          refine g_itnt ?_
          walk_at "go"
          rw [decide_eq_true hbx]
          refine g_itnt ?_
          walk_at "go"
          exact ⟨lo, bs, Gj, _, _, _, rfl, Nj, ej, glo, by rw [Nat.succ_mul]; omega, hB⟩
        · obtain ⟨r, r', hr0, hr1, hr2, hr3, hrw⟩ := f2 hbx
          obtain ⟨c, hv, d, hc, hd⟩ := RowsAt.get hrsf hr1
          have hc7 := eG7 _ _ hc
          refine g_dgs (s := b) (.inl (eG7 _ _ hbf)) hv ?_
          walk_at "go"
          rw [decide_eq_false hr2, decide_eq_false hbx]
          rw [decide_eq_true rfl]
          refine g_itnt ?_
          walk_at "go"
          rw [decide_eq_false hbx]
          refine g_itnf ?_
          obtain ⟨c2, hv2, d2, hc2, hd2⟩ := RowsAt.get hrs hr0
          have hc27 := eG7 _ _ hc2
          have rfew := hr3.few
          walk_at "go"
          refine g_dgs (s := b) (.inl (eG7 _ _ hbw)) hv2 ?_
          walk_at "go"
          refine ⟨d2, kvS r.2, r.2.map (·.1), rfl, .inl (eG7 _ _ hd2), kvS_keys _, by rw [List.length_map]; omega, fun ys p pm so hp' => ?_⟩
          have ylen : ys.length ≤ 20 := by rw [pm.length_eq, List.length_map]; exact rfew
          have N8 : Nxt none G H Gj (upd H7 p (.lst (ys.map V.str))) := Nj.own hp' (Nj.none0 hp')
          have hp8 : (upd H7 p (.lst (ys.map V.str))) p = some (.lst (ys.map V.str)) := upd_same
          generalize upd H7 p (.lst (ys.map V.str)) = H8 at N8 hp8 ⊢
          refine ⟨p, rfl, ⟨_, SqL.of hp8⟩, fun D hD => ?_⟩
          have ht8 := N8.gh _ _ (ej _ _ (ex5 _ _ ht))
          refine lc_gen walk_list N8.gh hD (by rw [List.length_map]; exact small1000 (by omega)) (fun m acc Gm => ∃ cs, acc = cs.map V.ref ∧ ∀ y ∈ cs, TalkAt bk tb x s (i + 1) Gm y) ⟨[], rfl, by simp⟩ (fun H' e => SqL.of (e _ _ hp8)) ?_ ?_
          · rintro m z G9 H9 H10 acc Kt Kf hm N9 g9 hh9 hl9 ⟨cs, rfl, hC⟩ ⟨rfl, hz⟩ htt hff
            obtain ⟨wd, hwd, rfl⟩ := strs_get hz
            clear hz
            have mwd : wd ∈ r.2.map (·.1) := pm.mem_iff.mp (List.mem_of_getElem? hwd)
            obtain ⟨g, hg⟩ : ∃ g, r.2.lookup wd = some g := by
              cases e : r.2.lookup wd with
              | none => exact absurd mwd (lookup_none.mp e)
              | some g => exact ⟨g, rfl⟩
            walk_at "go"
            refine ⟨rfl, ?_⟩
            walk_at "go"
            refine ⟨by show 1 ≤ sizeLine; decide, fun wl hwl => ?_⟩
            have N10 : Nxt none G9 H10 G9 (upd H10 wl (.lst [.str wd])) := Nxt.flat N9.gh (Ex.new hwl)
            have hwl10 : (upd H10 wl (.lst [.str wd])) wl = some (.lst [.str wd]) := upd_same
            generalize upd H10 wl (.lst [.str wd]) = H11 at N10 hwl10 ⊢
            refine ⟨tk, wl, l.map V.str, [.str wd], rfl, rfl, N10.ex _ _ (N9.ex _ _ ht8), hwl10, by rw [List.length_map]; exact Nat.le_of_lt (small1000 (by simp; omega)), fun tn htn => ?_⟩
            have N12 := N10.new (o := .lst (l.map V.str ++ [.str wd])) htn (N10.none0 htn)
            refine htt (.ref tn) _ _ N12 ⟨cs ++ [tn], by rw [List.map_append]; rfl, fun y hy => ?_⟩
            rcases List.mem_append.mp hy with h | h
            · exact (hC y h).mono N12.gg (Nat.le_refl _)
            · rw [List.mem_singleton.mp h]
              exact ⟨l ++ [wd], g, by rw [upd_same, List.map_append]; rfl, by rw [List.length_append]; simp; omega, hpx.snoc hbx hr0 hg, hp.snoc hr1 (by rw [← hrw]; exact hg)⟩
          · rintro G9 H9 acc N9 g9 hh9 hl9 ⟨cs, rfl, hC⟩
            rw [List.length_map] at hl9
            rw [List.length_map] at hl9
            have M := N8.trans N9
            walk_at "go"
            refine ⟨lo, D, bs.map V.ref, cs.map V.ref, rfl, rfl, N9.ex _ _ (N8.gh _ _ glo), hh9, by rw [List.length_map, List.length_map]; exact Nat.le_of_lt (small1000 (by omega)), fun p2 hp2 => ?_⟩
            have M2 := M.new (o := .lst (bs.map V.ref ++ cs.map V.ref)) hp2 (M.none0 hp2)
            have ex2 : Ex G9 (upd G9 p2 (.lst (bs.map V.ref ++ cs.map V.ref))) := Ex.new (M.gh.back hp2)
            walk_at "go"
            refine ⟨p2, bs ++ cs, _, _, _, _, rfl, M2, ej.trans (N9.gg.trans ex2), by rw [upd_same, List.map_append], by rw [List.length_append, Nat.succ_mul]; omega, fun y hy => ?_⟩
            rcases List.mem_append.mp hy with h | h
            · exact (hB y h).mono (N9.gg.trans ex2) (Nat.le_refl _)
            · exact (hC y h).mono ex2 (Nat.le_refl _)
      · rintro σ' H6 ⟨lo, bs, Gj, x6, x7, x8, rfl, Nj, ej, glo, blen, hB⟩
        walk_at "go"
        refine ⟨lo, _, rfl, SqL.of (Nj.gh _ _ glo), fun p hp => ?_⟩
        have c40 : cutV (bs.map V.ref) none (some 40) = (bs.take 40).map V.ref := by rw [List.map_take]; exact cut_take (i := 40)
        rw [c40]
        have N6 := Nj.new (o := .lst ((bs.take 40).map V.ref)) hp (Nj.none0 hp)
        have ex6 : Ex Gj (upd Gj p (.lst ((bs.take 40).map V.ref))) := Ex.new (Nj.gh.back hp)
        walk_at "go"
        exact ⟨p, bs.take 40, _, _, _, _, _, _, rfl, N6, upd_same, by rw [List.length_take]; omega, fun y hy => (hB y (List.mem_of_mem_take hy)).mono ex6 (Nat.le_refl _)⟩
    · rintro σ' H3 ⟨lp, as, Gi, x4, x5, x6, x7, x8, rfl, Ni, glp, alen, hT⟩
      walk_at "go"
      exact k H3 Ni.ex
end
end K69
set_option Elab.async false
set_option linter.all false
set_option maxRecDepth 100000
/-! The law's own way to put two worlds one behind the other: names with '1.' and '2.' ahead. -/
namespace K69
open PySem PySem.Spec PyProof.Rows L2
theorem app_cps (a b : Str) : (a ++ b).cps.toList = a.cps.toList ++ b.cps.toList := by
  show (a.cps ++ b.cps).toList = _
  simp
theorem app_inj {p a b : Str} (h : p ++ a = p ++ b) : a = b := by
  refine str_ext ?_
  have := congrArg (fun s : Str => s.cps.toList) h
  simp only [app_cps] at this
  exact List.append_cancel_left this
abbrev d1 : Str := "1."
abbrev d2 : Str := "2."
theorem d_ne (a b : Str) : d1 ++ a ≠ d2 ++ b := fun h => by
  have h1 := congrArg (fun s : Str => s.cps.toList.take 1) h
  simp only [app_cps] at h1
  have e1 : d1.cps.toList = [49, 46] := by decide +kernel
  have e2 : d2.cps.toList = [50, 46] := by decide +kernel
  rw [e1, e2] at h1
  simp at h1
theorem dot1 : ((PySem.Str.ofString "1") ++ (PySem.Str.ofString ".") : Str) = d1 := by decide +kernel
theorem dot2 : ((PySem.Str.ofString "2") ++ (PySem.Str.ofString ".") : Str) = d2 := by decide +kernel
def dR (p : Str) (r : Row) : Row := (r.1, r.2.map fun z => (z.1, p ++ z.2))
def dB (p : Str) (bk : Book) : Book := bk.map fun q => (p ++ q.1, dR p q.2)
theorem dR_keys (p : Str) (r : Row) : (dR p r).2.map (·.1) = r.2.map (·.1) := by unfold dR; rw [List.map_map]; rfl
theorem dB_keys (p : Str) (bk : Book) : (dB p bk).map (·.1) = (bk.map (·.1)).map fun y => p ++ y := by unfold dB; rw [List.map_map, List.map_map]; rfl
theorem nd_pre {l : List Str} (p : Str) (nd : l.Nodup) : (l.map fun y => p ++ y).Nodup := by
  unfold List.Nodup at nd ⊢
  rw [List.pairwise_map]
  exact nd.imp fun q z => q (app_inj z)
/-- the first book's rows, those of S already put behind -/
def dcR (r2 : Row) (S : List Str) (p : Str × Row) : Row := if p.1 ∈ S ∧ p.2.1 = ("done" : Str) then r2 else dR d1 p.2
def dcur (bk1 : Book) (r2 : Row) (S : List Str) : Book := bk1.map fun p => (d1 ++ p.1, dcR r2 S p)
theorem dcur_nil (bk1 : Book) (r2 : Row) : dcur bk1 r2 [] = dB d1 bk1 := by
  unfold dcur dB
  refine List.map_congr_left fun p _ => ?_
  unfold dcR
  rw [if_neg (fun z => by cases z.1)]
theorem dcur_keys (bk1 : Book) (r2 : Row) (S : List Str) : (dcur bk1 r2 S).map (·.1) = (bk1.map (·.1)).map fun y => d1 ++ y := by unfold dcur; rw [List.map_map, List.map_map]; rfl
theorem dcR_eq {r2 : Row} {S S' : List Str} {p : Str × Row} (h : (p.1 ∈ S' ∧ p.2.1 = ("done" : Str)) ↔ (p.1 ∈ S ∧ p.2.1 = ("done" : Str))) : dcR r2 S' p = dcR r2 S p := by
  unfold dcR
  by_cases z : p.1 ∈ S ∧ p.2.1 = ("done" : Str)
  · rw [if_pos z, if_pos (h.mpr z)]
  · rw [if_neg z, if_neg (fun y => z (h.mp y))]
theorem dcur_skip {bk1 : Book} {r2 : Row} {S : List Str} (nd : (bk1.map (·.1)).Nodup) {x : Str} {r : Row} (hx : bk1.lookup x = some r) (hd : ¬ r.1 = "done") : dcur bk1 r2 (S ++ [x]) = dcur bk1 r2 S := by
  unfold dcur
  refine List.map_congr_left fun p hp => ?_
  rw [dcR_eq]
  by_cases z : p.1 = x
  · have := mem_lookup nd (show (p.1, p.2) ∈ bk1 from hp)
    rw [z, hx] at this
    cases this
    exact ⟨fun h => absurd h.2 hd, fun h => absurd h.2 hd⟩
  · simp [z]
theorem dcur_set {G : Hp} {bk1 : Book} {r2 : Row} {S : List Str} {rs : List (Str × Addr)} (h : RowsAt G rs (dcur bk1 r2 S)) (nd : (bk1.map (·.1)).Nodup) {x : Str} {r : Row} (hx : bk1.lookup x = some r) (hd : r.1 = "done") {t : Addr} (ht : RowAt G t r2) :
    RowsAt G (setR rs (d1 ++ x) t) (dcur bk1 r2 (S ++ [x])) := by
  have all : ∀ p ∈ bk1, p.1 = x → p.2.1 = "done" := fun p hp e => by
    have := mem_lookup nd (show (p.1, p.2) ∈ bk1 from hp)
    rw [e, hx] at this
    cases this; exact hd
  have gen : ∀ (l : Book), (∀ p ∈ l, p.1 = x → p.2.1 = "done") → ∀ {rs : List (Str × Addr)}, RowsAt G rs (dcur l r2 S) → RowsAt G (setR rs (d1 ++ x) t) (dcur l r2 (S ++ [x])) := by
    intro l
    induction l with
    | nil => intro _ rs h; cases h; exact .nil
    | cons p l ih =>
      intro ha rs h
      cases h with
      | @cons q _ qs _ hq hr =>
        refine .cons ?_ (ih (fun p hp => ha p (List.mem_cons_of_mem _ hp)) hr)
        obtain ⟨e, kr⟩ := hq
        show (if q.1 = d1 ++ x then (q.1, t) else q).1 = d1 ++ p.1 ∧ RowAt G (if q.1 = d1 ++ x then (q.1, t) else q).2 (dcR r2 (S ++ [x]) p)
        have e : q.1 = d1 ++ p.1 := e
        have kr : RowAt G q.2 (dcR r2 S p) := kr
        by_cases z : p.1 = x
        · unfold dcR
          rw [if_pos (by rw [e, z]), if_pos ⟨by rw [z]; simp, ha p List.mem_cons_self z⟩]
          exact ⟨e, ht⟩
        · rw [if_neg (fun y => z (app_inj (e.symm.trans y)))]
          refine ⟨e, ?_⟩
          rw [dcR_eq (S := S) (by simp [z])]
          exact kr
  exact gen bk1 all h
theorem setR_id {rs : List (Str × Addr)} {k : Str} {t : Addr} (h : k ∉ rs.map (·.1)) : setR rs k t = rs := by
  unfold setR
  refine (List.map_congr_left fun p hp => ?_).trans (List.map_id _)
  show (if p.1 = k then (p.1, t) else p) = p
  rw [if_neg fun z => h (List.mem_map.mpr ⟨p, hp, z⟩)]
theorem setR_app (rs qs : List (Str × Addr)) (k : Str) (t : Addr) : setR (rs ++ qs) k t = setR rs k t ++ setR qs k t := by unfold setR; rw [List.map_append]
/-- the whole -/
def djn (bk1 bk2 : Book) (r2 : Row) : Book := dcur bk1 (dR d2 r2) (bk1.map (·.1)) ++ dB d2 bk2
theorem lookup_pre {f : Str × Row → Row} (p : Str) (bk : Book) (y : Str) : (bk.map fun q => (p ++ q.1, f q)).lookup (p ++ y) = (bk.lookup y).map fun r => f (y, r) := by
  induction bk with
  | nil => rfl
  | cons q l ih =>
    obtain ⟨x, r⟩ := q
    show List.lookup (p ++ y) ((p ++ x, f (x, r)) :: _) = _
    rw [List.lookup_cons, List.lookup_cons, ih]
    by_cases e : y = x
    · subst e; simp
    · have b : (y == x) = false := by simpa using e
      have b2 : ((p ++ y) == (p ++ x)) = false := by simpa using fun z : p ++ y = p ++ x => e (app_inj z)
      rw [b, b2]
theorem lookup_oth {f : Str × Row → Row} (bk : Book) (p z : Str) (h : ∀ y, z ≠ p ++ y) : (bk.map fun q => (p ++ q.1, f q)).lookup z = none := by
  rw [lookup_none, List.map_map]
  intro m
  obtain ⟨q, _, e⟩ := List.mem_map.mp m
  exact h q.1 e.symm
theorem djn_one {bk1 bk2 : Book} {r2 : Row} {y : Str} {r : Row} (h : bk1.lookup y = some r) : (djn bk1 bk2 r2).lookup (d1 ++ y) = some (if r.1 = "done" then dR d2 r2 else dR d1 r) := by
  unfold djn dcur
  rw [lookup_app, lookup_pre, h]
  have m : y ∈ bk1.map (·.1) := List.mem_map.mpr ⟨_, lookup_mem h, rfl⟩
  show (some (dcR (dR d2 r2) (bk1.map (·.1)) (y, r))).or _ = _
  unfold dcR
  by_cases e : r.1 = "done"
  · rw [if_pos ⟨m, e⟩, if_pos e]; rfl
  · rw [if_neg (fun z => e z.2), if_neg e]; rfl
theorem djn_two {bk1 bk2 : Book} {r2 : Row} {y : Str} {r : Row} (h : bk2.lookup y = some r) : (djn bk1 bk2 r2).lookup (d2 ++ y) = some (dR d2 r) := by
  unfold djn dcur
  rw [lookup_app, lookup_oth bk1 d1 (d2 ++ y) (fun z e => d_ne z y e.symm)]
  unfold dB
  rw [lookup_pre, h]
  rfl
theorem okS_app {a b : Str} (h1 : okS a) (h2 : okS b) : okS (a ++ b) := by
  have h1' : PyData.strOk a = true := h1
  have h2' : PyData.strOk b = true := h2
  show PyData.strOk (a ++ b) = true
  unfold PyData.strOk at *
  show ((a.cps ++ b.cps).all _) = true
  rw [Array.all_append, h1', h2']
  rfl
theorem dR_w {p : Str} {r : Row} (hp : okS p) (h : RowOk r) : RowW (dR p r) := by
  refine ⟨fun z hz => ?_, by rw [dR_keys]; exact h.nd, by unfold dR; rw [List.length_map]; exact h.few⟩
  obtain ⟨q, hq, rfl⟩ := List.mem_map.mp hz
  exact ⟨(h.sp q hq).1, okS_app hp (spelt_ok (h.sp q hq).2)⟩
theorem djn_w {bk1 bk2 : Book} {r2 : Row} (ok1 : BookOk bk1) (ok2 : BookOk bk2) (or2 : RowOk r2) (few : bk1.length + bk2.length ≤ 26) : BookW (djn bk1 bk2 r2) := by
  have o1 : okS d1 := by decide +kernel
  have o2 : okS d2 := by decide +kernel
  refine ⟨fun p hp => ?_, fun p hp => ?_, ?_⟩
  · rcases List.mem_append.mp hp with h | h
    · obtain ⟨q, hq, rfl⟩ := List.mem_map.mp h
      show RowW (dcR (dR d2 r2) (bk1.map (·.1)) q)
      unfold dcR
      split
      · exact dR_w o2 or2
      · exact dR_w o1 (ok1.row q hq)
    · obtain ⟨q, hq, rfl⟩ := List.mem_map.mp h
      exact dR_w o2 (ok2.row q hq)
  · rcases List.mem_append.mp hp with h | h
    · obtain ⟨q, hq, rfl⟩ := List.mem_map.mp h
      exact okS_app o1 (spelt_ok (ok1.sp q hq))
    · obtain ⟨q, hq, rfl⟩ := List.mem_map.mp h
      exact okS_app o2 (spelt_ok (ok2.sp q hq))
  · unfold djn dcur dB
    rw [List.length_append, List.length_map, List.length_map]; exact few
/-- it goes like the package's -/
theorem djn_bis {bk1 bk2 : Book} {s2 : Str} {r2 : Row} (ok1 : BookOk bk1) (ok2 : BookOk bk2) (h2 : bk2.lookup s2 = some r2) :
    Bis (djn bk1 bk2 r2) (jn bk1 bk2 r2) (fun a k => (∃ y, y ∈ bk1.map (·.1) ∧ a = d1 ++ y ∧ k = kF y) ∨ ∃ y, y ∈ bk2.map (·.1) ∧ a = d2 ++ y ∧ k = kS y) := by
  have two : ∀ q, (∃ y, (y, q) ∈ bk2) → ∀ w, OptR (fun (a : Str) (k : Kk) => (∃ y, y ∈ bk1.map (·.1) ∧ a = d1 ++ y ∧ k = kF y) ∨ ∃ y, y ∈ bk2.map (·.1) ∧ a = d2 ++ y ∧ k = kS y) ((dR d2 q).2.lookup w) ((mkR "second" q).2.lookup w) := fun q ⟨y, hy⟩ w => by
    rw [mkR_at]
    show OptR _ ((q.2.map fun z => (z.1, d2 ++ z.2)).lookup w) _
    rw [lookup_map]
    cases e : q.2.lookup w with
    | none => trivial
    | some g => exact .inr ⟨g, ok2.cl _ hy (w, g) (lookup_mem e), rfl, rfl⟩
  rintro a k (⟨y, hy, rfl, rfl⟩ | ⟨y, hy, rfl, rfl⟩)
  · obtain ⟨r, hr, hm⟩ := ok1.get hy
    have e1 := djn_one (bk2 := bk2) (r2 := r2) hr
    have e2 := jn_first bk1 bk2 r2 y
    rw [hr] at e2
    by_cases e : r.1 = "done"
    · refine ⟨dR d2 r2, mkR "second" r2, by rw [e1, if_pos e], ?_, rfl, two r2 ⟨s2, lookup_mem h2⟩⟩
      rw [e2]
      show some (jnR r2 r) = _
      unfold jnR
      rw [if_pos e]
    · refine ⟨dR d1 r, mkR "first" r, by rw [e1, if_neg e], ?_, rfl, fun w => ?_⟩
      · rw [e2]
        show some (jnR r2 r) = _
        unfold jnR
        rw [if_neg e]
      · rw [mkR_at]
        show OptR _ ((r.2.map fun z => (z.1, d1 ++ z.2)).lookup w) _
        rw [lookup_map]
        cases e : r.2.lookup w with
        | none => trivial
        | some g => exact .inl ⟨g, ok1.cl _ hm (w, g) (lookup_mem e), rfl, rfl⟩
  · obtain ⟨r, hr, hm⟩ := ok2.get hy
    exact ⟨dR d2 r, mkR "second" r, djn_two hr, by rw [jn_second, hr]; rfl, rfl, two r ⟨y, hm⟩⟩
end K69
set_option Elab.async false
set_option linter.all false
set_option maxRecDepth 100000
set_option maxHeartbeats 8000000
namespace K69
open PySem PySem.Spec PyProof.Rows L2
theorem str_app_len (a b : Str) : (a ++ b).length = a.length + b.length := by
  show (a.cps ++ b.cps).size = _
  simp [Array.size_append]
  rfl
theorem mergeK_kvS {ts : Turns} (nd : (ts.map (·.1)).Nodup) : mergeK [] (kvS ts) = kvS ts := by
  rw [mergeK_nd]
  · rfl
  · rw [List.nil_append, kvS_keys]; exact nodup_inr.mpr nd
section
variable {P : Program} {w : World} {K : PySem.W.Frag} {mg : Str → Option Value} {base : Heap} {C : Addr}
local macro_rules | `(tactic| walk_at "lk") => `(tactic| first | assumption | exact upd_same | exact (by assumption : Ex _ _) _ _ (by assumption))
local macro_rules | `(tactic| walk_at "g1") => `(tactic| first
  | with_reducible refine g_seq ?_ | with_reducible refine g_asg ?_ | with_reducible refine g_name ?_ | with_reducible refine g_cons ?_ | with_reducible refine g_nil ?_
  | ((with_reducible refine' g_var ?e ?_); (case e => exact rfl)) | with_reducible refine g_C ?_ | with_reducible refine g_op ?_ | with_reducible refine g_fld0 ?_ | with_reducible refine g_dget ?_ | with_reducible refine g_cb ?_ | with_reducible refine g_call ?_
  | with_reducible refine g_ret ?_ | with_reducible refine g_ifS ?_ | with_reducible refine g_test ?_ | with_reducible refine g_B ?_ | with_reducible refine g_bl ?_ | with_reducible refine g_not ?_ | with_reducible refine g_or ?_ | with_reducible refine g_and ?_
  | with_reducible refine g_ite ?_ | with_reducible refine g_itf ?_ | with_reducible refine g_itnt ?_ | with_reducible refine g_itnf ?_ | with_reducible refine g_eqS ?_ | with_reducible refine g_neS ?_ | with_reducible refine g_neI ?_ | with_reducible refine g_eqB ?_ | with_reducible refine g_neB ?_ | with_reducible refine g_eqI ?_ | with_reducible refine g_rI0 ?_ | with_reducible refine g_ipI ?_ | with_reducible refine g_int ?_
  | with_reducible refine g_drop ?_ | with_reducible refine g_next ?_ | with_reducible refine g_bm ?_ | with_reducible refine g_bm0 ?_ | with_reducible refine g_din ?_ | with_reducible refine g_dnotin ?_ | with_reducible refine g_dput ?_ | ((with_reducible refine' g_aug ?e ?_); (case e => exact rfl))
  | with_reducible refine g_andV ?_ | with_reducible refine g_orV ?_ | with_reducible refine g_notV ?_ | with_reducible refine g_if ?_ | with_reducible refine g_isN ?_ | with_reducible refine g_notN ?_ | with_reducible refine g_sl ?_ | with_reducible refine g_nopart ?_ | with_reducible refine g_part ?_
  | with_reducible refine g_gcons ?_ | with_reducible refine g_gnil ?_ | with_reducible refine g_par2 ?_ | with_reducible refine g_par3 ?_ | with_reducible refine g_vw ?_ | with_reducible refine g_uvw ?_ | with_reducible refine g_yes ?_ | with_reducible refine g_un ?_ | with_reducible refine g_rU ?_ | with_reducible refine g_gsub ?_ | with_reducible refine g_chain ?_ | with_reducible refine g_for ?_ | with_reducible refine g_istr ?_ | with_reducible refine g_ilist ?_ | with_reducible refine g_itup ?_ | with_reducible refine g_ikeys ?_ | with_reducible refine g_ivals ?_ | with_reducible refine g_iitems ?_ | with_reducible refine g_irng1 ?_ | with_reducible refine g_izip ?_ | with_reducible refine g_while ?_ | with_reducible refine g_tru _ ?_ | with_reducible refine g_lc ?_ | with_reducible refine g_dc ?_ | with_reducible refine g_lc2 ?_ | with_reducible refine g_tup ?_ | with_reducible refine g_lst ?_ | with_reducible refine g_dnew ?_ | with_reducible refine g_sfld ?_ | with_reducible refine g_dget2 ?_ | with_reducible refine g_dzip ?_ | with_reducible refine g_dnewT ?_ | with_reducible refine g_dispT ?_ | with_reducible refine g_star ?_ | with_reducible refine g_disp ?_ | with_reducible refine g_prs ?_ | with_reducible refine g_prs0 ?_ | with_reducible refine g_sc ?_ | with_reducible refine g_make ?_ | with_reducible refine g_meth ?_
  | ((with_reducible refine' g_ixT ?h ?e ?_); (case h => walk_at "lk"); (case e => exact rfl)) | ((with_reducible refine' g_ixL ?h ?e ?_); (case h => walk_at "lk"); (case e => exact rfl))
  | ((with_reducible refine' g_fldK ?h ?c ?n ?l ?_); (case h => walk_at "lk"); (case c => exact C8.InsC.cl (Txt.insC (by assumption))); (case n => first | exact Txt.nR (by assumption) | exact Txt.nF (by assumption)); (case l => exact rfl)))
local macro_rules | `(tactic| walk_at "go") => `(tactic| (repeat walk_at "g1"))
local macro_rules | `(tactic| walk_at "ty") => `(tactic| first | exact .base (.str _) | exact .base .non | exact .base (.bl _) | exact .base (.int _) | exact .base (.tup (by assumption)) | exact .base (.lst (by assumption)) | exact .base (.dK (by assumption)) | exact .fDict (by assumption))
abbrev sl_marked : Stmt := topS 50
abbrev Nl_marked : List Str := ["_law_mark", "_law_world_here", "_law_book", "_law_state", "_law_kind", "_law_turns_here", "_law_word_here"]
theorem scl_marked : FnScope Nl_marked ["_law_mark", "_law_world_here"] (defScope sl_marked) := ⟨rfl, rfl, rfl, by decide +kernel, rfl, by decide +kernel, by decide +kernel⟩
def sp_l_marked : Sp := fun vs H Q _ => ∃ (a : Addr) (m : Str) (bk : Book) (s : Str) (G : Hp), vs = [.str m, .ref a] ∧ m.length ≤ 8 ∧ Ex G H ∧ WorldAt G a bk s ∧ BookOk bk ∧
  ∀ p G' H' rs, Nxt none G H G' H' → G' p = none → H' p = some (.dK (kvR rs)) → RowsAt G' rs (dB (m ++ PySem.Str.ofString ".") bk) → H p = none → Q (.ref p) H'
theorem cal_l_marked (F : Has K mg "_law_marked" sl_marked) (T : Txt K w mg C) : Cal P w K mg base 1 "_law_marked" sp_l_marked := by
  refine F.cal (fun _ _ _ _ _ _ us hl => match us, hl with | [_, _], _ => rfl) scl_marked (fun vs H Q E h => ?_) (fun f cdv A outer s H vs Q E hr h => ?_)
  · obtain ⟨_, _, _, _, _, rfl, _⟩ := h; rfl
  · obtain ⟨a, m, bk, s, G, rfl, hm8, eG, ⟨b, hag, rs, hbg, hrs⟩, ok, k⟩ := h
    have nd := scl_marked.nd
    have hu := hu_of hr
    refine ⟨_, (pss_cons (ps_set (i := 2) nd rfl (Or.inl rfl) pe_dnewK)
  (pss_cons (ps_lock (ps_for PassesOwn.never rfl (pi_keys (pe_ix (kIxL K) (pv 1) pe_int (fun _ _ => rfl))) (pg_name (i := 3) nd rfl (Or.inl rfl))
    (pss_cons (ps_asg (pe_dget hu (pe_ix (kIxL K) (pv 1) pe_int (fun _ _ => rfl)) (pv 3) (fun _ _ => rfl)) (kgTup K (n := 2) rfl (pgs_cons (pg_name (i := 4) nd rfl (Or.inl rfl)) (pgs_cons (pg_name (i := 5) nd rfl (Or.inr rfl)) pgs_nil))))
    (pss_one (ps_dput hu (pv 2) (pe_op op_add_str (pe_op op_add_str (pv 0) pe_str) (pv 3)) (pe_tup (pa_cons (pv 4) (pa_cons (pe_callTy (kDictP K rfl) (by rfl) T.tdict (by decide +kernel) (pa_cons (pe_lock (pe_lc (own := [("_law_word_here", 6)]) rfl nd (pi_keys (pv 5)) (blkOk_by (N := Nl_marked) (sc := defScope sl_marked) (by decide +kernel)) (fun _ _ _ _ _ => (pg_name (i := 6) nd rfl (Or.inl rfl))) (fun _ _ _ _ _ => pts_nil) (fun _ _ _ _ _ => (pe_tup (pa_cons (pv 6) (pa_cons (pe_op op_add_str (pe_op op_add_str (pv 0) pe_str) (pe_dget hu (pv 5) (pv 6) (fun _ _ => rfl))) pa_nil)))))) pa_nil)) pa_nil))) rfl)))))
  (pss_one (ps_ret (pv 2))))), ?_⟩
    have ha := eG _ _ hag
    have hb := eG _ _ hbg
    have few := ok.few
    have dlen : (PySem.Str.ofString ".").length = 1 := by decide +kernel
    have ne : rs ≠ [] := fun z => ok.ne (by have := hrs.len; rw [z] at this; exact List.eq_nil_of_length_eq_zero this.symm)
    walk_at "go"
    intro p hp
    have npb : p ≠ b := fun z => by subst z; rw [hb] at hp; cases hp
    have nab : a ≠ b := ne_of ha hb (by intro z; cases z)
    have N1 : Nxt none G H G (upd H p (.dK [])) := (Nxt.refl eG).own hp hp
    have hp1 : (upd H p (.dK [])) p = some (.dK (kvR [])) := upd_same
    generalize upd H p (.dK []) = H1 at N1 hp1 ⊢
    have hb1 := N1.ex _ _ hb
    have ha1 := N1.ex _ _ ha
    walk_at "go"
    refine ⟨b, _, hb1, trivial, fun od => ?_⟩
    have haL : (upd H1 b (.frz od (.dK (kvR rs)))) a = some (.lst [.ref b, .str s]) := by rw [upd_ne nab]; exact ha1
    walk_at "go"
    refine ⟨b, od, rfl, .inl ⟨kvR rs, upd_same, ?_⟩⟩
    clear haL
    refine for_it walk_keys (fun i σ' H' => ∃ (ks : List (Str × Addr)) (Gi Hu : Hp) (x3 x4 x5 : Option V), σ' = [some (.str m), some (.ref a), some (.ref p), x3, x4, x5, none] ∧ H' = upd Hu b (.frz od (.dK (kvR rs))) ∧ Hu b = some (.dK (kvR rs)) ∧ Nxt none G H Gi Hu ∧ Gi p = none ∧ Hu p = some (.dK (kvR ks)) ∧ RowsAt Gi ks ((dB (m ++ PySem.Str.ofString ".") bk).take i))
      ⟨[], G, H1, none, none, none, rfl, rfl, hb1, N1, eG.back hp, hp1, .nil⟩ ?_ ?_ ?_
    · rintro i σ' H' _ ⟨ks, Gi, Hu, x3, x4, x5, rfl, rfl, hub, _⟩
      exact upd_same
    · rintro i y σ' H' H'' hi ⟨ks, Gi, Hu, x3, x4, x5, rfl, rfl, hub, Ni, gpi, hpu, pk⟩ ⟨rfl, k1, v1, hk, rfl⟩
      obtain ⟨⟨x, c⟩, hx, rfl, rfl⟩ := kvR_get hk
      obtain ⟨⟨x', r⟩, hbx, ex, _⟩ := hrs.at hx
      cases ex
      have mem := List.mem_of_getElem? hbx
      have okr : RowOk r := ok.row _ mem
      have rfew := okr.few
      have L := Lk.mk' (od := od) Ni.gh hub
      have eGu := Ni.gg.trans Ni.gh
      have rL := L.rows hub (hrs.mono eGu) ne
      obtain ⟨c', hv, d, hcL, hdL⟩ := RowsAt.get rL (mem_lookup ok.nd mem)
      have hpL := L.keep p _ npb hpu
      have haL := L.keep a _ nab (eGu _ _ hag)
      have hbL := L.self
      generalize hHL : upd Hu b (.frz od (.dK (kvR rs))) = HL at L hcL hdL hpL haL hbL ⊢
      walk_at "go"
      refine g_dgs (s := x) (.inr ⟨od, hbL⟩) hv ?_
      refine g_gtup (SqT.of hcL) rfl ?_
      walk_at "go"
      refine ⟨d, _, hdL, trivial, fun od2 => ?_⟩
      have L2 := Lk.mk' (od := od2) L.ex hdL
      generalize upd HL d (.frz od2 (.dK (kvS r.2))) = HM at L2 ⊢
      walk_at "go"
      refine ⟨d, od2, rfl, .inl ⟨kvS r.2, L2.self, fun D hD => ?_⟩⟩
      refine lc_gen walk_keys L2.ex hD (by simp only [kvS, List.length_map]; exact small1000 (by omega)) (fun i2 acc Gj => ∃ ps : List Addr, acc = ps.map V.ref ∧ Paired (fun p (q : Str × Str) => Gj p = some (.tup [.str q.1, .str q.2])) ps ((dR (m ++ PySem.Str.ofString ".") r).2.take i2)) ⟨[], rfl, .nil⟩ (fun H' e => e _ _ L2.self) ?_ ?_
      · rintro i2 y G3 H3 H4 acc Kt Kf hi2 N g0 hh hl' ⟨ps, rfl, pp⟩ ⟨rfl, k1, v1, hk, rfl⟩ ht hf
        obtain ⟨q, hq, rfl, rfl⟩ := kvS_get hk
        have hq2 : (dR (m ++ PySem.Str.ofString ".") r).2[i2]? = some (q.1, (m ++ PySem.Str.ofString ".") ++ q.2) := by unfold dR; rw [List.getElem?_map, hq]; rfl
        have l2 := spelt_len (okr.sp q (List.mem_of_getElem? hq)).2
        walk_at "go"
        refine ⟨rfl, ?_⟩
        walk_at "go"
        refine ⟨m, PySem.Str.ofString ".", rfl, rfl, by rw [sizeLine_eq]; omega, ?_⟩
        walk_at "go"
        refine g_dgs (s := q.1) (.inr ⟨od2, N.ex _ _ L2.self⟩) (by rw [valV_kvS, mem_lookup okr.nd (List.mem_of_getElem? hq)]; rfl) ?_
        refine ⟨_, _, rfl, rfl, by rw [str_app_len, sizeLine_eq]; omega, ?_⟩
        walk_at "go"
        refine ⟨by show 2 ≤ sizeLine; decide, fun q2 hq2' => ?_⟩
        have N5 := Nxt.new1 (o := .tup [kV (Sum.inr q.1), .str ((m ++ PySem.Str.ofString ".") ++ q.2)]) N.gh hq2'
        refine ht (.ref q2) _ _ N5 ⟨ps ++ [q2], by rw [List.map_append]; rfl, ?_⟩
        rw [take_snoc hq2]
        exact Paired.snoc (Paired.mapP pp fun a b e => N5.gg _ _ e) upd_same
      · rintro G3 H3 acc N g0 hh hl' ⟨ps, rfl, pp⟩
        rw [List.take_of_length_le (by simp [kvS, dR])] at pp
        obtain ⟨G4, N4, hd3, e34, _, g34⟩ := L2.back _ _ (N.frz g0 hh hD)
        refine ⟨hd3, ?_⟩
        have nDd : D ≠ d := (L2.fresh D hD).2
        have hD4 : (upd H3 d (.dK (kvS r.2))) D = some (.lst (ps.map V.ref)) := by rw [upd_ne nDd]; exact hh
        have pp4 : Paired (fun p (q : Str × Str) => G4 p = some (.tup [.str q.1, .str q.2])) ps (dR (m ++ PySem.Str.ofString ".") r).2 := Paired.mapP pp fun a b e => e34 _ _ ((Ex.new g0) _ _ e)
        generalize upd H3 d (.dK (kvS r.2)) = H4 at N4 hD4 ⊢
        have pk4 : Paired (fun p (kv : Key × V) => SqT K H4 p [kV kv.1, kv.2]) ps (kvS (dR (m ++ PySem.Str.ofString ".") r).2) := by
          have gen : ∀ {ps : List Addr} {ts : Turns}, Paired (fun p (q : Str × Str) => G4 p = some (.tup [.str q.1, .str q.2])) ps ts → Paired (fun p (kv : Key × V) => SqT K H4 p [kV kv.1, kv.2]) ps (kvS ts) := by
            intro ps ts h
            induction h with
            | nil => exact .nil
            | cons e _ ih => exact .cons (SqT.of (N4.gh _ _ e)) ih
          exact gen pp4
        walk_at "go"
        refine ⟨D, ps, kvS (dR (m ++ PySem.Str.ofString ".") r).2, rfl, SqL.of hD4, pk4, fun dn hdn => ?_⟩
        rw [mergeK_kvS (by rw [dR_keys]; exact okr.nd)]
        have N5 := N4.new (o := .dK (kvS (dR (m ++ PySem.Str.ofString ".") r).2)) hdn (N4.none0 hdn)
        have gdn : (upd G4 dn (.dK (kvS (dR (m ++ PySem.Str.ofString ".") r).2))) dn = some (.dK (kvS (dR (m ++ PySem.Str.ofString ".") r).2)) := upd_same
        generalize upd G4 dn (.dK (kvS (dR (m ++ PySem.Str.ofString ".") r).2)) = G5 at N5 gdn
        generalize upd H4 dn (.dK (kvS (dR (m ++ PySem.Str.ofString ".") r).2)) = H5 at N5 ⊢
        walk_at "go"
        refine ⟨by show 2 ≤ sizeLine; decide, fun t ht => ?_⟩
        have ex6 : Ex G5 (upd G5 t (.tup [.str r.1, .ref dn])) := Ex.new (N5.gh.back ht)
        have kr : RowAt (upd G5 t (.tup [.str r.1, .ref dn])) t (dR (m ++ PySem.Str.ofString ".") r) := ⟨dn, upd_same, ex6 _ _ gdn⟩
        have N6 := N5.new (o := .tup [.str r.1, .ref dn]) ht (N5.none0 ht)
        generalize upd G5 t (.tup [.str r.1, .ref dn]) = G6 at kr N6
        generalize upd H5 t (.tup [.str r.1, .ref dn]) = H6 at N6 ⊢
        have lx := spelt_len (ok.sp _ mem)
        walk_at "go"
        refine ⟨m, PySem.Str.ofString ".", rfl, rfl, by rw [sizeLine_eq]; omega, ?_⟩
        walk_at "go"
        refine ⟨_, x, rfl, rfl, by rw [str_app_len, sizeLine_eq]; have : x.length ≤ 1000 := lx; omega, ?_⟩
        have hp6 := N6.ex _ _ hpL
        have klen : ks.length ≤ 26 := by
          have e := congrArg List.length pk.keys
          have e2 : (dB (m ++ PySem.Str.ofString ".") bk).length = bk.length := by unfold dB; rw [List.length_map]
          simp only [List.length_map, List.length_take] at e
          omega
        refine ⟨p, _, rfl, DPut.s hp6 (by unfold kvR; rw [List.length_map]; exact small1000 (by omega)), ?_⟩
        have hbx2 : (dB (m ++ PySem.Str.ofString ".") bk)[i]? = some ((m ++ PySem.Str.ofString ".") ++ x, dR (m ++ PySem.Str.ofString ".") r) := by unfold dB; rw [List.getElem?_map, hbx]; rfl
        have nin : ((m ++ PySem.Str.ofString ".") ++ x) ∉ ks.map (·.1) := by
          rw [pk.keys]
          exact take_nd (by rw [dB_keys]; exact nd_pre _ ok.nd) hbx2
        have eput : putK (kvR ks) (Sum.inr ((m ++ PySem.Str.ofString ".") ++ x) : Key) (.ref t) = kvR (ks ++ [((m ++ PySem.Str.ofString ".") ++ x, t)]) := putK_kvG V.ref nin
        rw [eput]
        obtain ⟨G8, N8, hb7, e58, _, _⟩ := L.back _ _ N6
        have gp8 : G8 p = none := (N8.fr p _ hpu).trans gpi
        refine ⟨ks ++ [((m ++ PySem.Str.ofString ".") ++ x, t)], G8, upd (upd H6 b (.dK (kvR rs))) p (.dK (kvR (ks ++ [((m ++ PySem.Str.ofString ".") ++ x, t)]))), _, _, _, rfl, ?_, ?_, (Ni.trans N8).mut gp8 hp, gp8, upd_same, ?_⟩
        · rw [upd_sw npb, upd_upd, upd_id hb7]
        · rw [upd_ne (Ne.symm npb), upd_same]
        · rw [take_snoc hbx2]
          exact RowsAt.snoc (RowsAt.mono pk N8.gg) (kr.mono e58)
    · rintro σ' H' ⟨ks, Gi, Hu, x3, x4, x5, rfl, rfl, hub, Ni, gpi, hpu, pk⟩
      rw [List.take_of_length_le (by simp [kvR, dB, hrs.len])] at pk
      refine ⟨upd_same, ?_⟩
      rw [upd_un hub]
      walk_at "go"
      exact k p Gi Hu ks Ni gpi hpu pk hp
end
end K69
set_option Elab.async false
set_option linter.all false
set_option maxRecDepth 100000
set_option maxHeartbeats 8000000
namespace K69
open PySem PySem.Spec PyProof.Rows L2
section
variable {P : Program} {w : World} {K : PySem.W.Frag} {mg : Str → Option Value} {base : Heap} {C : Addr}
local macro_rules | `(tactic| walk_at "lk") => `(tactic| first | assumption | exact upd_same | exact (by assumption : Ex _ _) _ _ (by assumption))
local macro_rules | `(tactic| walk_at "g1") => `(tactic| first
  | with_reducible refine g_seq ?_ | with_reducible refine g_asg ?_ | with_reducible refine g_name ?_ | with_reducible refine g_cons ?_ | with_reducible refine g_nil ?_
  | ((with_reducible refine' g_var ?e ?_); (case e => exact rfl)) | with_reducible refine g_C ?_ | with_reducible refine g_op ?_ | with_reducible refine g_fld0 ?_ | with_reducible refine g_dget ?_ | with_reducible refine g_cb ?_ | with_reducible refine g_call ?_
  | with_reducible refine g_ret ?_ | with_reducible refine g_ifS ?_ | with_reducible refine g_test ?_ | with_reducible refine g_B ?_ | with_reducible refine g_bl ?_ | with_reducible refine g_not ?_ | with_reducible refine g_or ?_ | with_reducible refine g_and ?_
  | with_reducible refine g_ite ?_ | with_reducible refine g_itf ?_ | with_reducible refine g_itnt ?_ | with_reducible refine g_itnf ?_ | with_reducible refine g_eqS ?_ | with_reducible refine g_neS ?_ | with_reducible refine g_neI ?_ | with_reducible refine g_eqB ?_ | with_reducible refine g_neB ?_ | with_reducible refine g_eqI ?_ | with_reducible refine g_rI0 ?_ | with_reducible refine g_ipI ?_ | with_reducible refine g_int ?_
  | with_reducible refine g_drop ?_ | with_reducible refine g_next ?_ | with_reducible refine g_bm ?_ | with_reducible refine g_bm0 ?_ | with_reducible refine g_din ?_ | with_reducible refine g_dnotin ?_ | with_reducible refine g_dput ?_ | ((with_reducible refine' g_aug ?e ?_); (case e => exact rfl))
  | with_reducible refine g_andV ?_ | with_reducible refine g_orV ?_ | with_reducible refine g_notV ?_ | with_reducible refine g_if ?_ | with_reducible refine g_isN ?_ | with_reducible refine g_notN ?_ | with_reducible refine g_sl ?_ | with_reducible refine g_nopart ?_ | with_reducible refine g_part ?_
  | with_reducible refine g_gcons ?_ | with_reducible refine g_gnil ?_ | with_reducible refine g_par2 ?_ | with_reducible refine g_par3 ?_ | with_reducible refine g_vw ?_ | with_reducible refine g_uvw ?_ | with_reducible refine g_yes ?_ | with_reducible refine g_un ?_ | with_reducible refine g_rU ?_ | with_reducible refine g_gsub ?_ | with_reducible refine g_chain ?_ | with_reducible refine g_for ?_ | with_reducible refine g_istr ?_ | with_reducible refine g_ilist ?_ | with_reducible refine g_itup ?_ | with_reducible refine g_ikeys ?_ | with_reducible refine g_ivals ?_ | with_reducible refine g_iitems ?_ | with_reducible refine g_irng1 ?_ | with_reducible refine g_izip ?_ | with_reducible refine g_while ?_ | with_reducible refine g_tru _ ?_ | with_reducible refine g_lc ?_ | with_reducible refine g_dc ?_ | with_reducible refine g_lc2 ?_ | with_reducible refine g_tup ?_ | with_reducible refine g_lst ?_ | with_reducible refine g_dnew ?_ | with_reducible refine g_sfld ?_ | with_reducible refine g_dget2 ?_ | with_reducible refine g_dzip ?_ | with_reducible refine g_dnewT ?_ | with_reducible refine g_dispT ?_ | with_reducible refine g_star ?_ | with_reducible refine g_disp ?_ | with_reducible refine g_prs ?_ | with_reducible refine g_prs0 ?_ | with_reducible refine g_sc ?_ | with_reducible refine g_make ?_ | with_reducible refine g_meth ?_
  | ((with_reducible refine' g_ixT ?h ?e ?_); (case h => walk_at "lk"); (case e => exact rfl)) | ((with_reducible refine' g_ixL ?h ?e ?_); (case h => walk_at "lk"); (case e => exact rfl))
  | ((with_reducible refine' g_fldK ?h ?c ?n ?l ?_); (case h => walk_at "lk"); (case c => exact C8.InsC.cl (Txt.insC (by assumption))); (case n => first | exact Txt.nR (by assumption) | exact Txt.nF (by assumption)); (case l => exact rfl)))
local macro_rules | `(tactic| walk_at "go") => `(tactic| (repeat walk_at "g1"))
local macro_rules | `(tactic| walk_at "ty") => `(tactic| first | exact .base (.str _) | exact .base .non | exact .base (.bl _) | exact .base (.int _) | exact .base (.tup (by assumption)) | exact .base (.lst (by assumption)) | exact .base (.dK (by assumption)) | exact .fDict (by assumption))
abbrev sl_then : Stmt := topS 51
abbrev Nl_then : List Str := ["_law_one", "_law_two", "_law_book", "_law_start", "_law_state"]
theorem scl_then : FnScope Nl_then ["_law_one", "_law_two"] (defScope sl_then) := ⟨rfl, rfl, rfl, by decide +kernel, rfl, by decide +kernel, by decide +kernel⟩
def sp_l_then : Sp := fun vs H Q _ => ∃ (a1 a2 : Addr) (bk1 bk2 : Book) (s1 s2 : Str) (r2 : Row) (G : Hp), vs = [.ref a1, .ref a2] ∧ Ex G H ∧ WorldAt G a1 bk1 s1 ∧ WorldAt G a2 bk2 s2 ∧ BookOk bk1 ∧ BookOk bk2 ∧ s1 ∈ bk1.map (·.1) ∧ bk2.lookup s2 = some r2 ∧ bk1.length + bk2.length ≤ 26 ∧
  ∀ x G' H', Nxt none G H G' H' → WorldAt G' x (djn bk1 bk2 r2) (d1 ++ s1) → Q (.ref x) H'
theorem cal_l_then (F : Has K mg "_law_then" sl_then) (T : Txt K w mg C) (c_law_marked : Cal P w K mg base 1 "_law_marked" sp_l_marked) : Cal P w K mg base 2 "_law_then" sp_l_then := by
  refine F.cal (fun _ _ _ _ _ _ us hl => match us, hl with | [_, _], _ => rfl) scl_then (fun vs H Q E h => ?_) (fun f cdv A outer s H vs Q E hr h => ?_)
  · obtain ⟨_, _, _, _, _, _, _, _, rfl, _⟩ := h; rfl
  · obtain ⟨a1, a2, bk1, bk2, s1, s2, r2, G, rfl, eG, W1, W2, ok1, ok2, hs1, hr2, few, k⟩ := h
    have nd := scl_then.nd
    have hu := hu_of hr
    refine ⟨_, (pss_cons (ps_par (i := 2) (j := 3) rfl nd rfl rfl (by decide) rfl rfl (pa_cons (kc c_law_marked hr (pa_cons pe_str (pa_cons (pv 0) pa_nil))) (pa_cons (pe_op op_add_str pe_str (pe_ix (kIxL K) (pv 1) pe_int (fun _ _ => rfl))) pa_nil)) (by rfl))
  (pss_cons (ps_expr (kBm K PySem.F.plainAttrs_dict PySem.F.slot_dict_update PySem.F.type_dict_update (mtd_update hu) (pv 2) (pa_cons (kc c_law_marked hr (pa_cons pe_str (pa_cons (pv 1) pa_nil))) pa_nil)))
  (pss_cons (ps_lock (ps_for PassesOwn.never rfl (pi_keys (pe_ix (kIxL K) (pv 0) pe_int (fun _ _ => rfl))) (pg_name (i := 4) nd rfl (Or.inl rfl))
    (pss_one (ps_if (pt_cmpR op_eq (pe_ix (kIxT K) (pe_dget hu (pe_ix (kIxL K) (pv 0) pe_int (fun _ _ => rfl)) (pv 4) (fun _ _ => rfl)) pe_int (fun _ _ => rfl)) pe_str (nomark _))
      (pss_one (ps_dput hu (pv 2) (pe_op op_add_str pe_str (pv 4)) (pe_dget hu (pv 2) (pv 3) (fun _ _ => rfl)) rfl)) pss_nil))))
  (pss_one (ps_ret (pe_lst (pa_cons (pv 2) (pa_cons (pe_op op_add_str pe_str (pe_ix (kIxL K) (pv 0) pe_int (fun _ _ => rfl))) pa_nil)))))))), ?_⟩
    have W1' := W1
    have W2' := W2
    obtain ⟨b, hag, rs, hbg, hrs⟩ := W1'
    obtain ⟨bz, hag2, _⟩ := W2'
    have d1l : d1.length = 2 := by decide +kernel
    have d2l : d2.length = 2 := by decide +kernel
    have l1s := spelt_len (ok1.sp _ (lookup_mem (Classical.choose_spec (ok1.get hs1)).1))
    have l2s := spelt_len (ok2.sp _ (lookup_mem hr2))
    have l1s : s1.length ≤ 1000 := l1s
    have l2s : s2.length ≤ 1000 := l2s
    walk_at "go"
    refine ⟨a1, PySem.Str.ofString "1", bk1, s1, G, rfl, by decide +kernel, eG, W1, ok1, fun p G1 H1 rs1 N1 gp1 hp1 hrs1 hp0 => ?_⟩
    rw [dot1] at hrs1
    have ha2 := N1.gh _ _ (N1.gg _ _ hag2)
    walk_at "go"
    refine ⟨d2, s2, rfl, rfl, by rw [sizeLine_eq]; omega, ?_⟩
    walk_at "go"
    refine ⟨.inr (.inr (.inl ⟨rfl, .inl ⟨_, hp1⟩⟩)), ?_⟩
    walk_at "go"
    refine ⟨a2, PySem.Str.ofString "2", bk2, s2, G1, rfl, by decide +kernel, N1.gh, W2.mono N1.gg, ok2, fun p' G2 H2 rs2 N2 gp2' hp2' hrs2 hp'1 => ?_⟩
    rw [dot2] at hrs2
    have npp : p ≠ p' := ne_of_none hp1 hp'1
    obtain ⟨gp2, hp2⟩ := N2.keep gp1 hp1
    have N3 := N1.trans N2
    have k2 := hrs2.keys
    have k1 := hrs1.keys
    rw [dB_keys] at k1 k2
    have ndall : ((rs1 ++ rs2).map (·.1)).Nodup := by
      rw [List.map_append, k1, k2]
      refine List.nodup_append.mpr ⟨nd_pre _ ok1.nd, nd_pre _ ok2.nd, fun x hx y hy e => ?_⟩
      obtain ⟨u, _, rfl⟩ := List.mem_map.mp hx
      obtain ⟨v, _, rfl⟩ := List.mem_map.mp hy
      exact d_ne u v e
    have em : mergeK (kvR rs1) (kvR rs2) = kvR (rs1 ++ rs2) := by
      rw [mergeK_nd]
      · unfold kvR; rw [List.map_append]
      · have : (kvR rs1 ++ kvR rs2).map (·.1) = ((rs1 ++ rs2).map (·.1)).map Sum.inr := by unfold kvR; rw [← List.map_append, List.map_map, List.map_map]; rfl
        rw [this]
        exact nodup_inr.mpr ndall
    have l1 : rs1.length = bk1.length := by have := congrArg List.length k1; rw [List.length_map, List.length_map, List.length_map] at this; exact this
    have l2 : rs2.length = bk2.length := by have := congrArg List.length k2; rw [List.length_map, List.length_map, List.length_map] at this; exact this
    walk_at "go"
    refine ⟨p, p', rfl, rfl, npp, .inl ⟨kvR rs1, kvR rs2, hp2, hp2', ?_, ?_⟩⟩
    · unfold kvR; rw [List.length_map, List.length_map]; exact Nat.le_of_lt (small1000 (by omega))
    · rw [em]
      have N4 : Nxt none G H G2 (upd H2 p (.dK (kvR (rs1 ++ rs2)))) := N3.mut gp2 hp0
      have hp4 : (upd H2 p (.dK (kvR (rs1 ++ rs2)))) p = some (.dK (kvR (rs1 ++ rs2))) := upd_same
      generalize upd H2 p (.dK (kvR (rs1 ++ rs2))) = H4 at N4 hp4 ⊢
      have ne : rs ≠ [] := fun z => ok1.ne (by have := hrs.len; rw [z] at this; exact List.eq_nil_of_length_eq_zero this.symm)
      have eG4 := N4.gg.trans N4.gh
      have ha4 := eG4 _ _ hag
      have hb4 := eG4 _ _ hbg
      have npb : p ≠ b := fun z => by subst z; rw [N4.gg _ _ hbg] at gp2; cases gp2
      have nab : a1 ≠ b := ne_of ha4 hb4 (by intro z; cases z)
      walk_at "go"
      refine ⟨b, _, hb4, trivial, fun od => ?_⟩
      have haL0 : (upd H4 b (.frz od (.dK (kvR rs)))) a1 = some (.lst [.ref b, .str s1]) := by rw [upd_ne nab]; exact ha4
      walk_at "go"
      refine ⟨b, od, rfl, .inl ⟨kvR rs, upd_same, ?_⟩⟩
      clear haL0
      refine for_it walk_keys (fun i σ' H' => ∃ (rsA : List (Str × Addr)) (Gi Hu : Hp) (x4 : Option V), σ' = [some (.ref a1), some (.ref a2), some (.ref p), some (.str (d2 ++ s2)), x4] ∧ H' = upd Hu b (.frz od (.dK (kvR rs))) ∧ Hu b = some (.dK (kvR rs)) ∧ Nxt none G H Gi Hu ∧ Ex G2 Gi ∧ Gi p = none ∧ Hu p = some (.dK (kvR (rsA ++ rs2))) ∧ RowsAt Gi rsA (dcur bk1 (dR d2 r2) ((bk1.map (·.1)).take i)))
        ⟨rs1, G2, H4, none, rfl, rfl, hb4, N4, Ex.refl G2, gp2, hp4, by rw [List.take_zero, dcur_nil]; exact hrs1.mono N2.gg⟩ ?_ ?_ ?_
      · rintro i σ' H' _ ⟨rsA, Gi, Hu, x4, rfl, rfl, hub, _⟩
        exact upd_same
      · rintro i y σ' H5 H6 hi ⟨rsA, Gi, Hu, x4, rfl, rfl, hub, Ni, eGi, gpi, hpu, hA⟩ ⟨rfl, k1', v1', hk, rfl⟩
        obtain ⟨⟨x, c⟩, hx, rfl, rfl⟩ := kvR_get hk
        obtain ⟨⟨x', r⟩, hbx, ex, hcr⟩ := hrs.at hx
        cases ex
        have mem := List.mem_of_getElem? hbx
        have hlx := mem_lookup ok1.nd mem
        have lx : x.length ≤ 1000 := spelt_len (ok1.sp _ mem)
        have L := Lk.mk' (od := od) Ni.gh hub
        have eGu := Ni.gg.trans Ni.gh
        have haL := L.keep a1 _ nab (eGu _ _ hag)
        have hpL := L.keep p _ npb hpu
        have rL := L.rows hub (hrs.mono eGu) ne
        obtain ⟨c', hv, d, hcL, hdL⟩ := RowsAt.get rL hlx
        have hbL := L.self
        have tk : (bk1.map (·.1)).take (i + 1) = (bk1.map (·.1)).take i ++ [x] := take_snoc (by rw [List.getElem?_map, hbx]; rfl)
        walk_at "go"
        refine g_dgs (s := x) (.inr ⟨od, hbL⟩) hv ?_
        walk_at "go"
        refine ite2 (fun hdn => ?_) (fun hdn => ?_)
        · have hdn : r.1 = "done" := by simpa using hdn
          have kA : rsA.map (·.1) = (bk1.map (·.1)).map fun y => d1 ++ y := (RowsAt.keys hA).trans (dcur_keys _ _ _)
          have lA : rsA.length = bk1.length := by have := congrArg List.length kA; rw [List.length_map, List.length_map, List.length_map] at this; exact this
          -- the second book's first row
          have e2l : (dB d2 bk2).lookup (d2 ++ s2) = some (dR d2 r2) := by
            unfold dB
            rw [lookup_pre, hr2]
            rfl
          obtain ⟨t, htv, htr⟩ := RowsAt.get (hrs2.mono eGi) e2l
          have n1 : d2 ++ s2 ∉ rsA.map (·.1) := by
            rw [kA]
            intro m
            obtain ⟨u, _, e⟩ := List.mem_map.mp m
            exact d_ne u s2 e
          have etv : valV (kvR (rsA ++ rs2)) (Sum.inr (d2 ++ s2) : Key) = some (.ref t) := by
            rw [valV_kvR, lookup_app, lookup_none.mpr n1, Option.none_or, ← valV_kvR]
            exact htv
          clear haL
          generalize hHL : upd Hu b (.frz od (.dK (kvR rs))) = HL at L hpL hbL ⊢
          walk_at "go"
          refine g_dgs (s := d2 ++ s2) (.inl hpL) etv ?_
          walk_at "go"
          refine ⟨d1, x, rfl, rfl, by rw [sizeLine_eq]; omega, ?_⟩
          have mx : d1 ++ x ∈ rsA.map (·.1) := by rw [kA]; exact List.mem_map.mpr ⟨x, List.mem_map.mpr ⟨_, mem, rfl⟩, rfl⟩
          have n2 : d1 ++ x ∉ rs2.map (·.1) := by
            rw [k2]
            intro m
            obtain ⟨u, _, e⟩ := List.mem_map.mp m
            exact d_ne x u e.symm
          refine ⟨p, _, rfl, DPut.s hpL (by unfold kvR; rw [List.length_map, List.length_append]; exact small1000 (by omega)), ?_⟩
          rw [putK_kvR (by rw [List.map_append]; exact List.mem_append_left _ mx), setR_app, setR_id n2]
          refine ⟨setR rsA (d1 ++ x) t, Gi, upd (upd HL b (.dK (kvR rs))) p (.dK (kvR (setR rsA (d1 ++ x) t ++ rs2))), _, rfl, ?_, ?_, ?_, eGi, gpi, upd_same, ?_⟩
          · rw [upd_sw npb, upd_upd, upd_id hbL]
          · rw [upd_ne (Ne.symm npb), upd_same]
          · subst hHL
            rw [upd_un hub]
            exact Ni.mut gpi hp0
          · rw [tk]
            exact dcur_set hA ok1.nd hlx hdn htr
        · have hdn : ¬ r.1 = "done" := by simpa using hdn
          walk_at "go"
          refine ⟨rsA, Gi, Hu, _, rfl, rfl, hub, Ni, eGi, gpi, hpu, ?_⟩
          rw [tk, dcur_skip ok1.nd hlx hdn]
          exact hA
      · rintro σ' H5 ⟨rsA, Gi, Hu, x4, rfl, rfl, hub, Ni, eGi, gpi, hpu, hA⟩
        rw [List.take_of_length_le (by simp [kvR, hrs.len])] at hA
        refine ⟨upd_same, ?_⟩
        rw [upd_un hub]
        have N6 := Ni.frz gpi hpu hp0
        have bk6 : BookAt (upd Gi p (.dK (kvR (rsA ++ rs2)))) p (djn bk1 bk2 r2) := by
          have ex := Ex.new (o := .dK (kvR (rsA ++ rs2))) gpi
          have gen : ∀ {a b : List (Str × Addr)} {c d : Book}, RowsAt (upd Gi p (.dK (kvR (rsA ++ rs2)))) a c → RowsAt (upd Gi p (.dK (kvR (rsA ++ rs2)))) b d → RowsAt (upd Gi p (.dK (kvR (rsA ++ rs2)))) (a ++ b) (c ++ d) := by
            intro a b c d h1 h2
            induction h1 with
            | nil => exact h2
            | cons h _ ih => exact .cons h ih
          exact ⟨rsA ++ rs2, upd_same, gen (RowsAt.mono hA ex) (RowsAt.mono hrs2 (eGi.trans ex))⟩
        generalize upd Gi p (.dK (kvR (rsA ++ rs2))) = G6 at N6 bk6
        have ha6 := N6.gh _ _ (N6.gg _ _ hag)
        walk_at "go"
        refine ⟨d1, s1, rfl, rfl, by rw [sizeLine_eq]; omega, ?_⟩
        walk_at "go"
        refine ⟨by show 2 ≤ sizeLine; decide, fun x hx => ?_⟩
        exact k x _ _ (N6.new (o := .lst [.ref p, .str (d1 ++ s1)]) hx (N6.none0 hx)) ⟨p, upd_same, bk6.mono (Ex.new (N6.gh.back hx))⟩
end
end K69
set_option Elab.async false
set_option linter.all false
set_option maxRecDepth 100000
/-! A cut seen by the law: what is come to, where rows stand in another order. -/
namespace K69
open PySem PySem.Spec PyProof.Rows L2
theorem stp_nrm {wb : Book} (ok : BookOk wb) {a b : Str} : stp (nrm wb) a b ↔ stp wb a b := by
  constructor
  · rintro ⟨r, hr, m⟩
    rw [lookup_nrm ok.nd] at hr
    cases e : wb.lookup a with
    | none => rw [e] at hr; cases hr
    | some r0 =>
      rw [e] at hr
      cases hr
      obtain ⟨q, hq, rfl⟩ := List.mem_map.mp m
      exact ⟨r0, e, List.mem_map.mpr ⟨q, mem_srtK.mp hq, rfl⟩⟩
  · rintro ⟨r, hr, m⟩
    obtain ⟨q, hq, rfl⟩ := List.mem_map.mp m
    exact ⟨rowN r, by rw [lookup_nrm ok.nd, hr]; rfl, List.mem_map.mpr ⟨q, mem_srtK.mpr hq, rfl⟩⟩
theorem rch_nrm {wb : Book} (ok : BookOk wb) {bar : Option Str} {s t : Str} : Rch (nrm wb) bar s t ↔ Rch wb bar s t := by
  constructor
  · intro h
    induction h with
    | refl h => exact .refl h
    | tail _ st nb ih => exact .tail ih ((stp_nrm ok).mp st) nb
  · intro h
    induction h with
    | refl h => exact .refl h
    | tail _ st nb ih => exact .tail ih ((stp_nrm ok).mpr st) nb
theorem done_nrm {wb : Book} (ok : BookOk wb) {t : Str} : isDone (nrm wb) t ↔ isDone wb t := by
  unfold isDone
  rw [lookup_nrm ok.nd]
  cases wb.lookup t with
  | none => simp
  | some r => simp [rowN]
theorem ends_nrm {wb : Book} (ok : BookOk wb) {bar : Option Str} {s : Str} : Ends (nrm wb) bar s ↔ Ends wb bar s := by
  unfold Ends
  exact ⟨fun ⟨t, h1, h2⟩ => ⟨t, (rch_nrm ok).mp h1, (done_nrm ok).mp h2⟩, fun ⟨t, h1, h2⟩ => ⟨t, (rch_nrm ok).mpr h1, (done_nrm ok).mpr h2⟩⟩
theorem wst_nrm {wb : Book} (ok : BookOk wb) {s x : Str} : Wst (nrm wb) s x ↔ Wst wb s x := by
  unfold Wst
  rw [ends_nrm ok, rch_nrm ok, ends_nrm ok]
theorem waistsL_nrm {wb : Book} (ok : BookOk wb) {s : Str} (hs : s ∈ wb.map (·.1)) : waistsL (nrm wb) s = waistsL wb s := by
  have h := waistsL_of ok hs (waistsL_nd ok.nrm s) fun x => (waistsL_mem ok.nrm (nrm_mem.mpr hs)).trans (wst_nrm ok)
  rw [← h]
  exact (srtS_id (srtS_sorted _)).symm
theorem bis_nrm {wb : Book} (ok : BookOk wb) : Bis (nrm wb) wb (fun a b => b = a ∧ b ∈ wb.map (·.1)) := (bis_same ok fun s => .inl (lookup_nrm ok.nd s)).flip
/-- the first desk comes to all that is come to ahead of x, and to x -/
theorem rch_ck {nb ck : Book} {s x : Str} (hx : Rch nb none s x) (c : CutB nb s x ck) {y : Str} (hy : y = x ∨ Rch nb (some x) s y) : Rch ck none s y := by
  have h := (rch_done hx).mpr hy
  clear hy
  induction h with
  | refl => exact .refl (by simp)
  | tail ha st _ ih =>
    obtain ⟨ne, r, hr, m⟩ := stp_done st
    have ra := ((rch_done hx).mp ha).resolve_left ne
    exact .tail ih ⟨r, by rw [c.on _ ne ra]; exact hr, m⟩ (by simp)
theorem pathX_rch {bk : Book} {s x : Str} : ∀ {l : List Str} {a b : Str}, PathX bk x a l b → (a = x ∨ Rch bk (some x) s a) → b = x ∨ Rch bk (some x) s b
  | [], _, _, h, k => by cases h; exact k
  | w :: l, a, b, ⟨ne, r, c, h1, h2, h3⟩, k => by
    refine pathX_rch h3 ?_
    by_cases e : c = x
    · exact .inl e
    · exact .inr (.tail (k.resolve_left ne) ⟨r, h1, List.mem_map.mpr ⟨_, lookup_mem h2, rfl⟩⟩ fun z => e (Option.some.inj z).symm)
theorem rch_0 {bk : Book} {s x : Str} : s = x ∨ Rch bk (some x) s s := by
  by_cases e : s = x
  · exact .inl e
  · exact .inr (.refl fun z => e (Option.some.inj z).symm)
/-- what the law asks of the first desk, behind each talk -/
theorem firsts_of {wb ck tb : Book} {s x : Str} (ok : BookOk wb) (W : Wst wb s x) (c : CutB (nrm wb) s x ck) (ht : ∀ y, Rch ck none s y → tb.lookup y = ck.lookup y) (hs : s ∈ wb.map (·.1)) :
    ∀ l b, PathX wb x s l b → (b = x → ∃ r, tb.lookup b = some r ∧ r.1 = "done") ∧ (b ≠ x → ∃ r r', wb.lookup b = some r ∧ tb.lookup b = some r' ∧ (¬ r'.1 = "done") ∧ RowW r ∧ ∀ w, r.2.lookup w = r'.2.lookup w) := by
  intro l b hp
  have hb := pathX_rch (s := s) hp rch_0
  have hb' : b = x ∨ Rch (nrm wb) (some x) s b := hb.imp id (rch_nrm ok).mpr
  have e := ht b (rch_ck ((rch_nrm ok).mpr W.2.1) c hb')
  refine ⟨fun z => ?_, fun z => ?_⟩
  · subst z
    exact ⟨doneR, by rw [e, c.at_], rfl⟩
  · have rb := hb.resolve_left z
    obtain ⟨r, hr, hm⟩ := ok.get (rb.key ok hs)
    have okr : RowOk r := ok.row _ hm
    refine ⟨r, rowN r, hr, ?_, fun hd => W.2.2 ⟨b, rb, r, hr, hd⟩, okr.w, fun w => (lookup_srtK okr.nd w).symm⟩
    rw [e, c.on b z ((rch_nrm ok).mpr rb), lookup_nrm ok.nd, hr]
    rfl
theorem E0_strs {H : Hp} {a b : Addr} {l : List Str} (h1 : H a = some (.lst (l.map V.str))) (h2 : H b = some (.lst (l.map V.str))) (few : l.length ≤ 900) : EL E0 (.ref a) (.ref b) H := by
  refine ⟨a, b, _, _, rfl, rfl, h1, h2, rfl, by rw [List.length_map]; exact few, fun i u v hu hv => ?_⟩
  rw [hu] at hv
  cases hv
  obtain ⟨s, _, rfl⟩ := strs_get hu
  exact ⟨s, rfl, rfl⟩
theorem EL_two {E : V → V → Hp → Prop} {H : Hp} {a b : Addr} {u1 u2 v1 v2 : V} (h1 : H a = some (.lst [u1, u2])) (h2 : H b = some (.lst [v1, v2])) (e1 : E u1 v1 H) (e2 : E u2 v2 H) : EL E (.ref a) (.ref b) H := by
  refine ⟨a, b, _, _, rfl, rfl, h1, h2, rfl, by show 2 ≤ 900; decide, fun i u v hu hv => ?_⟩
  match i with
  | 0 => cases hu; cases hv; exact e1
  | 1 => cases hu; cases hv; exact e2
  | i + 2 => simp at hu
end K69
set_option Elab.async false
set_option linter.all false
set_option maxRecDepth 100000
set_option maxHeartbeats 8000000
namespace K69
open PySem PySem.Spec PyProof.Rows L2
section
variable {P : Program} {w : World} {K : PySem.W.Frag} {mg : Str → Option Value} {base : Heap} {C : Addr}
local macro_rules | `(tactic| walk_at "lk") => `(tactic| first | assumption | exact upd_same | exact (by assumption : Ex _ _) _ _ (by assumption))
local macro_rules | `(tactic| walk_at "g1") => `(tactic| first
  | with_reducible refine g_seq ?_ | with_reducible refine g_asg ?_ | with_reducible refine g_name ?_ | with_reducible refine g_cons ?_ | with_reducible refine g_nil ?_
  | ((with_reducible refine' g_var ?e ?_); (case e => exact rfl)) | with_reducible refine g_C ?_ | with_reducible refine g_op ?_ | with_reducible refine g_fld0 ?_ | with_reducible refine g_dget ?_ | with_reducible refine g_cb ?_ | with_reducible refine g_call ?_
  | with_reducible refine g_ret ?_ | with_reducible refine g_ifS ?_ | with_reducible refine g_test ?_ | with_reducible refine g_B ?_ | with_reducible refine g_bl ?_ | with_reducible refine g_not ?_ | with_reducible refine g_or ?_ | with_reducible refine g_and ?_
  | with_reducible refine g_ite ?_ | with_reducible refine g_itf ?_ | with_reducible refine g_itnt ?_ | with_reducible refine g_itnf ?_ | with_reducible refine g_eqS ?_ | with_reducible refine g_neS ?_ | with_reducible refine g_neI ?_ | with_reducible refine g_eqB ?_ | with_reducible refine g_neB ?_ | with_reducible refine g_eqI ?_ | with_reducible refine g_rI0 ?_ | with_reducible refine g_ipI ?_ | with_reducible refine g_int ?_
  | with_reducible refine g_drop ?_ | with_reducible refine g_next ?_ | with_reducible refine g_bm ?_ | with_reducible refine g_bm0 ?_ | with_reducible refine g_din ?_ | with_reducible refine g_dnotin ?_ | with_reducible refine g_dput ?_ | ((with_reducible refine' g_aug ?e ?_); (case e => exact rfl))
  | with_reducible refine g_andV ?_ | with_reducible refine g_orV ?_ | with_reducible refine g_notV ?_ | with_reducible refine g_if ?_ | with_reducible refine g_isN ?_ | with_reducible refine g_notN ?_ | with_reducible refine g_sl ?_ | with_reducible refine g_nopart ?_ | with_reducible refine g_part ?_
  | with_reducible refine g_gcons ?_ | with_reducible refine g_gnil ?_ | with_reducible refine g_par2 ?_ | with_reducible refine g_par3 ?_ | with_reducible refine g_vw ?_ | with_reducible refine g_uvw ?_ | with_reducible refine g_yes ?_ | with_reducible refine g_un ?_ | with_reducible refine g_rU ?_ | with_reducible refine g_gsub ?_ | with_reducible refine g_chain ?_ | with_reducible refine g_for ?_ | with_reducible refine g_istr ?_ | with_reducible refine g_ilist ?_ | with_reducible refine g_itup ?_ | with_reducible refine g_ikeys ?_ | with_reducible refine g_ivals ?_ | with_reducible refine g_iitems ?_ | with_reducible refine g_irng1 ?_ | with_reducible refine g_izip ?_ | with_reducible refine g_while ?_ | with_reducible refine g_tru _ ?_ | with_reducible refine g_lc ?_ | with_reducible refine g_dc ?_ | with_reducible refine g_lc2 ?_ | with_reducible refine g_tup ?_ | with_reducible refine g_lst ?_ | with_reducible refine g_dnew ?_ | with_reducible refine g_sfld ?_ | with_reducible refine g_dget2 ?_ | with_reducible refine g_dzip ?_ | with_reducible refine g_dnewT ?_ | with_reducible refine g_dispT ?_ | with_reducible refine g_star ?_ | with_reducible refine g_disp ?_ | with_reducible refine g_prs ?_ | with_reducible refine g_prs0 ?_ | with_reducible refine g_sc ?_ | with_reducible refine g_make ?_ | with_reducible refine g_meth ?_
  | ((with_reducible refine' g_ixT ?h ?e ?_); (case h => walk_at "lk"); (case e => exact rfl)) | ((with_reducible refine' g_ixL ?h ?e ?_); (case h => walk_at "lk"); (case e => exact rfl))
  | ((with_reducible refine' g_fldK ?h ?c ?n ?l ?_); (case h => walk_at "lk"); (case c => exact C8.InsC.cl (Txt.insC (by assumption))); (case n => first | exact Txt.nR (by assumption) | exact Txt.nF (by assumption)); (case l => exact rfl)))
local macro_rules | `(tactic| walk_at "go") => `(tactic| (repeat walk_at "g1"))
local macro_rules | `(tactic| walk_at "ty") => `(tactic| first | exact .base (.str _) | exact .base .non | exact .base (.bl _) | exact .base (.int _) | exact .base (.tup (by assumption)) | exact .base (.lst (by assumption)) | exact .base (.dK (by assumption)) | exact .fDict (by assumption))
abbrev sl_cut_right : Stmt := topS 64
abbrev Nl_cut_right : List Str := ["_law_world_here", "_law_desk_here", "_law_state", "_law_told", "_law_part_here", "_law_first", "_law_second"]
theorem scl_cut_right : FnScope Nl_cut_right ["_law_world_here", "_law_desk_here", "_law_state"] (defScope sl_cut_right) := ⟨rfl, rfl, rfl, by decide +kernel, rfl, by decide +kernel, by decide +kernel⟩
def sp_cut_right (C : Addr) : Sp := fun vs H Q _ => ∃ (a d : Addr) (wb : Book) (s x : Str) (G : Hp), vs = [.ref a, .ref d, .str x] ∧ Ex G H ∧ WorldAt G a wb s ∧ DeskAt C G d (nrm wb) s ∧ BookOk wb ∧ s ∈ wb.map (·.1) ∧ x ∈ waistsL wb s ∧ wb.length ≤ 13 ∧ ∀ H', Ex H H' → Q (.bl true) H'
theorem cal_cut_right (F : Has K mg "_law_cut_right" sl_cut_right) (T : Txt K w mg C) (c_cut_at : Cal P w K mg base 6 "cut_at" (sp_cut_at C)) (c_law_is_sound : Cal P w K mg base 6 "_law_is_sound" (sp_is_sound C)) (c_law_world_of : Cal P w K mg base 3 "_law_world_of" (sp_world_of C))
    (c_law_alike : Cal P w K mg base 3 "_law_alike" sp_alike) (c_law_then : Cal P w K mg base 2 "_law_then" sp_l_then) (c_law_goes : Cal P w K mg base 7 "_law_goes" (sp_goes C)) (c_then : Cal P w K mg base 8 "then" (sp_joined_then C))
    (c_law_firsts_right : Cal P w K mg base 2 "_law_firsts_right" sp_firsts) (c_law_trimmed : Cal P w K mg base 2 "_law_trimmed" sp_trimmed) (c_law_exact : Cal P w K mg base 3 "_law_exact" (spE (EL (EL E0)))) (c_waists : Cal P w K mg base 4 "waists" (sp_waists_of C))
    (c_law_waists : Cal P w K mg base 2 "_law_waists" sp_l_waists) (c_Desk_book : Met P w K mg base 2 C "book" (sp_book C)) (c_Desk_eq : Eqs P w K mg base 1 C (ReqD C)) : Cal P w K mg base 9 "_law_cut_right" (sp_cut_right C) := by
  refine F.cal (fun _ _ _ _ _ _ us hl => match us, hl with | [_, _, _], _ => rfl) scl_cut_right (fun vs H Q E h => ?_) (fun f cdv A outer s H vs Q E hr h => ?_)
  · obtain ⟨_, _, _, _, _, _, rfl, _⟩ := h; rfl
  · obtain ⟨a, d, wb, s, x, G, rfl, eG, W, dd, ok, hs, hx, few, k⟩ := h
    have nd := scl_cut_right.nd
    have hu := hu_of hr
    refine ⟨_, (pss_cons (ps_set (i := 3) nd rfl (Or.inl rfl) (kc c_cut_at hr (pa_cons (pv 1) (pa_cons (pv 2) pa_nil))))
  (pss_cons (ps_if (PW.pt (pw_or (pt_not (pt_val (pe_callB (kIsi K) (by rfl) T.isinstance (by decide +kernel) (pa_cons (pv 3) (pa_cons (pe_bltn (v := .ty "tuple") (by rfl) T.ttuple (by decide +kernel) rfl) pa_nil))))) (pw_or (pt_cmpR op_ne (pe_callB (kLen K) (by rfl) T.len (by decide +kernel) (pa_cons (pv 3) pa_nil)) pe_int (nomark _)) (pw_or1 (pt_not (pt_val (pe_callB (kAll K rfl) (by rfl) T.all (by decide +kernel) (pa_cons (pe_lc (own := [("_law_part_here", 4)]) rfl nd (kpTup K (pv 3)) (blkOk_by (N := Nl_cut_right) (sc := defScope sl_cut_right) (by decide +kernel)) (fun _ _ _ _ _ => (pg_name (i := 4) nd rfl (Or.inl rfl))) (fun _ _ _ _ _ => pts_nil) (fun _ _ _ _ _ => (kc c_law_is_sound hr (pa_cons (pv 4) pa_nil)))) pa_nil))))))))
    (pss_one (ps_ret pe_bl)) pss_nil)
  (pss_cons (ps_asg (pe_lc (own := [("_law_part_here", 4)]) rfl nd (kpTup K (pv 3)) (blkOk_by (N := Nl_cut_right) (sc := defScope sl_cut_right) (by decide +kernel)) (fun _ _ _ _ _ => (pg_name (i := 4) nd rfl (Or.inl rfl))) (fun _ _ _ _ _ => pts_nil) (fun _ _ _ _ _ => (kc c_law_world_of hr (pa_cons (pv 4) pa_nil)))) (kgLst K (n := 2) rfl (pgs_cons (pg_name (i := 5) nd rfl (Or.inl rfl)) (pgs_cons (pg_name (i := 6) nd rfl (Or.inl rfl)) pgs_nil))))
  (pss_cons (ps_if (PW.pt (pw_or (pt_not (pt_val (kc c_law_alike hr (pa_cons (pv 6) (pa_cons (pe_lst (pa_cons (pe_ix (kIxL K) (pv 0) pe_int (fun _ _ => rfl)) (pa_cons (pv 2) pa_nil))) pa_nil))))) (pw_or1 (pt_not (pt_val (kc c_law_alike hr (pa_cons (kc c_law_then hr (pa_cons (pv 5) (pa_cons (pv 6) pa_nil))) (pa_cons (pv 0) pa_nil))))))))
    (pss_one (ps_ret pe_bl)) pss_nil)
  (pss_cons (ps_if (PW.pt (pw_or (pt_not (pt_val (kc c_law_goes hr (pa_cons (kc c_then hr (pa_cons (pe_ix (kIxT K) (pv 3) pe_int (fun _ _ => rfl)) (pa_cons (pe_ix (kIxT K) (pv 3) pe_int (fun _ _ => rfl)) pa_nil))) (pa_cons (pv 0) pa_nil))))) (pw_or1 (pt_not (pt_val (kc c_law_firsts_right hr (pa_cons (pv 0) (pa_cons (pv 2) (pa_cons (kc c_law_trimmed hr (pa_cons (pv 5) pa_nil)) pa_nil)))))))))
    (pss_one (ps_ret pe_bl)) pss_nil)
  (pss_cons (ps_if (pt_not (pt_val (kc c_law_exact hr (pa_cons (pe_lst (pa_cons (kc c_waists hr (pa_cons (pe_ix (kIxT K) (pv 3) pe_int (fun _ _ => rfl)) pa_nil)) (pa_cons (kc c_waists hr (pa_cons (pe_ix (kIxT K) (pv 3) pe_int (fun _ _ => rfl)) pa_nil)) pa_nil))) (pa_cons (pe_lst (pa_cons (kc c_law_waists hr (pa_cons (pv 5) pa_nil)) (pa_cons (kc c_law_waists hr (pa_cons (pv 6) pa_nil)) pa_nil))) pa_nil)))))
    (pss_one (ps_ret pe_bl)) pss_nil)
  (pss_cons (ps_expr (kBm0 K PySem.F.plainAttrs_dict PySem.F.slot_dict_clear PySem.F.type_dict_clear mtd_clear (kmt0 c_Desk_book hr (pe_ix (kIxT K) (pv 3) pe_int (fun _ _ => rfl)))))
  (pss_one (ps_ret (pe_cmpR (kqt c_Desk_eq K ReqD.mono hr) (kc c_cut_at hr (pa_cons (pv 1) (pa_cons (pv 2) pa_nil))) (pv 3) (nomark _))))))))))), ?_⟩
    have D := DeskOk.mk' ok hs
    have hxn : x ∈ waistsL (nrm wb) s := by rw [waistsL_nrm ok hs]; exact hx
    have wx := (waistsL_mem ok hs).mp hx
    have wxn := (wst_nrm ok).mpr wx
    have kx := wx.2.1.key ok hs
    obtain ⟨r2, hr2, _⟩ := D.ok.get (nrm_mem.mpr kx)
    have nlen := nrm_len wb
    obtain ⟨b, hag, hbk⟩ := W
    have W : WorldAt G a wb s := ⟨b, hag, hbk⟩
    walk_at "go"
    refine ⟨d, nrm wb, s, x, G, rfl, eG, dd, D, hxn, fun t G1 H1 q1 q2 ck N1 gt dk1 dk2 D1 D2 cB clen ht0 => ?_⟩
    have ht1 := N1.gh _ _ gt
    walk_at "go"
    refine g_isi (T := "tuple") (k := true) (.base (.tup ht1)) (by decide +kernel) ?_
    walk_at "go"
    refine ⟨t, _, rfl, .inr (SqT.of ht1), ?_⟩
    walk_at "go"
    refine g_itf ?_
    walk_at "go"
    refine ⟨t, rfl, ⟨_, SqT.of ht1⟩, fun L hL => ?_⟩
    refine lc_gen walk_tup N1.gh hL (by show 2 < sizeLine; decide) (fun i acc _ => acc = (List.replicate i true).map V.bl) rfl (fun H' e => SqT.of (e _ _ ht1)) ?_ ?_
    · rintro i y G3 H3 H4 acc Kt Kf hi N g0 hh hl' rfl ⟨rfl, hy⟩ htt hff
      have both : (∃ q bk z, y = .ref q ∧ DeskAt C G1 q bk z ∧ DeskOk bk z) := by
        match i with
        | 0 => cases hy; exact ⟨q1, ck, s, rfl, dk1, D1⟩
        | 1 => cases hy; exact ⟨q2, _, x, rfl, dk2, D2⟩
        | i + 2 => simp at hy
      obtain ⟨q, bk, z, rfl, dq, Dq⟩ := both
      walk_at "go"
      refine ⟨rfl, ?_⟩
      walk_at "go"
      refine ⟨q, bk, z, G3, rfl, N.gh, dq.mono N.gg, Dq, fun H5 e5 => ?_⟩
      exact htt (.bl true) G3 H5 (Nxt.flat N.gh e5) (by rw [List.replicate_succ']; simp)
    · rintro G3 H3 acc N g0 hh hl' rfl
      walk_at "go"
      refine ⟨L, _, rfl, SqL.of hh, ?_⟩
      have : (List.replicate [V.ref q1, V.ref q2].length true).all id = true := by simp
      rw [this]
      walk_at "go"
      have N4 := N1.trans N.forget
      have ht3 := N4.gh _ _ gt
      clear hh g0 hl' N
      refine ⟨t, rfl, ⟨_, SqT.of ht3⟩, fun L2 hL2 => ?_⟩
      refine lc_gen walk_tup N4.gh hL2 (by show 2 < sizeLine; decide) (fun i acc Gi => ∃ ws : List Addr, acc = ws.map V.ref ∧ ws.length = i ∧ (∀ u, ws[0]? = some u → WorldAt Gi u ck s) ∧ ∀ u, ws[1]? = some u → WorldAt Gi u (nrm wb) x) ⟨[], rfl, rfl, by simp, by simp⟩ (fun H' e => SqT.of (e _ _ ht3)) ?_ ?_
      · rintro i y G5 H5 H6 acc Kt Kf hi N g0 hh hl' ⟨ws, rfl, wl, w0, w1⟩ ⟨rfl, hy⟩ htt hff
        walk_at "go"
        refine ⟨rfl, ?_⟩
        walk_at "go"
        match i with
        | 0 =>
          cases hy
          refine ⟨q1, ck, s, G5, rfl, N.gh, dk1.mono N.gg, D1, fun u G7 H7 N7 wu => ?_⟩
          refine htt (.ref u) G7 H7 N7 ⟨ws ++ [u], by rw [List.map_append]; rfl, by simp [wl], fun v hv => ?_, fun v hv => ?_⟩
          · have : ws = [] := List.eq_nil_of_length_eq_zero wl
            subst this
            cases hv
            exact wu
          · have : ws = [] := List.eq_nil_of_length_eq_zero wl
            subst this
            cases hv
        | 1 =>
          cases hy
          refine ⟨q2, nrm wb, x, G5, rfl, N.gh, dk2.mono N.gg, D2, fun u G7 H7 N7 wu => ?_⟩
          refine htt (.ref u) G7 H7 N7 ⟨ws ++ [u], by rw [List.map_append]; rfl, by simp [wl], fun v hv => ?_, fun v hv => ?_⟩
          · rw [List.getElem?_append_left (by omega)] at hv
            exact (w0 v hv).mono N7.gg
          · rw [List.getElem?_append_right (by omega), wl] at hv
            cases hv
            exact wu
        | i + 2 => simp at hy
      · rintro G5 H5 acc N g0 hh hl' ⟨ws, rfl, wl, w0, w1⟩
        obtain ⟨u1, u2, rfl⟩ : ∃ u1 u2, ws = [u1, u2] := by
          match ws, wl with
          | [u1, u2], _ => exact ⟨u1, u2, rfl⟩
        have W1 := w0 u1 rfl
        have W2 := w1 u2 rfl
        have N6 := N4.trans N
        have hh2 : H5 L2 = some (.lst [.ref u1, .ref u2]) := hh
        refine g_glst (SqL.of hh2) rfl ?_
        have a6 := N6.gh _ _ (N6.gg _ _ hag)
        walk_at "go"
        -- the second one goes like the world begun at x
        refine ⟨by show 2 ≤ sizeLine; decide, fun n1 hn1 => ?_⟩
        have N7 := N6.new (o := .lst [.ref b, .str x]) hn1 (N6.none0 hn1)
        have ex7 : Ex G5 (upd G5 n1 (.lst [.ref b, .str x])) := Ex.new (N6.gh.back hn1)
        have W3 : WorldAt (upd G5 n1 (.lst [.ref b, .str x])) n1 wb x := ⟨b, upd_same, hbk.mono (N6.gg.trans ex7)⟩
        generalize upd G5 n1 (.lst [.ref b, .str x]) = G7 at N7 ex7 W3
        generalize upd H5 n1 (.lst [.ref b, .str x]) = H7 at N7 ⊢
        refine ⟨u2, n1, nrm wb, wb, x, x, _, rfl, (W2.mono ex7).mono N7.gh, W3.mono N7.gh, D.ok.w, ok.w, ⟨rfl, kx⟩, bis_nrm ok, fun H8 e8 => ?_⟩
        have N8 := N7.trans (Nxt.flat N7.gh e8)
        walk_at "go"
        refine ⟨u1, u2, ck, nrm wb, s, x, r2, G7, rfl, N8.gh, W1.mono ex7, W2.mono ex7, D1.ok, D.ok, D1.st, hr2, by omega, fun n2 G9 H9 N9 Wj => ?_⟩
        have N10 := N8.trans N9
        obtain ⟨R, hR0, hRB⟩ := jn_cut D D1 wxn cB hr2
        have B1 := (djn_bis D1.ok D.ok hr2).comp (hRB.comp (bis_nrm ok))
        walk_at "go"
        refine ⟨n2, a, djn ck (nrm wb) r2, wb, d1 ++ s, s, _, rfl, Wj.mono N9.gh, W.mono (N10.gg.trans N10.gh), djn_w D1.ok D.ok (D.ok.row _ (lookup_mem hr2)) (by omega), ok.w, ⟨kF s, .inl ⟨s, D1.st, rfl, rfl⟩, s, hR0, rfl, hs⟩, B1, fun H11 e11 => ?_⟩
        have N11 := N10.trans (Nxt.flat N10.gh e11)
        have exT : Ex G1 G9 := (N.gg.trans (ex7.trans N9.gg))
        have t11 := N11.gh _ _ (exT _ _ gt)
        walk_at "go"
        -- the package's own
        refine ⟨q1, q2, ck, nrm wb, s, x, r2, G9, rfl, N11.gh, dk1.mono exT, dk2.mono exT, D1, D2, hr2, by omega, fun n3 G12 H12 tk tt N12 dk3 D3 tlen hT hn3 => ?_⟩
        have N13 := N11.trans N12
        obtain ⟨Rt, hRt0, hRtB⟩ := hT
        have B2 := hRtB.comp (hRB.comp (bis_nrm ok))
        walk_at "go"
        refine ⟨n3, a, tk, wb, tt, s, _, G12, rfl, N12.gh, dk3, D3, W.mono (N13.gg.trans N13.gh), ok.w, ⟨kF s, hRt0, s, hR0, rfl, hs⟩, B2, fun H14 e14 => ?_⟩
        have N14 := N13.trans (Nxt.flat N13.gh e14)
        walk_at "go"
        have exU : Ex G5 G12 := ex7.trans (N9.gg.trans N12.gg)
        refine ⟨u1, ck, s, G12, rfl, N14.gh, W1.mono exU, D1.ok, D1.st, fun n4 G15 H15 tb N15 Wt htb => ?_⟩
        have N16 := N14.trans N15
        walk_at "go"
        refine ⟨a, n4, wb, tb, s, x, G15, rfl, N15.gh, W.mono N16.gg, Wt, firsts_of ok wx cB htb hs, fun H17 e17 => ?_⟩
        have N17 := N16.trans (Nxt.flat N16.gh e17)
        have exT2 : Ex G1 G15 := exT.trans (N12.gg.trans N15.gg)
        have exU2 : Ex G5 G15 := exU.trans N15.gg
        have t17 := N17.gh _ _ (exT2 _ _ gt)
        walk_at "go"
        -- the waists of the two
        refine ⟨q1, ck, s, G15, rfl, N17.gh, dk1.mono exT2, D1.ok, D1.st, fun p1 G18 H18 N18 gp1 _ => ?_⟩
        have N19 := N17.trans N18
        have t19 := N19.gh _ _ (N18.gg _ _ (exT2 _ _ gt))
        walk_at "go"
        refine ⟨q2, nrm wb, x, G18, rfl, N18.gh, dk2.mono (exT2.trans N18.gg), D2.ok, D2.st, fun p2 G20 H20 N20 gp2 _ => ?_⟩
        have N21 := N19.trans N20
        walk_at "go"
        refine ⟨by show 2 ≤ sizeLine; decide, fun l1 hl1 => ?_⟩
        have N22 := N21.new (o := .lst [.ref p1, .ref p2]) hl1 (N21.none0 hl1)
        have ex22 : Ex G20 (upd G20 l1 (.lst [.ref p1, .ref p2])) := Ex.new (N21.gh.back hl1)
        have gl1 : (upd G20 l1 (.lst [.ref p1, .ref p2])) l1 = some (.lst [.ref p1, .ref p2]) := upd_same
        have gp1' := ex22 _ _ (N20.gg _ _ gp1)
        have gp2' := ex22 _ _ gp2
        have exU3 : Ex G5 (upd G20 l1 (.lst [.ref p1, .ref p2])) := exU2.trans (N18.gg.trans (N20.gg.trans ex22))
        have exT3 : Ex G1 (upd G20 l1 (.lst [.ref p1, .ref p2])) := exT2.trans (N18.gg.trans (N20.gg.trans ex22))
        generalize upd G20 l1 (.lst [.ref p1, .ref p2]) = G22 at N22 ex22 gl1 gp1' gp2' exU3 exT3
        generalize upd H20 l1 (.lst [.ref p1, .ref p2]) = H22 at N22 ⊢
        walk_at "go"
        refine ⟨u1, ck, s, G22, rfl, N22.gh, W1.mono exU3, D1.ok, D1.st, fun p3 G23 H23 N23 gp3 _ => ?_⟩
        have N24 := N22.trans N23
        walk_at "go"
        refine ⟨u2, nrm wb, x, G23, rfl, N23.gh, W2.mono (exU3.trans N23.gg), D2.ok, D2.st, fun p4 G25 H25 N25 gp4 _ => ?_⟩
        have N26 := N24.trans N25
        walk_at "go"
        refine ⟨by show 2 ≤ sizeLine; decide, fun l2 hl2 => ?_⟩
        have e27 : Ex H25 (upd H25 l2 (.lst [.ref p3, .ref p4])) := Ex.new hl2
        have hl2' : (upd H25 l2 (.lst [.ref p3, .ref p4])) l2 = some (.lst [.ref p3, .ref p4]) := upd_same
        have N27 := N26.trans (Nxt.flat N26.gh e27)
        generalize upd H25 l2 (.lst [.ref p3, .ref p4]) = H27 at N27 e27 hl2' ⊢
        have wl1 := waistsL_len D1.ok D1.st
        have wl2 := waistsL_len D2.ok D2.st
        have f1 := D1.ok.few
        have f2 := D2.ok.few
        have ee : Ex G22 H27 := N23.gg.trans (N25.gg.trans (N25.gh.trans e27))
        refine ⟨.ref l1, .ref l2, rfl, EL_two (ee _ _ gl1) hl2' (E0_strs (ee _ _ gp1') (e27 _ _ (N25.gh _ _ (N25.gg _ _ gp3))) (by omega)) (E0_strs (ee _ _ gp2') (e27 _ _ (N25.gh _ _ gp4)) (by omega)), fun H28 e28 => ?_⟩
        have N28 := N27.trans (Nxt.flat N27.gh e28)
        have exT4 : Ex G1 G25 := exT3.trans (N23.gg.trans N25.gg)
        have t28 := N28.gh _ _ (exT4 _ _ gt)
        walk_at "go"
        -- a book told is changed
        obtain ⟨bq, dxq, hq1, _⟩ := dk1.mono (exT4.trans N28.gh)
        refine ⟨q1, dxq, _, rfl, hq1, rfl, q1, ck, s, G25, rfl, N28.gh, dk1.mono exT4, D1, fun bb G29 H29 N29 hbb hb0 => ?_⟩
        obtain ⟨rsb, hbb', _⟩ := hbb
        have hbb2 := N29.gh _ _ hbb'
        refine ⟨.inr (.inr (.inl ⟨rfl, .inl ⟨_, hbb2⟩⟩)), ?_⟩
        have N30 := N28.trans (N29.forget.mut (p := bb) (o := .dK []) (N28.gh.back hb0) hb0)
        refine ⟨bb, _, rfl, rfl, hbb2, ?_⟩
        generalize upd H29 bb (.dK []) = H30 at N30 ⊢
        walk_at "go"
        -- once more
        refine ⟨d, nrm wb, s, x, G25, rfl, N30.gh, dd.mono N30.gg, D, hxn, fun t2 G31 H31 q3 q4 ck2 N31 gt2 dk3' dk4' D3' D4' cB2 clen2 _ => ?_⟩
        have eck : ck2 = ck := D3'.one D1 fun y => cB2.one cB y
        subst eck
        have N32 := N30.trans N31
        have exT5 : Ex G1 H31 := exT4.trans (N31.gg.trans N31.gh)
        walk_at "go"
        have i1 : DIns C (ReqD C) (.ref q3) (.ref q1) H31 := by
          have z1 := dk3'.mono N31.gh
          have z2 := dk1.mono exT5
          obtain ⟨b1, x1, h1, r1⟩ := z1
          obtain ⟨b2, x2, h2, r2⟩ := z2
          exact ⟨q3, q1, x1, x2, _, _, rfl, rfl, h1, h2, ck2, s, ⟨b1, x1, h1, r1⟩, ⟨b2, x2, h2, r2⟩, D1⟩
        have i2 : DIns C (ReqD C) (.ref q4) (.ref q2) H31 := by
          have z1 := dk4'.mono N31.gh
          have z2 := dk2.mono exT5
          obtain ⟨b1, x1, h1, r1⟩ := z1
          obtain ⟨b2, x2, h2, r2⟩ := z2
          exact ⟨q4, q2, x1, x2, _, _, rfl, rfl, h1, h2, nrm wb, x, ⟨b1, x1, h1, r1⟩, ⟨b2, x2, h2, r2⟩, D2⟩
        exact ⟨⟨t2, t, _, _, rfl, rfl, SqT.of (N31.gh _ _ gt2), SqT.of (exT5 _ _ gt), .cons i1 (.cons i2 .nil)⟩, fun H33 e33 => k H33 (N32.ex.trans e33)⟩
end
end K69
set_option Elab.async false
set_option linter.all false
set_option maxRecDepth 100000
set_option maxHeartbeats 8000000
namespace K69
open PySem PySem.Spec PyProof.Rows L2
def sp_is_refused (C : Addr) : Sp := fun vs H Q _ => ∃ (d : Addr) (bk : Book) (s x : Str) (G : Hp), vs = [.ref d, .str x] ∧ Ex G H ∧ DeskAt C G d bk s ∧ DeskOk bk s ∧ spelt x = true ∧ x ∉ waistsL bk s ∧ ∀ H', Ex H H' → Q (.bl true) H'
section
variable {P : Program} {w : World} {K : PySem.W.Frag} {mg : Str → Option Value} {base : Heap} {C : Addr}
local macro_rules | `(tactic| walk_at "lk") => `(tactic| first | assumption | exact upd_same | exact (by assumption : Ex _ _) _ _ (by assumption))
local macro_rules | `(tactic| walk_at "g1") => `(tactic| first
  | with_reducible refine g_seq ?_ | with_reducible refine g_asg ?_ | with_reducible refine g_name ?_ | with_reducible refine g_cons ?_ | with_reducible refine g_nil ?_
  | ((with_reducible refine' g_var ?e ?_); (case e => exact rfl)) | with_reducible refine g_C ?_ | with_reducible refine g_op ?_ | with_reducible refine g_fld0 ?_ | with_reducible refine g_dget ?_ | with_reducible refine g_cb ?_ | with_reducible refine g_call ?_
  | with_reducible refine g_ret ?_ | with_reducible refine g_ifS ?_ | with_reducible refine g_test ?_ | with_reducible refine g_B ?_ | with_reducible refine g_bl ?_ | with_reducible refine g_not ?_ | with_reducible refine g_or ?_ | with_reducible refine g_and ?_
  | with_reducible refine g_ite ?_ | with_reducible refine g_itf ?_ | with_reducible refine g_itnt ?_ | with_reducible refine g_itnf ?_ | with_reducible refine g_eqS ?_ | with_reducible refine g_neS ?_ | with_reducible refine g_neI ?_ | with_reducible refine g_eqB ?_ | with_reducible refine g_neB ?_ | with_reducible refine g_eqI ?_ | with_reducible refine g_rI0 ?_ | with_reducible refine g_ipI ?_ | with_reducible refine g_int ?_
  | with_reducible refine g_drop ?_ | with_reducible refine g_next ?_ | with_reducible refine g_bm ?_ | with_reducible refine g_bm0 ?_ | with_reducible refine g_din ?_ | with_reducible refine g_dnotin ?_ | with_reducible refine g_dput ?_ | ((with_reducible refine' g_aug ?e ?_); (case e => exact rfl))
  | with_reducible refine g_andV ?_ | with_reducible refine g_orV ?_ | with_reducible refine g_notV ?_ | with_reducible refine g_if ?_ | with_reducible refine g_isN ?_ | with_reducible refine g_notN ?_ | with_reducible refine g_sl ?_ | with_reducible refine g_nopart ?_ | with_reducible refine g_part ?_
  | with_reducible refine g_gcons ?_ | with_reducible refine g_gnil ?_ | with_reducible refine g_par2 ?_ | with_reducible refine g_par3 ?_ | with_reducible refine g_vw ?_ | with_reducible refine g_uvw ?_ | with_reducible refine g_yes ?_ | with_reducible refine g_un ?_ | with_reducible refine g_rU ?_ | with_reducible refine g_gsub ?_ | with_reducible refine g_chain ?_ | with_reducible refine g_for ?_ | with_reducible refine g_istr ?_ | with_reducible refine g_ilist ?_ | with_reducible refine g_itup ?_ | with_reducible refine g_ikeys ?_ | with_reducible refine g_ivals ?_ | with_reducible refine g_iitems ?_ | with_reducible refine g_irng1 ?_ | with_reducible refine g_izip ?_ | with_reducible refine g_while ?_ | with_reducible refine g_tru _ ?_ | with_reducible refine g_lc ?_ | with_reducible refine g_dc ?_ | with_reducible refine g_lc2 ?_ | with_reducible refine g_tup ?_ | with_reducible refine g_lst ?_ | with_reducible refine g_dnew ?_ | with_reducible refine g_sfld ?_ | with_reducible refine g_dget2 ?_ | with_reducible refine g_dzip ?_ | with_reducible refine g_dnewT ?_ | with_reducible refine g_dispT ?_ | with_reducible refine g_star ?_ | with_reducible refine g_disp ?_ | with_reducible refine g_prs ?_ | with_reducible refine g_prs0 ?_ | with_reducible refine g_sc ?_ | with_reducible refine g_make ?_ | with_reducible refine g_meth ?_
  | ((with_reducible refine' g_ixT ?h ?e ?_); (case h => walk_at "lk"); (case e => exact rfl)) | ((with_reducible refine' g_ixL ?h ?e ?_); (case h => walk_at "lk"); (case e => exact rfl))
  | ((with_reducible refine' g_fldK ?h ?c ?n ?l ?_); (case h => walk_at "lk"); (case c => exact C8.InsC.cl (Txt.insC (by assumption))); (case n => first | exact Txt.nR (by assumption) | exact Txt.nF (by assumption)); (case l => exact rfl)))
local macro_rules | `(tactic| walk_at "go") => `(tactic| (repeat walk_at "g1"))
local macro_rules | `(tactic| walk_at "ty") => `(tactic| first | exact .base (.str _) | exact .base .non | exact .base (.bl _) | exact .base (.int _) | exact .base (.tup (by assumption)) | exact .base (.lst (by assumption)) | exact .base (.dK (by assumption)) | exact .fDict (by assumption))
abbrev sl_desk_right : Stmt := topS 65
abbrev Nl_desk_right : List Str := ["_law_world_here", "_law_desk_here", "_law_due", "_law_told", "_law_state"]
theorem scl_desk_right : FnScope Nl_desk_right ["_law_world_here", "_law_desk_here"] (defScope sl_desk_right) := ⟨rfl, rfl, rfl, by decide +kernel, rfl, by decide +kernel, by decide +kernel⟩
def sp_desk_right (C : Addr) : Sp := fun vs H Q _ => ∃ (a d : Addr) (wb : Book) (s : Str) (G : Hp), vs = [.ref a, .ref d] ∧ Ex G H ∧ WorldAt G a wb s ∧ DeskAt C G d (nrm wb) s ∧ BookOk wb ∧ s ∈ wb.map (·.1) ∧ wb.length ≤ 13 ∧ ∀ H', Ex H H' → Q (.bl true) H'
theorem cal_desk_right (F : Has K mg "_law_desk_right" sl_desk_right) (T : Txt K w mg C) (c_law_waists : Cal P w K mg base 2 "_law_waists" sp_l_waists) (c_waists : Cal P w K mg base 4 "waists" (sp_waists_of C)) (c_law_exact : Cal P w K mg base 2 "_law_exact" (spE (EL E0)))
    (c_law_cut_right : Cal P w K mg base 9 "_law_cut_right" (sp_cut_right C)) (c_law_is_refused : Cal P w K mg base 9 "_law_is_refused" (sp_is_refused C)) : Cal P w K mg base 10 "_law_desk_right" (sp_desk_right C) := by
  refine F.cal (fun _ _ _ _ _ _ us hl => match us, hl with | [_, _], _ => rfl) scl_desk_right (fun vs H Q E h => ?_) (fun f cdv A outer s H vs Q E hr h => ?_)
  · obtain ⟨_, _, _, _, _, rfl, _⟩ := h; rfl
  · obtain ⟨a, d, wb, s, G, rfl, eG, W, dd, ok, hs, few, k⟩ := h
    have nd := scl_desk_right.nd
    have hu := hu_of hr
    refine ⟨_, (pss_cons (ps_set (i := 2) nd rfl (Or.inl rfl) (kc c_law_waists hr (pa_cons (pv 0) pa_nil)))
  (pss_cons (ps_set (i := 3) nd rfl (Or.inl rfl) (kc c_waists hr (pa_cons (pv 1) pa_nil)))
  (pss_cons (ps_if (pt_not (pt_val (kc c_law_exact hr (pa_cons (pv 3) (pa_cons (pv 2) pa_nil)))))
    (pss_one (ps_ret pe_bl)) pss_nil)
  (pss_cons (ps_expr (kBm K PySem.F.plainAttrs_list PySem.F.slot_list_append PySem.F.type_list_append mt_append (pv 3) (pa_cons pe_str pa_nil)))
  (pss_cons (ps_for PassesOwn.never rfl (kpList K (pe_op op_cat (pe_callTy (call_listD rfl) (by rfl) T.tlist (by decide +kernel) (pa_cons (pe_ix (kIxL K) (pv 0) pe_int (fun _ _ => rfl)) pa_nil)) (pe_slice (kSlL K) (pv 2) po_none (po_some pe_int)))) (pg_name (i := 4) nd rfl (Or.inl rfl))
    (pss_one (ps_if (PW.pt (pw_or (PW.pt (pw_and (pt_cmpR (kIn K) (pv 4) (pv 2) rfl) (pw_and1 (pt_not (pt_val (kc c_law_cut_right hr (pa_cons (pv 0) (pa_cons (pv 1) (pa_cons (pv 4) pa_nil))))))))) (pw_or1 (PW.pt (pw_and (pt_cmpR (kNotIn K) (pv 4) (pv 2) rfl) (pw_and1 (pt_not (pt_val (kc c_law_is_refused hr (pa_cons (pv 1) (pa_cons (pv 4) pa_nil)))))))))))
      (pss_one (ps_ret pe_bl)) pss_nil)))
  (pss_one (ps_ret (kc c_law_exact hr (pa_cons (kc c_waists hr (pa_cons (pv 1) pa_nil)) (pa_cons (pv 2) pa_nil)))))))))), ?_⟩
    have D := DeskOk.mk' ok hs
    have ew := waistsL_nrm ok hs
    have wlen := waistsL_len ok hs
    obtain ⟨b, hag, hbk⟩ := W
    have W : WorldAt G a wb s := ⟨b, hag, hbk⟩
    walk_at "go"
    refine ⟨a, wb, s, G, rfl, eG, W, ok, hs, fun p1 G1 H1 N1 gp1 _ => ?_⟩
    walk_at "go"
    refine ⟨d, nrm wb, s, G1, rfl, N1.gh, dd.mono N1.gg, D.ok, D.st, fun p2 G2 H2 N2 gp2 hp20 => ?_⟩
    rw [ew] at gp2
    have hp2 := N2.gh _ _ gp2
    walk_at "go"
    refine ⟨.ref p2, .ref p1, rfl, E0_strs hp2 (N2.gh _ _ (N2.gg _ _ gp1)) (by omega), fun H3 e3 => ?_⟩
    walk_at "go"
    have hp3 := e3 _ _ hp2
    refine ⟨.inl ⟨rfl, _, SqL.of hp3⟩, ?_⟩
    walk_at "go"
    refine ⟨p2, _, .str (PySem.Str.ofString "zz"), rfl, rfl, hp3, by rw [List.length_map]; exact small1000 (by omega), ?_⟩
    have M2 : Nxt none G H G1 H3 := N1.trans ((N2.trans (Nxt.flat N2.gh e3)).forget)
    have M3 := M2.mut (p := p2) (o := .lst ((waistsL wb s).map V.str ++ [.str (PySem.Str.ofString "zz")])) (N1.gh.back hp20) (N1.none0 hp20)
    generalize upd H3 p2 (.lst ((waistsL wb s).map V.str ++ [.str (PySem.Str.ofString "zz")])) = H4 at M3 ⊢
    obtain ⟨rs, hbg, hrs⟩ := hbk
    have a4 := M3.gh _ _ (M3.gg _ _ hag)
    walk_at "go"
    refine ⟨b, kvR rs, rfl, .inl (M3.gh _ _ (M3.gg _ _ hbg)), fun l1 hl1 => ?_⟩
    have ekk : (kvR rs).map (fun kv => kV kv.1) = (wb.map (·.1)).map V.str := by unfold kvR; rw [← hrs.keys, List.map_map, List.map_map]; rfl
    rw [ekk]
    have M4 : Nxt none G H G1 (upd H4 l1 (.lst ((wb.map (·.1)).map V.str))) := M3.own hl1 (M3.none0 hl1)
    have h41 : (upd H4 l1 (.lst ((wb.map (·.1)).map V.str))) l1 = some (.lst ((wb.map (·.1)).map V.str)) := upd_same
    generalize upd H4 l1 (.lst ((wb.map (·.1)).map V.str)) = H5 at M4 h41 ⊢
    walk_at "go"
    refine ⟨p1, _, rfl, SqL.of (M4.gh _ _ gp1), fun l2 hl2 => ?_⟩
    have c1 : cutV ((waistsL wb s).map V.str) none (some 1) = ((waistsL wb s).take 1).map V.str := by rw [List.map_take]; exact cut_take (i := 1)
    rw [c1]
    have M5 : Nxt none G H G1 (upd H5 l2 (.lst (((waistsL wb s).take 1).map V.str))) := M4.own hl2 (M4.none0 hl2)
    have h51 := (Ex.new (o := .lst (((waistsL wb s).take 1).map V.str)) hl2) _ _ h41
    have h52 : (upd H5 l2 (.lst (((waistsL wb s).take 1).map V.str))) l2 = some (.lst (((waistsL wb s).take 1).map V.str)) := upd_same
    generalize upd H5 l2 (.lst (((waistsL wb s).take 1).map V.str)) = H6 at M5 h51 h52 ⊢
    refine ⟨l1, l2, _, _, rfl, rfl, h51, h52, by rw [List.length_map, List.length_map, List.length_map, List.length_take]; exact Nat.le_of_lt (small1000 (by omega)), fun l3 hl3 => ?_⟩
    have el : (wb.map (·.1)).map V.str ++ ((waistsL wb s).take 1).map V.str = (wb.map (·.1) ++ (waistsL wb s).take 1).map V.str := by rw [List.map_append]
    rw [el]
    have M6 : Nxt none G H (upd G1 l3 (.lst ((wb.map (·.1) ++ (waistsL wb s).take 1).map V.str))) (upd H6 l3 (.lst ((wb.map (·.1) ++ (waistsL wb s).take 1).map V.str))) := M5.new hl3 (M5.none0 hl3)
    have g3 : (upd G1 l3 (.lst ((wb.map (·.1) ++ (waistsL wb s).take 1).map V.str))) l3 = some (.lst ((wb.map (·.1) ++ (waistsL wb s).take 1).map V.str)) := upd_same
    have gp16 := (Ex.new (o := .lst ((wb.map (·.1) ++ (waistsL wb s).take 1).map V.str)) (M5.gh.back hl3)) _ _ gp1
    generalize upd G1 l3 (.lst ((wb.map (·.1) ++ (waistsL wb s).take 1).map V.str)) = G6 at M6 g3 gp16
    generalize upd H6 l3 (.lst ((wb.map (·.1) ++ (waistsL wb s).take 1).map V.str)) = H7 at M6 ⊢
    have W6 := W.mono M6.gg
    have dd6 := dd.mono M6.gg
    refine ⟨l3, rfl, ⟨_, SqL.of (M6.gh _ _ g3)⟩, ?_⟩
    refine for_it walk_list (fun i σ' H' => ∃ x4 : Option V, σ' = [some (.ref a), some (.ref d), some (.ref p1), some (.ref p2), x4] ∧ Ex H7 H') ⟨none, rfl, Ex.refl _⟩ (fun i σ' H' _ ⟨_, _, e⟩ => SqL.of (e _ _ (M6.gh _ _ g3))) ?_ ?_
    · rintro i y σ' H8 H9 hi ⟨x4, rfl, e8⟩ ⟨rfl, hy⟩
      obtain ⟨x, hx, rfl⟩ := strs_get hy
      clear hy
      have kx : x ∈ wb.map (·.1) := by
        rcases List.mem_append.mp (List.mem_of_getElem? hx) with h | h
        · exact h
        · exact ((waistsL_mem ok hs).mp (List.mem_of_mem_take h)).2.1.key ok hs
      obtain ⟨q, hq, eq⟩ := List.mem_map.mp kx
      have spx : spelt x = true := by rw [← eq]; exact ok.sp q hq
      have e9 := M6.gh.trans e8
      have hp1' := e9 _ _ gp16
      walk_at "go"
      refine g_in (.inl (SqL.of hp1')) rfl (flatS _) (inV_str x _) ?_
      walk_at "go"
      by_cases hm : x ∈ waistsL wb s
      · rw [decide_eq_true hm]
        refine g_ite ?_
        walk_at "go"
        refine ⟨a, d, wb, s, x, G6, rfl, e9, W6, dd6, ok, hs, hm, few, fun H10 e10 => ⟨true, rfl, ?_⟩⟩
        refine g_itnt ?_
        walk_at "go"
        refine g_nin (.inl (SqL.of (e10 _ _ hp1'))) rfl (flatS _) (inV_str x _) ?_
        rw [decide_eq_true hm]
        walk_at "go"
        exact ⟨_, rfl, e8.trans e10⟩
      · rw [decide_eq_false hm]
        refine g_itf ?_
        walk_at "go"
        refine g_nin (.inl (SqL.of hp1')) rfl (flatS _) (inV_str x _) ?_
        rw [decide_eq_false hm]
        walk_at "go"
        refine ⟨d, nrm wb, s, x, G6, rfl, e9, dd6, D, spx, by rw [ew]; exact hm, fun H10 e10 => ⟨true, rfl, ?_⟩⟩
        refine g_itnt ?_
        walk_at "go"
        exact ⟨_, rfl, e8.trans e10⟩
    · rintro σ' H8 ⟨x4, rfl, e8⟩
      have e9 := M6.gh.trans e8
      walk_at "go"
      refine ⟨d, nrm wb, s, G6, rfl, e9, dd6, D.ok, D.st, fun p3 G9 H9 N9 gp3 _ => ?_⟩
      rw [ew] at gp3
      walk_at "go"
      exact ⟨.ref p3, .ref p1, rfl, E0_strs (N9.gh _ _ gp3) (N9.gh _ _ (N9.gg _ _ gp16)) (by omega), fun H10 e10 => k H10 (M6.ex.trans (e8.trans (N9.ex.trans e10)))⟩
end
end K69
set_option Elab.async false
set_option linter.all false
set_option maxRecDepth 100000
set_option maxHeartbeats 4000000
/-! an own exception over ValueError whose __init__ says super().__init__() and keeps its value -/
namespace PySem
namespace K69X
open PySem.W PySem.Calls PyProof.Rows PySem.HandSPX
section
variable {prog : Program} {w : World} {A : Around} {E : Value → Shared → Prop} {h : Heap} {g : Array GenState} {d : Drawn} {t : Nat} {os : OsState}
variable {nm q : Str} {C N : Addr} {bs bm : List Value} {hdct : Bool} {sn : List Str} {sub : List Value} {ab : Bool} {col : Option Bool} {dd : Option Addr} {k0 k1 k2 k3 k5 : Option Value}
theorem call_mw {u e t0 : Addr} {rest : List Value} {Q : Value → Shared → Prop}
    (hC : h.get? C = some (excClassObj nm q C N bs bm hdct sn sub ab col dd k0 k1 k2 k3 k5 "ValueError.__new__")) (he : h.get? e = some (HandSPX.excO C t0)) (hu : h.get? u = some (kxs_mw "ValueError.__init__" e)) (hrest : rest.length ≤ sizeLine)
    (hq : ∀ h' t1, (∀ b o, b ≠ e → h.get? b = some o → h'.get? b = some o) → h'.get? e = some (HandSPX.excO C t1) → Q .none ⟨h', g, d, t, os⟩) :
    wpAny (model prog w) A (call (.ref u) rest) Q E ⟨h, g, d, t, os⟩ := by
  refine wpAny_call (codeAny_of_tree ?_)
  show wpAny _ A.in1 (callAny (.ref u) ⟨rest, []⟩) _ _ _
  simp only [callAny]
  refine wpAny_bind (wpAny_load hu ?_)
  simp only [kxs_mw, show (Value.type "method-wrapper" == Value.type "method" || Value.type "method-wrapper" == Value.type "builtin_function_or_method" || Value.type "method-wrapper" == Value.type "method-wrapper") = true by decide, if_true]
  refine W.KFB.if_so (by decide) ?_
  refine wpAny_bind (check_bound_init F.excBase_ValueError.toExcCallFacts hC he rfl ?_)
  refine wpAny_bind (wpAny_pure (wpAny_pure ?_))
  refine ⟨Code.quiet_builtin _ (by decide +kernel), codeAny_builtin F.excBase_ValueError.initEntry ?_⟩
  rw [Around.under_plainId F.excBase_ValueError.init.plain _]
  wp_walk
  refine hq _ h.objs.size (fun b o hb ho => ?_) ?_
  · rw [Heap.get?_update_other _ _ (Ne.symm hb)]
    exact Heap.get?_push_of_some _ ho
  · rw [Heap.get?_update_self _ (Heap.get?_push_of_some _ he) rfl]
    rfl
end
end K69X
end PySem
namespace K69
open PySem PySem.Spec PyProof.Rows L2
abbrev sX_init : Stmt := inClass (topS 3) 0
abbrev NX_init : List Str := ["self", "value", "__class__"]
theorem scX_init : NdefX.NScope NX_init ["self", "value"] ["__class__"] (defScope sX_init) := NdefX.nscope_by (by decide +kernel)
/-- what the written part says of the class's __init__ -/
structure XFun (P : Program) (K : PySem.W.Frag) (mg : Str → Option Value) (C f : Addr) (fd : FuncData) : Prop where
  ex : ∃ (oc : Value) (od : Option Addr) (dV kV doc pm : Value) (c cc : Addr) (ct : Value) (osl : Array (Option Value)) (cl : Value) (cld : Option Addr) (csl : Array (Option Value)) (ocl : Value) (ocd : Option Addr) (cvs : Array Value) (ocs : Array (Option Value)) (file : Str) (tf : Tok),
    fd = PySem.W.fnX "__init__" "InvalidState.__init__" (defArgs sX_init) (defBody sX_init) (defScope sX_init) [("__class__", cc)] dV kV doc pm none (.ref c) ct ∧ K.lookup f = some ⟨oc, od, .func fd, osl⟩ ∧ PySem.W.codeIn K (.ref c) "InvalidState.__init__" = true ∧
    K.lookup cc = some ⟨cl, cld, .cell (some (.ref C)), csl⟩ ∧ K.lookup c = some ⟨ocl, ocd, .fields cvs, ocs⟩ ∧ cvs[2]? = some (.str file tf) ∧ ((P.main.file : Str) == file) = true
  top : (P.main.scope.names.lookup ("super" : Str)).isSome = false
  noSuper : mg "super" = none
  sup : PySem.W.ks_superIn K C C "__init__" = some (some (.builtin "ValueError.__init__"))
  mro : PySem.W.mroIn K C (.ref C) = some true
  sub : PySem.W.subIn K (.ref C) (.type "ValueError") = some true
  third : PySem.W.nsIn K cStatics "thirdparty.any" = some none
  noval : PySem.W.findIn K (.ref C) "value" = some none
  cls : OexC K C
def sp_xinit (C : Addr) : Sp := fun vs H Q _ => ∃ (a : Addr) (v : V), vs = [.ref a, v] ∧ H a = some (exo a C none) ∧ ∀ dx, H dx = none → dx ≠ a → Q .non (upd (upd H dx (exd dx [("value", v)])) a (exo a C (some dx)))
section
variable {P : Program} {w : World} {K : PySem.W.Frag} {mg : Str → Option Value} {base : Heap} {C f : Addr} {fd : FuncData}
theorem ok_xinit (X : XFun P K mg C f fd) : FnOk P w K mg base L2.CX0 1 f fd ["self", "value"] (sp_xinit C) := by
  refine ⟨fun vs H Q E h => by obtain ⟨a, v, rfl, _⟩ := h; rfl, fun A outer s H args us vs Q E hr e0 hb r hsp => ?_⟩
  obtain ⟨oc, od, dV, kV, doc, pm, c, cc, ct, osl, cl, cld, csl, ocl, ocd, cvs, ocs, file, tf, rfl, lk, hcd, lcell, lcode, hvs, hfile⟩ := X.ex
  obtain ⟨a, v, rfl, ea, q⟩ := hsp
  have S := scX_init
  have KX : K.In s.heap := e0.mod.kin.keeps fun b o e => (e0.bs b o e).1
  have lim : s.heap.NoLimit := e0.mod.nolimit.keeps fun b o e => (e0.bs b o e).1
  refine codeAny_call_function hr.depth (KX _ _ lk) rfl S.co S.gen rfl (PySem.W.codeRec_of KX hcd) (hb _ _ _ _ ?_)
  refine wpAny_newFunctionEnv S.nocell (fun ⟨n, _⟩ hy => S.par n (List.of_mem_zip hy).1) (fun h₁ hns hsb => ⟨lim.fresh _ hsb, PySem.ks_codeAny_funcAt ?_⟩) S.kind
  have kp : ∀ b o, s.heap.get? b = some o → h₁.get? b = some o := fun b o e => hsb.extBut b o (Nat.ne_of_lt (Heap.lt_size e)) (Heap.get?_push_of_some _ e)
  let F : NdefX.NF := ⟨"__init__", "InvalidState.__init__", defArgs sX_init, defBody sX_init, defScope sX_init, [("__class__", cc)], c⟩
  have hcc : ∀ y c', F.cl.lookup y = some c' → c' = cc ∧ y = "__class__" := fun y c' e => by
    have e' : List.lookup y [(("__class__" : Str), cc)] = some c' := e
    rw [List.lookup_cons] at e'
    cases hy : y == ("__class__" : Str) with
    | true => rw [hy] at e'; exact ⟨(Option.some.inj e').symm, eq_of_beq hy⟩
    | false => rw [hy] at e'; cases e'
  have hC0 : NdefX.CellsAt F.cl ["__class__"] [some (.ref C)] s.heap H := by
    refine ⟨rfl, fun y c' e => ?_, fun x y c' e1 e2 => (hcc _ _ e1).2.trans (hcc _ _ e2).2.symm, fun i y e => ?_⟩
    · obtain ⟨rfl, _⟩ := hcc _ _ e
      obtain ⟨o, ho⟩ : ∃ o, base.get? c' = some o := ⟨_, e0.mod.kin _ _ lcell⟩
      exact ⟨(e0.bs _ _ ho).2, _, _, KX _ _ lcell, rfl⟩
    · cases i with
      | zero =>
        obtain rfl : "__class__" = y := Option.some.inj e
        refine ⟨cc, rfl, fun v' e' => ?_⟩
        obtain rfl : V.ref C = v' := Option.some.inj (Option.some.inj e')
        exact ⟨.ref C, rfl, _, KX _ _ lcell, rfl⟩
      | succ i => simp at e
  have I : Inv (NdefX.ncx L2.CX0 P w K mg base NX_init F f A outer s H E) [] (NdefX.startF NX_init [.ref a, v] [some (.ref C)]) H { s with heap := h₁, toks := s.toks + (["self", "value"].zip us).length } :=
    NdefX.inv_startN S hr.hd e0 rfl r hC0 hns kp
  refine PySem.ks_wpAt_execs_cons (PySem.ks_wpAt_Expr_any (PySem.ks_wpAt_MethodCall ?_))
  obtain ⟨t1, hx1⟩ := exo_at I.hok ea
  have Kx := I.kIn
  cases r with
  | @cons _ ua _ us' ra r' =>
  obtain rfl : ua = Value.ref a := ra
  cases r' with
  | @cons _ uv _ us'' rv r'' =>
  cases r''
  obtain ⟨mb, hb1, hb2⟩ := I.mod.blt
  obtain ⟨nm, q1, N, bs, bm, sn, sub, ab, col, dd, k0, k1, k2, k3, k5, hCl, hbm⟩ := X.cls.cls
  refine PySem.ks_wpAt_super_base (env := NdefX.envF F f s.heap.objs.size) rfl rfl (by decide) rfl (Kx _ _ lk) rfl rfl rfl (Kx _ _ lcode) rfl hvs hfile X.top ?_
  refine PySem.W.ks_loadName_global rfl rfl (Calls.loadGlobal_builtin (I.mod.glob.keeps I.bk) X.noSuper (hb1.keeps I.bk) ((hb2 "super" (by decide)).trans (by first | rfl | decide +kernel)) ⟨rfl, ?_⟩)
  refine wpAny_loadName_free rfl rfl rfl ⟨_, Kx _ _ lcell, rfl⟩ ?_
  refine wpAny_loadName_local rfl rfl hns (v := .ref a) (by rfl) ?_
  refine PySem.ks_wpAny_isType_cls (Kx _ _ hCl) rfl ⟨rfl, ?_⟩
  refine PySem.ks_wpAny_call_super (Kx _ _ hCl) rfl hx1 rfl (fun c e => by cases e) (PySem.W.looks_mroIn Kx X.mro) (fun h2 e2 kp2 => ?_)
  have Kx2 : K.In h2 := Kx.keeps kp2
  have hx2 := kp2 _ _ hx1
  have II : PySem.W.InstAt h2 a _ C none := ⟨hx2, rfl, rfl, trivial⟩
  have hI : PySem.W.Looks (model P w) h2 (isInstance (.ref a) (.type "ValueError")) true := II.type.andThen (PySem.W.looks_subIn Kx2 X.sub)
  have hsup := X.sup
  unfold PySem.W.ks_superIn at hsup
  cases hc : PySem.W.clsIn K C with
  | none => rw [hc] at hsup; cases hsup
  | some cd =>
  rw [hc] at hsup
  refine PySem.W.kxs_getMethod PySem.W.kxs_ValueError e2 (PySem.W.looks_opaque Kx2 X.third) (l₀ := cd.mro) (fun A Q E s k q => wpAny_bind ((PySem.W.looks_clsIn Kx2 hc) A _ E s k (wpAny_pure q))) rfl Kx2 hsup hI (PySem.W.ks_ne Kx2 II hc) (by decide) ?_
  have hu : (h2.push (PySem.W.kxs_mw "ValueError.__init__" a)).get? h2.objs.size = some (PySem.W.kxs_mw "ValueError.__init__" a) := Heap.get?_push_at rfl rfl
  have kp3 : ∀ b o, h2.get? b = some o → (h2.push (PySem.W.kxs_mw "ValueError.__init__" a)).get? b = some o := fun b o e => Heap.get?_push_of_some _ e
  refine PySem.W.kxs_callWith (i := "ValueError.__init__") (x := a) rfl (evalArgs_empty ⟨hu, ?_⟩)
  refine PySem.K69X.call_mw (kp3 _ _ (Kx2 _ _ hCl)) (kp3 _ _ hx2) hu (Nat.zero_le _) (fun h4 t4 kp4 hx4 => ?_)
  have kk : ∀ b o, b ≠ a → h₁.get? b = some o → h4.get? b = some o := fun b o hb e => kp4 _ _ hb (kp3 _ _ (kp2 _ _ e))
  have J := fun t' => I.write (t' := t') (x := a) (e := a) (o := exo a C none) (by rw [ea]; exact True.intro) (.inl rfl) kk ⟨_, hx4⟩ (exo_ok hx4)
  have eu : upd H a (exo a C none) = H := by
    funext b
    by_cases hb : b = a
    · rw [hb, upd_same, ea]
    · rw [upd_ne hb]
  rw [eu] at J
  have ht : PSs (NdefX.ncx L2.CX0 P w K mg base NX_init F f A outer s H E) ((defBody sX_init).drop 1) _ := pss_cons (ps_ost (pv 0) (pv 1)) pss_nil
  refine wpAt_of_wpAny (wpAny_mono (ht.run [] _ (NdefX.startF NX_init [.ref a, v] [some (.ref C)]) H { nx := fun _ H' => Q .non H', rt := Q } (J _) ?_) (fun fl s' hs => ?_) fun e s' hs => hs)
  · exact ⟨v, rfl, .ref a, rfl, a, C, rfl, X.cls, X.noval, .inl ⟨ea, fun dx n ne => q dx n ne⟩⟩
  have fin : ∀ {σ' : L2.St} {H' : Hp} {v : V} {u : Value}, Inv (NdefX.ncx L2.CX0 P w K mg base NX_init F f A outer s H E) [] σ' H' s' → L2.RelV v u → Q v H' → CE outer P w H s Q u s' :=
    fun {σ' H' v u} J rv q => ⟨v, H', J.os, J.bare, J.base, J.hok, rv, q⟩
  cases fl with
  | ret u =>
    obtain ⟨v, σ', H', J, rv, q⟩ := hs
    exact fin J rv q
  | next =>
    obtain ⟨σ', H', J, q⟩ := hs
    exact fin (v := V.non) (u := Value.none) J rfl q
  | brk =>
    obtain ⟨_, _, _, q⟩ := hs
    exact False.elim q
  | cont =>
    obtain ⟨_, _, _, q⟩ := hs
    exact False.elim q
end
end K69
set_option Elab.async false
set_option linter.all false
set_option maxRecDepth 100000
set_option maxHeartbeats 4000000
namespace K69
open PySem PySem.Spec PyProof.Rows L2
/-! a caught exception that is read behind its handler -/
/-- at a: an exception of the class at C with its dict at d -/
def xcO (a C : Addr) (d : Option Addr) : HO := .ext fun h => ∃ (oe : Obj) (vs : Array Value), h.get? a = some oe ∧ oe.cls = .ref C ∧ oe.dict = d ∧ oe.data = .fields vs
theorem xcO_ok {P : Program} {w : World} {H : Hp} {h : Heap} {a C : Addr} {d : Option Addr} {oe : Obj} {vs : Array Value} (e : h.get? a = some oe) (c : oe.cls = .ref C) (dd : oe.dict = d) (f : oe.data = .fields vs) : ObjOk P w H h a (xcO a C d) :=
  ⟨⟨oe, vs, e, c, dd, f⟩, ⟨_, e⟩, fun h1 h2 z k => by
    obtain ⟨oe, vs, q, r⟩ := z
    exact ⟨oe, vs, k _ q, r⟩⟩
theorem xcO_at {P : Program} {w : World} {H : Hp} {h : Heap} {a C : Addr} {d : Option Addr} (hok : HOk P w H h) (he : H a = some (xcO a C d)) : ∃ (oe : Obj) (vs : Array Value), h.get? a = some oe ∧ oe.cls = .ref C ∧ oe.dict = d ∧ oe.data = .fields vs := by
  have x : ObjOk P w H h a (.ext fun h => ∃ (oe : Obj) (vs : Array Value), h.get? a = some oe ∧ oe.cls = .ref C ∧ oe.dict = d ∧ oe.data = .fields vs) := hok a _ he
  exact x.1
section
variable {X : Cx} {pins : List (Addr × Obj)} {σ : L2.St} {H : Hp} {s : Shared}
/-- an object that has come since the entry, and that nobody tells of, is told of -/
theorem Inv.adopt {a : Addr} {o : HO} (I : Inv X pins σ H s) (hn : H a = none) (new : ObjOk X.prog X.w (upd H a o) s.heap a o) (h0 : X.s_0.heap.get? a = none) (nL : a ≠ X.env.locals) (nC : ∀ x c, X.env.cells.lookup x = some c → c ≠ a)
    (np : ∀ p ∈ X.pn ++ pins, p.1 ≠ a) : Inv X pins σ (upd H a o) s where
  ok := I.ok
  os := I.os
  bare := I.bare
  base := {
    keep := I.base.keep
    slot := I.base.slot
    free := fun b u q n x => by
      have hb : b ≠ a := fun z => by rw [z, h0] at q; cases q
      rw [upd_ne hb]
      exact I.base.free b u q n x
    there := I.base.there
    tups := fun b xs q => by
      have r := I.base.tups b xs q
      rw [upd_ne (ne_of_none r hn)]
      exact r
    frzs := fun b u v q => by
      have r := I.base.frzs b u v q
      rw [upd_ne (ne_of_none r hn)]
      exact r
    tbls := fun b ps q => by
      obtain ⟨more, r⟩ := I.base.tbls b ps q
      exact ⟨more, by rw [upd_ne (ne_of_none r hn)]; exact r⟩ }
  loc := I.loc
  cell := I.cell
  free := by rw [upd_ne (Ne.symm nL)]; exact I.free
  freeC := fun x c e => by rw [upd_ne (nC x c e)]; exact I.freeC x c e
  pin := fun p hp => by
    obtain ⟨h1, h2, h3⟩ := I.pin p hp
    exact ⟨h1, by rw [upd_ne (np p hp)]; exact h2, h3⟩
  hok := HOk.laidN I.hok (fun _ _ q => q) hn new
  len := I.len
/-- what a clause that keeps its exception wishes: slot i is the clause's own name; behind the suite the object at a may be read -/
def wKp (K : PySem.W.Frag) (c : Value) (C : Addr) (i : Nat) (ts : Addr → Value → Option Addr → TS) (D : L2.Ends) : WX := fun cls d σ H =>
  cls = .ref C ∧ PySem.W.exmOne K cls c = some true ∧ ∀ a, H a = none → ts a cls d { nx := fun σ' H' => H' a = none → D.nx (σ'.set i none) (upd H' a (xcO a C d)), rt := fun _ _ => False } (σ.set i (some (.ref a))) H
theorem ps_try_keep {x n : Str} {c : Value} {C : Addr} {i : Nat} {body suite : List Stmt} {b₀ : Stmt} {np pos pos' : Pos} {tb : WX → TS} {ts : Addr → Value → Option Addr → TS}
    (hs : X.stack = X.env :: X.outer) (hf : X.env.frame = some X.env.locals) (hx : X.ex = []) (hN : X.N.Nodup) (hi : X.N[i]? = some n) (hln : X.env.kindOf n = some .local) (hg : Gl X x) (hdb : (x == ("__debug__" : Str)) = false) (hm : X.mg x = some c)
    (hb : ∀ (W : WX) (pn : List (Addr × Obj)) (xe : Value → Shared → Prop), Takes (X.tr pn xe) W → PassesOwn (model X.prog X.w) X.A X.env xe → PSs (X.tr pn xe) body (tb W))
    (hsu : ∀ (a : Addr) (oe : Obj) (cls : Value) (d : Option Addr) (pn : List (Addr × Obj)), Zc cls d oe → (∃ vs, oe.data = .fields vs) → PSs (X.suite a ((a, oe) :: pn)) (b₀ :: suite) (ts a cls d)) :
    PS X (.Try body [.ExceptHandler (some (.Name x np)) (some n) (b₀ :: suite) pos'] [] [] pos) (fun D σ H => tb (wKp X.K c C i ts D) D σ H) := by
  constructor
  intro pins s σ H D I h
  have frames : X.A.frames = some (X.env :: X.outer) := by rw [I.ok.frames, hs]
  refine wpAny_Try_except (wpAny_mono ((hb (wKp X.K c C i ts D) (X.pn ++ pins) (fun e s₁ => wpAny (model X.prog X.w) X.A (noteFrame e X.env) (fun _ s₂ => wpAny (model X.prog X.w) X.A (setFlight e none) (fun _ s₃ =>
    wpAny (model X.prog X.w) X.A (handleBy e X.env [.ExceptHandler (some (.Name x np)) (some n) (b₀ :: suite) pos']) (SP X pins D) X.xe s₃) X.xe s₂) X.xe s₁) (fun u s' air => ?_) PassesOwn.looking).run [] s σ H D (I.toTry _) h) (fun f s1 hsp => ?_) (fun e s1 he => he))
  · obtain ⟨a, B, sI, pins', σ', H', cls, d, rfl, J', nb, up, sky, na, os, ag, rfl, hyes, want⟩ := air
    have J : Inv X pins σ' H' sI := J'.ofTry I.ok
    rw [hs] at sky
    show wpAny (model X.prog X.w) X.A (noteFrame (.ref a) X.env) _ _ _
    refine Sky.land Zc.steady frames hf sky fun h3 fl3 up3 => ?_
    have J3 : Inv X pins σ' H' { s' with heap := h3 } := J.landed nb fl3.1 (up.trans up3) os ag
    obtain ⟨oe3, vs3, he3, hz3, hd3⟩ := fl3.there
    have away : a ∉ frs (X.env :: X.outer) := fun m => by
      obtain ⟨_, o', e', no⟩ := fl3.2.2.1.mem m
      rw [he3] at e'
      cases e'
      exact no _ hd3
    have nL : a ≠ X.env.locals := fun z => away (List.mem_filterMap.mpr ⟨X.env, List.mem_cons_self, by rw [hf, z]⟩)
    have nF : a ∉ X.fs := fun m => by
      obtain ⟨e, he, q⟩ := List.mem_filterMap.mp m
      exact away (List.mem_filterMap.mpr ⟨e, List.mem_cons_of_mem _ he, q⟩)
    have hI0 : sI.heap.get? a = none := by
      cases q : sI.heap.get? a with
      | none => rfl
      | some o =>
        have z := nb a o q (by rw [hs]; exact away)
        rw [fl3.2.1] at z
        cases z
    have hS0 : X.s_0.heap.get? a = none := by
      cases q : X.s_0.heap.get? a with
      | none => rfl
      | some o =>
        obtain ⟨o', z⟩ := J.base.there a o q (by rw [hx]; simp)
        rw [hI0] at z
        cases z
    have nC : ∀ y c', X.env.cells.lookup y = some c' → c' ≠ a := fun y c' e z => by
      obtain ⟨v, o, ho, _⟩ := J.cell y c' e
      rw [z, hI0] at ho
      cases ho
    have npn : ∀ p ∈ X.pn ++ pins, p.1 ≠ a := fun p hp z => by
      have e := (J.pin p hp).1
      rw [z, hI0] at e
      cases e
    refine wpAny_handleBy_cons (codeAny_handlers_test ?_) (by intro q; cases q)
    have LT : PySem.W.Looks (model X.prog X.w) h3 (typeOf (.ref a)) (.ref C) := fun A Q E s k q => wpAny_typeOf_ref (k _ _ he3) (by rw [hz3.1]; exact q)
    refine ld_glob (X := X.suite a ((a, oe3) :: (X.pn ++ pins))) (J3.suite he3 hd3 na nL nF) hg hm ((PySem.W.exm_one (M := model X.prog X.w) J3.kIn LT hyes).here ?_) hdb
    refine codeAny_handlers_suite_as (HandSPX.lands_againZ fl3 fun h4 fl4 up4 => ?_)
    have J4 : Inv X pins σ' H' { s' with heap := h4 } := J.landed nb fl4.1 ((up.trans up3).trans up4) os ag
    obtain ⟨oe4, vs4, he4, hz4, hd4⟩ := fl4.there
    refine store_ok (X := X.suite a ((a, oe4) :: (X.pn ++ pins))) (v := .ref a) (J4.suite he4 hd4 na nL nF) hN hi (.inl hln) rfl (fun s5 S5 => ?_) (.inr hln)
    refine wpAny_mono ((hsu a oe4 (.ref C) d (X.pn ++ pins) hz4 ⟨_, hd4⟩).run [] s5 _ H' _ S5 (want a na)) (fun f s6 hsp => ?_) (fun _ _ z => False.elim z)
    cases f with
    | next =>
      obtain ⟨σ6, H6, S6, q6⟩ := hsp
      obtain ⟨pa, pn0, _⟩ := S6.pin (a, oe4) (List.mem_append_left _ List.mem_cons_self)
      have K6 := Inv.adopt (a := a) (o := xcO a C d) (S6.unsuite I.ok) pn0 (xcO_ok pa hz4.1 hz4.2 hd4) hS0 nL nC npn
      exact gone_ok K6 hN hi hln fun s7 J7 => ⟨_, _, J7, q6 pn0⟩
    | brk =>
      obtain ⟨_, _, _, q6⟩ := hsp
      exact False.elim q6
    | cont =>
      obtain ⟨_, _, _, q6⟩ := hsp
      exact False.elim q6
    | ret u =>
      obtain ⟨_, _, _, _, _, q6⟩ := hsp
      exact False.elim q6
  · cases f with
    | next =>
      obtain ⟨σ', H', J', q⟩ := hsp
      exact wpAny_execs_nil ⟨σ', H', J'.ofTry I.ok, q⟩
    | brk =>
      obtain ⟨σ', H', J', q⟩ := hsp
      exact ⟨σ', H', J'.ofTry I.ok, q⟩
    | cont =>
      obtain ⟨σ', H', J', q⟩ := hsp
      exact ⟨σ', H', J'.ofTry I.ok, q⟩
    | ret u =>
      obtain ⟨v, σ', H', J', r, q⟩ := hsp
      exact ⟨v, σ', H', J'.ofTry I.ok, r, q⟩
end
/-- the reading of «caught.n» -/
def tXc (K : PySem.W.Frag) (n : Str) (te : TE) : TE := fun σ H Q => te σ H fun x H1 => ∃ (a C dd : Addr) (fs : List (Str × V)) (v : V), x = .ref a ∧ XfC K C ∧ PySem.W.findIn K (.ref C) n = some none ∧ H1 a = some (xcO a C (some dd)) ∧ H1 dd = some (.xd fs) ∧ fs.lookup n = some v ∧ Q v H1
theorem pe_xc {X : Cx} {e : Expr} {te : TE} {pos : Pos} {n : Str} (he : PE X e te) (hb : attributeBase e n X.env (eval e X.env) = eval e X.env := by rfl) : PE X (.Attribute e n pos) (tXc X.K n te) := by
  constructor
  intro pins s σ H Q I h
  refine attr_of hb (thn (he.run pins s σ H _ I h) fun u s1 ⟨x, H1, I1, rx, a, C, dd, fs, v, ex, T, hno, ea, ed, l, q⟩ => ?_)
  subst ex
  obtain rfl : u = Value.ref a := rx
  obtain ⟨oe, vs, ha, hc, hd, hf⟩ := xcO_at I1.hok ea
  obtain ⟨mA, hns, hr⟩ : ObjOk X.prog X.w H1 s1.heap dd (.xd fs) := I1.hok dd _ ed
  obtain ⟨od, ho, hl⟩ := lookIn_ns hns
  obtain ⟨u, hu, ru⟩ := RelO.some_of (v := v) (o := mA n) (by rw [← l]; exact hr n)
  have J : PySem.W.InstAt s1.heap a oe C (some od) := ⟨ha, hc, by unfold PySem.W.notCls; rw [hf] <;> rfl, by rw [hd]; exact ho⟩
  exact HandSPX.exc_get I1.kIn J T.ga T.gg T.exC (PySem.W.findObj_own T.hdC hno rfl (by rw [hl, hu])) (handed_of ru) ⟨v, H1, I1.tok _, ru, q⟩
end K69
set_option Elab.async false
set_option linter.all false
set_option maxRecDepth 100000
set_option maxHeartbeats 4000000
namespace K69
open PySem PySem.Spec PyProof.Rows L2
/-- what the text says of InvalidState -/
structure ZTxt (P : Program) (K : PySem.W.Frag) (mg : Str → Option Value) (CI fI : Addr) (fd : FuncData) : Prop where
  xfn : XFun P K mg CI fI fd
  iC : PySem.W.findIn K (.ref CI) "__init__" = some (some (.ref fI))
  tI : PySem.W.typeIn K (.ref fI) = some (.type "function")
  gm : mg "InvalidState" = some (.ref CI)
  xf : XfC K CI
  exm : PySem.W.exmOne K (.ref CI) (.ref CI) = some true
  bd : Binds K fd ["self", "value"] []
/-- a def that may let an exception out -/
structure CalX (P : Program) (w : World) (K : PySem.W.Frag) (mg : Str → Option Value) (base : Heap) (k : Nat) (x : Str) (sp : Sp) : Prop where
  ex : ∃ (f : Addr) (fd : FuncData) (ps : List Str), FnOk P w K mg base (L2.CX P w) k f fd ps sp ∧ mg x = some (.ref f) ∧ PySem.W.keepIn K (.ref f) = true ∧ Binds K fd ps []
section
variable {P : Program} {w : World} {K : PySem.W.Frag} {mg : Str → Option Value} {base : Heap} {C CI fI : Addr} {fdI : FuncData}
local macro_rules | `(tactic| walk_at "lk") => `(tactic| first | assumption | exact upd_same | exact (by assumption : Ex _ _) _ _ (by assumption))
local macro_rules | `(tactic| walk_at "g1") => `(tactic| first
  | with_reducible refine g_seq ?_ | with_reducible refine g_asg ?_ | with_reducible refine g_name ?_ | with_reducible refine g_cons ?_ | with_reducible refine g_nil ?_
  | ((with_reducible refine' g_var ?e ?_); (case e => exact rfl)) | with_reducible refine g_C ?_ | with_reducible refine g_op ?_ | with_reducible refine g_fld0 ?_ | with_reducible refine g_dget ?_ | with_reducible refine g_cb ?_ | with_reducible refine g_call ?_
  | with_reducible refine g_ret ?_ | with_reducible refine g_ifS ?_ | with_reducible refine g_test ?_ | with_reducible refine g_B ?_ | with_reducible refine g_bl ?_ | with_reducible refine g_not ?_ | with_reducible refine g_or ?_ | with_reducible refine g_and ?_
  | with_reducible refine g_ite ?_ | with_reducible refine g_itf ?_ | with_reducible refine g_itnt ?_ | with_reducible refine g_itnf ?_ | with_reducible refine g_eqS ?_ | with_reducible refine g_neS ?_ | with_reducible refine g_neI ?_ | with_reducible refine g_eqB ?_ | with_reducible refine g_neB ?_ | with_reducible refine g_eqI ?_ | with_reducible refine g_rI0 ?_ | with_reducible refine g_ipI ?_ | with_reducible refine g_int ?_
  | with_reducible refine g_drop ?_ | with_reducible refine g_next ?_ | with_reducible refine g_bm ?_ | with_reducible refine g_bm0 ?_ | with_reducible refine g_din ?_ | with_reducible refine g_dnotin ?_ | with_reducible refine g_dput ?_ | ((with_reducible refine' g_aug ?e ?_); (case e => exact rfl))
  | with_reducible refine g_andV ?_ | with_reducible refine g_orV ?_ | with_reducible refine g_notV ?_ | with_reducible refine g_if ?_ | with_reducible refine g_isN ?_ | with_reducible refine g_notN ?_ | with_reducible refine g_sl ?_ | with_reducible refine g_nopart ?_ | with_reducible refine g_part ?_
  | with_reducible refine g_gcons ?_ | with_reducible refine g_gnil ?_ | with_reducible refine g_par2 ?_ | with_reducible refine g_par3 ?_ | with_reducible refine g_vw ?_ | with_reducible refine g_uvw ?_ | with_reducible refine g_yes ?_ | with_reducible refine g_un ?_ | with_reducible refine g_rU ?_ | with_reducible refine g_gsub ?_ | with_reducible refine g_chain ?_ | with_reducible refine g_for ?_ | with_reducible refine g_istr ?_ | with_reducible refine g_ilist ?_ | with_reducible refine g_itup ?_ | with_reducible refine g_ikeys ?_ | with_reducible refine g_ivals ?_ | with_reducible refine g_iitems ?_ | with_reducible refine g_irng1 ?_ | with_reducible refine g_izip ?_ | with_reducible refine g_while ?_ | with_reducible refine g_tru _ ?_ | with_reducible refine g_lc ?_ | with_reducible refine g_dc ?_ | with_reducible refine g_lc2 ?_ | with_reducible refine g_tup ?_ | with_reducible refine g_lst ?_ | with_reducible refine g_dnew ?_ | with_reducible refine g_sfld ?_ | with_reducible refine g_dget2 ?_ | with_reducible refine g_dzip ?_ | with_reducible refine g_dnewT ?_ | with_reducible refine g_dispT ?_ | with_reducible refine g_star ?_ | with_reducible refine g_disp ?_ | with_reducible refine g_prs ?_ | with_reducible refine g_prs0 ?_ | with_reducible refine g_sc ?_ | with_reducible refine g_make ?_ | with_reducible refine g_meth ?_
  | ((with_reducible refine' g_ixT ?h ?e ?_); (case h => walk_at "lk"); (case e => exact rfl)) | ((with_reducible refine' g_ixL ?h ?e ?_); (case h => walk_at "lk"); (case e => exact rfl))
  | ((with_reducible refine' g_fldK ?h ?c ?n ?l ?_); (case h => walk_at "lk"); (case c => exact C8.InsC.cl (Txt.insC (by assumption))); (case n => first | exact Txt.nR (by assumption) | exact Txt.nF (by assumption)); (case l => exact rfl)))
local macro_rules | `(tactic| walk_at "go") => `(tactic| (repeat walk_at "g1"))
local macro_rules | `(tactic| walk_at "ty") => `(tactic| first | exact .base (.str _) | exact .base .non | exact .base (.bl _) | exact .base (.int _) | exact .base (.tup (by assumption)) | exact .base (.lst (by assumption)) | exact .base (.dK (by assumption)) | exact .fDict (by assumption))
def sp_cut_no (C CI : Addr) : Sp := fun vs H Q E => ∃ (a : Addr) (bk : Book) (s x : Str) (G : Hp), vs = [.ref a, .str x] ∧ Ex G H ∧ DeskAt C G a bk s ∧ DeskOk bk s ∧ spelt x = true ∧ x ∉ waistsL bk s ∧
  ∀ dd H', Ex H H' → H' dd = some (.xd [("value", .str x)]) → E (.ref CI) (some dd) H'
theorem cal_cut_no (F : Has K mg "cut_at" scut_at) (T : Txt K w mg C) (Z : ZTxt P K mg CI fI fdI) (c_check_desk : Cal P w K mg base 1 "check_desk" (sp_check_desk C)) (c_is_spelt : Cal P w K mg base 1 "is_spelt" sp_is_spelt)
    (c_waists_of : Cal P w K mg base 3 "waists_of" (sp_waists_of C)) : CalX P w K mg base 6 "cut_at" (sp_cut_no C CI) := by
  obtain ⟨f, fd, F, m⟩ := F.ex
  refine ⟨f, fd, ["desk", "state"], F.okX sccut_at (fun vs H Q E h => ?_) (fun cdv A outer s H vs Q E hr h => ?_), m, F.kp, F.binds (fun _ _ _ _ _ _ us hl => match us, hl with | [_, _], _ => rfl)⟩
  · obtain ⟨a, bk, s, x, G, rfl, _⟩ := h; rfl
  · obtain ⟨a, bk, s, x, G, rfl, eG, da, D, sx, hx, k⟩ := h
    have nd := sccut_at.nd
    have hu := hu_of hr
    refine ⟨_, (pss_cons (ps_expr (kc c_check_desk hr (pa_cons (pv 0) pa_nil)))
  (pss_cons (ps_if (PW.pt (pw_or (pt_not (pt_val (kc c_is_spelt hr (pa_cons (pv 1) pa_nil)))) (pw_or1 (pt_cmpR (kNotIn K) (pv 1) (kc c_waists_of hr (pa_cons (pv 0) pa_nil)) rfl))))
    (pss_one (ps_raise rfl (takes_of rfl rfl rfl rfl) (pmk_oex Z.xfn.cls Z.iC Z.tI (ok_xinit Z.xfn) (hr.mono (by decide)) Z.bd .nil passAny rfl Z.gm (pa_cons (pv 1) pa_nil)))) pss_nil)
  (pss_cons ps_never
  (pss_cons ps_never
  (pss_one ps_never))))), ?_⟩
    have da' := da
    obtain ⟨b, dx, hag, hdx, hbk⟩ := da'
    walk_at "go"
    refine ⟨a, dx, _, rfl, eG _ _ hag, ?_⟩
    walk_at "go"
    refine ⟨x, rfl, spelt_len sx, ?_⟩
    rw [sx]
    walk_at "go"
    refine ⟨a, bk, s, G, rfl, eG, da, D.ok, D.st, fun p G1 H1 N1 gp hp => ?_⟩
    walk_at "go"
    refine g_nin (.inl (SqL.of (N1.gh _ _ gp))) rfl (flatS _) (inV_str x _) ?_
    rw [decide_eq_false hx]
    walk_at "go"
    refine ⟨.str x, rfl, Nat.le_add_left 1 999, fun e he => ⟨e, .str x, rfl, upd_same, fun dx hdx ne => ⟨rfl, dx, [("value", .str x)], upd_same, ?_, ?_, ?_⟩⟩⟩
    · rw [upd_ne ne, upd_same]
    · rw [upd_ne ne] at hdx; exact hdx
    · rw [upd_ne ne] at hdx
      refine k dx _ (fun y o q => ?_) upd_same
      have q1 := N1.ex _ _ q
      rw [upd_ne (ne_of_none q1 hdx), del_ne (ne_of_none q1 he), upd_ne (ne_of_none q1 he), upd_ne (ne_of_none q1 hdx), upd_ne (ne_of_none q1 he)]
      exact q1
end
end K69
set_option Elab.async false
set_option linter.all false
set_option maxRecDepth 100000
set_option maxHeartbeats 4000000
namespace K69
open PySem PySem.Spec PyProof.Rows L2
section
variable {P : Program} {w : World} {K : PySem.W.Frag} {mg : Str → Option Value} {base : Heap} {C CI fI : Addr} {fdI : FuncData}
local macro_rules | `(tactic| walk_at "lk") => `(tactic| first | assumption | exact upd_same | exact (by assumption : Ex _ _) _ _ (by assumption))
local macro_rules | `(tactic| walk_at "g1") => `(tactic| first
  | with_reducible refine g_seq ?_ | with_reducible refine g_asg ?_ | with_reducible refine g_name ?_ | with_reducible refine g_cons ?_ | with_reducible refine g_nil ?_
  | ((with_reducible refine' g_var ?e ?_); (case e => exact rfl)) | with_reducible refine g_C ?_ | with_reducible refine g_op ?_ | with_reducible refine g_fld0 ?_ | with_reducible refine g_dget ?_ | with_reducible refine g_cb ?_ | with_reducible refine g_call ?_
  | with_reducible refine g_ret ?_ | with_reducible refine g_ifS ?_ | with_reducible refine g_test ?_ | with_reducible refine g_B ?_ | with_reducible refine g_bl ?_ | with_reducible refine g_not ?_ | with_reducible refine g_or ?_ | with_reducible refine g_and ?_
  | with_reducible refine g_ite ?_ | with_reducible refine g_itf ?_ | with_reducible refine g_itnt ?_ | with_reducible refine g_itnf ?_ | with_reducible refine g_eqS ?_ | with_reducible refine g_neS ?_ | with_reducible refine g_neI ?_ | with_reducible refine g_eqB ?_ | with_reducible refine g_neB ?_ | with_reducible refine g_eqI ?_ | with_reducible refine g_rI0 ?_ | with_reducible refine g_ipI ?_ | with_reducible refine g_int ?_
  | with_reducible refine g_drop ?_ | with_reducible refine g_next ?_ | with_reducible refine g_bm ?_ | with_reducible refine g_bm0 ?_ | with_reducible refine g_din ?_ | with_reducible refine g_dnotin ?_ | with_reducible refine g_dput ?_ | ((with_reducible refine' g_aug ?e ?_); (case e => exact rfl))
  | with_reducible refine g_andV ?_ | with_reducible refine g_orV ?_ | with_reducible refine g_notV ?_ | with_reducible refine g_if ?_ | with_reducible refine g_isN ?_ | with_reducible refine g_notN ?_ | with_reducible refine g_sl ?_ | with_reducible refine g_nopart ?_ | with_reducible refine g_part ?_
  | with_reducible refine g_gcons ?_ | with_reducible refine g_gnil ?_ | with_reducible refine g_par2 ?_ | with_reducible refine g_par3 ?_ | with_reducible refine g_vw ?_ | with_reducible refine g_uvw ?_ | with_reducible refine g_yes ?_ | with_reducible refine g_un ?_ | with_reducible refine g_rU ?_ | with_reducible refine g_gsub ?_ | with_reducible refine g_chain ?_ | with_reducible refine g_for ?_ | with_reducible refine g_istr ?_ | with_reducible refine g_ilist ?_ | with_reducible refine g_itup ?_ | with_reducible refine g_ikeys ?_ | with_reducible refine g_ivals ?_ | with_reducible refine g_iitems ?_ | with_reducible refine g_irng1 ?_ | with_reducible refine g_izip ?_ | with_reducible refine g_while ?_ | with_reducible refine g_tru _ ?_ | with_reducible refine g_lc ?_ | with_reducible refine g_dc ?_ | with_reducible refine g_lc2 ?_ | with_reducible refine g_tup ?_ | with_reducible refine g_lst ?_ | with_reducible refine g_dnew ?_ | with_reducible refine g_sfld ?_ | with_reducible refine g_dget2 ?_ | with_reducible refine g_dzip ?_ | with_reducible refine g_dnewT ?_ | with_reducible refine g_dispT ?_ | with_reducible refine g_star ?_ | with_reducible refine g_disp ?_ | with_reducible refine g_prs ?_ | with_reducible refine g_prs0 ?_ | with_reducible refine g_sc ?_ | with_reducible refine g_make ?_ | with_reducible refine g_meth ?_
  | ((with_reducible refine' g_ixT ?h ?e ?_); (case h => walk_at "lk"); (case e => exact rfl)) | ((with_reducible refine' g_ixL ?h ?e ?_); (case h => walk_at "lk"); (case e => exact rfl))
  | ((with_reducible refine' g_fldK ?h ?c ?n ?l ?_); (case h => walk_at "lk"); (case c => exact C8.InsC.cl (Txt.insC (by assumption))); (case n => first | exact Txt.nR (by assumption) | exact Txt.nF (by assumption)); (case l => exact rfl)))
local macro_rules | `(tactic| walk_at "go") => `(tactic| (repeat walk_at "g1"))
local macro_rules | `(tactic| walk_at "ty") => `(tactic| first | exact .base (.str _) | exact .base .non | exact .base (.bl _) | exact .base (.int _) | exact .base (.tup (by assumption)) | exact .base (.lst (by assumption)) | exact .base (.dK (by assumption)) | exact .fDict (by assumption))
abbrev sl_is_refused : Stmt := topS 61
abbrev Nl_is_refused : List Str := ["_law_desk_here", "_law_state", "_law_caught", "error"]
theorem scl_is_refused : FnScope Nl_is_refused ["_law_desk_here", "_law_state"] (defScope sl_is_refused) := ⟨rfl, rfl, rfl, by decide +kernel, rfl, by decide +kernel, by decide +kernel⟩
theorem cal_is_refused (F : Has K mg "_law_is_refused" sl_is_refused) (T : Txt K w mg C) (Z : ZTxt P K mg CI fI fdI) (x_cut_at : CalX P w K mg base 6 "cut_at" (sp_cut_no C CI)) (c_law_exact : Cal P w K mg base 1 "_law_exact" (spE E0)) :
    Cal P w K mg base 9 "_law_is_refused" (sp_is_refused C) := by
  obtain ⟨fc, fdc, psc, FC, mc, kc0, bc⟩ := x_cut_at.ex
  refine F.cal (fun _ _ _ _ _ _ us hl => match us, hl with | [_, _], _ => rfl) scl_is_refused (fun vs H Q E h => ?_) (fun f cdv A outer s H vs Q E hr h => ?_)
  · obtain ⟨_, _, _, _, _, rfl, _⟩ := h; rfl
  · obtain ⟨d, bk, s, x, G, rfl, eG, dd, D, sx, hx, k⟩ := h
    have nd := scl_is_refused.nd
    have hu := hu_of hr
    have hr6 : Room 6 _ := hr.mono (by decide)
    refine ⟨_, (pss_cons (ps_set (i := 2) nd rfl (Or.inl rfl) pe_non)
      (pss_cons (ps_try_keep (C := CI) (i := 3) (tb := fun W => tDrop (tCallS (sp_cut_no C CI) (WE W) (tCons (tVar 0) (tCons (tVar 1) tNil)))) (ts := fun _ _ _ => tAsg (tVar 3) (gName 2)) rfl rfl rfl nd rfl rfl rfl (by decide) Z.gm
        (fun W pn xe tk _ => pss_one (ps_expr (pe_callS FC hr6 rfl mc kc0 bc (fun σ => passAt tk σ) (by exact (pa_cons (pv 0) (pa_cons (pv 1) pa_nil))))))
        (fun a oe cls d pn hz hf => pss_one (ps_set (i := 2) nd rfl (Or.inl rfl) (pv 3))))
      (pss_one (ps_ret (pe_and (pe_cmp (pc_notN (pv 2)) rfl) (pe_one (kc c_law_exact hr (pa_cons (pe_xc (pv 2)) (pa_cons (pv 1) pa_nil))))))))), ?_⟩
    walk_at "go"
    refine ⟨.ref d, rfl, .str x, rfl, ?_⟩
    refine ⟨d, bk, s, x, G, rfl, eG, dd, D, sx, hx, fun dx H1 e1 hd => ⟨rfl, Z.exm, fun a na => ?_⟩⟩
    walk_at "go"
    intro _
    have hda : dx ≠ a := ne_of_none hd na
    have hd2 : (upd H1 a (xcO a CI (some dx))) dx = some (.xd [("value", .str x)]) := by rw [upd_ne hda]; exact hd
    have ha2 : (upd H1 a (xcO a CI (some dx))) a = some (xcO a CI (some dx)) := upd_same
    have e2 : Ex H (upd H1 a (xcO a CI (some dx))) := e1.trans (Ex.new na)
    generalize upd H1 a (xcO a CI (some dx)) = H2 at hd2 ha2 e2 ⊢
    walk_at "go"
    rw [if_pos (by rw [decide_eq_false (show ¬ V.ref a = V.non from fun z => by cases z)]; rfl)]
    refine ⟨.ref a, rfl, a, CI, dx, _, .str x, rfl, Z.xf, Z.xfn.noval, ha2, hd2, by rfl, .str x, rfl, ?_⟩
    exact ⟨.str x, .str x, rfl, ⟨x, rfl, rfl⟩, fun H3 e3 => k H3 (e2.trans e3)⟩
end
end K69
set_option Elab.async false
set_option linter.all false
set_option maxRecDepth 100000
set_option maxHeartbeats 4000000
namespace K69
open PySem PySem.Spec PyProof.Rows L2
theorem mulW {i j : Int} (a : -1267650600228229401496703205376 < i) (b : i < 1267650600228229401496703205376) (c : -1267650600228229401496703205376 < j) (d : j < 1267650600228229401496703205376) : CMulW i j :=
  wide_mul (a := 100) (b := 100) (by omega) (by omega) (by decide) (by decide) (by decide)
theorem g_mulW {i j : Int} {H : Hp} {Q : VK} (c : CMulW i j) (q : Q (.int (i * j)) H) : rI CMulW (fun i j => V.int (i * j)) (.int i) (.int j) H Q := ⟨i, j, rfl, rfl, c, q⟩
theorem g_mod {i j : Int} {H : Hp} {Q : VK} (c : 0 < j) (q : ∀ r : Int, r = i % j → 0 ≤ r → r < j → Q (.int r) H) : rI (fun _ j => 0 < j) (fun i j => V.int (i % j)) (.int i) (.int j) H Q :=
  ⟨i, j, rfl, rfl, c, q _ rfl (Int.emod_nonneg i (by omega)) (Int.emod_lt_of_pos i c)⟩
section
variable {P : Program} {w : World} {K : PySem.W.Frag} {mg : Str → Option Value} {base : Heap} {C : Addr}
local macro_rules | `(tactic| walk_at "lk") => `(tactic| first | assumption | exact upd_same | exact (by assumption : Ex _ _) _ _ (by assumption))
local macro_rules | `(tactic| walk_at "g1") => `(tactic| first
  | with_reducible refine g_seq ?_ | with_reducible refine g_asg ?_ | with_reducible refine g_name ?_ | with_reducible refine g_cons ?_ | with_reducible refine g_nil ?_
  | ((with_reducible refine' g_var ?e ?_); (case e => exact rfl)) | with_reducible refine g_C ?_ | with_reducible refine g_op ?_ | with_reducible refine g_fld0 ?_ | with_reducible refine g_dget ?_ | with_reducible refine g_cb ?_ | with_reducible refine g_call ?_
  | with_reducible refine g_ret ?_ | with_reducible refine g_ifS ?_ | with_reducible refine g_test ?_ | with_reducible refine g_B ?_ | with_reducible refine g_bl ?_ | with_reducible refine g_not ?_ | with_reducible refine g_or ?_ | with_reducible refine g_and ?_
  | with_reducible refine g_ite ?_ | with_reducible refine g_itf ?_ | with_reducible refine g_itnt ?_ | with_reducible refine g_itnf ?_ | with_reducible refine g_eqS ?_ | with_reducible refine g_neS ?_ | with_reducible refine g_neI ?_ | with_reducible refine g_eqB ?_ | with_reducible refine g_neB ?_ | with_reducible refine g_eqI ?_ | with_reducible refine g_rI0 ?_ | with_reducible refine g_ipI ?_ | with_reducible refine g_int ?_
  | with_reducible refine g_drop ?_ | with_reducible refine g_next ?_ | with_reducible refine g_bm ?_ | with_reducible refine g_bm0 ?_ | with_reducible refine g_din ?_ | with_reducible refine g_dnotin ?_ | with_reducible refine g_dput ?_ | ((with_reducible refine' g_aug ?e ?_); (case e => exact rfl))
  | with_reducible refine g_andV ?_ | with_reducible refine g_orV ?_ | with_reducible refine g_notV ?_ | with_reducible refine g_if ?_ | with_reducible refine g_isN ?_ | with_reducible refine g_notN ?_ | with_reducible refine g_sl ?_ | with_reducible refine g_nopart ?_ | with_reducible refine g_part ?_
  | with_reducible refine g_gcons ?_ | with_reducible refine g_gnil ?_ | with_reducible refine g_par2 ?_ | with_reducible refine g_par3 ?_ | with_reducible refine g_vw ?_ | with_reducible refine g_uvw ?_ | with_reducible refine g_yes ?_ | with_reducible refine g_un ?_ | with_reducible refine g_rU ?_ | with_reducible refine g_gsub ?_ | with_reducible refine g_chain ?_ | with_reducible refine g_for ?_ | with_reducible refine g_istr ?_ | with_reducible refine g_ilist ?_ | with_reducible refine g_itup ?_ | with_reducible refine g_ikeys ?_ | with_reducible refine g_ivals ?_ | with_reducible refine g_iitems ?_ | with_reducible refine g_irng1 ?_ | with_reducible refine g_izip ?_ | with_reducible refine g_while ?_ | with_reducible refine g_tru _ ?_ | with_reducible refine g_lc ?_ | with_reducible refine g_dc ?_ | with_reducible refine g_lc2 ?_ | with_reducible refine g_tup ?_ | with_reducible refine g_lst ?_ | with_reducible refine g_dnew ?_ | with_reducible refine g_sfld ?_ | with_reducible refine g_dget2 ?_ | with_reducible refine g_dzip ?_ | with_reducible refine g_dnewT ?_ | with_reducible refine g_dispT ?_ | with_reducible refine g_star ?_ | with_reducible refine g_disp ?_ | with_reducible refine g_prs ?_ | with_reducible refine g_prs0 ?_ | with_reducible refine g_sc ?_ | with_reducible refine g_make ?_ | with_reducible refine g_meth ?_
  | ((with_reducible refine' g_ixT ?h ?e ?_); (case h => walk_at "lk"); (case e => exact rfl)) | ((with_reducible refine' g_ixL ?h ?e ?_); (case h => walk_at "lk"); (case e => exact rfl))
  | ((with_reducible refine' g_fldK ?h ?c ?n ?l ?_); (case h => walk_at "lk"); (case c => exact C8.InsC.cl (Txt.insC (by assumption))); (case n => first | exact Txt.nR (by assumption) | exact Txt.nF (by assumption)); (case l => exact rfl)))
local macro_rules | `(tactic| walk_at "go") => `(tactic| (repeat walk_at "g1"))
local macro_rules | `(tactic| walk_at "ty") => `(tactic| first | exact .base (.str _) | exact .base .non | exact .base (.bl _) | exact .base (.int _) | exact .base (.tup (by assumption)) | exact .base (.lst (by assumption)) | exact .base (.dK (by assumption)) | exact .fDict (by assumption))
abbrev sl_mixed : Stmt := topS 31
abbrev Nl_mixed : List Str := ["_law_seed", "_law_turn", "_law_at", "_law_mixed_here"]
theorem scl_mixed : FnScope Nl_mixed ["_law_seed", "_law_turn", "_law_at"] (defScope sl_mixed) := ⟨rfl, rfl, rfl, by decide +kernel, rfl, by decide +kernel, by decide +kernel⟩
def sp_mixed : Sp := fun vs H Q _ => ∃ a t k : Int, vs = [.int a, .int t, .int k] ∧ 0 ≤ a ∧ a < 2147483629 ∧ 0 ≤ t ∧ t < 18446744073709551616 ∧ 0 ≤ k ∧ k ≤ 2 ∧ ∀ r : Int, 0 ≤ r → r < 2147483587 → Q (.int r) H
theorem cal_mixed (F : Has K mg "_law_mixed" sl_mixed) (T : Txt K w mg C) : Cal P w K mg base 1 "_law_mixed" sp_mixed := by
  refine F.cal (fun _ _ _ _ _ _ us hl => match us, hl with | [_, _, _], _ => rfl) scl_mixed (fun vs H Q E h => ?_) (fun f cdv A outer s H vs Q E hr h => ?_)
  · obtain ⟨_, _, _, rfl, _⟩ := h; rfl
  · obtain ⟨a, t, k, rfl, a0, a1, t0, t1, k0, k1, q⟩ := h
    have nd := scl_mixed.nd
    have hu := hu_of hr
    refine ⟨_, (pss_cons (ps_set (i := 3) nd rfl (Or.inl rfl) (pe_op op_add (pe_op op_mulW (pv 0) pe_int) (pe_op op_mulW (pe_op op_mulW pe_int (pv 1)) (pv 1))))
  (pss_cons (ps_set (i := 3) nd rfl (Or.inl rfl) (pe_op op_mod (pe_callTy call_int1 (by rfl) T.tint (by decide +kernel) (pa_cons (pe_op op_add (pe_op op_add (pv 3) (pe_op op_mulW pe_int (pv 2))) (pv 1)) pa_nil)) pe_int))
  (pss_cons (ps_set (i := 3) nd rfl (Or.inl rfl) (pe_op op_mod (pe_callTy call_int1 (by rfl) T.tint (by decide +kernel) (pa_cons (pe_op op_add (pe_op op_mulW (pv 3) (pv 3)) pe_int) pa_nil)) pe_int))
  (pss_one (ps_ret (pe_op op_mod (pe_callTy call_int1 (by rfl) T.tint (by decide +kernel) (pa_cons (pe_op op_mulW (pv 3) pe_int) pa_nil)) pe_int)))))), ?_⟩
    walk_at "go"
    refine g_mulW (mulW (by omega) (by omega) (by omega) (by omega)) ?_
    walk_at "go"
    refine g_mulW (mulW (by omega) (by omega) (by omega) (by omega)) ?_
    walk_at "go"
    refine g_mulW (mulW (by omega) (by omega) (by omega) (by omega)) ?_
    walk_at "go"
    refine g_mulW (mulW (by omega) (by omega) (by omega) (by omega)) ?_
    walk_at "go"
    refine .inl ⟨_, rfl, ?_⟩
    walk_at "go"
    refine g_mod (by decide) (fun r1 _ r10 r11 => ?_)
    walk_at "go"
    refine g_mulW (mulW (by omega) (by omega) (by omega) (by omega)) ?_
    walk_at "go"
    refine .inl ⟨_, rfl, ?_⟩
    walk_at "go"
    refine g_mod (by decide) (fun r2 _ r20 r21 => ?_)
    walk_at "go"
    refine g_mulW (mulW (by omega) (by omega) (by omega) (by omega)) ?_
    walk_at "go"
    refine .inl ⟨_, rfl, ?_⟩
    walk_at "go"
    refine g_mod (by decide) (fun r3 _ r30 r31 => ?_)
    exact q r3 r30 r31
/-- a purse that has L more turns left -/
def PurseL (l : List V) (L : Int) : Prop := ∃ a b c d : Int, l = [.int a, .int b, .int c, .int d] ∧ 0 ≤ a ∧ 0 ≤ b ∧ b < 2147483629 ∧ 0 ≤ c ∧ 0 ≤ L ∧ c + L < 9223372036854775808 ∧ 0 ≤ d ∧ d ≤ 2
abbrev sl_draw : Stmt := topS 32
abbrev Nl_draw : List Str := ["_law_purse_here", "_law_many", "_law_drawn", "_law_found", "_law_piece"]
theorem scl_draw : FnScope Nl_draw ["_law_purse_here", "_law_many"] (defScope sl_draw) := ⟨rfl, rfl, rfl, by decide +kernel, rfl, by decide +kernel, by decide +kernel⟩
def sp_draw : Sp := fun vs H Q _ => ∃ (p : Addr) (l : List V) (m L : Int), vs = [.ref p, .int m] ∧ H p = some (.lst l) ∧ PurseL l (L + 1) ∧ 0 ≤ L ∧ 0 < m ∧ m < 134217728 ∧ ∀ (r : Int) (l' : List V), 0 ≤ r → r < m → PurseL l' L → Q (.int r) (upd H p (.lst l'))
theorem cal_draw (F : Has K mg "_law_draw" sl_draw) (T : Txt K w mg C) (c_law_mixed : Cal P w K mg base 1 "_law_mixed" sp_mixed) : Cal P w K mg base 2 "_law_draw" sp_draw := by
  refine F.cal (fun _ _ _ _ _ _ us hl => match us, hl with | [_, _], _ => rfl) scl_draw (fun vs H Q E h => ?_) (fun f cdv A outer s H vs Q E hr h => ?_)
  · obtain ⟨_, _, _, _, rfl, _⟩ := h; rfl
  · obtain ⟨p, _, m, L, rfl, hp, ⟨a, b, c, d, rfl, a0, b0, b1, c0, L0, cL, d0, d1⟩, L1, m0, m1, q⟩ := h
    have nd := scl_draw.nd
    have hu := hu_of hr
    refine ⟨_, (pss_cons (ps_if (pt_cmpR op_gt (pe_ix (kIxL K) (pv 0) pe_int (fun _ _ => rfl)) pe_int (nomark _))
    (pss_cons (ps_set (i := 2) nd rfl (Or.inl rfl) (pe_op op_mod (pe_callTy call_int1 (by rfl) T.tint (by decide +kernel) (pa_cons (pe_ix (kIxL K) (pv 0) pe_int (fun _ _ => rfl)) pa_nil)) (pv 1)))
    (pss_cons (ps_asg (pe_op op_fdiv (pe_ix (kIxL K) (pv 0) pe_int (fun _ _ => rfl)) (pv 1)) (pg_sub (pv 0) pe_int set_list))
    (pss_one (ps_ret (pv 2))))) pss_nil)
  (pss_cons (ps_set (i := 3) nd rfl (Or.inl rfl) pe_int)
  (pss_cons (ps_for PassesOwn.never rfl (pi_range1 (by rfl) T.range (pa_cons (pe_op op_add pe_int (pe_op op_fdiv (pe_bits (pv 1)) pe_int)) pa_nil)) (pg_name (i := 4) nd rfl (Or.inl rfl))
    (pss_cons (ps_asg (pe_op op_add (pe_ix (kIxL K) (pv 0) pe_int (fun _ _ => rfl)) pe_int) (pg_sub (pv 0) pe_int set_list))
    (pss_one (ps_set (i := 3) nd rfl (Or.inl rfl) (pe_op op_add (pe_op op_mulW (pv 3) pe_int) (kc c_law_mixed hr (pa_cons (pe_ix (kIxL K) (pv 0) pe_int (fun _ _ => rfl)) (pa_cons (pe_ix (kIxL K) (pv 0) pe_int (fun _ _ => rfl)) (pa_cons (pe_ix (kIxL K) (pv 0) pe_int (fun _ _ => rfl)) pa_nil)))))))))
  (pss_one (ps_ret (pe_op op_mod (pe_callTy call_int1 (by rfl) T.tint (by decide +kernel) (pa_cons (pv 3) pa_nil)) (pv 1))))))), ?_⟩
    walk_at "go"
    by_cases ha : 0 < a
    · rw [if_pos (decide_eq_true ha)]
      walk_at "go"
      refine .inl ⟨_, rfl, ?_⟩
      walk_at "go"
      refine g_mod m0 (fun r _ r0 r1 => ?_)
      walk_at "go"
      refine ⟨a, m, rfl, rfl, ⟨m0, by omega⟩, ?_⟩
      walk_at "go"
      refine ⟨p, _, 0, 0, rfl, rfl, hp, by rfl, ?_⟩
      walk_at "go"
      exact q r _ r0 r1 ⟨a / m, b, c, d, rfl, Int.ediv_nonneg a0 (by omega), b0, b1, c0, L1, by omega, d0, d1⟩
    · rw [if_neg (by rw [decide_eq_false ha]; decide)]
      walk_at "go"
      refine ⟨.int m, rfl, m, rfl, ?_⟩
      walk_at "go"
      refine ⟨_, 28, rfl, rfl, ⟨by decide, by decide⟩, ?_⟩
      have hb : Builtin.Int.intBits m < 28 := by
        have h2 : m.natAbs < 2 ^ 27 := by omega
        have h3 := PySem.Flt.log2_lt_of (by decide) h2
        unfold Builtin.Int.intBits
        split <;> omega
      have e1 : (1 : Int) + ((Builtin.Int.intBits m : Nat) : Int) / 28 = 1 := by omega
      walk_at "go"
      refine ⟨1, by rw [e1], by decide, by decide, ?_⟩
      have u0 : upd H p (.lst [.int a, .int b, .int (c + ((0 : Nat) : Int)), .int d]) = H := by
        funext z
        by_cases hz : z = p
        · subst hz; rw [upd_same, hp, Int.natCast_zero, Int.add_zero]
        · rw [upd_ne hz]
      refine for_it walk_range (fun i σ' H' => ∃ (f : Int) (x4 : Option V), σ' = [some (.ref p), some (.int m), none, some (.int f), x4] ∧ H' = upd H p (.lst [.int a, .int b, .int (c + (i : Int)), .int d]) ∧ 0 ≤ f ∧ (i = 0 → f = 0)) ⟨0, none, rfl, u0.symm, by decide, fun _ => rfl⟩ (fun _ _ _ _ _ => trivial) ?_ ?_
      · rintro i y σ' H3 H4 hi ⟨f, x4, rfl, rfl, f0, f1⟩ ⟨rfl, rfl⟩
        have hi1 : i < 1 := hi
        show gName 4 (V.int (0 + (i : Int))) _ _ _
        walk_at "go"
        refine ⟨p, _, 2, 2, rfl, rfl, upd_same, by rfl, ?_⟩
        have u1 : upd (upd H p (.lst [.int a, .int b, .int (c + (i : Int)), .int d])) p (.lst [.int a, .int b, .int (c + (i : Int) + 1), .int d]) = upd H p (.lst [.int a, .int b, .int (c + ((i + 1 : Nat) : Int)), .int d]) := by
          funext z
          by_cases hz : z = p
          · subst hz; rw [upd_same, upd_same, Int.natCast_add, Int.add_assoc]; rfl
          · rw [upd_ne hz, upd_ne hz, upd_ne hz]
        show (fun H3 => _) (upd (upd H p (.lst [.int a, .int b, .int (c + (i : Int)), .int d])) p (.lst [.int a, .int b, .int (c + (i : Int) + 1), .int d]))
        rw [u1]
        have hp1 : (upd H p (.lst [.int a, .int b, .int (c + ((i + 1 : Nat) : Int)), .int d])) p = some (.lst [.int a, .int b, .int (c + ((i + 1 : Nat) : Int)), .int d]) := upd_same
        have hf := f1 (by omega)
        subst hf
        walk_at "go"
        refine g_mulW (mulW (by omega) (by omega) (by omega) (by omega)) ?_
        walk_at "go"
        refine ⟨b, c + ((i + 1 : Nat) : Int), d, rfl, b0, b1, by omega, by omega, d0, d1, fun r r0 r1 => ?_⟩
        walk_at "go"
        exact ⟨0 * 2147483587 + r, _, rfl, rfl, by omega, fun z => by omega⟩
      · rintro σ' H3 ⟨f, x4, rfl, rfl, f0, f1⟩
        walk_at "go"
        refine .inl ⟨_, rfl, ?_⟩
        walk_at "go"
        refine g_mod m0 (fun r _ r0 r1 => ?_)
        exact q r _ r0 r1 ⟨a, b, c + 1, d, rfl, a0, b0, b1, by omega, L1, by omega, d0, d1⟩
end
end K69
set_option Elab.async false
set_option linter.all false
set_option maxRecDepth 100000
set_option maxHeartbeats 4000000
namespace K69
open PySem PySem.Spec PyProof.Rows L2
section
variable {P : Program} {w : World} {K : PySem.W.Frag} {mg : Str → Option Value} {base : Heap} {C : Addr}
local macro_rules | `(tactic| walk_at "lk") => `(tactic| first | assumption | exact upd_same | exact (by assumption : Ex _ _) _ _ (by assumption))
local macro_rules | `(tactic| walk_at "g1") => `(tactic| first
  | with_reducible refine g_seq ?_ | with_reducible refine g_asg ?_ | with_reducible refine g_name ?_ | with_reducible refine g_cons ?_ | with_reducible refine g_nil ?_
  | ((with_reducible refine' g_var ?e ?_); (case e => exact rfl)) | with_reducible refine g_C ?_ | with_reducible refine g_op ?_ | with_reducible refine g_fld0 ?_ | with_reducible refine g_dget ?_ | with_reducible refine g_cb ?_ | with_reducible refine g_call ?_
  | with_reducible refine g_ret ?_ | with_reducible refine g_ifS ?_ | with_reducible refine g_test ?_ | with_reducible refine g_B ?_ | with_reducible refine g_bl ?_ | with_reducible refine g_not ?_ | with_reducible refine g_or ?_ | with_reducible refine g_and ?_
  | with_reducible refine g_ite ?_ | with_reducible refine g_itf ?_ | with_reducible refine g_itnt ?_ | with_reducible refine g_itnf ?_ | with_reducible refine g_eqS ?_ | with_reducible refine g_neS ?_ | with_reducible refine g_neI ?_ | with_reducible refine g_eqB ?_ | with_reducible refine g_neB ?_ | with_reducible refine g_eqI ?_ | with_reducible refine g_rI0 ?_ | with_reducible refine g_ipI ?_ | with_reducible refine g_int ?_
  | with_reducible refine g_drop ?_ | with_reducible refine g_next ?_ | with_reducible refine g_bm ?_ | with_reducible refine g_bm0 ?_ | with_reducible refine g_din ?_ | with_reducible refine g_dnotin ?_ | with_reducible refine g_dput ?_ | ((with_reducible refine' g_aug ?e ?_); (case e => exact rfl))
  | with_reducible refine g_andV ?_ | with_reducible refine g_orV ?_ | with_reducible refine g_notV ?_ | with_reducible refine g_if ?_ | with_reducible refine g_isN ?_ | with_reducible refine g_notN ?_ | with_reducible refine g_sl ?_ | with_reducible refine g_nopart ?_ | with_reducible refine g_part ?_
  | with_reducible refine g_gcons ?_ | with_reducible refine g_gnil ?_ | with_reducible refine g_par2 ?_ | with_reducible refine g_par3 ?_ | with_reducible refine g_vw ?_ | with_reducible refine g_uvw ?_ | with_reducible refine g_yes ?_ | with_reducible refine g_un ?_ | with_reducible refine g_rU ?_ | with_reducible refine g_gsub ?_ | with_reducible refine g_chain ?_ | with_reducible refine g_for ?_ | with_reducible refine g_istr ?_ | with_reducible refine g_ilist ?_ | with_reducible refine g_itup ?_ | with_reducible refine g_ikeys ?_ | with_reducible refine g_ivals ?_ | with_reducible refine g_iitems ?_ | with_reducible refine g_irng1 ?_ | with_reducible refine g_izip ?_ | with_reducible refine g_while ?_ | with_reducible refine g_tru _ ?_ | with_reducible refine g_lc ?_ | with_reducible refine g_dc ?_ | with_reducible refine g_lc2 ?_ | with_reducible refine g_tup ?_ | with_reducible refine g_lst ?_ | with_reducible refine g_dnew ?_ | with_reducible refine g_sfld ?_ | with_reducible refine g_dget2 ?_ | with_reducible refine g_dzip ?_ | with_reducible refine g_dnewT ?_ | with_reducible refine g_dispT ?_ | with_reducible refine g_star ?_ | with_reducible refine g_disp ?_ | with_reducible refine g_prs ?_ | with_reducible refine g_prs0 ?_ | with_reducible refine g_sc ?_ | with_reducible refine g_make ?_ | with_reducible refine g_meth ?_
  | ((with_reducible refine' g_ixT ?h ?e ?_); (case h => walk_at "lk"); (case e => exact rfl)) | ((with_reducible refine' g_ixL ?h ?e ?_); (case h => walk_at "lk"); (case e => exact rfl))
  | ((with_reducible refine' g_fldK ?h ?c ?n ?l ?_); (case h => walk_at "lk"); (case c => exact C8.InsC.cl (Txt.insC (by assumption))); (case n => first | exact Txt.nR (by assumption) | exact Txt.nF (by assumption)); (case l => exact rfl)))
local macro_rules | `(tactic| walk_at "go") => `(tactic| (repeat walk_at "g1"))
local macro_rules | `(tactic| walk_at "ty") => `(tactic| first | exact .base (.str _) | exact .base .non | exact .base (.bl _) | exact .base (.int _) | exact .base (.tup (by assumption)) | exact .base (.lst (by assumption)) | exact .base (.dK (by assumption)) | exact .fDict (by assumption))
abbrev sl_one_of : Stmt := topS 34
abbrev Nl_one_of : List Str := ["_law_purse_here", "_law_some"]
theorem scl_one_of : FnScope Nl_one_of ["_law_purse_here", "_law_some"] (defScope sl_one_of) := ⟨rfl, rfl, rfl, by decide +kernel, rfl, by decide +kernel, by decide +kernel⟩
def sp_one_of : Sp := fun vs H Q _ => ∃ (p q : Addr) (l xs : List V) (L : Int), vs = [.ref p, .ref q] ∧ H p = some (.lst l) ∧ PurseL l (L + 1) ∧ 0 ≤ L ∧ q ≠ p ∧ H q = some (.lst xs) ∧ 0 < xs.length ∧ xs.length ≤ 1000 ∧ ∀ (i : Nat) (v : V) (l' : List V), xs[i]? = some v → PurseL l' L → Q v (upd H p (.lst l'))
theorem cal_one_of (F : Has K mg "_law_one_of" sl_one_of) (T : Txt K w mg C) (c_law_draw : Cal P w K mg base 2 "_law_draw" sp_draw) : Cal P w K mg base 3 "_law_one_of" sp_one_of := by
  refine F.cal (fun _ _ _ _ _ _ us hl => match us, hl with | [_, _], _ => rfl) scl_one_of (fun vs H Q E h => ?_) (fun f cdv A outer s H vs Q E hr h => ?_)
  · obtain ⟨_, _, _, _, _, rfl, _⟩ := h; rfl
  · obtain ⟨p, q, l, xs, L, rfl, hp, hl, L0, ne, hq, n0, n1, k⟩ := h
    have nd := scl_one_of.nd
    have hu := hu_of hr
    refine ⟨_, (pss_one (ps_ret (pe_ix (kIxL K) (pv 1) (kc c_law_draw hr (pa_cons (pv 0) (pa_cons (pe_callB (kLen K) (by rfl) T.len (by decide +kernel) (pa_cons (pv 1) pa_nil)) pa_nil))) (fun _ _ => rfl)))), ?_⟩
    walk_at "go"
    refine ⟨q, xs, rfl, .inl (SqL.of hq), ?_⟩
    refine ⟨p, l, xs.length, L, rfl, hp, hl, L0, by omega, by omega, fun r l' r0 r1 hl' => ?_⟩
    obtain ⟨j, rfl⟩ := Int.eq_ofNat_of_zero_le r0
    have hj : j < xs.length := by omega
    refine ⟨q, xs, (j : Int), xs[j], rfl, rfl, SqL.of (by rw [upd_ne ne]; exact hq), ?_, k j _ l' (List.getElem?_eq_getElem hj) hl'⟩
    exact atI_nat (List.getElem?_eq_getElem hj)
end
end K69
set_option Elab.async false
set_option linter.all false
set_option maxRecDepth 100000
set_option maxHeartbeats 4000000
namespace K69
open PySem PySem.Spec PyProof.Rows L2
theorem upd_upd {H : Hp} {p : Addr} {o u : HO} : upd (upd H p o) p u = upd H p u := by
  funext z
  by_cases hz : z = p
  · subst hz; rw [upd_same, upd_same]
  · rw [upd_ne hz, upd_ne hz, upd_ne hz]
theorem upd_comm {H : Hp} {p q : Addr} {o u : HO} (h : p ≠ q) : upd (upd H p o) q u = upd (upd H q u) p o := by
  funext z
  by_cases hz : z = p
  · subst hz; rw [upd_ne h, upd_same, upd_same]
  · by_cases hq : z = q
    · subst hq; rw [upd_same, upd_ne hz, upd_same]
    · rw [upd_ne hq, upd_ne hz, upd_ne hz, upd_ne hq]
theorem upd_eta {H : Hp} {p : Addr} {o : HO} (h : H p = some o) : upd H p o = H := by
  funext z
  by_cases hz : z = p
  · subst hz; rw [upd_same, h]
  · rw [upd_ne hz]
section
variable {P : Program} {w : World} {K : PySem.W.Frag} {mg : Str → Option Value} {base : Heap} {C : Addr}
local macro_rules | `(tactic| walk_at "lk") => `(tactic| first | assumption | exact upd_same | exact (by assumption : Ex _ _) _ _ (by assumption))
local macro_rules | `(tactic| walk_at "g1") => `(tactic| first
  | with_reducible refine g_seq ?_ | with_reducible refine g_asg ?_ | with_reducible refine g_name ?_ | with_reducible refine g_cons ?_ | with_reducible refine g_nil ?_
  | ((with_reducible refine' g_var ?e ?_); (case e => exact rfl)) | with_reducible refine g_C ?_ | with_reducible refine g_op ?_ | with_reducible refine g_fld0 ?_ | with_reducible refine g_dget ?_ | with_reducible refine g_cb ?_ | with_reducible refine g_call ?_
  | with_reducible refine g_ret ?_ | with_reducible refine g_ifS ?_ | with_reducible refine g_test ?_ | with_reducible refine g_B ?_ | with_reducible refine g_bl ?_ | with_reducible refine g_not ?_ | with_reducible refine g_or ?_ | with_reducible refine g_and ?_
  | with_reducible refine g_ite ?_ | with_reducible refine g_itf ?_ | with_reducible refine g_itnt ?_ | with_reducible refine g_itnf ?_ | with_reducible refine g_eqS ?_ | with_reducible refine g_neS ?_ | with_reducible refine g_neI ?_ | with_reducible refine g_eqB ?_ | with_reducible refine g_neB ?_ | with_reducible refine g_eqI ?_ | with_reducible refine g_rI0 ?_ | with_reducible refine g_ipI ?_ | with_reducible refine g_int ?_
  | with_reducible refine g_drop ?_ | with_reducible refine g_next ?_ | with_reducible refine g_bm ?_ | with_reducible refine g_bm0 ?_ | with_reducible refine g_din ?_ | with_reducible refine g_dnotin ?_ | with_reducible refine g_dput ?_ | ((with_reducible refine' g_aug ?e ?_); (case e => exact rfl))
  | with_reducible refine g_andV ?_ | with_reducible refine g_orV ?_ | with_reducible refine g_notV ?_ | with_reducible refine g_if ?_ | with_reducible refine g_isN ?_ | with_reducible refine g_notN ?_ | with_reducible refine g_sl ?_ | with_reducible refine g_nopart ?_ | with_reducible refine g_part ?_
  | with_reducible refine g_gcons ?_ | with_reducible refine g_gnil ?_ | with_reducible refine g_par2 ?_ | with_reducible refine g_par3 ?_ | with_reducible refine g_vw ?_ | with_reducible refine g_uvw ?_ | with_reducible refine g_yes ?_ | with_reducible refine g_un ?_ | with_reducible refine g_rU ?_ | with_reducible refine g_gsub ?_ | with_reducible refine g_chain ?_ | with_reducible refine g_for ?_ | with_reducible refine g_istr ?_ | with_reducible refine g_ilist ?_ | with_reducible refine g_itup ?_ | with_reducible refine g_ikeys ?_ | with_reducible refine g_ivals ?_ | with_reducible refine g_iitems ?_ | with_reducible refine g_irng1 ?_ | with_reducible refine g_izip ?_ | with_reducible refine g_while ?_ | with_reducible refine g_tru _ ?_ | with_reducible refine g_lc ?_ | with_reducible refine g_dc ?_ | with_reducible refine g_lc2 ?_ | with_reducible refine g_tup ?_ | with_reducible refine g_lst ?_ | with_reducible refine g_dnew ?_ | with_reducible refine g_sfld ?_ | with_reducible refine g_dget2 ?_ | with_reducible refine g_dzip ?_ | with_reducible refine g_dnewT ?_ | with_reducible refine g_dispT ?_ | with_reducible refine g_star ?_ | with_reducible refine g_disp ?_ | with_reducible refine g_prs ?_ | with_reducible refine g_prs0 ?_ | with_reducible refine g_sc ?_ | with_reducible refine g_make ?_ | with_reducible refine g_meth ?_
  | ((with_reducible refine' g_ixT ?h ?e ?_); (case h => walk_at "lk"); (case e => exact rfl)) | ((with_reducible refine' g_ixL ?h ?e ?_); (case h => walk_at "lk"); (case e => exact rfl))
  | ((with_reducible refine' g_fldK ?h ?c ?n ?l ?_); (case h => walk_at "lk"); (case c => exact C8.InsC.cl (Txt.insC (by assumption))); (case n => first | exact Txt.nR (by assumption) | exact Txt.nF (by assumption)); (case l => exact rfl)))
local macro_rules | `(tactic| walk_at "go") => `(tactic| (repeat walk_at "g1"))
local macro_rules | `(tactic| walk_at "ty") => `(tactic| first | exact .base (.str _) | exact .base .non | exact .base (.bl _) | exact .base (.int _) | exact .base (.tup (by assumption)) | exact .base (.lst (by assumption)) | exact .base (.dK (by assumption)) | exact .fDict (by assumption))
abbrev sl_shuffled : Stmt := topS 35
abbrev Nl_shuffled : List Str := ["_law_purse_here", "_law_some", "_law_found", "_law_item"]
theorem scl_shuffled : FnScope Nl_shuffled ["_law_purse_here", "_law_some"] (defScope sl_shuffled) := ⟨rfl, rfl, rfl, by decide +kernel, rfl, by decide +kernel, by decide +kernel⟩
def sp_shuffled : Sp := fun vs H Q _ => ∃ (p q : Addr) (l xs : List V) (L : Int), vs = [.ref p, .ref q] ∧ H p = some (.lst l) ∧ PurseL l (L + xs.length) ∧ 0 ≤ L ∧ q ≠ p ∧ H q = some (.lst xs) ∧ xs.length ≤ 900 ∧
  ∀ (r : Addr) (ys l' : List V), ys.Perm xs → PurseL l' L → H r = none → Q (.ref r) (upd (upd H r (.lst ys)) p (.lst l'))
theorem cal_shuffled (F : Has K mg "_law_shuffled" sl_shuffled) (T : Txt K w mg C) (c_law_draw : Cal P w K mg base 2 "_law_draw" sp_draw) : Cal P w K mg base 3 "_law_shuffled" sp_shuffled := by
  refine F.cal (fun _ _ _ _ _ _ us hl => match us, hl with | [_, _], _ => rfl) scl_shuffled (fun vs H Q E h => ?_) (fun f cdv A outer s H vs Q E hr h => ?_)
  · obtain ⟨_, _, _, _, _, rfl, _⟩ := h; rfl
  · obtain ⟨p, q, l, xs, L, rfl, hp, hl, L0, ne, hq, n1, k⟩ := h
    have nd := scl_shuffled.nd
    have hu := hu_of hr
    refine ⟨_, (pss_cons (ps_set (i := 2) nd rfl (Or.inl rfl) (pe_lst pa_nil))
  (pss_cons (ps_for PassesOwn.never rfl (kpList K (pv 1)) (pg_name (i := 3) nd rfl (Or.inl rfl))
    (pss_one (ps_expr (kBm K PySem.F.plainAttrs_list PySem.F.slot_list_insert PySem.F.type_list_insert mt_insert (pv 2) (pa_cons (kc c_law_draw hr (pa_cons (pv 0) (pa_cons (pe_op op_add (pe_callB (kLen K) (by rfl) T.len (by decide +kernel) (pa_cons (pv 2) pa_nil)) pe_int) pa_nil))) (pa_cons (pv 3) pa_nil))))))
  (pss_one (ps_ret (pv 2))))), ?_⟩
    walk_at "go"
    refine ⟨Nat.zero_le _, fun r hrn => ?_⟩
    have rp : r ≠ p := fun z => by subst z; rw [hp] at hrn; cases hrn
    have rq : r ≠ q := fun z => by subst z; rw [hq] at hrn; cases hrn
    walk_at "go"
    have HI : ∀ (ys l' : List V), (upd (upd H r (.lst ys)) p (.lst l')) q = some (.lst xs) := fun ys l' => by rw [upd_ne ne, upd_ne (Ne.symm rq)]; exact hq
    refine ⟨q, rfl, ⟨_, SqL.of (by rw [upd_ne (Ne.symm rq)]; exact hq)⟩, ?_⟩
    refine for_it walk_list (fun i σ' H' => ∃ (ys l' : List V) (x3 : Option V), σ' = [some (.ref p), some (.ref q), some (.ref r), x3] ∧ H' = upd (upd H r (.lst ys)) p (.lst l') ∧ ys.Perm (xs.take i) ∧ PurseL l' (L + (xs.length - i : Nat)))
      ⟨[], l, none, rfl, by rw [upd_comm rp, upd_eta hp], .refl _, by simpa using hl⟩ (fun i σ' H' _ ⟨ys, l', _, _, e, _⟩ => by rw [e]; exact SqL.of (HI ys l')) ?_ ?_
    · rintro i y σ' H8 H9 hi ⟨ys, l', x3, rfl, rfl, hP, hL⟩ ⟨rfl, hy⟩
      have hi' : i < xs.length := (List.getElem?_eq_some_iff.mp hy).1
      have hlen : ys.length = i := by rw [hP.length_eq, List.length_take]; omega
      have hr8 : (upd (upd H r (.lst ys)) p (.lst l')) r = some (.lst ys) := by rw [upd_ne rp, upd_same]
      have hp8 : (upd (upd H r (.lst ys)) p (.lst l')) p = some (.lst l') := upd_same
      generalize e8 : upd (upd H r (.lst ys)) p (.lst l') = H8 at hr8 hp8 ⊢
      walk_at "go"
      refine ⟨.inl ⟨rfl, _, SqL.of hr8⟩, ?_⟩
      have hL' : L + ((xs.length - (i + 1) : Nat) : Int) + 1 = L + ((xs.length - i : Nat) : Int) := by omega
      walk_at "go"
      refine ⟨r, ys, rfl, .inl (SqL.of hr8), ?_⟩
      walk_at "go"
      refine ⟨p, l', _, L + ((xs.length - (i + 1) : Nat) : Int), rfl, hp8, by rw [hL']; exact hL, by omega, by omega, by omega, fun j l2 j0 j1 hl2 => ?_⟩
      walk_at "go"
      have h63 : j < 9223372036854775808 := by omega
      refine ⟨r, ys, j, y, rfl, rfl, by rw [upd_ne rp]; exact hr8, by rw [hlen]; exact Nat.lt_of_lt_of_le hi' (Nat.le_trans n1 (by decide)), j0, h63, ?_⟩
      refine ⟨ys.take j.toNat ++ [y] ++ ys.drop j.toNat, l2, _, rfl, ?_, ?_, hl2⟩
      · rw [← e8, upd_upd, upd_comm (Ne.symm rp), upd_upd]
      · have e1 : xs.take (i + 1) = xs.take i ++ [y] := by rw [List.take_succ, hy]; rfl
        rw [e1, List.append_assoc]
        refine List.Perm.trans ?_ (hP.append_right [y])
        refine List.Perm.trans (List.perm_append_comm_assoc _ _ _) ?_
        refine List.Perm.trans List.perm_append_comm ?_
        rw [List.take_append_drop]
    · rintro σ' H8 ⟨ys, l', x3, rfl, rfl, hP, hL⟩
      walk_at "go"
      exact k r ys l' (by simpa using hP) (by simpa using hL) hrn
end
end K69
set_option Elab.async false
set_option linter.all false
set_option maxRecDepth 100000
set_option maxHeartbeats 4000000
namespace K69
open PySem PySem.Spec PyProof.Rows L2
theorem cut_map {α : Type} (f : α → V) (l : List α) (lo hi : Option Int) : ∃ m : List α, cutV (l.map f) lo hi = m.map f ∧ m.length ≤ l.length := by
  refine ⟨(l.drop (HT.sIx (l.map f).length 0 lo)).take (HT.sIx (l.map f).length (l.map f).length hi - HT.sIx (l.map f).length 0 lo), by simp [cutV, List.map_take, List.map_drop], by simp; omega⟩
theorem g_powW {i j : Int} {H : Hp} {Q : VK} (c : 0 ≤ j ∧ (Builtin.Int.intBits i : Int) * j ≤ 2 ^ 27) (q : Q (.int (i ^ j.toNat)) H) : rI (fun i j => 0 ≤ j ∧ (Builtin.Int.intBits i : Int) * j ≤ 2 ^ 27) (fun i j => .int (i ^ j.toNat)) (.int i) (.int j) H Q := ⟨i, j, rfl, rfl, c, q⟩
section
variable {P : Program} {w : World} {K : PySem.W.Frag} {mg : Str → Option Value} {base : Heap} {C : Addr}
local macro_rules | `(tactic| walk_at "lk") => `(tactic| first | assumption | exact upd_same | exact (by assumption : Ex _ _) _ _ (by assumption))
local macro_rules | `(tactic| walk_at "g1") => `(tactic| first
  | with_reducible refine g_seq ?_ | with_reducible refine g_asg ?_ | with_reducible refine g_name ?_ | with_reducible refine g_cons ?_ | with_reducible refine g_nil ?_
  | ((with_reducible refine' g_var ?e ?_); (case e => exact rfl)) | with_reducible refine g_C ?_ | with_reducible refine g_op ?_ | with_reducible refine g_fld0 ?_ | with_reducible refine g_dget ?_ | with_reducible refine g_cb ?_ | with_reducible refine g_call ?_
  | with_reducible refine g_ret ?_ | with_reducible refine g_ifS ?_ | with_reducible refine g_test ?_ | with_reducible refine g_B ?_ | with_reducible refine g_bl ?_ | with_reducible refine g_not ?_ | with_reducible refine g_or ?_ | with_reducible refine g_and ?_
  | with_reducible refine g_ite ?_ | with_reducible refine g_itf ?_ | with_reducible refine g_itnt ?_ | with_reducible refine g_itnf ?_ | with_reducible refine g_eqS ?_ | with_reducible refine g_neS ?_ | with_reducible refine g_neI ?_ | with_reducible refine g_eqB ?_ | with_reducible refine g_neB ?_ | with_reducible refine g_eqI ?_ | with_reducible refine g_rI0 ?_ | with_reducible refine g_ipI ?_ | with_reducible refine g_int ?_
  | with_reducible refine g_drop ?_ | with_reducible refine g_next ?_ | with_reducible refine g_bm ?_ | with_reducible refine g_bm0 ?_ | with_reducible refine g_din ?_ | with_reducible refine g_dnotin ?_ | with_reducible refine g_dput ?_ | ((with_reducible refine' g_aug ?e ?_); (case e => exact rfl))
  | with_reducible refine g_andV ?_ | with_reducible refine g_orV ?_ | with_reducible refine g_notV ?_ | with_reducible refine g_if ?_ | with_reducible refine g_isN ?_ | with_reducible refine g_notN ?_ | with_reducible refine g_sl ?_ | with_reducible refine g_nopart ?_ | with_reducible refine g_part ?_
  | with_reducible refine g_gcons ?_ | with_reducible refine g_gnil ?_ | with_reducible refine g_par2 ?_ | with_reducible refine g_par3 ?_ | with_reducible refine g_vw ?_ | with_reducible refine g_uvw ?_ | with_reducible refine g_yes ?_ | with_reducible refine g_un ?_ | with_reducible refine g_rU ?_ | with_reducible refine g_gsub ?_ | with_reducible refine g_chain ?_ | with_reducible refine g_for ?_ | with_reducible refine g_istr ?_ | with_reducible refine g_ilist ?_ | with_reducible refine g_itup ?_ | with_reducible refine g_ikeys ?_ | with_reducible refine g_ivals ?_ | with_reducible refine g_iitems ?_ | with_reducible refine g_irng1 ?_ | with_reducible refine g_izip ?_ | with_reducible refine g_while ?_ | with_reducible refine g_tru _ ?_ | with_reducible refine g_lc ?_ | with_reducible refine g_dc ?_ | with_reducible refine g_lc2 ?_ | with_reducible refine g_tup ?_ | with_reducible refine g_lst ?_ | with_reducible refine g_dnew ?_ | with_reducible refine g_sfld ?_ | with_reducible refine g_dget2 ?_ | with_reducible refine g_dzip ?_ | with_reducible refine g_dnewT ?_ | with_reducible refine g_dispT ?_ | with_reducible refine g_star ?_ | with_reducible refine g_disp ?_ | with_reducible refine g_prs ?_ | with_reducible refine g_prs0 ?_ | with_reducible refine g_sc ?_ | with_reducible refine g_make ?_ | with_reducible refine g_meth ?_
  | ((with_reducible refine' g_ixT ?h ?e ?_); (case h => walk_at "lk"); (case e => exact rfl)) | ((with_reducible refine' g_ixL ?h ?e ?_); (case h => walk_at "lk"); (case e => exact rfl))
  | ((with_reducible refine' g_fldK ?h ?c ?n ?l ?_); (case h => walk_at "lk"); (case c => exact C8.InsC.cl (Txt.insC (by assumption))); (case n => first | exact Txt.nR (by assumption) | exact Txt.nF (by assumption)); (case l => exact rfl)))
local macro_rules | `(tactic| walk_at "go") => `(tactic| (repeat walk_at "g1"))
local macro_rules | `(tactic| walk_at "ty") => `(tactic| first | exact .base (.str _) | exact .base .non | exact .base (.bl _) | exact .base (.int _) | exact .base (.tup (by assumption)) | exact .base (.lst (by assumption)) | exact .base (.dK (by assumption)) | exact .fDict (by assumption))
abbrev sl_purse : Stmt := topS 30
abbrev Nl_purse : List Str := ["_law_script", "_law_at", "_law_seed"]
theorem scl_purse : FnScope Nl_purse ["_law_script", "_law_at"] (defScope sl_purse) := ⟨rfl, rfl, rfl, by decide +kernel, rfl, by decide +kernel, by decide +kernel⟩
def sp_purse : Sp := fun vs H Q _ => ∃ (a : Addr) (ns : List Int) (i : Int), vs = [.ref a, .int i] ∧ SqL K H a (ns.map V.int) ∧ 0 ≤ i ∧ i ≤ 2 ∧ ∀ (p : Addr) (l : List V) (H' : Hp), Ex H H' → H p = none → H' p = some (.lst l) → PurseL l 1000000 → Q (.ref p) H'
theorem cal_purse (F : Has K mg "_law_purse" sl_purse) (T : Txt K w mg C) : Cal P w K mg base 1 "_law_purse" (sp_purse (K := K)) := by
  refine F.cal (fun _ _ _ _ _ _ us hl => match us, hl with | [_, _], _ => rfl) scl_purse (fun vs H Q E h => ?_) (fun f cdv A outer s H vs Q E hr h => ?_)
  · obtain ⟨_, _, _, rfl, _⟩ := h; rfl
  · obtain ⟨a, ns, i, rfl, ha, i0, i2, k⟩ := h
    have nd := scl_purse.nd
    have hu := hu_of hr
    refine ⟨_, (pss_cons (ps_set (i := 2) nd rfl (Or.inl rfl) (pe_callB (kSum K rfl) (by rfl) T.sum (by decide +kernel) (pa_cons (pe_slice (kSlL K) (pv 0) (po_some (pv 1)) (po_some (pe_op op_add (pv 1) pe_int))) pa_nil)))
  (pss_one (ps_ret (pe_lst (pa_cons (pe_op op_mod (pe_callTy call_int1 (by rfl) T.tint (by decide +kernel) (pa_cons (pe_callB (call_max2 rfl) (by rfl) T.max (by decide +kernel) (pa_cons (pe_op op_sub (pv 2) (pe_op op_powW pe_int pe_int)) (pa_cons pe_int pa_nil))) pa_nil)) (pe_op op_powW (pe_op op_powW pe_int pe_int) pe_int)) (pa_cons (pe_op op_mod (pe_callTy call_int1 (by rfl) T.tint (by decide +kernel) (pa_cons (pv 2) pa_nil)) pe_int) (pa_cons pe_int (pa_cons (pv 1) pa_nil)))))))), ?_⟩
    walk_at "go"
    refine ⟨a, _, rfl, ha, fun t ht => ?_⟩
    obtain ⟨m, em, _⟩ := cut_map V.int ns (some i) (some (i + 1))
    rw [em]
    have e1 : Ex H (upd H t (.lst (m.map V.int))) := Ex.new ht
    have h1 : (upd H t (.lst (m.map V.int))) t = some (.lst (m.map V.int)) := upd_same
    generalize upd H t (.lst (m.map V.int)) = H1 at e1 h1 ⊢
    refine ⟨t, m, rfl, SqL.of h1, ?_⟩
    generalize m.sum = z
    walk_at "go"
    refine g_powW ⟨by decide, by decide⟩ ?_
    walk_at "go"
    refine ⟨_, _, rfl, ?_⟩
    walk_at "go"
    refine .inl ⟨_, rfl, ?_⟩
    walk_at "go"
    refine g_powW ⟨by decide, by decide⟩ ?_
    walk_at "go"
    refine g_powW ⟨by decide, by decide +kernel⟩ ?_
    walk_at "go"
    refine g_mod (by decide +kernel) (fun r1 _ r10 r11 => ?_)
    walk_at "go"
    refine .inl ⟨_, rfl, ?_⟩
    walk_at "go"
    refine g_mod (by decide) (fun r2 _ r20 r21 => ?_)
    walk_at "go"
    refine ⟨by show 4 ≤ sizeLine; decide, fun p hp => ?_⟩
    refine k p _ _ (e1.trans (Ex.new hp)) ?_ upd_same ⟨r1, r2, 0, i, rfl, r10, r20, r21, by omega, by omega, by omega, i0, i2⟩
    exact e1.back hp
end
end K69
set_option Elab.async false
set_option linter.all false
set_option maxRecDepth 100000
set_option maxHeartbeats 4000000
namespace K69
open PySem PySem.Spec PyProof.Rows L2
/-- a purse of L more turns stands at p -/
def PAt (p : Addr) (L : Int) (H : Hp) : Prop := ∃ l, H p = some (.lst l) ∧ PurseL l L
structure Pur (p : Addr) (L : Int) (G H : Hp) : Prop where
  ex : Ex G H
  g : G p = none
  pt : PAt p L H
theorem PurseL.less {l : List V} {L M : Int} (h : PurseL l L) (m0 : 0 ≤ M) (m1 : M ≤ L) : PurseL l M := by
  obtain ⟨a, b, c, d, e, h1, h2, h3, h4, h5, h6, h7, h8⟩ := h
  exact ⟨a, b, c, d, e, h1, h2, h3, h4, m0, by omega, h7, h8⟩
theorem PAt.less {p : Addr} {L M : Int} {H : Hp} (h : PAt p L H) (m0 : 0 ≤ M) (m1 : M ≤ L) : PAt p M H := let ⟨l, a, b⟩ := h; ⟨l, a, b.less m0 m1⟩
section
variable {p q : Addr} {L M : Int} {G H G1 H1 G2 H2 : Hp} {o : HO} {Q : VK} {E : XK}
theorem Pur.less (h : Pur p L G H) (m0 : 0 ≤ M) (m1 : M ≤ L) : Pur p M G H := ⟨h.ex, h.g, h.pt.less m0 m1⟩
theorem Pur.nn (h : Pur p L G H) : ∃ o, H p = some o := let ⟨l, a, _⟩ := h.pt; ⟨_, a⟩
theorem Pur.ne (h : Pur p L G H) (e : H q = none) : q ≠ p := fun z => by subst z; obtain ⟨o, ho⟩ := h.nn; rw [ho] at e; cases e
theorem Pur.ne' (h : Pur p L G H) (e : G q = some o) : q ≠ p := fun z => by subst z; rw [h.g] at e; cases e
/-- behind something that does not draw -/
theorem Pur.step (h : Pur p L G H) (N : Nxt none G H G1 H1) : Pur p L G1 H1 := by
  obtain ⟨l, a, b⟩ := h.pt
  exact ⟨N.gh, (N.fr p _ a).trans h.g, l, N.ex _ _ a, b⟩
theorem Pur.mut (h : Pur p L G H) (ne : q ≠ p) (gq : G q = none) : Pur p L G (upd H q o) := ⟨h.ex.up gq, h.g, let ⟨l, a, b⟩ := h.pt; ⟨l, by rw [upd_ne (Ne.symm ne)]; exact a, b⟩⟩
theorem Nxt.drw (N : Nxt (some p) G H G1 H1) (h : Pur p L G1 H1) (N2 : Nxt (some p) G1 H1 G2 H2) : Nxt (some p) G H G2 H2 := N.transM N2 h.nn
theorem Nxt.drw0 (N : Nxt (some p) G H G1 H1) (h : Pur p L G1 H1) (N2 : Nxt none G1 H1 G2 H2) : Nxt (some p) G H G2 H2 := N.transM N2.wk h.nn
theorem draw_use {m : Int} (h : Pur p (L + 1) G H) (l0 : 0 ≤ L) (m0 : 0 < m) (m1 : m < 134217728) (k : ∀ (r : Int) (H' : Hp), 0 ≤ r → r < m → Nxt (some p) G H G H' → Pur p L G H' → Q (.int r) H') : sp_draw [.ref p, .int m] H Q E := by
  obtain ⟨l, a, b⟩ := h.pt
  refine ⟨p, l, m, L, rfl, a, b, l0, m0, m1, fun r l' r0 r1 hl => ?_⟩
  have N : Nxt (some p) G H G (upd H p (.lst l')) := (Nxt.refl h.ex).mutM h.g
  exact k r _ r0 r1 N ⟨N.gh, h.g, l', upd_same, hl⟩
theorem one_of_use {xs : List V} (h : Pur p (L + 1) G H) (l0 : 0 ≤ L) (ne : q ≠ p) (hq : H q = some (.lst xs)) (n0 : 0 < xs.length) (n1 : xs.length ≤ 1000) (k : ∀ (v : V) (H' : Hp), v ∈ xs → Nxt (some p) G H G H' → Pur p L G H' → Q v H') : sp_one_of [.ref p, .ref q] H Q E := by
  obtain ⟨l, a, b⟩ := h.pt
  refine ⟨p, q, l, xs, L, rfl, a, b, l0, ne, hq, n0, n1, fun i v l' hv hl => ?_⟩
  have N : Nxt (some p) G H G (upd H p (.lst l')) := (Nxt.refl h.ex).mutM h.g
  exact k v _ (List.mem_of_getElem? hv) N ⟨N.gh, h.g, l', upd_same, hl⟩
theorem shuffled_use {xs : List V} (h : Pur p (L + xs.length) G H) (l0 : 0 ≤ L) (ne : q ≠ p) (hq : H q = some (.lst xs)) (n1 : xs.length ≤ 900)
    (k : ∀ (r : Addr) (ys : List V) (G' H' : Hp), ys.Perm xs → Nxt (some p) G H G' H' → Pur p L G' H' → G' r = some (.lst ys) → H r = none → Q (.ref r) H') : sp_shuffled [.ref p, .ref q] H Q E := by
  obtain ⟨l, a, b⟩ := h.pt
  refine ⟨p, q, l, xs, L, rfl, a, b, l0, ne, hq, n1, fun r ys l' hP hl hr => ?_⟩
  have rp : r ≠ p := h.ne hr
  have N : Nxt (some p) G H (upd G r (.lst ys)) (upd H r (.lst ys)) := (Nxt.refl h.ex).new hr hr
  have g1 : (upd G r (.lst ys)) p = none := by rw [upd_ne (Ne.symm rp)]; exact h.g
  have N2 : Nxt (some p) G H (upd G r (.lst ys)) (upd (upd H r (.lst ys)) p (.lst l')) := N.mutM g1
  exact k r ys _ _ hP N2 ⟨N2.gh, g1, l', upd_same, hl⟩ upd_same hr
end
theorem g_ifi {c : Bool} {i j : Int} {σ : L2.St} {H : Hp} {Q : VK} (h : ∀ m : Int, m = i ∨ m = j → Q (.int m) H) : if c = true then tC (.int i) σ H Q else tC (.int j) σ H Q := by
  cases c
  · exact iteF (h _ (.inr rfl))
  · exact iteT (h _ (.inl rfl))
abbrev chS (c : Nat) : Str := ⟨#[c]⟩
theorem join_ch : ∀ cs : List Nat, (Str.join (Str.ofString "") (cs.map chS)).cps.toList = cs
  | [] => rfl
  | [c] => rfl
  | c :: d :: r => by
    show ((chS c ++ Str.ofString "") ++ Str.join (Str.ofString "") ((d :: r).map chS)).cps.toList = _
    rw [app_cps, app_cps, join_ch (d :: r)]
    rfl
theorem ch_sum : ∀ cs : List Nat, ((cs.map chS).map (·.length)).sum = cs.length
  | [] => rfl
  | c :: r => by
    show 1 + ((r.map chS).map (·.length)).sum = r.length + 1
    rw [ch_sum r]; omega
theorem join_spelt {cs : List Nat} (h : ∀ c ∈ cs, c ∈ lets.cps.toList) (n0 : 0 < cs.length) (n1 : cs.length < 9) : spelt (Txt.join (Str.ofString "") (cs.map chS)) = true := by
  have e : (Txt.join (Str.ofString "") (cs.map chS)).cps.toList = cs := by
    show (Builtin.Str.glued (Str.ofString "") (cs.map chS)).cps.toList = cs
    rw [StrLaws.glued_eq_join, join_ch]
  have l : (Txt.join (Str.ofString "") (cs.map chS)).length = cs.length := by
    have := congrArg List.length e
    exact (Array.length_toList).symm.trans this
  unfold spelt
  rw [e, l]
  simp only [Bool.and_eq_true, decide_eq_true_eq, List.all_eq_true]
  exact ⟨⟨n0, n1⟩, fun c hc => h c hc⟩
theorem lets_at {r : Int} (r0 : 0 ≤ r) (r1 : r < 26) : ∃ c, atI lets.cps.toList r = some c ∧ c ∈ lets.cps.toList := by
  obtain ⟨j, rfl⟩ := Int.eq_ofNat_of_zero_le r0
  have hl : lets.cps.toList.length = 26 := by decide +kernel
  have hj : j < lets.cps.toList.length := by omega
  exact ⟨_, atI_nat (List.getElem?_eq_getElem hj), List.getElem_mem hj⟩
section
variable {P : Program} {w : World} {K : PySem.W.Frag} {mg : Str → Option Value} {base : Heap} {C : Addr}
local macro_rules | `(tactic| walk_at "lk") => `(tactic| first | assumption | exact upd_same | exact (by assumption : Ex _ _) _ _ (by assumption))
local macro_rules | `(tactic| walk_at "g1") => `(tactic| first
  | with_reducible refine g_seq ?_ | with_reducible refine g_asg ?_ | with_reducible refine g_name ?_ | with_reducible refine g_cons ?_ | with_reducible refine g_nil ?_
  | ((with_reducible refine' g_var ?e ?_); (case e => exact rfl)) | with_reducible refine g_C ?_ | with_reducible refine g_op ?_ | with_reducible refine g_fld0 ?_ | with_reducible refine g_dget ?_ | with_reducible refine g_cb ?_ | with_reducible refine g_call ?_
  | with_reducible refine g_ret ?_ | with_reducible refine g_ifS ?_ | with_reducible refine g_test ?_ | with_reducible refine g_B ?_ | with_reducible refine g_bl ?_ | with_reducible refine g_not ?_ | with_reducible refine g_or ?_ | with_reducible refine g_and ?_
  | with_reducible refine g_ite ?_ | with_reducible refine g_itf ?_ | with_reducible refine g_itnt ?_ | with_reducible refine g_itnf ?_ | with_reducible refine g_eqS ?_ | with_reducible refine g_neS ?_ | with_reducible refine g_neI ?_ | with_reducible refine g_eqB ?_ | with_reducible refine g_neB ?_ | with_reducible refine g_eqI ?_ | with_reducible refine g_rI0 ?_ | with_reducible refine g_ipI ?_ | with_reducible refine g_int ?_
  | with_reducible refine g_drop ?_ | with_reducible refine g_next ?_ | with_reducible refine g_bm ?_ | with_reducible refine g_bm0 ?_ | with_reducible refine g_din ?_ | with_reducible refine g_dnotin ?_ | with_reducible refine g_dput ?_ | ((with_reducible refine' g_aug ?e ?_); (case e => exact rfl))
  | with_reducible refine g_andV ?_ | with_reducible refine g_orV ?_ | with_reducible refine g_notV ?_ | with_reducible refine g_if ?_ | with_reducible refine g_isN ?_ | with_reducible refine g_notN ?_ | with_reducible refine g_sl ?_ | with_reducible refine g_nopart ?_ | with_reducible refine g_part ?_
  | with_reducible refine g_gcons ?_ | with_reducible refine g_gnil ?_ | with_reducible refine g_par2 ?_ | with_reducible refine g_par3 ?_ | with_reducible refine g_vw ?_ | with_reducible refine g_uvw ?_ | with_reducible refine g_yes ?_ | with_reducible refine g_un ?_ | with_reducible refine g_rU ?_ | with_reducible refine g_gsub ?_ | with_reducible refine g_chain ?_ | with_reducible refine g_for ?_ | with_reducible refine g_istr ?_ | with_reducible refine g_ilist ?_ | with_reducible refine g_itup ?_ | with_reducible refine g_ikeys ?_ | with_reducible refine g_ivals ?_ | with_reducible refine g_iitems ?_ | with_reducible refine g_irng1 ?_ | with_reducible refine g_izip ?_ | with_reducible refine g_while ?_ | with_reducible refine g_tru _ ?_ | with_reducible refine g_lc ?_ | with_reducible refine g_dc ?_ | with_reducible refine g_lc2 ?_ | with_reducible refine g_tup ?_ | with_reducible refine g_lst ?_ | with_reducible refine g_dnew ?_ | with_reducible refine g_sfld ?_ | with_reducible refine g_dget2 ?_ | with_reducible refine g_dzip ?_ | with_reducible refine g_dnewT ?_ | with_reducible refine g_dispT ?_ | with_reducible refine g_star ?_ | with_reducible refine g_disp ?_ | with_reducible refine g_prs ?_ | with_reducible refine g_prs0 ?_ | with_reducible refine g_sc ?_ | with_reducible refine g_make ?_ | with_reducible refine g_meth ?_
  | ((with_reducible refine' g_ixT ?h ?e ?_); (case h => walk_at "lk"); (case e => exact rfl)) | ((with_reducible refine' g_ixL ?h ?e ?_); (case h => walk_at "lk"); (case e => exact rfl))
  | ((with_reducible refine' g_fldK ?h ?c ?n ?l ?_); (case h => walk_at "lk"); (case c => exact C8.InsC.cl (Txt.insC (by assumption))); (case n => first | exact Txt.nR (by assumption) | exact Txt.nF (by assumption)); (case l => exact rfl)))
local macro_rules | `(tactic| walk_at "go") => `(tactic| (repeat walk_at "g1"))
local macro_rules | `(tactic| walk_at "ty") => `(tactic| first | exact .base (.str _) | exact .base .non | exact .base (.bl _) | exact .base (.int _) | exact .base (.tup (by assumption)) | exact .base (.lst (by assumption)) | exact .base (.dK (by assumption)) | exact .fDict (by assumption))
abbrev sl_word : Stmt := topS 37
abbrev Nl_word : List Str := ["_law_purse_here", "_law_size", "_law_turn"]
theorem scl_word : FnScope Nl_word ["_law_purse_here"] (defScope sl_word) := ⟨rfl, rfl, rfl, by decide +kernel, rfl, by decide +kernel, by decide +kernel⟩
def sp_word : Sp := fun vs H Q _ => ∃ (p : Addr) (L : Int) (G : Hp), vs = [.ref p] ∧ Pur p (L + 10) G H ∧ 0 ≤ L ∧ ∀ (x : Str) (H' : Hp), Nxt (some p) G H G H' → Pur p L G H' → spelt x = true → Q (.str x) H'
theorem cal_word (F : Has K mg "_law_word" sl_word) (T : Txt K w mg C) (c_law_draw : Cal P w K mg base 2 "_law_draw" sp_draw) : Cal P w K mg base 3 "_law_word" sp_word := by
  refine F.cal (fun _ _ _ _ _ _ us hl => match us, hl with | [_], _ => rfl) scl_word (fun vs H Q E h => ?_) (fun f cdv A outer s H vs Q E hr h => ?_)
  · obtain ⟨_, _, _, rfl, _⟩ := h; rfl
  · obtain ⟨p, L, G, rfl, pu, L0, k⟩ := h
    have nd := scl_word.nd
    have hu := hu_of hr
    refine ⟨_, (pss_cons (ps_set (i := 1) nd rfl (Or.inl rfl) (pe_op op_add pe_int (kc c_law_draw hr (pa_cons (pv 0) (pa_cons (pe_ifExp (pt_cmpR op_eq (kc c_law_draw hr (pa_cons (pv 0) (pa_cons pe_int pa_nil))) pe_int (nomark _)) pe_int pe_int) pa_nil)))))
  (pss_one (ps_ret (kJoin K pe_str (pe_lc (own := [("_law_turn", 2)]) rfl nd (pi_range1 (by rfl) T.range (pa_cons (pv 1) pa_nil)) (blkOk_by (N := Nl_word) (sc := defScope sl_word) (by decide +kernel)) (fun _ _ _ _ _ => (pg_name (i := 2) nd rfl (Or.inl rfl))) (fun _ _ _ _ _ => pts_nil) (fun _ _ _ _ _ => (pe_ix ix_str pe_str (kc c_law_draw hr (pa_cons (pv 0) (pa_cons pe_int pa_nil))) (fun _ _ => rfl)))))))), ?_⟩
    walk_at "go"
    refine draw_use (G := G) (L := L + 9) (pu.less (by omega) (by omega)) (by omega) (by decide) (by decide) (fun r0 H0 _ _ N0 P0 => ?_)
    walk_at "go"
    refine g_ifi (fun m hm => ?_)
    walk_at "go"
    refine draw_use (G := G) (L := L + 8) (P0.less (by omega) (by omega)) (by omega) (by omega) (by omega) (fun r1 H1 a0 a1 N1 P1 => ?_)
    walk_at "go"
    have M1 := N0.drw P0 N1
    obtain ⟨n, rfl⟩ := Int.eq_ofNat_of_zero_le a0
    have n8 : n < 8 := by omega
    refine ⟨⟨_, rfl⟩, ?_⟩
    walk_at "go"
    refine ⟨1 + (n : Int), rfl, by omega, by omega, fun D hD => ?_⟩
    have dp := P1.ne hD
    have gD : G D = none := P1.ex.back hD
    have hD0 : H D = none := M1.isNone (fun z => dp (Option.some.inj z).symm) hD
    have e1 : (1 + (n : Int)).toNat = n + 1 := by omega
    rw [e1]
    refine lc_it walk_range (fun i H' => ∃ cs : List Nat, Nxt (some p) G H G H' ∧ Pur p (L + 8 - i) G H' ∧ H' D = some (.lst ((cs.map chS).map V.str)) ∧ cs.length = i ∧ ∀ c ∈ cs, c ∈ lets.cps.toList)
      ⟨[], ?_, ?_, upd_same, rfl, by simp⟩ (fun _ _ _ _ => trivial) ?_ ?_
    · exact M1.own hD hD0
    · exact (P1.mut dp gD).less (by omega) (by omega)
    · rintro i x H3 H4 hi ⟨cs, N3, P3, h3, hl, hc⟩ ⟨rfl, rfl⟩
      walk_at "go"
      refine ⟨rfl, ?_⟩
      walk_at "go"
      refine draw_use (G := G) (L := L + 8 - ((i + 1 : Nat) : Int)) (P3.less (by omega) (by omega)) (by omega) (by decide) (by decide) (fun r2 H5 b0 b1 N5 P5 => ?_)
      obtain ⟨c, hc1, hc2⟩ := lets_at b0 b1
      have h5 := N5.hh D _ (fun z => dp (Option.some.inj z).symm) h3
      refine ⟨lets, r2, c, rfl, rfl, by decide +kernel, hc1, ?_⟩
      refine ⟨_, h5, by rw [List.length_map, List.length_map]; exact small1000 (by omega), cs ++ [c], ?_, ?_, ?_, by simp [hl], ?_⟩
      · exact (N3.drw P3 N5).mut gD hD0
      · exact P5.mut dp gD
      · rw [upd_same]; simp
      · intro z hz
        rcases List.mem_append.mp hz with hz | hz
        · exact hc z hz
        · rw [List.mem_singleton.mp hz]; exact hc2
    · rintro H3 ⟨cs, N3, P3, h3, hl, hc⟩
      refine ⟨_, D, cs.map chS, rfl, rfl, .inl (SqL.of h3), ?_, ?_⟩
      · rw [ch_sum]; show cs.length + (List.map chS cs).length * 0 ≤ _; omega
      · exact k _ _ N3 (P3.less L0 (by omega)) (join_spelt hc (by omega) (by omega))
end
end K69
set_option Elab.async false
set_option linter.all false
set_option maxRecDepth 100000
set_option maxHeartbeats 4000000
namespace K69
open PySem PySem.Spec PyProof.Rows L2
theorem spelt_iff {s : Str} : spelt s = true ↔ 0 < s.cps.toList.length ∧ s.cps.toList.length < 9 ∧ ∀ c ∈ s.cps.toList, c ∈ lets.cps.toList := by
  have l : s.cps.toList.length = s.length := Array.length_toList
  unfold spelt
  rw [l]
  simp only [Bool.and_eq_true, decide_eq_true_eq, List.all_eq_true, and_assoc]
theorem cutS_lo (x : Str) (n : Nat) : (cutS x none (some (n : Int))).cps.toList = x.cps.toList.take (min n x.length) := by
  unfold cutS
  rw [HT.sIx_none, HT.sIx_nat, List.drop_zero, Nat.sub_zero]
theorem cutS_hi (x : Str) (n : Nat) : (cutS x (some ((n : Int) + 1)) none).cps.toList = (x.cps.toList.drop (min (n + 1) x.length)).take (x.length - min (n + 1) x.length) := by
  unfold cutS
  rw [show ((n : Int) + 1) = ((n + 1 : Nat) : Int) by omega, HT.sIx_none, HT.sIx_nat]
theorem splice_spelt {x : Str} (hx : spelt x = true) {n c : Nat} (hn : n < x.length) (hc : c ∈ lets.cps.toList) : spelt ((cutS x none (some (n : Int)) ++ (⟨#[c]⟩ : Str)) ++ cutS x (some ((n : Int) + 1)) none) = true := by
  obtain ⟨h0, h1, h2⟩ := spelt_iff.mp hx
  have l : x.cps.toList.length = x.length := Array.length_toList
  rw [spelt_iff, app_cps, app_cps, cutS_lo, cutS_hi]
  refine ⟨by simp; omega, ?_, fun z hz => ?_⟩
  · simp only [List.length_append, List.length_take, List.length_drop, List.length_cons, List.length_nil]
    omega
  · rcases List.mem_append.mp hz with hz | hz
    · rcases List.mem_append.mp hz with hz | hz
      · exact h2 z (List.mem_of_mem_take hz)
      · simp at hz; subst hz; exact hc
    · exact h2 z (List.mem_of_mem_drop (List.mem_of_mem_take hz))
theorem fresh_letter {ws : List Str} (h : ws.length < 26) : ∃ x r, letS.filter (fun z => decide (z ∉ ws)) = x :: r := by
  cases e : letS.filter (fun z => decide (z ∉ ws)) with
  | cons x r => exact ⟨x, r, rfl⟩
  | nil =>
    exfalso
    have sub : ∀ z ∈ letS, z ∈ ws := fun z hz => by
      rcases Classical.em (z ∈ ws) with q | q
      · exact q
      · have : z ∈ letS.filter (fun z => decide (z ∉ ws)) := List.mem_filter.mpr ⟨hz, by simpa using q⟩
        rw [e] at this; cases this
    have := nodup_le letS ws letS_nd sub
    rw [letS_len] at this
    omega
theorem g_ifJ {c : TT} {t u : TS} {D : L2.Ends} {σ : L2.St} {H : Hp} (Mid : L2.St → Hp → Prop) (h : ∀ nx : L2.St → Hp → Prop, (∀ σ' H', Mid σ' H' → nx σ' H') → tIfS c t u { D with nx := nx } σ H) (h2 : ∀ σ' H', Mid σ' H' → D.nx σ' H') : tIfS c t u D σ H := h D.nx h2
section
variable {P : Program} {w : World} {K : PySem.W.Frag} {mg : Str → Option Value} {base : Heap} {C : Addr}
local macro_rules | `(tactic| walk_at "lk") => `(tactic| first | assumption | exact upd_same | exact (by assumption : Ex _ _) _ _ (by assumption))
local macro_rules | `(tactic| walk_at "g1") => `(tactic| first
  | with_reducible refine g_seq ?_ | with_reducible refine g_asg ?_ | with_reducible refine g_name ?_ | with_reducible refine g_cons ?_ | with_reducible refine g_nil ?_
  | ((with_reducible refine' g_var ?e ?_); (case e => exact rfl)) | with_reducible refine g_C ?_ | with_reducible refine g_op ?_ | with_reducible refine g_fld0 ?_ | with_reducible refine g_dget ?_ | with_reducible refine g_cb ?_ | with_reducible refine g_call ?_
  | with_reducible refine g_ret ?_ | with_reducible refine g_ifS ?_ | with_reducible refine g_test ?_ | with_reducible refine g_B ?_ | with_reducible refine g_bl ?_ | with_reducible refine g_not ?_ | with_reducible refine g_or ?_ | with_reducible refine g_and ?_
  | with_reducible refine g_ite ?_ | with_reducible refine g_itf ?_ | with_reducible refine g_itnt ?_ | with_reducible refine g_itnf ?_ | with_reducible refine g_eqS ?_ | with_reducible refine g_neS ?_ | with_reducible refine g_neI ?_ | with_reducible refine g_eqB ?_ | with_reducible refine g_neB ?_ | with_reducible refine g_eqI ?_ | with_reducible refine g_rI0 ?_ | with_reducible refine g_ipI ?_ | with_reducible refine g_int ?_
  | with_reducible refine g_drop ?_ | with_reducible refine g_next ?_ | with_reducible refine g_bm ?_ | with_reducible refine g_bm0 ?_ | with_reducible refine g_din ?_ | with_reducible refine g_dnotin ?_ | with_reducible refine g_dput ?_ | ((with_reducible refine' g_aug ?e ?_); (case e => exact rfl))
  | with_reducible refine g_andV ?_ | with_reducible refine g_orV ?_ | with_reducible refine g_notV ?_ | with_reducible refine g_if ?_ | with_reducible refine g_isN ?_ | with_reducible refine g_notN ?_ | with_reducible refine g_sl ?_ | with_reducible refine g_nopart ?_ | with_reducible refine g_part ?_
  | with_reducible refine g_gcons ?_ | with_reducible refine g_gnil ?_ | with_reducible refine g_par2 ?_ | with_reducible refine g_par3 ?_ | with_reducible refine g_vw ?_ | with_reducible refine g_uvw ?_ | with_reducible refine g_yes ?_ | with_reducible refine g_un ?_ | with_reducible refine g_rU ?_ | with_reducible refine g_gsub ?_ | with_reducible refine g_chain ?_ | with_reducible refine g_for ?_ | with_reducible refine g_istr ?_ | with_reducible refine g_ilist ?_ | with_reducible refine g_itup ?_ | with_reducible refine g_ikeys ?_ | with_reducible refine g_ivals ?_ | with_reducible refine g_iitems ?_ | with_reducible refine g_irng1 ?_ | with_reducible refine g_izip ?_ | with_reducible refine g_while ?_ | with_reducible refine g_tru _ ?_ | with_reducible refine g_lc ?_ | with_reducible refine g_dc ?_ | with_reducible refine g_lc2 ?_ | with_reducible refine g_tup ?_ | with_reducible refine g_lst ?_ | with_reducible refine g_dnew ?_ | with_reducible refine g_sfld ?_ | with_reducible refine g_dget2 ?_ | with_reducible refine g_dzip ?_ | with_reducible refine g_dnewT ?_ | with_reducible refine g_dispT ?_ | with_reducible refine g_star ?_ | with_reducible refine g_disp ?_ | with_reducible refine g_prs ?_ | with_reducible refine g_prs0 ?_ | with_reducible refine g_sc ?_ | with_reducible refine g_make ?_ | with_reducible refine g_meth ?_
  | ((with_reducible refine' g_ixT ?h ?e ?_); (case h => walk_at "lk"); (case e => exact rfl)) | ((with_reducible refine' g_ixL ?h ?e ?_); (case h => walk_at "lk"); (case e => exact rfl))
  | ((with_reducible refine' g_fldK ?h ?c ?n ?l ?_); (case h => walk_at "lk"); (case c => exact C8.InsC.cl (Txt.insC (by assumption))); (case n => first | exact Txt.nR (by assumption) | exact Txt.nF (by assumption)); (case l => exact rfl)))
local macro_rules | `(tactic| walk_at "go") => `(tactic| (repeat walk_at "g1"))
local macro_rules | `(tactic| walk_at "ty") => `(tactic| first | exact .base (.str _) | exact .base .non | exact .base (.bl _) | exact .base (.int _) | exact .base (.tup (by assumption)) | exact .base (.lst (by assumption)) | exact .base (.dK (by assumption)) | exact .fDict (by assumption))
abbrev sl_words : Stmt := topS 38
abbrev Nl_words : List Str := ["_law_purse_here", "_law_many", "_law_base", "_law_near", "_law_spot", "_law_found", "_law_turn", "_law_word_here", "_law_letter"]
theorem scl_words : FnScope Nl_words ["_law_purse_here", "_law_many"] (defScope sl_words) := ⟨rfl, rfl, rfl, by decide +kernel, rfl, by decide +kernel, by decide +kernel⟩
def sp_words : Sp := fun vs H Q _ => ∃ (p : Addr) (many : Nat) (L : Int) (G : Hp), vs = [.ref p, .int (many : Int)] ∧ Pur p (L + 100) G H ∧ 0 ≤ L ∧ many ≤ 6 ∧
  ∀ (r : Addr) (ws : List Str) (G' H' : Hp), Nxt (some p) G H G' H' → Pur p L G' H' → G' r = some (.lst (ws.map V.str)) → H r = none → ws.length = many → ws.Nodup → (∀ x ∈ ws, spelt x = true) → Q (.ref r) H'
theorem cal_words (F : Has K mg "_law_words" sl_words) (T : Txt K w mg C) (c_law_draw : Cal P w K mg base 2 "_law_draw" sp_draw) (c_law_word : Cal P w K mg base 3 "_law_word" sp_word) : Cal P w K mg base 4 "_law_words" sp_words := by
  refine F.cal (fun _ _ _ _ _ _ us hl => match us, hl with | [_, _], _ => rfl) scl_words (fun vs H Q E h => ?_) (fun f cdv A outer s H vs Q E hr h => ?_)
  · obtain ⟨_, _, _, _, rfl, _⟩ := h; rfl
  · obtain ⟨p, many, L, G, rfl, pu, L0, m6, k⟩ := h
    have nd := scl_words.nd
    have hu := hu_of hr
    refine ⟨_, (pss_cons (ps_par (i := 2) (j := 3) rfl nd rfl rfl (by decide) rfl rfl (pa_cons (kc c_law_word hr (pa_cons (pv 0) pa_nil)) (pa_cons (pe_cmpR op_eq (kc c_law_draw hr (pa_cons (pv 0) (pa_cons pe_int pa_nil))) pe_int (nomark _)) pa_nil)) (by rfl))
  (pss_cons (ps_asg (pe_tup (pa_cons (kc c_law_draw hr (pa_cons (pv 0) (pa_cons (pe_callB call_len_str (by rfl) T.len (by decide +kernel) (pa_cons (pv 2) pa_nil)) pa_nil))) (pa_cons (pe_lst pa_nil) pa_nil))) (kgTup K (n := 2) rfl (pgs_cons (pg_name (i := 4) nd rfl (Or.inl rfl)) (pgs_cons (pg_name (i := 5) nd rfl (Or.inr rfl)) pgs_nil))))
  (pss_cons (ps_for PassesOwn.never rfl (pi_range1 (by rfl) T.range (pa_cons (pv 1) pa_nil)) (pg_name (i := 6) nd rfl (Or.inl rfl))
    (pss_cons (ps_set (i := 7) nd rfl (Or.inl rfl) (pe_op op_add_str (pe_op op_add_str (pe_slice sl_str (pv 2) po_none (po_some (pv 4))) (pe_ix ix_str pe_str (kc c_law_draw hr (pa_cons (pv 0) (pa_cons pe_int pa_nil))) (fun _ _ => rfl))) (pe_slice sl_str (pv 2) (po_some (pe_op op_add (pv 4) pe_int)) po_none)))
    (pss_cons (ps_if (pt_not (pt_val (pv 3)))
      (pss_one (ps_set (i := 7) nd rfl (Or.inl rfl) (kc c_law_word hr (pa_cons (pv 0) pa_nil)))) pss_nil)
    (pss_cons (ps_if (pt_cmpR (kIn K) (pv 7) (pv 5) rfl)
      (pss_one (ps_set (i := 7) nd rfl (Or.inl rfl) (pe_ix (kIxL K) (pe_lc (own := [("_law_letter", 8)]) rfl nd (kpList K (pe_callTy (call_list_strV rfl) (by rfl) T.tlist (by decide +kernel) (pa_cons pe_str pa_nil))) (blkOk_by (N := Nl_words) (sc := defScope sl_words) (by decide +kernel)) (fun _ _ _ _ _ => (pg_name (i := 8) nd rfl (Or.inl rfl))) (fun _ _ _ _ _ => pts_one (pt_cmpR (kNotIn K) (pv 8) (pv 5) rfl)) (fun _ _ _ _ _ => (pv 8))) pe_int (fun _ _ => rfl)))) pss_nil)
    (pss_one (ps_expr (kBm K PySem.F.plainAttrs_list PySem.F.slot_list_append PySem.F.type_list_append mt_append (pv 5) (pa_cons (pv 7) pa_nil))))))))
  (pss_one (ps_ret (pv 5)))))), ?_⟩
    walk_at "go"
    refine ⟨p, L + 90, G, rfl, by rw [show L + 90 + 10 = L + 100 by omega]; exact pu, by omega, fun x H1 N1 P1 hx => ?_⟩
    have x8 : x.cps.toList.length = x.length := Array.length_toList
    obtain ⟨x0, x9, _⟩ := spelt_iff.mp hx
    rw [x8] at x0 x9
    have hz : x.length ≤ sizeLine := Nat.le_trans (Nat.le_of_lt x9) (by decide)
    walk_at "go"
    refine draw_use (G := G) (L := L + 89) (P1.less (by omega) (by omega)) (by omega) (by decide) (by decide) (fun r0 H2 _ _ N2 P2 => ?_)
    have M2 := N1.drw P1 N2
    walk_at "go"
    generalize decide (r0 = 0) = near
    refine ⟨_, rfl, hz, ?_⟩
    walk_at "go"
    refine draw_use (G := G) (L := L + 88) (P2.less (by omega) (by omega)) (by omega) (by omega) (by omega) (fun r1 H3 a0 a1 N3 P3 => ?_)
    have M3 := M2.drw P2 N3
    obtain ⟨n, rfl⟩ := Int.eq_ofNat_of_zero_le a0
    have hn : n < x.length := by omega
    walk_at "go"
    refine ⟨Nat.zero_le _, fun F hF => ?_⟩
    have fp := P3.ne hF
    have gF : G F = none := P3.ex.back hF
    have hF0 : H F = none := M3.isNone (fun z => fp (Option.some.inj z).symm) hF
    have M4 := M3.own (o := .lst []) hF hF0
    have P4 := P3.mut (o := .lst []) fp gF
    have h4 : (upd H3 F (.lst [])) F = some (.lst []) := upd_same
    generalize upd H3 F (.lst []) = H4 at M4 P4 h4 ⊢
    walk_at "go"
    refine ⟨by show 2 ≤ sizeLine; decide, fun t ht => ?_⟩
    have ft : F ≠ t := ne_of_none h4 ht
    have tp := P4.ne ht
    have M5 := M4.own (o := .tup [.int (n : Int), .ref F]) ht (M4.isNone (fun z => tp (Option.some.inj z).symm) ht)
    have P5 := P4.mut (o := .tup [.int (n : Int), .ref F]) tp (P4.ex.back ht)
    have h5 : (upd H4 t (.tup [.int (n : Int), .ref F])) F = some (.lst []) := by rw [upd_ne ft]; exact h4
    have h5t : (upd H4 t (.tup [.int (n : Int), .ref F])) t = some (.tup [.int (n : Int), .ref F]) := upd_same
    generalize upd H4 t (.tup [.int (n : Int), .ref F]) = H5 at M5 P5 h5 h5t ⊢
    refine g_gtup (SqT.of h5t) rfl ?_
    walk_at "go"
    refine ⟨(many : Int), rfl, by omega, by omega, ?_⟩
    refine for_it walk_range (fun i σ' H' => ∃ (ws : List Str) (x6 x7 x8 : Option V), σ' = [some (.ref p), some (.int (many : Int)), some (.str x), some (.bl near), some (.int (n : Int)), some (.ref F), x6, x7, x8] ∧ Nxt (some p) G H G H' ∧ Pur p (L + 88 - 11 * i) G H' ∧
      H' F = some (.lst (ws.map V.str)) ∧ ws.length = i ∧ ws.Nodup ∧ ∀ z ∈ ws, spelt z = true) ⟨[], _, _, _, rfl, M5, P5.less (by omega) (by omega), h5, rfl, List.nodup_nil, by simp⟩ (fun _ _ _ _ _ => trivial) ?_ ?_
    · rintro i y σ' H6 H7 hi ⟨ws, x6, x7, x8', rfl, N6, P6, h6, wl, wn, wsp⟩ ⟨rfl, rfl⟩
      have hi : i < many := by omega
      walk_at "go"
      refine ⟨_, rfl, hz, ?_⟩
      walk_at "go"
      refine draw_use (G := G) (L := L + 88 - 11 * i - 1) (P6.less (by omega) (by omega)) (by omega) (by decide) (by decide) (fun r2 H8 b0 b1 N8 P8 => ?_)
      obtain ⟨c, hc1, hc2⟩ := lets_at b0 b1
      refine ⟨lets, r2, c, rfl, rfl, by decide +kernel, hc1, ?_⟩
      have l1 := cutS_length x none (some (n : Int))
      have l2 := cutS_length x (some ((n : Int) + 1)) none
      refine ⟨_, _, rfl, rfl, Nat.le_trans (show (cutS x none (some (n : Int))).length + 1 ≤ 9 by omega) (by decide), ?_⟩
      walk_at "go"
      refine ⟨_, rfl, hz, ?_⟩
      have l3 : (cutS x none (some (n : Int)) ++ (⟨#[c]⟩ : Str)).length = (cutS x none (some (n : Int))).length + 1 := by rw [PySem.Str.length_append]; rfl
      refine ⟨_, _, rfl, rfl, Nat.le_trans (show (cutS x none (some (n : Int)) ++ (⟨#[c]⟩ : Str)).length + (cutS x (some ((n : Int) + 1)) none).length ≤ 18 by omega) (by decide), ?_⟩
      have sp1 := splice_spelt hx hn hc2
      generalize (cutS x none (some (n : Int)) ++ (⟨#[c]⟩ : Str)) ++ cutS x (some ((n : Int) + 1)) none = y1 at sp1 ⊢
      have N9 := N6.drw P6 N8
      have h8 := N8.hh F _ (fun z => fp (Option.some.inj z).symm) h6
      walk_at "g1"
      walk_at "g1"
      refine g_ifJ (fun σ' H' => ∃ (y : Str), σ' = [some (.ref p), some (.int (many : Int)), some (.str x), some (.bl near), some (.int (n : Int)), some (.ref F), some (.int (0 + (i : Int))), some (.str y), x8'] ∧ Nxt (some p) G H G H' ∧ Pur p (L + 88 - 11 * (i + 1 : Nat)) G H' ∧ H' F = some (.lst (ws.map V.str)) ∧ spelt y = true) (fun nx hnx => ?_) ?_
      · walk_at "go"
        cases near
        · walk_at "go"
          refine ⟨p, L + 88 - 11 * (i + 1 : Nat), G, rfl, P8.less (by omega) (by omega), by omega, fun y H10 N10 P10 hy => ?_⟩
          walk_at "go"
          exact hnx _ _ ⟨y, rfl, N9.drw P8 N10, P10, N10.hh F _ (fun z => fp (Option.some.inj z).symm) h8, hy⟩
        · walk_at "go"
          exact hnx _ _ ⟨y1, rfl, N9, P8.less (by omega) (by omega), h8, sp1⟩
      · rintro σ' H10 ⟨y, rfl, N10, P10, h10, spy⟩
        walk_at "g1"
        refine g_ifJ (fun σ' H' => ∃ (y : Str) (x8 : Option V), σ' = [some (.ref p), some (.int (many : Int)), some (.str x), some (.bl near), some (.int (n : Int)), some (.ref F), some (.int (0 + (i : Int))), some (.str y), x8] ∧ Nxt (some p) G H G H' ∧ Pur p (L + 88 - 11 * (i + 1 : Nat)) G H' ∧ H' F = some (.lst (ws.map V.str)) ∧ spelt y = true ∧ y ∉ ws) (fun nx hnx => ?_) ?_
        · walk_at "go"
          refine g_in (.inl (SqL.of h10)) rfl (flatS _) (inV_str y _) ?_
          walk_at "go"
          by_cases hm : y ∈ ws
          · rw [decide_eq_true hm]
            refine g_ite ?_
            walk_at "go"
            refine ⟨lets, rfl, by decide +kernel, fun q hq => ?_⟩
            have qp := P10.ne hq
            have M11 := N10.own (o := .lst (signsV lets)) hq (N10.isNone (fun z => qp (Option.some.inj z).symm) hq)
            have P11 := P10.mut (o := .lst (signsV lets)) qp (P10.ex.back hq)
            have h11 : (upd H10 q (.lst (signsV lets))) F = some (.lst (ws.map V.str)) := by rw [upd_ne (ne_of_none h10 hq)]; exact h10
            have h11q : (upd H10 q (.lst (signsV lets))) q = some (.lst (letS.map V.str)) := by rw [upd_same]; unfold signsV letS; rw [List.map_map]; rfl
            generalize upd H10 q (.lst (signsV lets)) = H11 at M11 P11 h11 h11q ⊢
            refine ⟨q, rfl, ⟨_, SqL.of h11q⟩, fun D hD => ?_⟩
            refine lc_gen walk_list P11.ex hD (by rw [List.length_map, letS_len]; decide) (fun i acc _ => acc = ((letS.take i).filter fun z => decide (z ∉ ws)).map V.str) rfl (fun H' e => SqL.of (e _ _ h11q)) ?_ ?_
            · rintro j z G3 H12 H13 acc Kt Kf hj N g0 hh hl' rfl ⟨rfl, hz'⟩ htt hff
              obtain ⟨zs, hzs, rfl⟩ := strs_get hz'
              have ts := take_snoc hzs
              walk_at "go"
              refine ⟨rfl, ?_⟩
              walk_at "go"
              refine g_nin (.inl (SqL.of (N.ex _ _ h11))) rfl (flatS _) (inV_str zs _) ?_
              walk_at "go"
              by_cases hz1 : zs ∈ ws
              · rw [decide_eq_true hz1]
                walk_at "go"
                exact hff G3 _ (Nxt.refl N.gh) (by rw [ts, List.filter_append]; simp [hz1])
              · rw [decide_eq_false hz1]
                walk_at "go"
                exact htt (.str zs) G3 _ (Nxt.refl N.gh) (by rw [ts, List.filter_append]; simp [hz1])
            · rintro G3 H12 acc N g0 hh hl' rfl
              obtain ⟨z, r, ez⟩ := fresh_letter (ws := ws) (by omega)
              have hz1 : z ∈ letS.filter (fun z => decide (z ∉ ws)) := by rw [ez]; exact List.mem_cons_self
              obtain ⟨hz2, hz3⟩ := List.mem_filter.mp hz1
              rw [List.length_map, List.take_length, ez] at hh
              walk_at "go"
              refine ⟨D, _, 0, .str z, rfl, rfl, SqL.of hh, atI_nat (j := 0) rfl, ?_⟩
              walk_at "go"
              have N13 := M11.drw0 P11 N.forget
              have P13 := P11.step N.forget
              exact hnx _ _ ⟨z, _, rfl, N13, P13, N.ex _ _ h11, letS_spelt z hz2, by simpa using hz3⟩
          · rw [decide_eq_false hm]
            refine g_itf ?_
            walk_at "go"
            exact hnx _ _ ⟨y, _, rfl, N10, P10, h10, spy, hm⟩
        · rintro σ' H11 ⟨y, x8, rfl, N11, P11, h11, spy, hm⟩
          walk_at "go"
          refine ⟨.inl ⟨rfl, _, SqL.of h11⟩, ?_⟩
          walk_at "go"
          refine ⟨F, _, .str y, rfl, rfl, h11, by rw [List.length_map]; exact small1000 (by omega), ?_⟩
          walk_at "go"
          refine ⟨ws ++ [y], _, _, _, rfl, N11.mut gF hF0, P11.mut fp gF, by rw [upd_same]; simp, by simp [wl], ?_, ?_⟩
          · exact List.nodup_append.mpr ⟨wn, by simp, fun a ha b hb => by simp at hb; subst hb; exact fun z => hm (z ▸ ha)⟩
          · intro z hz
            rcases List.mem_append.mp hz with hz | hz
            · exact wsp z hz
            · rw [List.mem_singleton.mp hz]; exact spy
    · rintro σ' H6 ⟨ws, x6, x7, x8', rfl, N6, P6, h6, wl, wn, wsp⟩
      walk_at "go"
      have N7 := N6.frz gF h6 hF0
      refine k F ws _ _ N7 ⟨N7.gh, ?_, P6.pt.less L0 (by omega)⟩ upd_same hF0 wl wn wsp
      rw [upd_ne (Ne.symm fp)]; exact pu.g
end
end K69
set_option Elab.async false
set_option linter.all false
set_option maxRecDepth 100000
set_option maxHeartbeats 4000000
namespace K69
open PySem PySem.Spec PyProof.Rows L2
/-- from (G, H) to (G', H'), and L turns left -/
structure Dn (p : Addr) (L : Int) (G H G' H' : Hp) : Prop where
  n : Nxt (some p) G H G' H'
  p : Pur p L G' H'
section
variable {p q : Addr} {L M : Int} {G H G1 H1 G2 H2 : Hp} {o u : HO}
theorem Dn.start (h : Pur p L G H) : Dn p L G H G H := ⟨Nxt.refl h.ex, h⟩
theorem Dn.less (d : Dn p L G H G1 H1) (m0 : 0 ≤ M) (m1 : M ≤ L) : Dn p M G H G1 H1 := ⟨d.n, d.p.less m0 m1⟩
theorem Dn.none0 (d : Dn p L G H G1 H1) (hq : H1 q = none) : H q = none := d.n.isNone (fun z => d.p.ne hq (Option.some.inj z).symm) hq
theorem Dn.gnone (d : Dn p L G H G1 H1) (hq : H1 q = none) : G1 q = none := d.p.ex.back hq
theorem Dn.own (d : Dn p L G H G1 H1) (hq : H1 q = none) : Dn p L G H G1 (upd H1 q o) := ⟨d.n.own hq (d.none0 hq), d.p.mut (d.p.ne hq) (d.gnone hq)⟩
theorem Dn.new (d : Dn p L G H G1 H1) (hq : H1 q = none) : Dn p L G H (upd G1 q o) (upd H1 q o) :=
  ⟨d.n.new hq (d.none0 hq), ⟨d.p.ex.up2, by rw [upd_ne (Ne.symm (d.p.ne hq))]; exact d.p.g, (d.p.mut (d.p.ne hq) (d.gnone hq)).pt⟩⟩
theorem Dn.drw (d : Dn p L G H G1 H1) (N : Nxt (some p) G1 H1 G2 H2) (P : Pur p M G2 H2) : Dn p M G H G2 H2 := ⟨d.n.drw d.p N, P⟩
theorem Dn.step (d : Dn p L G H G1 H1) (N : Nxt none G1 H1 G2 H2) : Dn p L G H G2 H2 := ⟨d.n.drw0 d.p N, d.p.step N⟩
theorem Dn.mut (d : Dn p L G H G1 H1) (gq : G1 q = none) (h0 : H q = none) (ne : q ≠ p) : Dn p L G H G1 (upd H1 q o) := ⟨d.n.mut gq h0, d.p.mut ne gq⟩
theorem Dn.frz (d : Dn p L G H G1 H1) (gq : G1 q = none) (hq : H1 q = some o) (h0 : H q = none) (ne : q ≠ p) : Dn p L G H (upd G1 q o) H1 :=
  ⟨d.n.frz gq hq h0, ⟨(d.n.frz gq hq h0).gh, by rw [upd_ne (Ne.symm ne)]; exact d.p.g, d.p.pt⟩⟩
theorem Dn.at (d : Dn p L G H G1 H1) (h : G1 q = some o) : H1 q = some o := d.p.ex _ _ h
/-- an object of one's own stands -/
theorem Dn.keep (N : Nxt (some p) G1 H1 G2 H2) (ne : q ≠ p) (h : H1 q = some o) : H2 q = some o := N.hh q _ (fun z => ne (Option.some.inj z).symm) h
end
theorem upd_keep {H : Hp} {p q : Addr} {o u : HO} (h : H q = some o) (hp : H p = none) : (upd H p u) q = some o := by rw [upd_ne (ne_of_none h hp)]; exact h
theorem perm_map_inv {ys : List V} {ws : List Str} (h : ys.Perm (ws.map V.str)) : ∃ zs : List Str, ys = zs.map V.str ∧ zs.Perm ws := by
  let g : V → Option Str := fun v => match v with | .str s => some s | _ => none
  refine ⟨ys.filterMap g, ?_, ?_⟩
  · have hs : ∀ v ∈ ys, ∃ s, v = .str s := fun v hv => by
      obtain ⟨s, _, rfl⟩ := List.mem_map.mp (h.mem_iff.mp hv)
      exact ⟨s, rfl⟩
    clear h
    induction ys with
    | nil => rfl
    | cons a l ih =>
      obtain ⟨s, rfl⟩ := hs a List.mem_cons_self
      have := ih (fun v hv => hs v (List.mem_cons_of_mem _ hv))
      show V.str s :: l = V.str s :: (l.filterMap g).map V.str
      rw [← this]
  · have h2 := h.filterMap g
    rw [List.filterMap_map] at h2
    have e : (g ∘ V.str) = some := rfl
    rw [e, List.filterMap_some] at h2
    exact h2
def cwords : List Str := [Str.ofString "says", Str.ofString "hears", Str.ofString "done", Str.ofString "start", Str.ofString "end"]
theorem cwords_nd : cwords.Nodup := by decide +kernel
theorem cwords_sp : ∀ x ∈ cwords, spelt x = true := by decide +kernel
section
variable {P : Program} {w : World} {K : PySem.W.Frag} {mg : Str → Option Value} {base : Heap} {C : Addr}
local macro_rules | `(tactic| walk_at "lk") => `(tactic| first | assumption | exact upd_same | exact (by assumption : Ex _ _) _ _ (by assumption))
local macro_rules | `(tactic| walk_at "g1") => `(tactic| first
  | with_reducible refine g_seq ?_ | with_reducible refine g_asg ?_ | with_reducible refine g_name ?_ | with_reducible refine g_cons ?_ | with_reducible refine g_nil ?_
  | ((with_reducible refine' g_var ?e ?_); (case e => exact rfl)) | with_reducible refine g_C ?_ | with_reducible refine g_op ?_ | with_reducible refine g_fld0 ?_ | with_reducible refine g_dget ?_ | with_reducible refine g_cb ?_ | with_reducible refine g_call ?_
  | with_reducible refine g_ret ?_ | with_reducible refine g_ifS ?_ | with_reducible refine g_test ?_ | with_reducible refine g_B ?_ | with_reducible refine g_bl ?_ | with_reducible refine g_not ?_ | with_reducible refine g_or ?_ | with_reducible refine g_and ?_
  | with_reducible refine g_ite ?_ | with_reducible refine g_itf ?_ | with_reducible refine g_itnt ?_ | with_reducible refine g_itnf ?_ | with_reducible refine g_eqS ?_ | with_reducible refine g_neS ?_ | with_reducible refine g_neI ?_ | with_reducible refine g_eqB ?_ | with_reducible refine g_neB ?_ | with_reducible refine g_eqI ?_ | with_reducible refine g_rI0 ?_ | with_reducible refine g_ipI ?_ | with_reducible refine g_int ?_
  | with_reducible refine g_drop ?_ | with_reducible refine g_next ?_ | with_reducible refine g_bm ?_ | with_reducible refine g_bm0 ?_ | with_reducible refine g_din ?_ | with_reducible refine g_dnotin ?_ | with_reducible refine g_dput ?_ | ((with_reducible refine' g_aug ?e ?_); (case e => exact rfl))
  | with_reducible refine g_andV ?_ | with_reducible refine g_orV ?_ | with_reducible refine g_notV ?_ | with_reducible refine g_if ?_ | with_reducible refine g_isN ?_ | with_reducible refine g_notN ?_ | with_reducible refine g_sl ?_ | with_reducible refine g_nopart ?_ | with_reducible refine g_part ?_
  | with_reducible refine g_gcons ?_ | with_reducible refine g_gnil ?_ | with_reducible refine g_par2 ?_ | with_reducible refine g_par3 ?_ | with_reducible refine g_vw ?_ | with_reducible refine g_uvw ?_ | with_reducible refine g_yes ?_ | with_reducible refine g_un ?_ | with_reducible refine g_rU ?_ | with_reducible refine g_gsub ?_ | with_reducible refine g_chain ?_ | with_reducible refine g_for ?_ | with_reducible refine g_istr ?_ | with_reducible refine g_ilist ?_ | with_reducible refine g_itup ?_ | with_reducible refine g_ikeys ?_ | with_reducible refine g_ivals ?_ | with_reducible refine g_iitems ?_ | with_reducible refine g_irng1 ?_ | with_reducible refine g_izip ?_ | with_reducible refine g_while ?_ | with_reducible refine g_tru _ ?_ | with_reducible refine g_lc ?_ | with_reducible refine g_dc ?_ | with_reducible refine g_lc2 ?_ | with_reducible refine g_tup ?_ | with_reducible refine g_lst ?_ | with_reducible refine g_dnew ?_ | with_reducible refine g_sfld ?_ | with_reducible refine g_dget2 ?_ | with_reducible refine g_dzip ?_ | with_reducible refine g_dnewT ?_ | with_reducible refine g_dispT ?_ | with_reducible refine g_star ?_ | with_reducible refine g_disp ?_ | with_reducible refine g_prs ?_ | with_reducible refine g_prs0 ?_ | with_reducible refine g_sc ?_ | with_reducible refine g_make ?_ | with_reducible refine g_meth ?_
  | ((with_reducible refine' g_ixT ?h ?e ?_); (case h => walk_at "lk"); (case e => exact rfl)) | ((with_reducible refine' g_ixL ?h ?e ?_); (case h => walk_at "lk"); (case e => exact rfl))
  | ((with_reducible refine' g_fldK ?h ?c ?n ?l ?_); (case h => walk_at "lk"); (case c => exact C8.InsC.cl (Txt.insC (by assumption))); (case n => first | exact Txt.nR (by assumption) | exact Txt.nF (by assumption)); (case l => exact rfl)))
local macro_rules | `(tactic| walk_at "go") => `(tactic| (repeat walk_at "g1"))
local macro_rules | `(tactic| walk_at "ty") => `(tactic| first | exact .base (.str _) | exact .base .non | exact .base (.bl _) | exact .base (.int _) | exact .base (.tup (by assumption)) | exact .base (.lst (by assumption)) | exact .base (.dK (by assumption)) | exact .fDict (by assumption))
abbrev sl_pool : Stmt := topS 39
abbrev Nl_pool : List Str := ["_law_purse_here", "_law_words_here", "_law_word_here"]
theorem scl_pool : FnScope Nl_pool ["_law_purse_here"] (defScope sl_pool) := ⟨rfl, rfl, rfl, by decide +kernel, rfl, by decide +kernel, by decide +kernel⟩
def sp_pool : Sp := fun vs H Q _ => ∃ (p : Addr) (L : Int) (G : Hp), vs = [.ref p] ∧ Pur p (L + 120) G H ∧ 0 ≤ L ∧
  ∀ (r : Addr) (ws : List Str) (G' H' : Hp), Nxt (some p) G H G' H' → Pur p L G' H' → G' r = some (.lst (ws.map V.str)) → H r = none → ws.length = 6 → ws.Nodup → (∀ x ∈ ws, spelt x = true) → Q (.ref r) H'
theorem cal_pool (F : Has K mg "_law_pool" sl_pool) (T : Txt K w mg C) (c_law_draw : Cal P w K mg base 2 "_law_draw" sp_draw) (c_law_words : Cal P w K mg base 4 "_law_words" sp_words) (c_law_shuffled : Cal P w K mg base 3 "_law_shuffled" sp_shuffled) : Cal P w K mg base 5 "_law_pool" sp_pool := by
  refine F.cal (fun _ _ _ _ _ _ us hl => match us, hl with | [_], _ => rfl) scl_pool (fun vs H Q E h => ?_) (fun f cdv A outer s H vs Q E hr h => ?_)
  · obtain ⟨_, _, _, rfl, _⟩ := h; rfl
  · obtain ⟨p, L, G, rfl, pu, L0, k⟩ := h
    have nd := scl_pool.nd
    have hu := hu_of hr
    refine ⟨_, (pss_cons (ps_set (i := 1) nd rfl (Or.inr rfl) (kc c_law_words hr (pa_cons (pv 0) (pa_cons pe_int pa_nil))))
  (pss_cons (ps_if (pt_cmpR op_eq (kc c_law_draw hr (pa_cons (pv 0) (pa_cons pe_int pa_nil))) pe_int (nomark _))
    (pss_one (ps_set (i := 1) nd rfl (Or.inr rfl) (pe_slice (kSlL K) (pe_op op_cat (pe_slice (kSlL K) (pe_lc (own := [("_law_word_here", 2)]) rfl nd (kpList K (pe_lst (pa_cons pe_str (pa_cons pe_str (pa_cons pe_str (pa_cons pe_str (pa_cons pe_str pa_nil))))))) (blkOk_by (N := Nl_pool) (sc := defScope sl_pool) (by decide +kernel)) (fun _ _ _ _ _ => (pg_name (i := 2) nd rfl (Or.inl rfl))) (fun _ _ _ _ _ => pts_one (pt_cmpR (kNotIn K) (pv 2) (pv 1) rfl)) (fun _ _ _ _ _ => (pv 2))) po_none (po_some pe_int)) (pv 1)) po_none (po_some pe_int)))) pss_nil)
  (pss_one (ps_ret (kc c_law_shuffled hr (pa_cons (pv 0) (pa_cons (pv 1) pa_nil))))))), ?_⟩
    walk_at "go"
    refine ⟨p, 6, L + 20, G, rfl, by rw [show L + 20 + 100 = L + 120 by omega]; exact pu, by omega, by decide, fun r1 ws G1 H1 N1 P1 g1 r10 wl wn wsp => ?_⟩
    have D1 : Dn p (L + 20) G H G1 H1 := ⟨N1, P1⟩
    walk_at "g1"
    walk_at "g1"
    refine g_ifJ (fun σ' H' => ∃ (r : Addr) (ws : List Str) (G' : Hp) (x2 : Option V), σ' = [some (.ref p), some (.ref r), x2] ∧ Dn p (L + 6) G H G' H' ∧ G' r = some (.lst (ws.map V.str)) ∧ ws.length = 6 ∧ ws.Nodup ∧ ∀ x ∈ ws, spelt x = true) (fun nx hnx => ?_) ?_
    · walk_at "go"
      refine draw_use (G := G1) (L := L + 19) (P1.less (by omega) (by omega)) (by omega) (by decide) (by decide) (fun r0 H2 _ _ N2 P2 => ?_)
      have D2 := D1.drw N2 P2
      have h2 := D2.at g1
      walk_at "go"
      by_cases hz : r0 = 0
      · rw [decide_eq_true hz]
        walk_at "go"
        refine ⟨by show 5 ≤ sizeLine; decide, fun q hq => ?_⟩
        have D3 := D2.own (o := .lst [V.str (Str.ofString "says"), V.str (Str.ofString "hears"), V.str (Str.ofString "done"), V.str (Str.ofString "start"), V.str (Str.ofString "end")]) hq
        have h3 := D3.at g1
        have h3q : (upd H2 q (.lst [V.str (Str.ofString "says"), V.str (Str.ofString "hears"), V.str (Str.ofString "done"), V.str (Str.ofString "start"), V.str (Str.ofString "end")])) q = some (.lst (cwords.map V.str)) := upd_same
        generalize upd H2 q (.lst [V.str (Str.ofString "says"), V.str (Str.ofString "hears"), V.str (Str.ofString "done"), V.str (Str.ofString "start"), V.str (Str.ofString "end")]) = H3 at D3 h3 h3q ⊢
        refine ⟨q, rfl, ⟨_, SqL.of h3q⟩, fun D hD => ?_⟩
        refine lc_gen walk_list D3.p.ex hD (by rw [List.length_map]; decide) (fun i acc _ => acc = ((cwords.take i).filter fun z => decide (z ∉ ws)).map V.str) rfl (fun H' e => SqL.of (e _ _ h3q)) ?_ ?_
        · rintro j z G3 H12 H13 acc Kt Kf hj N g0 hh hl' rfl ⟨rfl, hz'⟩ htt hff
          obtain ⟨zs, hzs, rfl⟩ := strs_get hz'
          have ts := take_snoc hzs
          walk_at "go"
          refine ⟨rfl, ?_⟩
          walk_at "go"
          refine g_nin (.inl (SqL.of (N.ex _ _ h3))) rfl (flatS _) (inV_str zs _) ?_
          walk_at "go"
          by_cases hz1 : zs ∈ ws
          · rw [decide_eq_true hz1]
            walk_at "go"
            exact hff G3 _ (Nxt.refl N.gh) (by rw [ts, List.filter_append]; simp [hz1])
          · rw [decide_eq_false hz1]
            walk_at "go"
            exact htt (.str zs) G3 _ (Nxt.refl N.gh) (by rw [ts, List.filter_append]; simp [hz1])
        · rintro G3 H4 acc N g0 hh hl' rfl
          rw [List.length_map, List.take_length] at hh
          have D4 := D3.step N.forget
          have h4 := D4.at g1
          walk_at "go"
          refine ⟨D, _, rfl, SqL.of hh, fun s1 hs1 => ?_⟩
          obtain ⟨es, ees⟩ : ∃ es, (cwords.filter fun z => decide (z ∉ ws)).take 2 = es := ⟨_, rfl⟩
          have c1 : cutV ((cwords.filter fun z => decide (z ∉ ws)).map V.str) none (some 2) = es.map V.str := by rw [← ees, List.map_take]; exact cut_take (i := 2)
          rw [c1]
          have D5 := D4.own (o := .lst (es.map V.str)) hs1
          have h5 := D5.at g1
          have h5s : (upd H4 s1 (.lst (es.map V.str))) s1 = some (.lst (es.map V.str)) := upd_same
          generalize upd H4 s1 (.lst (es.map V.str)) = H5 at D5 h5 h5s ⊢
          have el : es.length ≤ 2 := by rw [← ees, List.length_take]; omega
          walk_at "go"
          refine ⟨s1, r1, _, _, rfl, rfl, h5s, h5, by rw [List.length_map, List.length_map]; exact Nat.le_of_lt (small1000 (by omega)), fun s2 hs2 => ?_⟩
          rw [← List.map_append]
          have D6 := D5.own (o := .lst ((es ++ ws).map V.str)) hs2
          have h6s : (upd H5 s2 (.lst ((es ++ ws).map V.str))) s2 = some (.lst ((es ++ ws).map V.str)) := upd_same
          generalize upd H5 s2 (.lst ((es ++ ws).map V.str)) = H6 at D6 h6s ⊢
          walk_at "go"
          refine ⟨s2, _, rfl, SqL.of h6s, fun s3 hs3 => ?_⟩
          have c2 : cutV ((es ++ ws).map V.str) none (some 6) = ((es ++ ws).take 6).map V.str := by rw [List.map_take]; exact cut_take (i := 6)
          rw [c2]
          have D7 := D6.new (o := .lst (((es ++ ws).take 6).map V.str)) hs3
          walk_at "go"
          refine hnx _ _ ⟨s3, (es ++ ws).take 6, _, _, rfl, D7.less (by omega) (by omega), upd_same, by rw [List.length_take, List.length_append]; omega, ?_, ?_⟩
          · refine List.Nodup.sublist (List.take_sublist _ _) (List.nodup_append.mpr ⟨?_, wn, fun a ha b hb z => ?_⟩)
            · rw [← ees]; exact (cwords_nd.filter _).sublist (List.take_sublist _ _)
            · subst z
              rw [← ees] at ha
              have := (List.mem_filter.mp (List.mem_of_mem_take ha)).2
              simp at this
              exact this hb
          · intro x hx
            rcases List.mem_append.mp (List.mem_of_mem_take hx) with h | h
            · rw [← ees] at h
              exact cwords_sp x (List.mem_filter.mp (List.mem_of_mem_take h)).1
            · exact wsp x h
      · rw [decide_eq_false hz]
        walk_at "go"
        exact hnx _ _ ⟨r1, ws, G1, _, rfl, D2.less (by omega) (by omega), g1, wl, wn, wsp⟩
    · rintro σ' H2 ⟨r2, ws, G2, x2, rfl, D2, g2, wl, wn, wsp⟩
      walk_at "go"
      refine shuffled_use (G := G2) (L := L) (xs := ws.map V.str) (by rw [List.length_map, wl]; exact D2.p) L0 (D2.p.ne' g2) (D2.at g2) (by rw [List.length_map]; omega) (fun r3 ys G3 H3 hP N3 P3 g3 r30 => ?_)
      obtain ⟨zs, rfl, hz⟩ := perm_map_inv hP
      have D3 := D2.drw N3 P3
      exact k r3 zs _ _ D3.n D3.p g3 (D2.none0 r30) (by rw [hz.length_eq]; exact wl) (hz.nodup_iff.mpr wn) (fun x hx => wsp x (hz.mem_iff.mp hx))
end
end K69
set_option Elab.async false
set_option linter.all false
set_option maxRecDepth 100000
set_option maxHeartbeats 4000000
namespace K69
open PySem PySem.Spec PyProof.Rows L2
def setS (ts : Turns) (x y : Str) : Turns := ts.map fun p => if p.1 = x then (p.1, y) else p
theorem setS_keys (ts : Turns) (x y : Str) : (setS ts x y).map (·.1) = ts.map (·.1) := by
  unfold setS
  rw [List.map_map]
  refine List.map_congr_left fun p _ => ?_
  show (if p.1 = x then (p.1, y) else p).1 = p.1
  split <;> rfl
theorem setS_mem {ts : Turns} {x y : Str} {q : Str × Str} (h : q ∈ setS ts x y) : q ∈ ts ∨ q.2 = y := by
  obtain ⟨p, hp, rfl⟩ := List.mem_map.mp h
  split
  · exact .inr rfl
  · exact .inl hp
theorem putK_kvS {ts : Turns} {x y : Str} (h : x ∈ ts.map (·.1)) : putK (kvS ts) (Sum.inr x : Key) (.str y) = kvS (setS ts x y) := by
  obtain ⟨p, hp, e⟩ := List.mem_map.mp h
  have an : ((kvS ts).any fun kv => decide (kv.1 = (Sum.inr x : Key))) = true := List.any_eq_true.mpr ⟨(Sum.inr p.1, .str p.2), List.mem_map.mpr ⟨p, hp, rfl⟩, by simp [e]⟩
  unfold putK
  rw [if_pos an]
  unfold kvS setS
  rw [List.map_map, List.map_map]
  refine List.map_congr_left fun p _ => ?_
  show (if (Sum.inr p.1 : Key) = Sum.inr x then ((Sum.inr p.1 : Key), V.str y) else (Sum.inr p.1, V.str p.2)) = ((Sum.inr (if p.1 = x then (p.1, y) else p).1 : Key), V.str (if p.1 = x then (p.1, y) else p).2)
  by_cases h : p.1 = x
  · rw [if_pos (by rw [h]), if_pos h]
  · rw [if_neg (fun z => h (Sum.inr.inj z)), if_neg h]
theorem cut_from {l : List V} {n : Nat} : cutV l (some ((n : Int) + 1)) none = (l.drop (min (n + 1) l.length)).take (l.length - min (n + 1) l.length) := by
  unfold cutV
  rw [show ((n : Int) + 1) = ((n + 1 : Nat) : Int) by omega, HT.sIx_none, HT.sIx_nat]
theorem kvS_len (ts : Turns) : (kvS ts).length = ts.length := by simp [kvS]
section
variable {P : Program} {w : World} {K : PySem.W.Frag} {mg : Str → Option Value} {base : Heap} {C : Addr}
local macro_rules | `(tactic| walk_at "lk") => `(tactic| first | assumption | exact upd_same | exact (by assumption : Ex _ _) _ _ (by assumption))
local macro_rules | `(tactic| walk_at "g1") => `(tactic| first
  | with_reducible refine g_seq ?_ | with_reducible refine g_asg ?_ | with_reducible refine g_name ?_ | with_reducible refine g_cons ?_ | with_reducible refine g_nil ?_
  | ((with_reducible refine' g_var ?e ?_); (case e => exact rfl)) | with_reducible refine g_C ?_ | with_reducible refine g_op ?_ | with_reducible refine g_fld0 ?_ | with_reducible refine g_dget ?_ | with_reducible refine g_cb ?_ | with_reducible refine g_call ?_
  | with_reducible refine g_ret ?_ | with_reducible refine g_ifS ?_ | with_reducible refine g_test ?_ | with_reducible refine g_B ?_ | with_reducible refine g_bl ?_ | with_reducible refine g_not ?_ | with_reducible refine g_or ?_ | with_reducible refine g_and ?_
  | with_reducible refine g_ite ?_ | with_reducible refine g_itf ?_ | with_reducible refine g_itnt ?_ | with_reducible refine g_itnf ?_ | with_reducible refine g_eqS ?_ | with_reducible refine g_neS ?_ | with_reducible refine g_neI ?_ | with_reducible refine g_eqB ?_ | with_reducible refine g_neB ?_ | with_reducible refine g_eqI ?_ | with_reducible refine g_rI0 ?_ | with_reducible refine g_ipI ?_ | with_reducible refine g_int ?_
  | with_reducible refine g_drop ?_ | with_reducible refine g_next ?_ | with_reducible refine g_bm ?_ | with_reducible refine g_bm0 ?_ | with_reducible refine g_din ?_ | with_reducible refine g_dnotin ?_ | with_reducible refine g_dput ?_ | ((with_reducible refine' g_aug ?e ?_); (case e => exact rfl))
  | with_reducible refine g_andV ?_ | with_reducible refine g_orV ?_ | with_reducible refine g_notV ?_ | with_reducible refine g_if ?_ | with_reducible refine g_isN ?_ | with_reducible refine g_notN ?_ | with_reducible refine g_sl ?_ | with_reducible refine g_nopart ?_ | with_reducible refine g_part ?_
  | with_reducible refine g_gcons ?_ | with_reducible refine g_gnil ?_ | with_reducible refine g_par2 ?_ | with_reducible refine g_par3 ?_ | with_reducible refine g_vw ?_ | with_reducible refine g_uvw ?_ | with_reducible refine g_yes ?_ | with_reducible refine g_un ?_ | with_reducible refine g_rU ?_ | with_reducible refine g_gsub ?_ | with_reducible refine g_chain ?_ | with_reducible refine g_for ?_ | with_reducible refine g_istr ?_ | with_reducible refine g_ilist ?_ | with_reducible refine g_itup ?_ | with_reducible refine g_ikeys ?_ | with_reducible refine g_ivals ?_ | with_reducible refine g_iitems ?_ | with_reducible refine g_irng1 ?_ | with_reducible refine g_izip ?_ | with_reducible refine g_while ?_ | with_reducible refine g_tru _ ?_ | with_reducible refine g_lc ?_ | with_reducible refine g_dc ?_ | with_reducible refine g_lc2 ?_ | with_reducible refine g_tup ?_ | with_reducible refine g_lst ?_ | with_reducible refine g_dnew ?_ | with_reducible refine g_sfld ?_ | with_reducible refine g_dget2 ?_ | with_reducible refine g_dzip ?_ | with_reducible refine g_dnewT ?_ | with_reducible refine g_dispT ?_ | with_reducible refine g_star ?_ | with_reducible refine g_disp ?_ | with_reducible refine g_prs ?_ | with_reducible refine g_prs0 ?_ | with_reducible refine g_sc ?_ | with_reducible refine g_make ?_ | with_reducible refine g_meth ?_
  | ((with_reducible refine' g_ixT ?h ?e ?_); (case h => walk_at "lk"); (case e => exact rfl)) | ((with_reducible refine' g_ixL ?h ?e ?_); (case h => walk_at "lk"); (case e => exact rfl))
  | ((with_reducible refine' g_fldK ?h ?c ?n ?l ?_); (case h => walk_at "lk"); (case c => exact C8.InsC.cl (Txt.insC (by assumption))); (case n => first | exact Txt.nR (by assumption) | exact Txt.nF (by assumption)); (case l => exact rfl)))
local macro_rules | `(tactic| walk_at "go") => `(tactic| (repeat walk_at "g1"))
local macro_rules | `(tactic| walk_at "ty") => `(tactic| first | exact .base (.str _) | exact .base .non | exact .base (.bl _) | exact .base (.int _) | exact .base (.tup (by assumption)) | exact .base (.lst (by assumption)) | exact .base (.dK (by assumption)) | exact .fDict (by assumption))
abbrev sl_turns : Stmt := topS 40
abbrev Nl_turns : List Str := ["_law_purse_here", "_law_states", "_law_words_here", "_law_at", "_law_top", "_law_many", "_law_found", "_law_word_here"]
theorem scl_turns : FnScope Nl_turns ["_law_purse_here", "_law_states", "_law_words_here", "_law_at", "_law_top"] (defScope sl_turns) := ⟨rfl, rfl, rfl, by decide +kernel, rfl, by decide +kernel, by decide +kernel⟩
def sp_turns : Sp := fun vs H Q _ => ∃ (p st wd : Addr) (S ws : List Str) (i : Nat) (top L : Int) (G : Hp), vs = [.ref p, .ref st, .ref wd, .int (i : Int), .int top] ∧ Pur p (L + 20) G H ∧ 0 ≤ L ∧ G st = some (.lst (S.map V.str)) ∧ G wd = some (.lst (ws.map V.str)) ∧
  S ≠ [] ∧ S.length ≤ 6 ∧ ws ≠ [] ∧ ws.length ≤ 6 ∧ ws.Nodup ∧ i ≤ 6 ∧ 1 ≤ top ∧ top ≤ 6 ∧
  ∀ (d : Addr) (ts : Turns) (G' H' : Hp), Nxt (some p) G H G' H' → Pur p L G' H' → G' d = some (.dK (kvS ts)) → H d = none → ts ≠ [] → (ts.map (·.1)).Nodup → ts.length ≤ 6 → (∀ q ∈ ts, q.1 ∈ ws ∧ q.2 ∈ S) → Q (.ref d) H'
theorem cal_turns (F : Has K mg "_law_turns" sl_turns) (T : Txt K w mg C) (c_law_draw : Cal P w K mg base 2 "_law_draw" sp_draw) (c_law_one_of : Cal P w K mg base 3 "_law_one_of" sp_one_of) (c_law_shuffled : Cal P w K mg base 3 "_law_shuffled" sp_shuffled) : Cal P w K mg base 4 "_law_turns" sp_turns := by
  refine F.cal (fun _ _ _ _ _ _ us hl => match us, hl with | [_, _, _, _, _], _ => rfl) scl_turns (fun vs H Q E h => ?_) (fun f cdv A outer s H vs Q E hr h => ?_)
  · obtain ⟨_, _, _, _, _, _, _, _, _, rfl, _⟩ := h; rfl
  · obtain ⟨p, st, wd, S, ws, i, top, L, G, rfl, pu, L0, hst, hwd, Sn, S6, wn0, w6, wnd, i6, t0, t6, k⟩ := h
    have nd := scl_turns.nd
    have hu := hu_of hr
    refine ⟨_, (pss_cons (ps_par (i := 5) (j := 6) rfl nd rfl rfl (by decide) rfl rfl (pa_cons (pe_op op_add pe_int (kc c_law_draw hr (pa_cons (pv 0) (pa_cons (pe_callB (call_max2 rfl) (by rfl) T.max (by decide +kernel) (pa_cons pe_int (pa_cons (pe_callB (call_min2 rfl) (by rfl) T.min (by decide +kernel) (pa_cons (pv 4) (pa_cons (pe_callB (kLen K) (by rfl) T.len (by decide +kernel) (pa_cons (pv 2) pa_nil)) pa_nil))) pa_nil))) pa_nil)))) (pa_cons pe_dnewK pa_nil)) (by rfl))
  (pss_cons (ps_for PassesOwn.never rfl (kpList K (pe_slice (kSlL K) (kc c_law_shuffled hr (pa_cons (pv 0) (pa_cons (pv 2) pa_nil))) po_none (po_some (pv 5)))) (pg_name (i := 7) nd rfl (Or.inl rfl))
    (pss_one (ps_dput hu (pv 6) (pv 7) (kc c_law_one_of hr (pa_cons (pv 0) (pa_cons (pv 1) pa_nil))) rfl)))
  (pss_cons (ps_if (PW.pt (pw_and (pt_cmpR op_lt (pe_op op_add (pv 3) pe_int) (pe_callB (kLen K) (by rfl) T.len (by decide +kernel) (pa_cons (pv 1) pa_nil)) (nomark _)) (pw_and1 (pt_cmpR op_gt (kc c_law_draw hr (pa_cons (pv 0) (pa_cons pe_int pa_nil))) pe_int (nomark _)))))
    (pss_one (ps_dput hu (pv 6) (kc c_law_one_of hr (pa_cons (pv 0) (pa_cons (pe_callTy (call_listD rfl) (by rfl) T.tlist (by decide +kernel) (pa_cons (pv 6) pa_nil)) pa_nil))) (kc c_law_one_of hr (pa_cons (pv 0) (pa_cons (pe_slice (kSlL K) (pv 1) (po_some (pe_op op_add (pv 3) pe_int)) po_none) pa_nil))) rfl)) pss_nil)
  (pss_one (ps_ret (pv 6)))))), ?_⟩
    have S0 : 0 < S.length := List.length_pos_iff.mpr Sn
    have w0 : 0 < ws.length := List.length_pos_iff.mpr wn0
    have D0 : Dn p (L + 20) G H G H := Dn.start pu
    walk_at "go"
    refine ⟨wd, _, rfl, .inl (SqL.of (D0.at hwd)), ?_⟩
    walk_at "go"
    refine ⟨_, _, rfl, ?_⟩
    walk_at "go"
    refine ⟨_, _, rfl, ?_⟩
    rw [List.length_map]
    obtain ⟨m, em, m0, m1⟩ : ∃ m : Int, (if (if ((ws.length : Nat) : Int) < top then ((ws.length : Nat) : Int) else top) > 1 then (if ((ws.length : Nat) : Int) < top then ((ws.length : Nat) : Int) else top) else 1) = m ∧ 0 < m ∧ m ≤ 6 := ⟨_, rfl, by split <;> omega, by split <;> split <;> omega⟩
    rw [em]
    walk_at "go"
    refine draw_use (G := G) (L := L + 19) (pu.less (by omega) (by omega)) (by omega) m0 (by omega) (fun r0 H1 a0 a1 N1 P1 => ?_)
    have D1 := D0.drw N1 P1
    obtain ⟨n, rfl⟩ := Int.eq_ofNat_of_zero_le a0
    walk_at "go"
    intro d hd
    have D2 := D1.own (o := .dK []) hd
    have dp := D1.p.ne hd
    have gd : G d = none := D1.gnone hd
    have d0 : H d = none := D1.none0 hd
    have h2 : (upd H1 d (.dK [])) d = some (.dK (kvS [])) := upd_same
    generalize upd H1 d (.dK []) = H2 at D2 h2 ⊢
    walk_at "go"
    refine shuffled_use (G := G) (L := L + 12) (xs := ws.map V.str) (D2.p.less (by rw [List.length_map]; omega) (by rw [List.length_map]; omega)) (by omega) (D2.p.ne' hwd) (D2.at hwd) (by rw [List.length_map]; omega) (fun r3 ys G3 H3 hP N3 P3 g3 r30 => ?_)
    obtain ⟨zs, rfl, hz⟩ := perm_map_inv hP
    have gd3 : G3 d = none := (N3.fr d _ h2).trans gd
    have h3 := Dn.keep N3 dp h2
    have D3 := D2.drw N3 P3
    walk_at "go"
    refine ⟨r3, _, rfl, SqL.of (D3.at g3), fun q hq => ?_⟩
    have c1 : cutV (zs.map V.str) none (some (1 + (n : Int))) = (zs.take (n + 1)).map V.str := by
      rw [show (1 + (n : Int)) = ((n + 1 : Nat) : Int) by omega, List.map_take]; exact cut_take (i := n + 1)
    rw [c1]
    have z2n : (zs.take (n + 1)).Nodup := (hz.nodup_iff.mpr wnd).sublist (List.take_sublist _ _)
    have z2m : ∀ x ∈ zs.take (n + 1), x ∈ ws := fun x hx => hz.mem_iff.mp (List.mem_of_mem_take hx)
    have z2l : (zs.take (n + 1)).length ≤ 6 := by rw [List.length_take, hz.length_eq]; omega
    have z20 : 0 < (zs.take (n + 1)).length := by rw [List.length_take, hz.length_eq]; omega
    generalize zs.take (n + 1) = zz at z2n z2m z2l z20 ⊢
    have D4 := D3.new (o := .lst (zz.map V.str)) hq
    have g4 : (upd G3 q (.lst (zz.map V.str))) q = some (.lst (zz.map V.str)) := upd_same
    have gd4 : (upd G3 q (.lst (zz.map V.str))) d = none := by rw [upd_ne (ne_of_none h3 hq)]; exact gd3
    have h4 := upd_keep (u := .lst (zz.map V.str)) h3 hq
    generalize upd G3 q (.lst (zz.map V.str)) = G4 at D4 g4 gd4
    generalize upd H3 q (.lst (zz.map V.str)) = H4 at D4 h4 ⊢
    have hst4 : G4 st = some (.lst (S.map V.str)) := D4.n.gg _ _ hst
    walk_at "go"
    refine ⟨q, rfl, ⟨_, SqL.of (D4.at g4)⟩, ?_⟩
    refine for_it walk_list (fun j σ' H' => ∃ (ts : Turns) (x7 : Option V), σ' = [some (.ref p), some (.ref st), some (.ref wd), some (.int (i : Int)), some (.int top), some (.int (1 + (n : Int))), some (.ref d), x7] ∧ Dn p (L + 12 - j) G H G4 H' ∧ H' d = some (.dK (kvS ts)) ∧ ts.map (·.1) = zz.take j ∧ ∀ q ∈ ts, q.2 ∈ S)
      ⟨[], _, rfl, D4.less (by omega) (by omega), h4, rfl, by simp⟩ (fun j σ' H' _ ⟨ts, x7, _, D, _⟩ => SqL.of (D.at g4)) ?_ ?_
    · rintro j y σ' H5 H6 hj ⟨ts, x7, rfl, D5, h5, tk, tm⟩ ⟨rfl, hy⟩
      obtain ⟨x, hx, rfl⟩ := strs_get hy
      clear hy
      have hj6 : j < 6 := by rw [List.length_map] at hj; omega
      walk_at "go"
      refine one_of_use (G := G4) (L := L + 12 - (j + 1 : Nat)) (D5.p.less (by omega) (by omega)) (by omega) (D5.p.ne' hst4) (D5.at hst4) (by rw [List.length_map]; exact S0) (by rw [List.length_map]; omega) (fun v H7 hv N7 P7 => ?_)
      obtain ⟨s, hs, rfl⟩ := List.mem_map.mp hv
      have D7 := D5.drw N7 P7
      have h7 := Dn.keep N7 dp h5
      have tl : ts.length = j := by
        have := congrArg List.length tk
        rw [List.length_map, List.length_take] at this
        rw [List.length_map] at hj
        omega
      walk_at "go"
      refine ⟨d, _, rfl, DPut.s h7 (by rw [kvS_len]; exact small1000 (by omega)), ?_⟩
      have nx : x ∉ ts.map (·.1) := by
        rw [tk]
        intro m
        obtain ⟨a, ha, e⟩ := List.getElem_of_mem m
        rw [List.getElem_take] at e
        rw [List.length_take] at ha
        have hx' := (List.getElem?_eq_some_iff.mp hx)
        obtain ⟨hx1, hx2⟩ := hx'
        have := (List.getElem_inj (h₀ := by omega) (h₁ := hx1) z2n).mp (e.trans hx2.symm)
        omega
      refine ⟨ts ++ [(x, s)], _, rfl, D7.mut gd4 d0 dp, by rw [upd_same, show putK (kvS ts) (Sum.inr x) (.str s) = kvS (ts ++ [(x, s)]) from putK_kvG V.str nx], ?_, ?_⟩
      · rw [List.map_append, tk, take_snoc hx]; rfl
      · intro q hq
        rcases List.mem_append.mp hq with h | h
        · exact tm q h
        · rw [List.mem_singleton.mp h]; exact hs
    · rintro σ' H5 ⟨ts, x7, rfl, D5, h5, tk, tm⟩
      rw [List.length_map, List.take_length] at tk
      have tl : ts.length = zz.length := by have := congrArg List.length tk; rw [List.length_map] at this; exact this
      have D5 := D5.less (M := L + 4) (by omega) (by rw [List.length_map]; omega)
      have tn : (ts.map (·.1)).Nodup := by rw [tk]; exact z2n
      have fin : ∀ (ts' : Turns) (H' : Hp), Dn p L G H G4 H' → H' d = some (.dK (kvS ts')) → ts'.map (·.1) = zz → (∀ q ∈ ts', q.2 ∈ S) → Q (.ref d) H' := by
        intro ts' H' D' h' tk' tm'
        have D8 := D'.frz gd4 h' d0 dp
        have tl' : ts'.length = zz.length := by have := congrArg List.length tk'; rw [List.length_map] at this; exact this
        refine k d ts' _ _ D8.n D8.p upd_same d0 (fun z => by rw [z] at tl'; simp at tl'; omega) (by rw [tk']; exact z2n) (by omega) (fun q hq => ⟨z2m _ ?_, tm' q hq⟩)
        rw [← tk']; exact List.mem_map_of_mem hq
      walk_at "go"
      refine ⟨st, _, rfl, .inl (SqL.of (D5.at hst4)), ?_⟩
      rw [List.length_map]
      walk_at "go"
      by_cases hc : (i : Int) + 1 < (S.length : Int)
      · rw [if_pos (decide_eq_true hc)]
        walk_at "go"
        refine draw_use (G := G4) (L := L + 3) (D5.p.less (by omega) (by omega)) (by omega) (by decide) (by decide) (fun r6 H6 _ _ N6 P6 => ?_)
        have D6 := D5.drw N6 P6
        have h6 := Dn.keep N6 dp h5
        walk_at "go"
        by_cases hz6 : 0 < r6
        · rw [if_pos (decide_eq_true hz6)]
          walk_at "go"
          refine ⟨st, _, rfl, SqL.of (D6.at hst4), fun q1 hq1 => ?_⟩
          rw [cut_from]
          obtain ⟨S2, eS2, S2n, S2m⟩ : ∃ S2 : List Str, ((S.map V.str).drop (min (i + 1) (S.map V.str).length)).take ((S.map V.str).length - min (i + 1) (S.map V.str).length) = S2.map V.str ∧ 0 < S2.length ∧ ∀ x ∈ S2, x ∈ S :=
            ⟨(S.drop (min (i + 1) (S.map V.str).length)).take ((S.map V.str).length - min (i + 1) (S.map V.str).length), by rw [List.map_take, List.map_drop], by rw [List.length_take, List.length_drop, List.length_map]; omega, fun x hx => List.mem_of_mem_drop (List.mem_of_mem_take hx)⟩
          have S2l : S2.length ≤ 6 := by
            have := congrArg List.length eS2
            simp only [List.length_map, List.length_take, List.length_drop] at this
            omega
          rw [eS2]
          have D7 := D6.own (o := .lst (S2.map V.str)) hq1
          have h7 := upd_keep (u := .lst (S2.map V.str)) h6 hq1
          have h7q : (upd H6 q1 (.lst (S2.map V.str))) q1 = some (.lst (S2.map V.str)) := upd_same
          have q1p := D6.p.ne hq1
          generalize upd H6 q1 (.lst (S2.map V.str)) = H7 at D7 h7 h7q ⊢
          walk_at "go"
          refine one_of_use (G := G4) (L := L + 2) (D7.p.less (by omega) (by omega)) (by omega) q1p h7q (by rw [List.length_map]; exact S2n) (by rw [List.length_map]; omega) (fun v H8 hv N8 P8 => ?_)
          obtain ⟨s, hs, rfl⟩ := List.mem_map.mp hv
          have D8 := D7.drw N8 P8
          have h8 := Dn.keep N8 dp h7
          walk_at "go"
          refine ⟨d, _, rfl, .inl h8, fun q2 hq2 => ?_⟩
          have ek : (kvS ts).map (fun kv => kV kv.1) = (ts.map (·.1)).map V.str := by unfold kvS; rw [List.map_map, List.map_map]; rfl
          rw [ek]
          have D9 := D8.own (o := .lst ((ts.map (·.1)).map V.str)) hq2
          have h9 := upd_keep (u := .lst ((ts.map (·.1)).map V.str)) h8 hq2
          have h9q : (upd H8 q2 (.lst ((ts.map (·.1)).map V.str))) q2 = some (.lst ((ts.map (·.1)).map V.str)) := upd_same
          have q2p := D8.p.ne hq2
          generalize upd H8 q2 (.lst ((ts.map (·.1)).map V.str)) = H9 at D9 h9 h9q ⊢
          walk_at "go"
          refine one_of_use (G := G4) (L := L + 1) (D9.p.less (by omega) (by omega)) (by omega) q2p h9q (by rw [List.length_map, List.length_map]; omega) (by rw [List.length_map, List.length_map]; omega) (fun v H10 hv N10 P10 => ?_)
          obtain ⟨x, hx, rfl⟩ := List.mem_map.mp hv
          have D10 := D9.drw N10 P10
          have h10 := Dn.keep N10 dp h9
          refine ⟨d, _, rfl, DPut.s h10 (by rw [kvS_len]; exact small1000 (by omega)), ?_⟩
          walk_at "go"
          refine fin (setS ts x s) _ ((D10.mut gd4 d0 dp).less L0 (by omega)) (by rw [upd_same, putK_kvS hx]) (by rw [setS_keys]; exact tk) (fun q hq => ?_)
          rcases setS_mem hq with h | h
          · exact tm q h
          · rw [h]; exact S2m s hs
        · rw [if_neg (by rw [decide_eq_false hz6]; decide)]
          walk_at "go"
          exact fin ts _ (D6.less L0 (by omega)) h6 tk tm
      · rw [if_neg (by rw [decide_eq_false hc]; decide)]
        walk_at "go"
        exact fin ts _ (D5.less L0 (by omega)) h5 tk tm
end
end K69
set_option Elab.async false
set_option linter.all false
set_option maxRecDepth 100000
set_option maxHeartbeats 4000000
namespace K69
open PySem PySem.Spec PyProof.Rows L2
theorem te_J {c : TT} {ta tb : TE} {σ : L2.St} {H : Hp} {Q : VK} (Mid : V → Hp → Prop) (h : ∀ Q' : VK, (∀ v H', Mid v H' → Q' v H') → tIf c ta tb σ H Q') (h2 : ∀ v H', Mid v H' → Q v H') : tIf c ta tb σ H Q := h Q h2
theorem g_ifAny {c : TT} {t u : TS} {D : L2.Ends} {σ : L2.St} {H : Hp} (hc : ∀ QT : Bool → Hp → Prop, (∀ b, QT b H) → c σ H QT) (h1 : t D σ H) (h2 : u D σ H) : tIfS c t u D σ H := hc _ fun b => by
  cases b
  · exact iteF h2
  · exact iteT h1
theorem g_ifv {c : Bool} {x y : V} {σ : L2.St} {H : Hp} {Q : VK} (h : ∀ v, v = x ∨ v = y → Q v H) : if c = true then tC x σ H Q else tC y σ H Q := by
  cases c
  · exact iteF (h _ (.inr rfl))
  · exact iteT (h _ (.inl rfl))
theorem first_at {x : Str} : ∀ {l : List Str}, x ∈ l → ∃ j : Nat, l[j]? = some x ∧ ∀ (m : Nat) (y : Str), m < j → l[m]? = some y → y ≠ x
  | [], h => by cases h
  | a :: l, h => by
    by_cases e : a = x
    · exact ⟨0, by rw [e]; rfl, fun m y hm => by omega⟩
    · have h' : x ∈ l := by
        rcases List.mem_cons.mp h with q | q
        · exact absurd q.symm e
        · exact q
      obtain ⟨j, h1, h2⟩ := first_at h'
      refine ⟨j + 1, h1, fun m y hm hy => ?_⟩
      cases m with
      | zero => cases hy; exact e
      | succ m => exact h2 m y (by omega) hy
theorem kIndex {X : Cx} (K : PySem.W.Frag) (h : X.K = K := by rfl) : MtR X "list.index" (rIndex K) := by subst h; exact mt_index
theorem kvR_len (rs : List (Str × Addr)) : (kvR rs).length = rs.length := by simp [kvR]
theorem strs_at {l : List Str} {i : Nat} {x : Str} (h : l[i]? = some x) : atI (l.map V.str) (i : Int) = some (.str x) := atI_nat (by rw [List.getElem?_map, h]; rfl)
section
variable {P : Program} {w : World} {K : PySem.W.Frag} {mg : Str → Option Value} {base : Heap} {C : Addr}
local macro_rules | `(tactic| walk_at "lk") => `(tactic| first | assumption | exact upd_same | exact (by assumption : Ex _ _) _ _ (by assumption))
local macro_rules | `(tactic| walk_at "g1") => `(tactic| first
  | with_reducible refine g_seq ?_ | with_reducible refine g_asg ?_ | with_reducible refine g_name ?_ | with_reducible refine g_cons ?_ | with_reducible refine g_nil ?_
  | ((with_reducible refine' g_var ?e ?_); (case e => exact rfl)) | with_reducible refine g_C ?_ | with_reducible refine g_op ?_ | with_reducible refine g_fld0 ?_ | with_reducible refine g_dget ?_ | with_reducible refine g_cb ?_ | with_reducible refine g_call ?_
  | with_reducible refine g_ret ?_ | with_reducible refine g_ifS ?_ | with_reducible refine g_test ?_ | with_reducible refine g_B ?_ | with_reducible refine g_bl ?_ | with_reducible refine g_not ?_ | with_reducible refine g_or ?_ | with_reducible refine g_and ?_
  | with_reducible refine g_ite ?_ | with_reducible refine g_itf ?_ | with_reducible refine g_itnt ?_ | with_reducible refine g_itnf ?_ | with_reducible refine g_eqS ?_ | with_reducible refine g_neS ?_ | with_reducible refine g_neI ?_ | with_reducible refine g_eqB ?_ | with_reducible refine g_neB ?_ | with_reducible refine g_eqI ?_ | with_reducible refine g_rI0 ?_ | with_reducible refine g_ipI ?_ | with_reducible refine g_int ?_
  | with_reducible refine g_drop ?_ | with_reducible refine g_next ?_ | with_reducible refine g_bm ?_ | with_reducible refine g_bm0 ?_ | with_reducible refine g_din ?_ | with_reducible refine g_dnotin ?_ | with_reducible refine g_dput ?_ | ((with_reducible refine' g_aug ?e ?_); (case e => exact rfl))
  | with_reducible refine g_andV ?_ | with_reducible refine g_orV ?_ | with_reducible refine g_notV ?_ | with_reducible refine g_if ?_ | with_reducible refine g_isN ?_ | with_reducible refine g_notN ?_ | with_reducible refine g_sl ?_ | with_reducible refine g_nopart ?_ | with_reducible refine g_part ?_
  | with_reducible refine g_gcons ?_ | with_reducible refine g_gnil ?_ | with_reducible refine g_par2 ?_ | with_reducible refine g_par3 ?_ | with_reducible refine g_vw ?_ | with_reducible refine g_uvw ?_ | with_reducible refine g_yes ?_ | with_reducible refine g_un ?_ | with_reducible refine g_rU ?_ | with_reducible refine g_gsub ?_ | with_reducible refine g_chain ?_ | with_reducible refine g_for ?_ | with_reducible refine g_istr ?_ | with_reducible refine g_ilist ?_ | with_reducible refine g_itup ?_ | with_reducible refine g_ikeys ?_ | with_reducible refine g_ivals ?_ | with_reducible refine g_iitems ?_ | with_reducible refine g_irng1 ?_ | with_reducible refine g_izip ?_ | with_reducible refine g_while ?_ | with_reducible refine g_tru _ ?_ | with_reducible refine g_lc ?_ | with_reducible refine g_dc ?_ | with_reducible refine g_lc2 ?_ | with_reducible refine g_tup ?_ | with_reducible refine g_lst ?_ | with_reducible refine g_dnew ?_ | with_reducible refine g_sfld ?_ | with_reducible refine g_dget2 ?_ | with_reducible refine g_dzip ?_ | with_reducible refine g_dnewT ?_ | with_reducible refine g_dispT ?_ | with_reducible refine g_star ?_ | with_reducible refine g_disp ?_ | with_reducible refine g_prs ?_ | with_reducible refine g_prs0 ?_ | with_reducible refine g_sc ?_ | with_reducible refine g_make ?_ | with_reducible refine g_meth ?_
  | ((with_reducible refine' g_ixT ?h ?e ?_); (case h => walk_at "lk"); (case e => exact rfl)) | ((with_reducible refine' g_ixL ?h ?e ?_); (case h => walk_at "lk"); (case e => exact rfl))
  | ((with_reducible refine' g_fldK ?h ?c ?n ?l ?_); (case h => walk_at "lk"); (case c => exact C8.InsC.cl (Txt.insC (by assumption))); (case n => first | exact Txt.nR (by assumption) | exact Txt.nF (by assumption)); (case l => exact rfl)))
local macro_rules | `(tactic| walk_at "go") => `(tactic| (repeat walk_at "g1"))
local macro_rules | `(tactic| walk_at "ty") => `(tactic| first | exact .base (.str _) | exact .base .non | exact .base (.bl _) | exact .base (.int _) | exact .base (.tup (by assumption)) | exact .base (.lst (by assumption)) | exact .base (.dK (by assumption)) | exact .fDict (by assumption))
abbrev sl_world : Stmt := topS 41
abbrev Nl_world : List Str := ["_law_purse_here", "_law_many", "_law_words_here", "_law_top", "_law_states", "_law_at", "_law_book", "_law_last", "_law_way"]
theorem scl_world : FnScope Nl_world ["_law_purse_here", "_law_many", "_law_words_here", "_law_top"] (defScope sl_world) := ⟨rfl, rfl, rfl, by decide +kernel, rfl, by decide +kernel, by decide +kernel⟩
def sp_world : Sp := fun vs H Q _ => ∃ (p wd : Addr) (ws : List Str) (many : Nat) (top L : Int) (G : Hp), vs = [.ref p, .int (many : Int), .ref wd, .int top] ∧ Pur p (L + 300) G H ∧ 0 ≤ L ∧ G wd = some (.lst (ws.map V.str)) ∧
  ws ≠ [] ∧ ws.length ≤ 6 ∧ ws.Nodup ∧ (∀ x ∈ ws, spelt x = true) ∧ 1 ≤ many ∧ many ≤ 6 ∧ 1 ≤ top ∧ top ≤ 6 ∧
  ∀ (a : Addr) (wb : Book) (s : Str) (G' H' : Hp), Nxt (some p) G H G' H' → Pur p L G' H' → WorldAt G' a wb s → BookOk wb → s ∈ wb.map (·.1) → wb.length ≤ many → Q (.ref a) H'
theorem cal_world (F : Has K mg "_law_world" sl_world) (T : Txt K w mg C) (c_law_draw : Cal P w K mg base 2 "_law_draw" sp_draw) (c_law_words : Cal P w K mg base 4 "_law_words" sp_words) (c_law_shuffled : Cal P w K mg base 3 "_law_shuffled" sp_shuffled)
    (c_law_turns : Cal P w K mg base 4 "_law_turns" sp_turns) : Cal P w K mg base 5 "_law_world" sp_world := by
  refine F.cal (fun _ _ _ _ _ _ us hl => match us, hl with | [_, _, _, _], _ => rfl) scl_world (fun vs H Q E h => ?_) (fun f cdv A outer s H vs Q E hr h => ?_)
  · obtain ⟨_, _, _, _, _, _, _, rfl, _⟩ := h; rfl
  · obtain ⟨p, wd, ws, many, top, L, G, rfl, pu, L0, hwd, wn0, w6, wnd, wsp, m0, m6, t0, t6, k⟩ := h
    have nd := scl_world.nd
    have hu := hu_of hr
    refine ⟨_, (pss_cons (ps_set (i := 4) nd rfl (Or.inr rfl) (kc c_law_shuffled hr (pa_cons (pv 0) (pa_cons (pe_ifExp (pt_cmpR op_eq (kc c_law_draw hr (pa_cons (pv 0) (pa_cons pe_int pa_nil))) pe_int (nomark _)) (kc c_law_words hr (pa_cons (pv 0) (pa_cons (pv 1) pa_nil))) (pe_slice (kSlL K) (pe_op op_cat (pv 2) (kc c_law_words hr (pa_cons (pv 0) (pa_cons (pv 1) pa_nil)))) po_none (po_some (pv 1)))) pa_nil))))
  (pss_cons (ps_set (i := 4) nd rfl (Or.inr rfl) (pe_lc (own := [("_law_at", 5)]) rfl nd (pi_range1 (by rfl) T.range (pa_cons (pv 1) pa_nil)) (blkOk_by (N := Nl_world) (sc := defScope sl_world) (by decide +kernel)) (fun _ _ _ _ _ => (pg_name (i := 5) nd rfl (Or.inl rfl))) (fun _ _ _ _ _ => pts_one (pt_cmpR op_eq (kBm K PySem.F.plainAttrs_list PySem.F.slot_list_index PySem.F.type_list_index (kIndex K) (pv 4) (pa_cons (pe_ix (kIxL K) (pv 4) (pv 5) (fun _ _ => rfl)) pa_nil)) (pv 5) (nomark _))) (fun _ _ _ _ _ => (pe_ix (kIxL K) (pv 4) (pv 5) (fun _ _ => rfl)))))
  (pss_cons (ps_par (i := 6) (j := 7) rfl nd rfl rfl (by decide) rfl rfl (pa_cons pe_dnewK (pa_cons (pe_op op_sub (pe_callB (kLen K) (by rfl) T.len (by decide +kernel) (pa_cons (pv 4) pa_nil)) pe_int) pa_nil)) (by rfl))
  (pss_cons (ps_for PassesOwn.never rfl (pi_range1 (by rfl) T.range (pa_cons (pe_callB (kLen K) (by rfl) T.len (by decide +kernel) (pa_cons (pv 4) pa_nil)) pa_nil)) (pg_name (i := 5) nd rfl (Or.inl rfl))
    (pss_cons (ps_set (i := 8) nd rfl (Or.inl rfl) (kc c_law_draw hr (pa_cons (pv 0) (pa_cons pe_int pa_nil))))
    (pss_one (ps_if (PW.pt (pw_or (PW.pt (pw_and (pt_cmpR op_eq (pv 5) (pv 7) (nomark _)) (pw_and1 (pt_cmpR op_gt (pv 8) pe_int (nomark _))))) (pw_or1 (PW.pt (pw_and (pt_cmpR op_eq (pv 8) pe_int (nomark _)) (pw_and1 (pt_cmpR op_gt (pv 5) pe_int (nomark _))))))))
      (pss_one (ps_dput hu (pv 6) (pe_ix (kIxL K) (pv 4) (pv 5) (fun _ _ => rfl)) (pe_tup (pa_cons pe_str (pa_cons pe_dnewK pa_nil))) rfl)) (pss_one (ps_dput hu (pv 6) (pe_ix (kIxL K) (pv 4) (pv 5) (fun _ _ => rfl)) (pe_tup (pa_cons (pe_ifExp (pt_cmpR op_eq (pe_op op_mod (pv 8) pe_int) pe_int (nomark _)) pe_str pe_str) (pa_cons (kc c_law_turns hr (pa_cons (pv 0) (pa_cons (pv 4) (pa_cons (pv 2) (pa_cons (pv 5) (pa_cons (pv 3) pa_nil)))))) pa_nil))) rfl))))))
  (pss_one (ps_ret (pe_lst (pa_cons (pv 6) (pa_cons (pe_ix (kIxL K) (pv 4) pe_int (fun _ _ => rfl)) pa_nil))))))))), ?_⟩
    have D0 : Dn p (L + 300) G H G H := Dn.start pu
    walk_at "g1"
    walk_at "g1"
    walk_at "g1"
    walk_at "g1"
    walk_at "g1"
    walk_at "g1"
    refine te_J (fun v H' => ∃ (q : Addr) (xs : List Str) (G' : Hp), v = .ref q ∧ Dn p (L + 140) G H G' H' ∧ G' q = some (.lst (xs.map V.str)) ∧ xs.length = many ∧ ∀ x ∈ xs, spelt x = true) (fun Q' hQ' => ?_) ?_
    · walk_at "go"
      refine draw_use (G := G) (L := L + 299) (pu.less (by omega) (by omega)) (by omega) (by decide) (by decide) (fun r0 H1 _ _ N1 P1 => ?_)
      have D1 := D0.drw N1 P1
      walk_at "go"
      refine ite2 (fun _ => ?_) (fun _ => ?_)
      · walk_at "go"
        refine ⟨p, many, L + 199, G, rfl, by rw [show L + 199 + 100 = L + 299 by omega]; exact D1.p, by omega, m6, fun r ws2 G2 H2 N2 P2 g2 _ wl _ ws2p => ?_⟩
        exact hQ' _ _ ⟨r, ws2, G2, rfl, (D1.drw N2 P2).less (by omega) (by omega), g2, wl, ws2p⟩
      · walk_at "go"
        refine ⟨p, many, L + 199, G, rfl, by rw [show L + 199 + 100 = L + 299 by omega]; exact D1.p, by omega, m6, fun r ws2 G2 H2 N2 P2 g2 _ wl _ ws2p => ?_⟩
        have D2 := D1.drw N2 P2
        refine ⟨wd, r, _, _, rfl, rfl, D2.at (D2.n.gg _ _ hwd), D2.at g2, by rw [List.length_map, List.length_map]; exact Nat.le_of_lt (small1000 (by omega)), fun s2 hs2 => ?_⟩
        rw [← List.map_append]
        have D3 := D2.own (o := .lst ((ws ++ ws2).map V.str)) hs2
        have h3 : (upd H2 s2 (.lst ((ws ++ ws2).map V.str))) s2 = some (.lst ((ws ++ ws2).map V.str)) := upd_same
        generalize upd H2 s2 (.lst ((ws ++ ws2).map V.str)) = H3 at D3 h3 ⊢
        walk_at "go"
        refine ⟨s2, _, rfl, SqL.of h3, fun s3 hs3 => ?_⟩
        have c2 : cutV ((ws ++ ws2).map V.str) none (some (many : Int)) = ((ws ++ ws2).take many).map V.str := by rw [List.map_take]; exact cut_take
        rw [c2]
        refine hQ' _ _ ⟨s3, (ws ++ ws2).take many, _, rfl, (D3.new hs3).less (by omega) (by omega), upd_same, by rw [List.length_take, List.length_append]; omega, fun x hx => ?_⟩
        rcases List.mem_append.mp (List.mem_of_mem_take hx) with h | h
        · exact wsp x h
        · exact ws2p x h
    · rintro v H1 ⟨q, xs, G1, rfl, D1, g1, xl, xsp⟩
      walk_at "go"
      refine shuffled_use (G := G1) (L := L + 134) (xs := xs.map V.str) (D1.p.less (by rw [List.length_map]; omega) (by rw [List.length_map]; omega)) (by omega) (D1.p.ne' g1) (D1.at g1) (by rw [List.length_map]; omega) (fun r2 ys G2 H2 hP N2 P2 g2 _ => ?_)
      obtain ⟨zs, rfl, hz⟩ := perm_map_inv hP
      have D2 := D1.drw N2 P2
      have zl : zs.length = many := by rw [hz.length_eq]; exact xl
      have zsp : ∀ x ∈ zs, spelt x = true := fun x hx => xsp x (hz.mem_iff.mp hx)
      have h2 := D2.at g2
      walk_at "go"
      refine ⟨(many : Int), rfl, by omega, by omega, fun D hD => ?_⟩
      refine lc_gen walk_range D2.p.ex hD (small1000 (by omega)) (fun i acc _ => ∃ l : List Str, acc = l.map V.str ∧ l.Nodup ∧ ∀ x, x ∈ l ↔ x ∈ zs.take i) ⟨[], rfl, List.nodup_nil, by simp⟩ (fun _ _ => trivial) ?_ ?_
      · rintro i y G3 H3 H4 acc Kt Kf hi N g0 hh hl' ⟨l, rfl, ln, lm⟩ ⟨rfl, rfl⟩ htt hff
        have hi : i < many := by omega
        obtain ⟨x, hx⟩ : ∃ x, zs[i]? = some x := ⟨_, List.getElem?_eq_getElem (by omega)⟩
        have h3 := N.ex _ _ h2
        obtain ⟨j, hj1, hj2⟩ := first_at (List.mem_of_getElem? hx)
        have ji : j ≤ i := Nat.not_lt.mp fun z => hj2 i x z hx rfl
        have ts := take_snoc hx
        walk_at "go"
        refine ⟨rfl, ?_⟩
        have hx' : atI (zs.map V.str) (0 + (i : Int)) = some (.str x) := by rw [Int.zero_add]; exact strs_at hx
        walk_at "go"
        refine ⟨.inl ⟨rfl, _, SqL.of h3⟩, ?_⟩
        walk_at "go"
        refine ⟨r2, _, _, .str x, rfl, rfl, SqL.of h3, hx', ?_⟩
        refine ⟨r2, _, .str x, j, .str x, rfl, rfl, SqL.of h3, rfl, flatS _, by rw [List.getElem?_map, hj1]; rfl, by simp [eqV], fun m z hm hz' => ?_, ?_⟩
        · rw [List.getElem?_map] at hz'
          cases e : zs[m]? with
          | none => rw [e] at hz'; cases hz'
          | some y => rw [e] at hz'; cases hz'; simp [eqV, hj2 m y hm e]
        · walk_at "go"
          by_cases hji : j = i
          · subst hji
            rw [decide_eq_true (show (j : Int) = 0 + (j : Int) by omega)]
            walk_at "go"
            refine ⟨r2, _, _, .str x, rfl, rfl, SqL.of h3, hx', ?_⟩
            have nx : x ∉ l := fun m => by
              obtain ⟨a, ha, e⟩ := List.getElem_of_mem ((lm x).mp m)
              rw [List.length_take] at ha
              rw [List.getElem_take] at e
              exact hj2 a x (by omega) (by rw [← e]; exact List.getElem?_eq_getElem (by omega)) rfl
            refine htt (.str x) G3 _ (Nxt.refl N.gh) ⟨l ++ [x], by rw [List.map_append]; rfl, ?_, fun y => ?_⟩
            · exact List.nodup_append.mpr ⟨ln, by simp, fun a ha b hb => by simp at hb; subst hb; exact fun z => nx (z ▸ ha)⟩
            · rw [ts, List.mem_append, List.mem_append, lm y]
          · rw [decide_eq_false (show ¬ (j : Int) = 0 + (i : Int) by omega)]
            walk_at "go"
            refine hff G3 _ (Nxt.refl N.gh) ⟨l, rfl, ln, fun y => ?_⟩
            rw [ts, List.mem_append, lm y]
            refine ⟨.inl, fun h => h.elim id fun h => ?_⟩
            rw [List.mem_singleton.mp h]
            have : (zs.take i)[j]? = some x := by rw [List.getElem?_take_of_lt (by omega)]; exact hj1
            exact List.mem_of_getElem? this
      · rintro G3 H3 acc N g0 hh hl' ⟨l, rfl, ln, lm⟩
        have D0' : H2 D = none := hD
        have Dp : D ≠ p := D2.p.ne hD
        have D3 := (D2.step N).frz g0 hh (D2.none0 hD) Dp
        have g3 : (upd G3 D (.lst (l.map V.str))) D = some (.lst (l.map V.str)) := upd_same
        clear hh g0 hl' N
        generalize upd G3 D (.lst (l.map V.str)) = G4 at D3 g3
        have lsub : ∀ x ∈ l, x ∈ zs := fun x hx => List.mem_of_mem_take ((lm x).mp hx)
        have lsp : ∀ x ∈ l, spelt x = true := fun x hx => zsp x (lsub x hx)
        have ll : l.length ≤ many := by rw [← zl]; exact nodup_le l zs ln lsub
        have l0 : 0 < l.length := by
          obtain ⟨x, hx⟩ : ∃ x, zs[0]? = some x := ⟨_, List.getElem?_eq_getElem (by omega)⟩
          have : x ∈ l := (lm x).mpr (by rw [List.take_of_length_le (by omega)]; exact List.mem_of_getElem? hx)
          exact List.length_pos_of_mem this
        have w4 := D3.n.gg _ _ hwd
        walk_at "go"
        intro b hb
        have bp := D3.p.ne hb
        have b0 := D3.none0 hb
        have gb := D3.gnone hb
        have D4 := D3.own (o := .dK []) hb
        have h4 : (upd H3 b (.dK [])) b = some (.dK (kvR [])) := upd_same
        generalize upd H3 b (.dK []) = H4 at D4 h4 ⊢
        walk_at "go"
        refine ⟨D, _, rfl, .inl (SqL.of (D4.at g3)), ?_⟩
        walk_at "go"
        refine ⟨D, _, rfl, .inl (SqL.of (D4.at g3)), ?_⟩
        rw [List.length_map]
        walk_at "go"
        refine ⟨(l.length : Int), rfl, by omega, by omega, ?_⟩
        refine for_it walk_range (fun i σ' H' => ∃ (rs : List (Str × Addr)) (bk : Book) (Gi : Hp) (x5 x8 : Option V), σ' = [some (.ref p), some (.int (many : Int)), some (.ref wd), some (.int top), some (.ref D), x5, some (.ref b), some (.int ((l.length : Int) - 1)), x8] ∧ Dn p (L + 134 - 21 * i) G H Gi H' ∧
          Ex G4 Gi ∧ Gi b = none ∧ H' b = some (.dK (kvR rs)) ∧ RowsAt Gi rs bk ∧ bk.map (·.1) = l.take i ∧ ∀ q ∈ bk, RowOk q.2 ∧ ∀ z ∈ q.2.2, z.2 ∈ l)
          ⟨[], [], G4, _, _, rfl, D4.less (by omega) (by omega), Ex.refl _, gb, h4, .nil, rfl, by simp⟩ (fun _ _ _ _ _ => trivial) ?_ ?_
        · rintro i y σ' H5 H6 hi ⟨rs, bk, G5, x5, x8, rfl, D5, e5, gb5, h5, hrs, bkk, bok⟩ ⟨rfl, rfl⟩
          have hi : i < l.length := by omega
          obtain ⟨x, hx⟩ : ∃ x, l[i]? = some x := ⟨_, List.getElem?_eq_getElem hi⟩
          have nx : x ∉ bk.map (·.1) := by
            rw [bkk]
            intro m
            obtain ⟨a, ha, e⟩ := List.getElem_of_mem m
            rw [List.getElem_take] at e
            rw [List.length_take] at ha
            obtain ⟨hx1, hx2⟩ := List.getElem?_eq_some_iff.mp hx
            have := (List.getElem_inj (h₀ := by omega) (h₁ := hx1) ln).mp (e.trans hx2.symm)
            omega
          have bl : bk.length = i := by
            have := congrArg List.length bkk
            rw [List.length_map, List.length_take] at this
            omega
          have rl : rs.length = i := by rw [hrs.len]; exact bl
          show gName 5 (V.int (0 + (i : Int))) _ _ _
          rw [Int.zero_add]
          walk_at "go"
          refine draw_use (G := G5) (L := L + 134 - 21 * i - 1) (D5.p.less (by omega) (by omega)) (by omega) (by decide) (by decide) (fun way H6 _ _ N6 P6 => ?_)
          have D6 := D5.drw N6 P6
          have h6 := Dn.keep N6 bp h5
          -- behind either branch
          have fin : ∀ (t d : Addr) (kd : Str) (ts : Turns) (G7 H7 : Hp) (x8 : Option V), Dn p (L + 134 - 21 * (i + 1 : Nat)) G H G7 H7 → Ex G5 G7 → G7 b = none → H7 b = some (.dK (kvR rs)) → G7 t = some (.tup [.str kd, .ref d]) → G7 d = some (.dK (kvS ts)) → RowOk (kd, ts) → (∀ z ∈ ts, z.2 ∈ l) →
              ∃ (rs' : List (Str × Addr)) (bk : Book) (Gi : Hp) (x5 x8' : Option V), [some (.ref p), some (.int (many : Int)), some (.ref wd), some (.int top), some (.ref D), some (.int (i : Int)), some (.ref b), some (.int ((l.length : Int) - 1)), x8] = [some (.ref p), some (.int (many : Int)), some (.ref wd), some (.int top), some (.ref D), x5, some (.ref b), some (.int ((l.length : Int) - 1)), x8'] ∧
                Dn p (L + 134 - 21 * (i + 1 : Nat)) G H Gi (upd H7 b (.dK (putK (kvR rs) (Sum.inr x) (.ref t)))) ∧ Ex G4 Gi ∧ Gi b = none ∧ (upd H7 b (.dK (putK (kvR rs) (Sum.inr x) (.ref t)))) b = some (.dK (kvR rs')) ∧ RowsAt Gi rs' bk ∧ bk.map (·.1) = l.take (i + 1) ∧ ∀ q ∈ bk, RowOk q.2 ∧ ∀ z ∈ q.2.2, z.2 ∈ l := by
            intro t d kd ts G7 H7 x8 D7 e7 gb7 h7 gt gdd ok7 cl7
            have ek : putK (kvR rs) (Sum.inr x : Key) (.ref t) = kvR (rs ++ [(x, t)]) := putK_kvG V.ref (by rw [hrs.keys]; exact nx)
            refine ⟨rs ++ [(x, t)], bk ++ [(x, (kd, ts))], G7, _, _, rfl, D7.mut gb7 b0 bp, e5.trans e7, gb7, by rw [upd_same, ek], ?_, ?_, ?_⟩
            · exact Paired.snoc (RowsAt.mono hrs e7) ⟨rfl, d, gt, gdd⟩
            · rw [List.map_append, bkk, take_snoc hx]; rfl
            · intro q hq
              rcases List.mem_append.mp hq with h | h
              · exact bok q h
              · rw [List.mem_singleton.mp h]; exact ⟨ok7, cl7⟩
          walk_at "g1"
          with_reducible refine g_ifAny (fun QT hq => ?_) ?_ ?_
          · repeat (first | exact hq _ | refine ite2 (fun _ => ?_) (fun _ => ?_) | walk_at "g1")
          · walk_at "go"
            intro d hd
            have D7 := D6.new (o := .dK (kvS [])) hd
            have h7 := upd_keep (u := .dK (kvS [])) h6 hd
            have g7 : (upd G5 d (.dK (kvS []))) d = some (.dK (kvS [])) := upd_same
            have gb7 : (upd G5 d (.dK (kvS []))) b = none := by rw [upd_ne (ne_of_none h6 hd)]; exact gb5
            have e7 : Ex G5 (upd G5 d (.dK (kvS []))) := Ex.new (D6.gnone hd)
            generalize upd G5 d (.dK (kvS [])) = G7 at D7 g7 gb7 e7
            have eK : (upd H6 d (.dK [])) = (upd H6 d (.dK (kvS []))) := rfl
            rw [eK]
            generalize upd H6 d (.dK (kvS [])) = H7 at D7 h7 ⊢
            walk_at "go"
            refine ⟨by show 2 ≤ sizeLine; decide, fun t ht => ?_⟩
            have D8 := D7.new (o := .tup [.str (Str.ofString "done"), .ref d]) ht
            have h8 := upd_keep (u := .tup [.str (Str.ofString "done"), .ref d]) h7 ht
            have g8 : (upd G7 t (.tup [.str (Str.ofString "done"), .ref d])) t = some (.tup [.str (Str.ofString "done"), .ref d]) := upd_same
            have gb8 : (upd G7 t (.tup [.str (Str.ofString "done"), .ref d])) b = none := by rw [upd_ne (ne_of_none h7 ht)]; exact gb7
            have e8 : Ex G7 (upd G7 t (.tup [.str (Str.ofString "done"), .ref d])) := Ex.new (D7.gnone ht)
            generalize upd G7 t (.tup [.str (Str.ofString "done"), .ref d]) = G8 at D8 g8 gb8 e8
            generalize upd H7 t (.tup [.str (Str.ofString "done"), .ref d]) = H8 at D8 h8 ⊢
            walk_at "go"
            refine ⟨D, _, _, .str x, rfl, rfl, SqL.of (D8.at (e8 _ _ (e7 _ _ (e5 _ _ g3)))), strs_at hx, ?_⟩
            refine ⟨b, _, rfl, DPut.s h8 (by rw [kvR_len]; exact small1000 (by omega)), ?_⟩
            walk_at "go"
            exact fin t d _ [] G8 H8 _ (D8.less (by omega) (by omega)) (e7.trans e8) gb8 h8 g8 (e8 _ _ g7) ⟨.inr (.inr rfl), by simp, by simp, List.nodup_nil, by simp⟩ (by simp)
          · walk_at "go"
            refine g_mod (by decide) (fun r2 _ _ _ => ?_)
            walk_at "go"
            refine g_ifv (fun v hv => ?_)
            obtain ⟨kd, rfl, hkd⟩ : ∃ kd : Str, v = .str kd ∧ (kd = "says" ∨ kd = "hears") := by
              rcases hv with rfl | rfl
              · exact ⟨_, rfl, .inl rfl⟩
              · exact ⟨_, rfl, .inr rfl⟩
            walk_at "go"
            refine ⟨p, D, wd, l, ws, i, top, L + 134 - 21 * i - 21, G5, rfl, D6.p.less (by omega) (by omega), by omega, e5 _ _ g3, e5 _ _ w4, fun z => by rw [z] at l0; simp at l0, by omega, wn0, w6, wnd, by omega, t0, t6, fun d ts G7 H7 N7 P7 g7 _ tn tnd tl tm => ?_⟩
            have D7 := D6.drw N7 P7
            have h7 := Dn.keep N7 bp h6
            have gb7 : G7 b = none := (N7.fr b _ h6).trans gb5
            have e7 : Ex G5 G7 := N7.gg
            walk_at "go"
            refine ⟨by show 2 ≤ sizeLine; decide, fun t ht => ?_⟩
            have D8 := D7.new (o := .tup [.str kd, .ref d]) ht
            have h8 := upd_keep (u := .tup [.str kd, .ref d]) h7 ht
            have g8 : (upd G7 t (.tup [.str kd, .ref d])) t = some (.tup [.str kd, .ref d]) := upd_same
            have gb8 : (upd G7 t (.tup [.str kd, .ref d])) b = none := by rw [upd_ne (ne_of_none h7 ht)]; exact gb7
            have e8 : Ex G7 (upd G7 t (.tup [.str kd, .ref d])) := Ex.new (D7.gnone ht)
            generalize upd G7 t (.tup [.str kd, .ref d]) = G8 at D8 g8 gb8 e8
            generalize upd H7 t (.tup [.str kd, .ref d]) = H8 at D8 h8 ⊢
            walk_at "go"
            refine ⟨D, _, _, .str x, rfl, rfl, SqL.of (D8.at (e8 _ _ (e7 _ _ (e5 _ _ g3)))), strs_at hx, ?_⟩
            refine ⟨b, _, rfl, DPut.s h8 (by rw [kvR_len]; exact small1000 (by omega)), ?_⟩
            walk_at "go"
            refine fin t d kd ts G8 H8 _ (D8.less (by omega) (by omega)) (e7.trans e8) gb8 h8 g8 (e8 _ _ g7) ⟨?_, ⟨fun z => ?_, fun z => absurd z tn⟩, fun q hq => ⟨wsp _ (tm q hq).1, lsp _ (tm q hq).2⟩, tnd, show ts.length ≤ 20 by omega⟩ (fun q hq => (tm q hq).2)
            · rcases hkd with h | h
              · exact .inl h
              · exact .inr (.inl h)
            · exfalso
              change kd = "done" at z
              rcases hkd with h | h
              · rw [h] at z; exact absurd z (by decide +kernel)
              · rw [h] at z; exact absurd z (by decide +kernel)
        · rintro σ' H5 ⟨rs, bk, G5, x5, x8, rfl, D5, e5, gb5, h5, hrs, bkk, bok⟩
          rw [Int.toNat_natCast, List.take_length] at bkk
          rw [Int.toNat_natCast] at D5
          obtain ⟨x, hx⟩ : ∃ x, l[0]? = some x := ⟨_, List.getElem?_eq_getElem l0⟩
          have D6 := D5.frz gb5 h5 b0 bp
          have e6 : Ex G5 (upd G5 b (.dK (kvR rs))) := Ex.new gb5
          have g6 : (upd G5 b (.dK (kvR rs))) b = some (.dK (kvR rs)) := upd_same
          generalize upd G5 b (.dK (kvR rs)) = G6 at D6 e6 g6
          walk_at "go"
          refine ⟨D, _, _, .str x, rfl, rfl, SqL.of (D6.at (e6 _ _ (e5 _ _ g3))), strs_at (i := 0) hx, ?_⟩
          walk_at "go"
          refine ⟨by show 2 ≤ sizeLine; decide, fun a ha => ?_⟩
          have D7 := D6.new (o := .lst [.ref b, .str x]) ha
          have e7 : Ex G6 (upd G6 a (.lst [.ref b, .str x])) := Ex.new (D6.gnone ha)
          refine k a bk x _ _ D7.n (D7.p.less L0 (by omega)) ⟨b, upd_same, rs, e7 _ _ g6, RowsAt.mono hrs (e6.trans e7)⟩ ?_ (by rw [bkk]; exact List.mem_of_getElem? hx) ?_
          · have bl : bk.length = l.length := by rw [← bkk, List.length_map]
            refine ⟨fun z => by rw [z] at bl; simp at bl; omega, by rw [bkk]; exact ln, fun q hq => lsp _ (by rw [← bkk]; exact List.mem_map_of_mem hq), fun q hq => (bok q hq).1, fun q hq z hz => by rw [bkk]; exact (bok q hq).2 z hz, by omega⟩
          · rw [← List.length_map (f := (·.1)), bkk]; exact ll
end
end K69
set_option Elab.async false
set_option linter.all false
set_option maxRecDepth 100000
set_option maxHeartbeats 4000000
namespace K69
open PySem PySem.Spec PyProof.Rows L2
section
variable {P : Program} {w : World} {K : PySem.W.Frag} {mg : Str → Option Value} {base : Heap} {C : Addr}
local macro_rules | `(tactic| walk_at "lk") => `(tactic| first | assumption | exact upd_same | exact (by assumption : Ex _ _) _ _ (by assumption))
local macro_rules | `(tactic| walk_at "g1") => `(tactic| first
  | with_reducible refine g_seq ?_ | with_reducible refine g_asg ?_ | with_reducible refine g_name ?_ | with_reducible refine g_cons ?_ | with_reducible refine g_nil ?_
  | ((with_reducible refine' g_var ?e ?_); (case e => exact rfl)) | with_reducible refine g_C ?_ | with_reducible refine g_op ?_ | with_reducible refine g_fld0 ?_ | with_reducible refine g_dget ?_ | with_reducible refine g_cb ?_ | with_reducible refine g_call ?_
  | with_reducible refine g_ret ?_ | with_reducible refine g_ifS ?_ | with_reducible refine g_test ?_ | with_reducible refine g_B ?_ | with_reducible refine g_bl ?_ | with_reducible refine g_not ?_ | with_reducible refine g_or ?_ | with_reducible refine g_and ?_
  | with_reducible refine g_ite ?_ | with_reducible refine g_itf ?_ | with_reducible refine g_itnt ?_ | with_reducible refine g_itnf ?_ | with_reducible refine g_eqS ?_ | with_reducible refine g_neS ?_ | with_reducible refine g_neI ?_ | with_reducible refine g_eqB ?_ | with_reducible refine g_neB ?_ | with_reducible refine g_eqI ?_ | with_reducible refine g_rI0 ?_ | with_reducible refine g_ipI ?_ | with_reducible refine g_int ?_
  | with_reducible refine g_drop ?_ | with_reducible refine g_next ?_ | with_reducible refine g_bm ?_ | with_reducible refine g_bm0 ?_ | with_reducible refine g_din ?_ | with_reducible refine g_dnotin ?_ | with_reducible refine g_dput ?_ | ((with_reducible refine' g_aug ?e ?_); (case e => exact rfl))
  | with_reducible refine g_andV ?_ | with_reducible refine g_orV ?_ | with_reducible refine g_notV ?_ | with_reducible refine g_if ?_ | with_reducible refine g_isN ?_ | with_reducible refine g_notN ?_ | with_reducible refine g_sl ?_ | with_reducible refine g_nopart ?_ | with_reducible refine g_part ?_
  | with_reducible refine g_gcons ?_ | with_reducible refine g_gnil ?_ | with_reducible refine g_par2 ?_ | with_reducible refine g_par3 ?_ | with_reducible refine g_vw ?_ | with_reducible refine g_uvw ?_ | with_reducible refine g_yes ?_ | with_reducible refine g_un ?_ | with_reducible refine g_rU ?_ | with_reducible refine g_gsub ?_ | with_reducible refine g_chain ?_ | with_reducible refine g_for ?_ | with_reducible refine g_istr ?_ | with_reducible refine g_ilist ?_ | with_reducible refine g_itup ?_ | with_reducible refine g_ikeys ?_ | with_reducible refine g_ivals ?_ | with_reducible refine g_iitems ?_ | with_reducible refine g_irng1 ?_ | with_reducible refine g_izip ?_ | with_reducible refine g_while ?_ | with_reducible refine g_tru _ ?_ | with_reducible refine g_lc ?_ | with_reducible refine g_dc ?_ | with_reducible refine g_lc2 ?_ | with_reducible refine g_tup ?_ | with_reducible refine g_lst ?_ | with_reducible refine g_dnew ?_ | with_reducible refine g_sfld ?_ | with_reducible refine g_dget2 ?_ | with_reducible refine g_dzip ?_ | with_reducible refine g_dnewT ?_ | with_reducible refine g_dispT ?_ | with_reducible refine g_star ?_ | with_reducible refine g_disp ?_ | with_reducible refine g_prs ?_ | with_reducible refine g_prs0 ?_ | with_reducible refine g_sc ?_ | with_reducible refine g_make ?_ | with_reducible refine g_meth ?_
  | ((with_reducible refine' g_ixT ?h ?e ?_); (case h => walk_at "lk"); (case e => exact rfl)) | ((with_reducible refine' g_ixL ?h ?e ?_); (case h => walk_at "lk"); (case e => exact rfl))
  | ((with_reducible refine' g_fldK ?h ?c ?n ?l ?_); (case h => walk_at "lk"); (case c => exact C8.InsC.cl (Txt.insC (by assumption))); (case n => first | exact Txt.nR (by assumption) | exact Txt.nF (by assumption)); (case l => exact rfl)))
local macro_rules | `(tactic| walk_at "go") => `(tactic| (repeat walk_at "g1"))
local macro_rules | `(tactic| walk_at "ty") => `(tactic| first | exact .base (.str _) | exact .base .non | exact .base (.bl _) | exact .base (.int _) | exact .base (.tup (by assumption)) | exact .base (.lst (by assumption)) | exact .base (.dK (by assumption)) | exact .fDict (by assumption))
abbrev sl_purses : Stmt := topS 33
abbrev Nl_purses : List Str := ["_law_script", "_law_few", "_law_at"]
theorem scl_purses : FnScope Nl_purses ["_law_script", "_law_few"] (defScope sl_purses) := ⟨rfl, rfl, rfl, by decide +kernel, rfl, by decide +kernel, by decide +kernel⟩
def sp_purses (K : PySem.W.Frag) : Sp := fun vs H Q _ => ∃ (a : Addr) (ns : List Int), vs = [.ref a, .int 3] ∧ SqL K H a (ns.map V.int) ∧ ns.length ≤ 1000 ∧
  ∀ (r : Addr) (ps : List Addr) (H' : Hp), Ex H H' → H' r = some (.lst (ps.map V.ref)) → ps.Nodup → r ∉ ps → ps.length ≤ 3 → (∀ p ∈ ps, PAt p 1000000 H') → Q (.ref r) H'
theorem cal_purses (F : Has K mg "_law_purses" sl_purses) (T : Txt K w mg C) (c_law_purse : Cal P w K mg base 1 "_law_purse" (sp_purse (K := K))) : Cal P w K mg base 2 "_law_purses" (sp_purses K) := by
  refine F.cal (fun _ _ _ _ _ _ us hl => match us, hl with | [_, _], _ => rfl) scl_purses (fun vs H Q E h => ?_) (fun f cdv A outer s H vs Q E hr h => ?_)
  · obtain ⟨_, _, rfl, _⟩ := h; rfl
  · obtain ⟨a, ns, rfl, ha, nl, k⟩ := h
    have nd := scl_purses.nd
    have hu := hu_of hr
    refine ⟨_, (pss_one (ps_ret (pe_lc (own := [("_law_at", 2)]) rfl nd (pi_range1 (by rfl) T.range (pa_cons (pe_callB (call_max2 rfl) (by rfl) T.max (by decide +kernel) (pa_cons pe_int (pa_cons (pe_callB (call_min2 rfl) (by rfl) T.min (by decide +kernel) (pa_cons (pv 1) (pa_cons (pe_callB (kLen K) (by rfl) T.len (by decide +kernel) (pa_cons (pv 0) pa_nil)) pa_nil))) pa_nil))) pa_nil)) (blkOk_by (N := Nl_purses) (sc := defScope sl_purses) (by decide +kernel)) (fun _ _ _ _ _ => (pg_name (i := 2) nd rfl (Or.inl rfl))) (fun _ _ _ _ _ => pts_nil) (fun _ _ _ _ _ => (kc c_law_purse hr (pa_cons (pv 0) (pa_cons (pv 2) pa_nil))))))), ?_⟩
    walk_at "go"
    refine ⟨a, _, rfl, .inl ha, ?_⟩
    walk_at "go"
    refine ⟨_, _, rfl, ?_⟩
    walk_at "go"
    refine ⟨_, _, rfl, ?_⟩
    rw [List.length_map]
    obtain ⟨m, em, m0, m1⟩ : ∃ m : Int, (if (if ((ns.length : Nat) : Int) < 3 then ((ns.length : Nat) : Int) else 3) > 1 then (if ((ns.length : Nat) : Int) < 3 then ((ns.length : Nat) : Int) else 3) else 1) = m ∧ 0 < m ∧ m ≤ 3 := ⟨_, rfl, by split <;> omega, by split <;> split <;> omega⟩
    rw [em]
    walk_at "go"
    refine ⟨m, rfl, by omega, by omega, fun D hD => ?_⟩
    refine lc_it walk_range (fun i H' => ∃ ps : List Addr, Ex H H' ∧ H' D = some (.lst (ps.map V.ref)) ∧ ps.length = i ∧ ps.Nodup ∧ D ∉ ps ∧ ∀ p ∈ ps, PAt p 1000000 H') ⟨[], Ex.new hD, upd_same, rfl, List.nodup_nil, by simp, by simp⟩ (fun _ _ _ _ => trivial) ?_ ?_
    · rintro i y H3 H4 hi ⟨ps, e3, h3, pl, pn, pD, pa⟩ ⟨rfl, rfl⟩
      have hi : (i : Int) < 3 := by omega
      walk_at "go"
      refine ⟨rfl, ?_⟩
      walk_at "go"
      refine ⟨a, ns, _, rfl, Ex.sql e3 ha, by omega, by omega, fun p l H5 e5 hp hl pl5 => ?_⟩
      have pp : p ∉ ps := fun z => by obtain ⟨l, h, _⟩ := pa p z; rw [hp] at h; cases h
      have pD' : p ≠ D := fun z => by subst z; rw [hp] at h3; cases h3
      refine ⟨_, e5 _ _ h3, by rw [List.length_map]; exact small1000 (by omega), ps ++ [p], ?_, by rw [upd_same]; simp, by simp [pl], ?_, ?_, ?_⟩
      · exact (e3.trans e5).own hD
      · exact List.nodup_append.mpr ⟨pn, by simp, fun x hx z hz => by simp at hz; subst hz; exact fun q => pp (q ▸ hx)⟩
      · intro z
        rcases List.mem_append.mp z with z | z
        · exact pD z
        · exact pD' (List.mem_singleton.mp z).symm
      · intro q hq
        rcases List.mem_append.mp hq with h | h
        · obtain ⟨l1, a1, a2⟩ := pa q h
          exact ⟨l1, by rw [upd_ne (show q ≠ D from fun z => pD (by rw [← z]; exact h))]; exact e5 _ _ a1, a2⟩
        · rw [List.mem_singleton.mp h]
          exact ⟨l, by rw [upd_ne pD']; exact hl, pl5⟩
    · rintro H3 ⟨ps, e3, h3, pl, pn, pD, pa⟩
      exact k D ps H3 e3 h3 pn pD (by omega) pa
end
end K69
set_option Elab.async false
set_option linter.all false
set_option maxRecDepth 100000
set_option maxHeartbeats 4000000
namespace K69
open PySem PySem.Spec PyProof.Rows L2
theorem marks_sq {K : PySem.W.Frag} {H : Hp} {ps : List Addr} {bk : Book} (h : Paired (fun p (q : Str × Row) => H p = some (.tup [.str q.1, .bl true])) ps bk) : Paired (fun p (kv : Key × V) => SqT K H p [kV kv.1, kv.2]) ps ((bk.map (·.1)).map fun g => ((Sum.inr g : Key), V.bl true)) := by
  rw [List.map_map]
  induction h with
  | nil => exact .nil
  | cons h _ ih => exact .cons (SqT.of h) ih
theorem kvM_get {M : List Str} {i : Nat} {k : Key} {v : V} (h : (kvM M)[i]? = some (k, v)) : ∃ x, M[i]? = some x ∧ k = Sum.inr x ∧ v = .bl true := by
  unfold kvM at h
  rw [List.getElem?_map] at h
  cases e : M[i]? with
  | none => rw [e] at h; cases h
  | some p => rw [e] at h; cases h; exact ⟨p, rfl, rfl, rfl⟩
theorem g_ifb {b : Bool} {A B : Prop} (h1 : A) (h2 : B) : if b = true then A else B := by
  cases b
  · exact iteF h2
  · exact iteT h1
theorem g_ifAny2 {c : TT} {t u : TS} {D : L2.Ends} {σ : L2.St} {H : Hp} (Mid : Hp → Prop) (hc : ∀ QT : Bool → Hp → Prop, (∀ b H', Mid H' → QT b H') → c σ H QT) (h1 : ∀ H', Mid H' → t D σ H') (h2 : ∀ H', Mid H' → u D σ H') : tIfS c t u D σ H := hc _ fun b H' m => by
  cases b
  · exact iteF (h2 H' m)
  · exact iteT (h1 H' m)
section
variable {P : Program} {w : World} {K : PySem.W.Frag} {mg : Str → Option Value} {base : Heap} {C : Addr}
local macro_rules | `(tactic| walk_at "lk") => `(tactic| first | assumption | exact upd_same | exact (by assumption : Ex _ _) _ _ (by assumption))
local macro_rules | `(tactic| walk_at "g1") => `(tactic| first
  | with_reducible refine g_seq ?_ | with_reducible refine g_asg ?_ | with_reducible refine g_name ?_ | with_reducible refine g_cons ?_ | with_reducible refine g_nil ?_
  | ((with_reducible refine' g_var ?e ?_); (case e => exact rfl)) | with_reducible refine g_C ?_ | with_reducible refine g_op ?_ | with_reducible refine g_fld0 ?_ | with_reducible refine g_dget ?_ | with_reducible refine g_cb ?_ | with_reducible refine g_call ?_
  | with_reducible refine g_ret ?_ | with_reducible refine g_ifS ?_ | with_reducible refine g_test ?_ | with_reducible refine g_B ?_ | with_reducible refine g_bl ?_ | with_reducible refine g_not ?_ | with_reducible refine g_or ?_ | with_reducible refine g_and ?_
  | with_reducible refine g_ite ?_ | with_reducible refine g_itf ?_ | with_reducible refine g_itnt ?_ | with_reducible refine g_itnf ?_ | with_reducible refine g_eqS ?_ | with_reducible refine g_neS ?_ | with_reducible refine g_neI ?_ | with_reducible refine g_eqB ?_ | with_reducible refine g_neB ?_ | with_reducible refine g_eqI ?_ | with_reducible refine g_rI0 ?_ | with_reducible refine g_ipI ?_ | with_reducible refine g_int ?_
  | with_reducible refine g_drop ?_ | with_reducible refine g_next ?_ | with_reducible refine g_bm ?_ | with_reducible refine g_bm0 ?_ | with_reducible refine g_din ?_ | with_reducible refine g_dnotin ?_ | with_reducible refine g_dput ?_ | ((with_reducible refine' g_aug ?e ?_); (case e => exact rfl))
  | with_reducible refine g_andV ?_ | with_reducible refine g_orV ?_ | with_reducible refine g_notV ?_ | with_reducible refine g_if ?_ | with_reducible refine g_isN ?_ | with_reducible refine g_notN ?_ | with_reducible refine g_sl ?_ | with_reducible refine g_nopart ?_ | with_reducible refine g_part ?_
  | with_reducible refine g_gcons ?_ | with_reducible refine g_gnil ?_ | with_reducible refine g_par2 ?_ | with_reducible refine g_par3 ?_ | with_reducible refine g_vw ?_ | with_reducible refine g_uvw ?_ | with_reducible refine g_yes ?_ | with_reducible refine g_un ?_ | with_reducible refine g_rU ?_ | with_reducible refine g_gsub ?_ | with_reducible refine g_chain ?_ | with_reducible refine g_for ?_ | with_reducible refine g_istr ?_ | with_reducible refine g_ilist ?_ | with_reducible refine g_itup ?_ | with_reducible refine g_ikeys ?_ | with_reducible refine g_ivals ?_ | with_reducible refine g_iitems ?_ | with_reducible refine g_irng1 ?_ | with_reducible refine g_izip ?_ | with_reducible refine g_while ?_ | with_reducible refine g_tru _ ?_ | with_reducible refine g_lc ?_ | with_reducible refine g_dc ?_ | with_reducible refine g_lc2 ?_ | with_reducible refine g_tup ?_ | with_reducible refine g_lst ?_ | with_reducible refine g_dnew ?_ | with_reducible refine g_sfld ?_ | with_reducible refine g_dget2 ?_ | with_reducible refine g_dzip ?_ | with_reducible refine g_dnewT ?_ | with_reducible refine g_dispT ?_ | with_reducible refine g_star ?_ | with_reducible refine g_disp ?_ | with_reducible refine g_prs ?_ | with_reducible refine g_prs0 ?_ | with_reducible refine g_sc ?_ | with_reducible refine g_make ?_ | with_reducible refine g_meth ?_
  | ((with_reducible refine' g_ixT ?h ?e ?_); (case h => walk_at "lk"); (case e => exact rfl)) | ((with_reducible refine' g_ixL ?h ?e ?_); (case h => walk_at "lk"); (case e => exact rfl))
  | ((with_reducible refine' g_fldK ?h ?c ?n ?l ?_); (case h => walk_at "lk"); (case c => exact C8.InsC.cl (Txt.insC (by assumption))); (case n => first | exact Txt.nR (by assumption) | exact Txt.nF (by assumption)); (case l => exact rfl)))
local macro_rules | `(tactic| walk_at "go") => `(tactic| (repeat walk_at "g1"))
local macro_rules | `(tactic| walk_at "ty") => `(tactic| first | exact .base (.str _) | exact .base .non | exact .base (.bl _) | exact .base (.int _) | exact .base (.tup (by assumption)) | exact .base (.lst (by assumption)) | exact .base (.dK (by assumption)) | exact .fDict (by assumption))
abbrev sl_viable : Stmt := topS 47
abbrev Nl_viable : List Str := ["_law_world_here", "_law_kept", "_law_state", "_law_turn", "_law_near", "_law_many", "_law_kind", "_law_turns_here", "_law_goals", "_law_word_here", "_law_is_near", "_law_goal"]
theorem scl_viable : FnScope Nl_viable ["_law_world_here"] (defScope sl_viable) := ⟨rfl, rfl, rfl, by decide +kernel, rfl, by decide +kernel, by decide +kernel⟩
def sp_viable : Sp := fun vs H Q _ => ∃ (a : Addr) (bk : Book) (s : Str) (G : Hp), vs = [.ref a] ∧ Ex G H ∧ WorldAt G a bk s ∧ BookOk bk ∧ ∀ (r : Addr) (l : List Str) (H' : Hp), Ex H H' → H' r = some (.lst (l.map V.str)) → Q (.ref r) H'
theorem cal_viable (F : Has K mg "_law_viable" sl_viable) (T : Txt K w mg C) : Cal P w K mg base 1 "_law_viable" sp_viable := by
  refine F.cal (fun _ _ _ _ _ _ us hl => match us, hl with | [_], _ => rfl) scl_viable (fun vs H Q E h => ?_) (fun f cdv A outer s H vs Q E hr h => ?_)
  · obtain ⟨_, _, _, _, rfl, _⟩ := h; rfl
  · obtain ⟨a, bk, s, G, rfl, eG, ⟨b, hag, rs, hbg, hrs⟩, ok, k⟩ := h
    have nd := scl_viable.nd
    have hu := hu_of hr
    refine ⟨_, (pss_cons (ps_set (i := 1) nd rfl (Or.inr rfl) (pe_callTy (kDictP K rfl) (by rfl) T.tdict (by decide +kernel) (pa_cons (pe_lock (pe_lc (own := [("_law_state", 2)]) rfl nd (pi_keys (pe_ix (kIxL K) (pv 0) pe_int (fun _ _ => rfl))) (blkOk_by (N := Nl_viable) (sc := defScope sl_viable) (by decide +kernel)) (fun _ _ _ _ _ => (pg_name (i := 2) nd rfl (Or.inl rfl))) (fun _ _ _ _ _ => pts_nil) (fun _ _ _ _ _ => (pe_tup (pa_cons (pv 2) (pa_cons pe_bl pa_nil)))))) pa_nil)))
  (pss_cons (ps_for PassesOwn.never rfl (pi_range1 (by rfl) T.range (pa_cons (pe_op op_add (pe_callB call_lenD (by rfl) T.len (by decide +kernel) (pa_cons (pe_ix (kIxL K) (pv 0) pe_int (fun _ _ => rfl)) pa_nil)) pe_int) pa_nil)) (pg_name (i := 3) nd rfl (Or.inl rfl))
    (pss_cons (ps_asg (pe_tup (pa_cons pe_dnewK (pa_cons (pe_un un_neg pe_int) pa_nil))) (kgTup K (n := 2) rfl (pgs_cons (pg_name (i := 4) nd rfl (Or.inr rfl)) (pgs_cons (pg_name (i := 5) nd rfl (Or.inl rfl)) pgs_nil))))
    (pss_cons (ps_while PassesOwn.never (pt_cmpR op_lt (pv 5) (pe_callB call_lenD (by rfl) T.len (by decide +kernel) (pa_cons (pv 4) pa_nil)) (nomark _))
      (pss_cons (ps_set (i := 5) nd rfl (Or.inl rfl) (pe_callB call_lenD (by rfl) T.len (by decide +kernel) (pa_cons (pv 4) pa_nil)))
      (pss_one (ps_for PassesOwn.never rfl (kpList K (pe_lock (pe_lc (own := [("_law_state", 2)]) rfl nd (pi_keys (pv 1)) (blkOk_by (N := Nl_viable) (sc := defScope sl_viable) (by decide +kernel)) (fun _ _ _ _ _ => (pg_name (i := 2) nd rfl (Or.inl rfl))) (fun _ _ _ _ _ => pts_one (pt_cmp (pc_dnotin hu (pv 2) (pv 4)))) (fun _ _ _ _ _ => (pv 2))))) (pg_name (i := 2) nd rfl (Or.inl rfl))
        (pss_cons (ps_asg (pe_dget hu (pe_ix (kIxL K) (pv 0) pe_int (fun _ _ => rfl)) (pv 2) (fun _ _ => rfl)) (kgTup K (n := 2) rfl (pgs_cons (pg_name (i := 6) nd rfl (Or.inl rfl)) (pgs_cons (pg_name (i := 7) nd rfl (Or.inr rfl)) pgs_nil))))
        (pss_cons (ps_lock (ps_setLc (i := 8) (own := [("_law_word_here", 9)]) rfl nd rfl rfl (sw_true rfl rfl rfl (by decide +kernel)) (pi_keys (pv 7)) (blkOk_by (N := Nl_viable) (sc := defScope sl_viable) (by decide +kernel)) (fun _ _ _ _ _ => (pg_name (i := 9) nd rfl (Or.inl rfl))) (fun _ _ _ _ _ => pts_nil) (fun _ _ _ _ _ => (pe_dget hu (pv 7) (pv 9) (fun _ _ => rfl)))))
        (pss_cons (ps_set (i := 10) nd rfl (Or.inl rfl) (pe_callB (kAny K rfl) (by rfl) T.any (by decide +kernel) (pa_cons (pe_lc (own := [("_law_goal", 11)]) rfl nd (kpList K (pv 8)) (blkOk_by (N := Nl_viable) (sc := defScope sl_viable) (by decide +kernel)) (fun _ _ _ _ _ => (pg_name (i := 11) nd rfl (Or.inl rfl))) (fun _ _ _ _ _ => pts_nil) (fun _ _ _ _ _ => (pe_cmp (pc_din hu (pv 11) (pv 4)) rfl))) pa_nil)))
        (pss_one (ps_if (PW.pt (pw_or (pt_cmpR op_eq (pv 6) pe_str (nomark _)) (pw_or1 (PW.pt (pw_and (pt_val (pv 10)) (pw_and1 (PW.pt (pw_or (pt_cmpR op_eq (pv 6) pe_str (nomark _)) (pw_or1 (pt_val (pe_callB (kAll K rfl) (by rfl) T.all (by decide +kernel) (pa_cons (pe_lc (own := [("_law_goal", 11)]) rfl nd (kpList K (pv 8)) (blkOk_by (N := Nl_viable) (sc := defScope sl_viable) (by decide +kernel)) (fun _ _ _ _ _ => (pg_name (i := 11) nd rfl (Or.inl rfl))) (fun _ _ _ _ _ => pts_nil) (fun _ _ _ _ _ => (pe_cmp (pc_din hu (pv 11) (pv 1)) rfl))) pa_nil))))))))))))
          (pss_one (ps_dput hu (pv 4) (pv 2) pe_bl rfl)) pss_nil)))))))))
    (pss_cons (ps_if (pt_cmpR op_eq (pe_callB call_lenD (by rfl) T.len (by decide +kernel) (pa_cons (pv 4) pa_nil)) (pe_callB call_lenD (by rfl) T.len (by decide +kernel) (pa_cons (pv 1) pa_nil)) (nomark _))
      (pss_one (ps_ret (pe_callB (call_sortedD rfl) (by rfl) T.sorted (by decide +kernel) (pa_cons (pv 4) pa_nil)))) pss_nil)
    (pss_one (ps_set (i := 1) nd rfl (Or.inr rfl) (pv 4)))))))
  (pss_one (ps_ret (pe_callB (call_sortedD rfl) (by rfl) T.sorted (by decide +kernel) (pa_cons (pv 1) pa_nil)))))), ?_⟩
    have ha := eG _ _ hag
    have hb := eG _ _ hbg
    have few := ok.few
    have rlen := hrs.len
    have klen : (kvR rs).length = bk.length := by simp [kvR, rlen]
    walk_at "go"
    refine ⟨b, _, hb, trivial, fun od => ?_⟩
    have Lk1 := Lk.mk' (od := od) eG hb
    have nab : a ≠ b := ne_of ha hb (by intro z; cases z)
    have haL := Lk1.keep _ _ nab ha
    generalize upd H b (.frz od (.dK (kvR rs))) = HL at Lk1 haL ⊢
    walk_at "go"
    refine ⟨b, od, rfl, .inl ⟨kvR rs, Lk1.self, fun D hD => ?_⟩⟩
    refine lc_gen walk_keys Lk1.ex hD (by rw [klen]; exact small1000 (by omega)) (fun i acc Gi => ∃ ps : List Addr, acc = ps.map V.ref ∧ Paired (fun p (q : Str × Row) => Gi p = some (.tup [.str q.1, .bl true])) ps (bk.take i)) ⟨[], rfl, .nil⟩ (fun H' e => e _ _ Lk1.self) ?_ ?_
    · rintro i y G3 H3 H4 acc Kt Kf hi N g0 hh hl' ⟨ps, rfl, pp⟩ ⟨rfl, k1, v1, hk, rfl⟩ ht hf
      obtain ⟨q, hq, rfl, rfl⟩ := kvR_get hk
      obtain ⟨qq, hqq, e1, _⟩ := RowsAt.at hrs hq
      walk_at "go"
      refine ⟨rfl, ?_⟩
      walk_at "go"
      refine ⟨by show 2 ≤ sizeLine; decide, fun p hp => ?_⟩
      refine ht (.ref p) _ _ (Nxt.new1 N.gh hp) ⟨ps ++ [p], by simp, ?_⟩
      rw [take_snoc hqq]
      refine Paired.snoc (Paired.mapP pp fun a b e => ?_) (by rw [upd_same, e1]; rfl)
      rw [upd_ne (ne_of_none e (N.gh.back hp))]; exact e
    · rintro G3 H3 acc N g0 hh hl' ⟨ps, rfl, pp⟩
      rw [klen, List.take_length] at pp
      obtain ⟨G4, N4, hd3, e34, g3d, g34⟩ := Lk1.back _ _ (N.frz g0 hh hD)
      refine ⟨hd3, ?_⟩
      have nDd : D ≠ b := (Lk1.fresh D hD).2
      have hD4 : (upd H3 b (.dK (kvR rs))) D = some (.lst (ps.map V.ref)) := by rw [upd_ne nDd]; exact hh
      generalize upd H3 b (.dK (kvR rs)) = H4 at N4 hD4 ⊢
      have pp4 : Paired (fun p (q : Str × Row) => H4 p = some (.tup [.str q.1, .bl true])) ps bk := Paired.mapP pp fun a b e => N4.gh _ _ (e34 _ _ ((Ex.new g0) _ _ e))
      have pp5 : Paired (fun p (kv : Key × V) => SqT K H4 p [kV kv.1, kv.2]) ps ((bk.map (·.1)).map fun g => ((Sum.inr g : Key), V.bl true)) := marks_sq pp4
      walk_at "go"
      refine ⟨D, ps, _, rfl, SqL.of hD4, pp5, fun kp hkp => ?_⟩
      obtain ⟨M0, eM, ndM0, mM0, _⟩ := mergeM (bk.map (·.1)) [] List.nodup_nil
      have e0 : mergeK [] ((bk.map (·.1)).map fun g => ((Sum.inr g : Key), V.bl true)) = kvM M0 := eM
      rw [e0]
      have sub0 : ∀ x ∈ M0, x ∈ bk.map (·.1) := fun x hx => by simpa using (mM0 x).mp hx
      have N5 : Nxt none G H G (upd H4 kp (.dK (kvM M0))) := N4.forget.own hkp (N4.none0 hkp)
      have h5 : (upd H4 kp (.dK (kvM M0))) kp = some (.dK (kvM M0)) := upd_same
      generalize upd H4 kp (.dK (kvM M0)) = H5 at N5 h5 ⊢
      have ha5 := N5.gh _ _ hag
      walk_at "go"
      refine ⟨b, kvR rs, rfl, N5.gh _ _ hbg, ?_⟩
      rw [klen]
      walk_at "go"
      refine ⟨(bk.length : Int) + 1, rfl, by omega, by omega, ?_⟩
      have mlen : ∀ M : List Str, M.Nodup → (∀ x ∈ M, x ∈ bk.map (·.1)) → M.length ≤ 26 := fun M n m => by
        have := nodup_le M (bk.map (·.1)) n m
        rw [List.length_map] at this
        omega
      have fin : ∀ (d : Addr) (M : List Str) (H' : Hp), Nxt none G H G H' → H' d = some (.dK (kvM M)) → M.Nodup → (∀ x ∈ M, x ∈ bk.map (·.1)) → rSortedD [.ref d] H' Q := fun d M H' N h n m =>
        ⟨d, kvM M, M, rfl, .inl h, kvM_keys M, by have := mlen M n m; omega, fun ys p _ _ hp => k p ys _ (N.ex.trans (Ex.new hp)) upd_same⟩
      refine for_it walk_range (fun i σ' H' => ∃ (kp : Addr) (M : List Str) (x2 x3 x4 x5 x6 x7 x8 x10 : Option V), σ' = [some (.ref a), some (.ref kp), x2, x3, x4, x5, x6, x7, x8, none, x10, none] ∧ Nxt none G H G H' ∧ H kp = none ∧ H' kp = some (.dK (kvM M)) ∧ M.Nodup ∧ ∀ x ∈ M, x ∈ bk.map (·.1))
        ⟨kp, M0, _, _, _, _, _, _, _, _, rfl, N5, N4.none0 hkp, h5, ndM0, sub0⟩ (fun _ _ _ _ _ => trivial) ?_ ?_
      · rintro i y σ' _ H6 hi ⟨kp, Mk, x2, x3, x4, x5, x6, x7, x8, x10, rfl, N6, kp0, h6, kn, ks⟩ ⟨rfl, rfl⟩
        walk_at "go"
        intro np hnp
        have np0 := N6.none0 hnp
        have gnp := N6.gh.back hnp
        have N7 : Nxt none G H G (upd H6 np (.dK [])) := N6.own hnp np0
        have h7k := upd_keep (u := .dK []) h6 hnp
        have nek : kp ≠ np := ne_of_none h6 hnp
        have h7 : (upd H6 np (.dK [])) np = some (.dK (kvM [])) := upd_same
        generalize upd H6 np (.dK []) = H7 at N7 h7k h7 ⊢
        walk_at "go"
        refine ⟨by show 2 ≤ sizeLine; decide, fun t ht => ?_⟩
        have N8 : Nxt none G H G (upd H7 t (.tup [.ref np, .int (-1)])) := N7.own ht (N7.none0 ht)
        have h8k := upd_keep (u := .tup [.ref np, .int (-1)]) h7k ht
        have h8 := upd_keep (u := .tup [.ref np, .int (-1)]) h7 ht
        have h8t : (upd H7 t (.tup [.ref np, .int (-1)])) t = some (.tup [.ref np, .int (-1)]) := upd_same
        change gTup _ _ _ _ _ (upd H7 t (.tup [.ref np, .int (-1)])) _
        generalize upd H7 t (.tup [.ref np, .int (-1)]) = H8 at N8 h8k h8 h8t ⊢
        refine g_gtup (SqT.of h8t) rfl ?_
        walk_at "go"
        refine ⟨fun m σ' H' => ∃ (Mn : List Str) (many : Int) (x2 x6 x7 x8 x10 : Option V), σ' = [some (.ref a), some (.ref kp), x2, some (.int (0 + (i : Int))), some (.ref np), some (.int many), x6, x7, x8, none, x10, none] ∧ Nxt none G H G H' ∧ H' kp = some (.dK (kvM Mk)) ∧ H' np = some (.dK (kvM Mn)) ∧
          Mn.Nodup ∧ (∀ x ∈ Mn, x ∈ bk.map (·.1)) ∧ -1 ≤ many ∧ many ≤ 26 ∧ m = (27 - many).toNat, ⟨_, [], -1, _, _, _, _, _, rfl, N8, h8k, h8, List.nodup_nil, by simp, by omega, by omega, rfl⟩, ?_⟩
        rintro m σ' H9 ⟨Mn, many, x2, x6, x7, x8, x10, rfl, N9, h9k, h9, nn, ns, ma0, ma1, rfl⟩
        have nl := mlen Mn nn ns
        have kl := mlen Mk kn ks
        have kvl : ∀ M : List Str, (kvM M).length = M.length := fun M => by simp [kvM]
        walk_at "go"
        refine ⟨np, _, rfl, h9, ?_⟩
        rw [kvl]
        walk_at "go"
        by_cases hlt : many < (Mn.length : Int)
        · rw [decide_eq_true hlt]
          refine g_ite ?_
          refine ⟨fun σ' H' => ∃ (Mn' : List Str) (x2 x6 x7 x8 x10 : Option V), σ' = [some (.ref a), some (.ref kp), x2, some (.int (0 + (i : Int))), some (.ref np), some (.int (Mn.length : Int)), x6, x7, x8, none, x10, none] ∧ Nxt none G H G H' ∧ H' kp = some (.dK (kvM Mk)) ∧ H' np = some (.dK (kvM Mn')) ∧
            Mn'.Nodup ∧ ∀ x ∈ Mn', x ∈ bk.map (·.1), fun σ' H' ⟨Mn', x2, x6, x7, x8, x10, e, N, hk, hn, n1, n2⟩ => ⟨_, ?_, Mn', _, _, _, _, _, _, e, N, hk, hn, n1, n2, by omega, by omega, rfl⟩, ?_⟩
          · omega
          · walk_at "go"
            refine ⟨np, _, rfl, h9, ?_⟩
            rw [kvl]
            walk_at "go"
            refine ⟨kp, _, h9k, trivial, fun ok1 => ?_⟩
            have L2 := Lk.mk' (od := ok1) N9.gh h9k
            have nnk : np ≠ kp := Ne.symm nek
            have hnL := L2.keep _ _ nnk h9
            generalize upd H9 kp (.frz ok1 (.dK (kvM Mk))) = HM at L2 hnL ⊢
            walk_at "go"
            refine ⟨kp, ok1, rfl, .inl ⟨kvM Mk, L2.self, fun lp hlp => ?_⟩⟩
            refine lc_gen walk_keys L2.ex hlp (by rw [kvl]; exact small1000 (by omega)) (fun i acc Gi => ∃ l : List Str, acc = l.map V.str ∧ ∀ x ∈ l, x ∈ Mk) ⟨[], rfl, by simp⟩ (fun H' e => e _ _ L2.self) ?_ ?_
            · rintro j y G3 H3 H4 acc Kt Kf hi N g0 hh hl' ⟨l, rfl, lm⟩ ⟨rfl, k1, v1, hk, rfl⟩ htt hff
              obtain ⟨x, hx, rfl, rfl⟩ := kvM_get hk
              walk_at "go"
              refine ⟨rfl, ?_⟩
              walk_at "go"
              refine ⟨np, _, rfl, DGet.s (.inl (N.ex _ _ hnL)) rfl, ?_⟩
              refine g_bl ?_
              refine g_ifb ?_ ?_
              · walk_at "go"
                refine htt (.str x) G3 _ (Nxt.refl N.gh) ⟨l ++ [x], by simp, fun z hz => ?_⟩
                rcases List.mem_append.mp hz with h | h
                · exact lm z h
                · rw [List.mem_singleton.mp h]; exact List.mem_of_getElem? hx
              · exact hff G3 _ (Nxt.refl N.gh) ⟨l, rfl, lm⟩
            · rintro G3 H3 acc N g0 hh hl' ⟨l, rfl, lm⟩
              obtain ⟨G4, NB, hk3, e34, g3d, g34⟩ := L2.back _ _ N
              refine ⟨hk3, ?_⟩
              have nlk : lp ≠ kp := (L2.fresh lp hlp).2
              have hl4 : (upd H3 kp (.dK (kvM Mk))) lp = some (.lst (l.map V.str)) := by rw [upd_ne nlk]; exact hh
              have hk4 : (upd H3 kp (.dK (kvM Mk))) kp = some (.dK (kvM Mk)) := upd_same
              have hn4 : (upd H3 kp (.dK (kvM Mk))) np = some (.dK (kvM Mn)) := by rw [upd_ne nnk]; exact N.ex _ _ hnL
              have N10 := N9.trans NB.forget
              generalize upd H3 kp (.dK (kvM Mk)) = H10 at hl4 hk4 hn4 N10 ⊢
              have nln : lp ≠ np := ne_of hl4 hn4 (by intro z; cases z)
              clear hh hk3 NB N
              walk_at "go"
              refine ⟨lp, rfl, ⟨_, SqL.of hl4⟩, ?_⟩
              refine for_it walk_list (fun j σ' H' => ∃ (Mn' : List Str) (x2 x6 x7 x8 x10 : Option V), σ' = [some (.ref a), some (.ref kp), x2, some (.int (0 + (i : Int))), some (.ref np), some (.int (Mn.length : Int)), x6, x7, x8, none, x10, none] ∧ Nxt none G H G H' ∧ H' lp = some (.lst (l.map V.str)) ∧
                H' kp = some (.dK (kvM Mk)) ∧ H' np = some (.dK (kvM Mn')) ∧ Mn'.Nodup ∧ ∀ x ∈ Mn', x ∈ bk.map (·.1)) ⟨Mn, _, _, _, _, _, rfl, N10, hl4, hk4, hn4, nn, ns⟩ (fun j σ' H' _ ⟨_, _, _, _, _, _, _, _, h, _⟩ => SqL.of h) ?_ ?_
              · rintro j y σ' _ H11 hj ⟨Mn', x2, x6, x7, x8, x10, rfl, N11, hl11, hk11, hn11, n1, n2⟩ ⟨rfl, hy⟩
                obtain ⟨x, hx, rfl⟩ := strs_get hy
                clear hy
                have kx := ks x (lm x (List.mem_of_getElem? hx))
                obtain ⟨r, hlk, hmem⟩ := ok.get kx
                have okr : RowOk r := ok.row _ hmem
                obtain ⟨c, hv, d, hc, hd⟩ := RowsAt.get hrs hlk
                have n26 := mlen Mn' n1 n2
                have ha11 := N11.gh _ _ hag
                have hb11 := N11.gh _ _ hbg
                have hc11 := N11.gh _ _ hc
                have hd11 := N11.gh _ _ hd
                walk_at "go"
                refine g_dgs (s := x) (.inl hb11) hv ?_
                refine g_gtup (SqT.of hc11) rfl ?_
                walk_at "go"
                refine ⟨d, _, hd11, trivial, fun od2 => ?_⟩
                have L3 := Lk.mk' (od := od2) N11.gh hd11
                have nnd : np ≠ d := fun z => by subst z; rw [eG _ _ hd] at np0; cases np0
                have nkd : kp ≠ d := fun z => by subst z; rw [eG _ _ hd] at kp0; cases kp0
                have nld : lp ≠ d := ne_of hl11 hd11 (by intro z; cases z)
                generalize upd H11 d (.frz od2 (.dK (kvS r.2))) = HM at L3 ⊢
                walk_at "go"
                refine ⟨d, od2, rfl, .inl ⟨kvS r.2, L3.self, fun gl hgl => ?_⟩⟩
                refine lc_gen walk_keys L3.ex hgl (by rw [kvS_len]; exact small1000 (by have := okr.few; omega)) (fun i acc Gi => acc = ((r.2.take i).map (·.2)).map V.str) rfl (fun H' e => e _ _ L3.self) ?_ ?_
                · rintro m y G3 H3 H4 acc Kt Kf hi N g0 hh hl' rfl ⟨rfl, k1, v1, hk, rfl⟩ htt hff
                  obtain ⟨q, hq, rfl, rfl⟩ := kvS_get hk
                  walk_at "go"
                  refine ⟨rfl, ?_⟩
                  walk_at "go"
                  refine g_dgs (s := q.1) (.inr ⟨od2, N.ex _ _ L3.self⟩) (by rw [valV_kvS, mem_lookup okr.nd (List.mem_of_getElem? hq)]; rfl) ?_
                  exact htt (.str q.2) G3 _ (Nxt.refl N.gh) (by rw [take_snoc hq]; simp)
                · rintro G3 H3 acc N g0 hh hl' rfl
                  rw [kvS_len, List.take_length] at hh
                  obtain ⟨G4, NB, hd3, e34, g3d, g34⟩ := L3.back _ _ N
                  refine ⟨hd3, ?_⟩
                  have hg12 : (upd H3 d (.dK (kvS r.2))) gl = some (.lst ((r.2.map (·.2)).map V.str)) := by rw [upd_ne (L3.fresh gl hgl).2]; exact hh
                  have hn12 := NB.ex _ _ hn11
                  have hk12 := NB.ex _ _ hk11
                  have hl12 := NB.ex _ _ hl11
                  have N12 := N11.trans NB.forget
                  generalize upd H3 d (.dK (kvS r.2)) = H12 at hg12 hn12 hk12 hl12 N12 ⊢
                  clear hh hd3 NB N
                  -- any([goal in M for goal in goals])
                  walk_at "go"
                  refine ⟨gl, rfl, ⟨_, SqL.of hg12⟩, fun al hal => ?_⟩
                  refine lc_gen walk_list (Ex.refl H12) hal (by rw [List.length_map, List.length_map]; exact small1000 (by have := okr.few; omega)) (fun i acc Gi => ∃ bs : List Bool, acc = bs.map V.bl) ⟨[], rfl⟩ (fun H' e => SqL.of (e _ _ hg12)) ?_ ?_
                  · rintro m y G3 H3 H4 acc Kt Kf hi N g0 hh hl' ⟨bs, rfl⟩ ⟨rfl, hy⟩ htt hff
                    obtain ⟨z, hz, rfl⟩ := strs_get hy
                    walk_at "go"
                    refine ⟨rfl, ?_⟩
                    walk_at "go"
                    refine ⟨np, _, rfl, DGet.s (.inl (N.ex _ _ hn12)) rfl, ?_⟩
                    exact htt _ G3 _ (Nxt.refl N.gh) ⟨bs ++ [_], by rw [List.map_append]; rfl⟩
                  · rintro G3 H13 acc N g0 hh hl' ⟨bs, rfl⟩
                    have N13 := N12.trans (Nxt.flat N12.gh N.ex)
                    have hg13 := N.ex _ _ hg12
                    have hn13 := N.ex _ _ hn12
                    have hk13 := N.ex _ _ hk12
                    have hl13 := N.ex _ _ hl12
                    clear N
                    walk_at "go"
                    refine ⟨al, bs, rfl, SqL.of hh, ?_⟩
                    walk_at "g1"
                    with_reducible refine g_ifAny2 (fun H' => Ex H13 H') (fun QT hq => ?_) ?_ ?_
                    · walk_at "go"
                      refine g_ifb (hq _ _ (Ex.refl _)) ?_
                      walk_at "go"
                      refine g_ifb ?_ (hq _ _ (Ex.refl _))
                      walk_at "go"
                      refine g_ifb (hq _ _ (Ex.refl _)) ?_
                      walk_at "go"
                      refine ⟨gl, rfl, ⟨_, SqL.of hg13⟩, fun al hal => ?_⟩
                      refine lc_gen walk_list (Ex.refl H13) hal (by rw [List.length_map, List.length_map]; exact small1000 (by have := okr.few; omega)) (fun i acc Gi => ∃ bs : List Bool, acc = bs.map V.bl) ⟨[], rfl⟩ (fun H' e => SqL.of (e _ _ hg13)) ?_ ?_
                      · rintro m y G3 H3 H4 acc Kt Kf hi N g0 hh hl' ⟨bs, rfl⟩ ⟨rfl, hy⟩ htt hff
                        obtain ⟨z, hz, rfl⟩ := strs_get hy
                        walk_at "go"
                        refine ⟨rfl, ?_⟩
                        walk_at "go"
                        refine ⟨kp, _, rfl, DGet.s (.inl (N.ex _ _ hk13)) rfl, ?_⟩
                        exact htt _ G3 _ (Nxt.refl N.gh) ⟨bs ++ [_], by rw [List.map_append]; rfl⟩
                      · rintro G3 H14 acc N g0 hh hl' ⟨bs, rfl⟩
                        walk_at "go"
                        refine ⟨al, bs, rfl, SqL.of hh, ?_⟩
                        walk_at "go"
                        exact hq _ _ N.ex
                    · intro H14 e14
                      have N14 := N13.trans (Nxt.flat N13.gh e14)
                      have hn14 := e14 _ _ hn13
                      walk_at "go"
                      refine ⟨np, _, rfl, DPut.s hn14 (by rw [kvl]; exact small1000 (by omega)), ?_⟩
                      walk_at "go"
                      have npl : lp ≠ np := nln
                      have nk' : kp ≠ np := nek
                      by_cases hxm : x ∈ Mn'
                      · exact ⟨Mn', _, _, _, _, _, rfl, N14.mut gnp np0, by rw [upd_ne npl]; exact e14 _ _ hl13, by rw [upd_ne nk']; exact e14 _ _ hk13, by rw [upd_same, putK_kvM' hxm], n1, n2⟩
                      · refine ⟨Mn' ++ [x], _, _, _, _, _, rfl, N14.mut gnp np0, by rw [upd_ne npl]; exact e14 _ _ hl13, by rw [upd_ne nk']; exact e14 _ _ hk13, by rw [upd_same, putK_kvM hxm], ?_, ?_⟩
                        · exact List.nodup_append.mpr ⟨n1, by simp, fun a ha b hb => by simp at hb; subst hb; exact fun z => hxm (z ▸ ha)⟩
                        · intro z hz
                          rcases List.mem_append.mp hz with h | h
                          · exact n2 z h
                          · rw [List.mem_singleton.mp h]; exact kx
                    · intro H14 e14
                      have N14 := N13.trans (Nxt.flat N13.gh e14)
                      walk_at "go"
                      exact ⟨Mn', _, _, _, _, _, rfl, N14, e14 _ _ hl13, e14 _ _ hk13, e14 _ _ hn13, n1, n2⟩
              · rintro σ' H11 ⟨Mn', x2, x6, x7, x8, x10, rfl, N11, hl11, hk11, hn11, n1, n2⟩
                exact ⟨Mn', _, _, _, _, _, rfl, N11, hk11, hn11, n1, n2⟩
        · rw [decide_eq_false hlt]
          refine g_itf ?_
          walk_at "go"
          refine ⟨np, _, rfl, h9, ?_⟩
          walk_at "go"
          refine ⟨kp, _, rfl, h9k, ?_⟩
          walk_at "go"
          refine ite2 (fun _ => ?_) (fun _ => ?_)
          · walk_at "go"
            exact fin np Mn H9 N9 h9 nn ns
          · walk_at "go"
            exact ⟨np, Mn, _, _, _, _, _, _, _, _, rfl, N9, np0, h9, nn, ns⟩
      · rintro σ' H6 ⟨kp, M, x2, x3, x4, x5, x6, x7, x8, x10, rfl, N6, _, h6, mn, ms⟩
        walk_at "go"
        exact fin kp M H6 N6 h6 mn ms
end
end K69
set_option Elab.async false
set_option linter.all false
set_option maxRecDepth 100000
set_option maxHeartbeats 4000000
namespace K69
open PySem PySem.Spec PyProof.Rows L2
/-! displays of rows and books -/
section
variable (G0 : Hp) (σ : L2.St)
def TeS (te : TE) (x : Str) : Prop := ∀ (H1 : Hp) (Q : VK), Ex G0 H1 → Q (.str x) H1 → te σ H1 Q
def TeT (te : TE) (ts : Turns) : Prop := ∀ (G1 H1 : Hp) (Q : VK), Ex G0 G1 → Ex G1 H1 → (∀ (d : Addr) (G' H' : Hp), Nxt none G1 H1 G' H' → G' d = some (.dK (kvS ts)) → Q (.ref d) H') → te σ H1 Q
def TeR (te : TE) (r : Row) : Prop := ∀ (G1 H1 : Hp) (Q : VK), Ex G0 G1 → Ex G1 H1 → (∀ (a : Addr) (G' H' : Hp), Nxt none G1 H1 G' H' → RowAt G' a r → Q (.ref a) H') → te σ H1 Q
def TeB (te : TE) (bk : Book) : Prop := ∀ (G1 H1 : Hp) (Q : VK), Ex G0 G1 → Ex G1 H1 → (∀ (a : Addr) (G' H' : Hp), Nxt none G1 H1 G' H' → BookAt G' a bk → Q (.ref a) H') → te σ H1 Q
end
section
variable {G0 : Hp} {σ : L2.St} {x kd : Str} {i : Nat} {te : TE} {ts : Turns} {trs : List (TE × TE)} {bk : Book} {r : Row}
theorem teS_var (e : σ[i]? = some (some (.str x)) := by rfl) : TeS G0 σ (tVar i) x := fun _ _ _ q => g_var e q
theorem teS_C : TeS G0 σ (tC (.str x)) x := fun _ _ _ q => q
theorem st_norm {F : L2.St → Hp → Prop} {σ : L2.St} {H : Hp} (τ : L2.St) (h : F τ H) (e : σ = τ := by rfl) : F σ H := e ▸ h
theorem turns_use (h : Paired (fun (tr : TE × TE) (q : Str × Str) => TeS G0 σ tr.1 q.1 ∧ TeS G0 σ tr.2 q.2) trs ts) : ∀ (H1 : Hp) (QP : List (V × V) → Hp → Prop), Ex G0 H1 → QP (ts.map fun q => (V.str q.1, V.str q.2)) H1 → tPairs trs σ H1 QP := by
  induction h with
  | nil => exact fun H1 QP _ q => q
  | cons h _ ih => exact fun H1 QP e q => h.1 _ _ e (h.2 _ _ e (ih _ _ e q))
theorem mergeK_kvS2 (nd : (ts.map (·.1)).Nodup) : mergeK [] (kvS ts) = kvS ts := by
  rw [mergeK_nd]
  · rfl
  · rw [List.nil_append, kvS_keys]; exact nodup_inr.mpr nd
theorem disp_turns (h : Paired (fun (tr : TE × TE) (q : Str × Str) => TeS G0 σ tr.1 q.1 ∧ TeS G0 σ tr.2 q.2) trs ts) (nd : (ts.map (·.1)).Nodup) (few : ts.length ≤ 15) : TeT G0 σ (tDisp trs) ts := by
  intro G1 H1 Q e0 e1 k
  refine g_disp fun p hp => ?_
  refine turns_use h _ _ ((e0.trans e1).own ((e0.trans e1).back hp)) ⟨upd_same, kvS ts, ?_, ?_, ?_⟩
  · unfold kvS; rw [List.map_map]; rfl
  · rw [kvS_len]; exact few
  · rw [upd_upd, mergeK_kvS2 nd]
    exact k p _ _ (Nxt.new1 e1 hp) upd_same
theorem dnew_turns : TeT G0 σ tDNewK [] := by
  intro G1 H1 Q e0 e1 k
  exact g_dnew fun p hp => k p _ _ (Nxt.new1 e1 hp) upd_same
theorem row_tup (h : TeT G0 σ te ts) : TeR G0 σ (tTup (tCons (tC (.str kd)) (tCons te tNil))) (kd, ts) := by
  intro G1 H1 Q e0 e1 k
  refine g_tup (g_cons (g_C (g_cons (h G1 H1 _ e0 e1 fun d G' H' N hd => g_nil ?_))))
  refine ⟨by show 2 ≤ sizeLine; decide, fun t ht => ?_⟩
  refine k t _ _ (N.new ht (N.none0 ht)) ⟨d, upd_same, ?_⟩
  exact (Ex.new (N.gh.back ht)) _ _ hd
theorem rows_use (h : Paired (fun (tr : TE × TE) (q : Str × Row) => TeS G0 σ tr.1 q.1 ∧ TeR G0 σ tr.2 q.2) trs bk) : ∀ (G1 H1 : Hp) (QP : List (V × V) → Hp → Prop), Ex G0 G1 → Ex G1 H1 →
    (∀ (rs : List (Str × Addr)) (G' H' : Hp), Nxt none G1 H1 G' H' → RowsAt G' rs bk → QP (rs.map fun q => (V.str q.1, V.ref q.2)) H') → tPairs trs σ H1 QP := by
  induction h with
  | nil => exact fun G1 H1 QP _ e1 k => k [] G1 H1 (Nxt.refl e1) .nil
  | @cons tr q trs bk h _ ih =>
    intro G1 H1 QP e0 e1 k
    refine h.1 _ _ (e0.trans e1) (h.2 G1 H1 _ e0 e1 fun a G2 H2 N2 ha => ?_)
    refine ih G2 H2 _ (e0.trans N2.gg) N2.gh fun rs G3 H3 N3 hr => ?_
    exact k ((q.1, a) :: rs) G3 H3 (N2.trans N3) (.cons ⟨rfl, ha.mono N3.gg⟩ hr)
theorem disp_bookO (h : Paired (fun (tr : TE × TE) (q : Str × Row) => TeS G0 σ tr.1 q.1 ∧ TeR G0 σ tr.2 q.2) trs bk) (nd : (bk.map (·.1)).Nodup) (few : bk.length ≤ 15) (G1 H1 : Hp) (Q : VK) (e0 : Ex G0 G1) (e1 : Ex G1 H1)
    (k : ∀ (p : Addr) (rs : List (Str × Addr)) (G' H' : Hp), Nxt none G1 H1 G' H' → G' p = none → H1 p = none → H' p = some (.dK (kvR rs)) → RowsAt G' rs bk → Q (.ref p) H') : tDisp trs σ H1 Q := by
  refine g_disp fun p hp => ?_
  have N1 : Nxt none G1 H1 G1 (upd H1 p (.dK [])) := (Nxt.refl e1).own hp hp
  refine rows_use h G1 _ _ e0 N1.gh fun rs G2 H2 N2 hr => ?_
  obtain ⟨g2, h2⟩ := N2.keep (e1.back hp) upd_same
  refine ⟨h2, kvR rs, ?_, ?_, ?_⟩
  · unfold kvR; rw [List.map_map]; rfl
  · rw [kvR_len, hr.len]; exact few
  · rw [mergeK_kvR (by rw [hr.keys]; exact nd)]
    exact k p rs G2 _ ((N1.trans N2).mut g2 hp) g2 hp upd_same hr
theorem disp_book (h : Paired (fun (tr : TE × TE) (q : Str × Row) => TeS G0 σ tr.1 q.1 ∧ TeR G0 σ tr.2 q.2) trs bk) (nd : (bk.map (·.1)).Nodup) (few : bk.length ≤ 15) : TeB G0 σ (tDisp trs) bk := by
  intro G1 H1 Q e0 e1 k
  refine disp_bookO h nd few G1 H1 Q e0 e1 fun p rs G2 H2 N2 g2 hp h2 hr => ?_
  exact k p _ _ (N2.frz g2 h2 hp) ⟨rs, upd_same, RowsAt.mono hr (Ex.new g2)⟩
end
section
variable {P : Program} {w : World} {K : PySem.W.Frag} {mg : Str → Option Value} {base : Heap} {C : Addr}
local macro_rules | `(tactic| walk_at "lk") => `(tactic| first | assumption | exact upd_same | exact (by assumption : Ex _ _) _ _ (by assumption))
local macro_rules | `(tactic| walk_at "g1") => `(tactic| first
  | with_reducible refine g_seq ?_ | with_reducible refine g_asg ?_ | with_reducible refine g_name ?_ | with_reducible refine g_cons ?_ | with_reducible refine g_nil ?_
  | ((with_reducible refine' g_var ?e ?_); (case e => exact rfl)) | with_reducible refine g_C ?_ | with_reducible refine g_op ?_ | with_reducible refine g_fld0 ?_ | with_reducible refine g_dget ?_ | with_reducible refine g_cb ?_ | with_reducible refine g_call ?_
  | with_reducible refine g_ret ?_ | with_reducible refine g_ifS ?_ | with_reducible refine g_test ?_ | with_reducible refine g_B ?_ | with_reducible refine g_bl ?_ | with_reducible refine g_not ?_ | with_reducible refine g_or ?_ | with_reducible refine g_and ?_
  | with_reducible refine g_ite ?_ | with_reducible refine g_itf ?_ | with_reducible refine g_itnt ?_ | with_reducible refine g_itnf ?_ | with_reducible refine g_eqS ?_ | with_reducible refine g_neS ?_ | with_reducible refine g_neI ?_ | with_reducible refine g_eqB ?_ | with_reducible refine g_neB ?_ | with_reducible refine g_eqI ?_ | with_reducible refine g_rI0 ?_ | with_reducible refine g_ipI ?_ | with_reducible refine g_int ?_
  | with_reducible refine g_drop ?_ | with_reducible refine g_next ?_ | with_reducible refine g_bm ?_ | with_reducible refine g_bm0 ?_ | with_reducible refine g_din ?_ | with_reducible refine g_dnotin ?_ | with_reducible refine g_dput ?_ | ((with_reducible refine' g_aug ?e ?_); (case e => exact rfl))
  | with_reducible refine g_andV ?_ | with_reducible refine g_orV ?_ | with_reducible refine g_notV ?_ | with_reducible refine g_if ?_ | with_reducible refine g_isN ?_ | with_reducible refine g_notN ?_ | with_reducible refine g_sl ?_ | with_reducible refine g_nopart ?_ | with_reducible refine g_part ?_
  | with_reducible refine g_gcons ?_ | with_reducible refine g_gnil ?_ | with_reducible refine g_par2 ?_ | with_reducible refine g_par3 ?_ | with_reducible refine g_vw ?_ | with_reducible refine g_uvw ?_ | with_reducible refine g_yes ?_ | with_reducible refine g_un ?_ | with_reducible refine g_rU ?_ | with_reducible refine g_gsub ?_ | with_reducible refine g_chain ?_ | with_reducible refine g_for ?_ | with_reducible refine g_istr ?_ | with_reducible refine g_ilist ?_ | with_reducible refine g_itup ?_ | with_reducible refine g_ikeys ?_ | with_reducible refine g_ivals ?_ | with_reducible refine g_iitems ?_ | with_reducible refine g_irng1 ?_ | with_reducible refine g_izip ?_ | with_reducible refine g_while ?_ | with_reducible refine g_tru _ ?_ | with_reducible refine g_lc ?_ | with_reducible refine g_dc ?_ | with_reducible refine g_lc2 ?_ | with_reducible refine g_tup ?_ | with_reducible refine g_lst ?_ | with_reducible refine g_dnew ?_ | with_reducible refine g_sfld ?_ | with_reducible refine g_dget2 ?_ | with_reducible refine g_dzip ?_ | with_reducible refine g_dnewT ?_ | with_reducible refine g_dispT ?_ | with_reducible refine g_star ?_ | with_reducible refine g_disp ?_ | with_reducible refine g_prs ?_ | with_reducible refine g_prs0 ?_ | with_reducible refine g_sc ?_ | with_reducible refine g_make ?_ | with_reducible refine g_meth ?_
  | ((with_reducible refine' g_ixT ?h ?e ?_); (case h => walk_at "lk"); (case e => exact rfl)) | ((with_reducible refine' g_ixL ?h ?e ?_); (case h => walk_at "lk"); (case e => exact rfl))
  | ((with_reducible refine' g_fldK ?h ?c ?n ?l ?_); (case h => walk_at "lk"); (case c => exact C8.InsC.cl (Txt.insC (by assumption))); (case n => first | exact Txt.nR (by assumption) | exact Txt.nF (by assumption)); (case l => exact rfl)))
local macro_rules | `(tactic| walk_at "go") => `(tactic| (repeat walk_at "g1"))
local macro_rules | `(tactic| walk_at "ty") => `(tactic| first | exact .base (.str _) | exact .base .non | exact .base (.bl _) | exact .base (.int _) | exact .base (.tup (by assumption)) | exact .base (.lst (by assumption)) | exact .base (.dK (by assumption)) | exact .fDict (by assumption))
abbrev sl_shape : Stmt := topS 42
abbrev Nl_shape : List Str := ["_law_purse_here", "_law_words_here", "_law_way", "_law_states", "_law_begin", "_law_second", "_law_third", "_law_last", "_law_go", "_law_out", "_law_on", "_law_end", "_law_row"]
theorem scl_shape : FnScope Nl_shape ["_law_purse_here", "_law_words_here"] (defScope sl_shape) := ⟨rfl, rfl, rfl, by decide +kernel, rfl, by decide +kernel, by decide +kernel⟩
def sp_shape : Sp := fun vs H Q _ => ∃ (p wd : Addr) (ws : List Str) (L : Int) (G : Hp), vs = [.ref p, .ref wd] ∧ Pur p (L + 110) G H ∧ 0 ≤ L ∧ G wd = some (.lst (ws.map V.str)) ∧
  4 ≤ ws.length ∧ ws.Nodup ∧ (∀ x ∈ ws, spelt x = true) ∧
  ∀ (a : Addr) (wb : Book) (s : Str) (G' H' : Hp), Nxt (some p) G H G' H' → Pur p L G' H' → WorldAt G' a wb s → BookOk wb → s ∈ wb.map (·.1) → wb.length ≤ 4 → Q (.ref a) H'
theorem cal_shape (F : Has K mg "_law_shape" sl_shape) (T : Txt K w mg C) (c_law_draw : Cal P w K mg base 2 "_law_draw" sp_draw) (c_law_words : Cal P w K mg base 4 "_law_words" sp_words) : Cal P w K mg base 5 "_law_shape" sp_shape := by
  refine F.cal (fun _ _ _ _ _ _ us hl => match us, hl with | [_, _], _ => rfl) scl_shape (fun vs H Q E h => ?_) (fun f cdv A outer s H vs Q E hr h => ?_)
  · obtain ⟨_, _, _, _, _, rfl, _⟩ := h; rfl
  · obtain ⟨p, wd, ws, L, G, rfl, pu, L0, hwd, w4, wnd, wsp, k⟩ := h
    have nd := scl_shape.nd
    have hu := hu_of hr
    refine ⟨_, (pss_cons (ps_par (i := 2) (j := 3) rfl nd rfl rfl (by decide) rfl rfl (pa_cons (kc c_law_draw hr (pa_cons (pv 0) (pa_cons pe_int pa_nil))) (pa_cons (kc c_law_words hr (pa_cons (pv 0) (pa_cons pe_int pa_nil))) pa_nil)) (by rfl))
  (pss_cons (ps_asg (pv 3) (kgLst K (n := 4) rfl (pgs_cons (pg_name (i := 4) nd rfl (Or.inl rfl)) (pgs_cons (pg_name (i := 5) nd rfl (Or.inl rfl)) (pgs_cons (pg_name (i := 6) nd rfl (Or.inl rfl)) (pgs_cons (pg_name (i := 7) nd rfl (Or.inl rfl)) pgs_nil))))))
  (pss_cons (ps_asg (pe_slice (kSlL K) (pv 1) po_none (po_some pe_int)) (kgLst K (n := 4) rfl (pgs_cons (pg_name (i := 8) nd rfl (Or.inl rfl)) (pgs_cons (pg_name (i := 9) nd rfl (Or.inl rfl)) (pgs_cons (pg_name (i := 10) nd rfl (Or.inl rfl)) (pgs_cons (pg_name (i := 11) nd rfl (Or.inl rfl)) pgs_nil))))))
  (pss_cons (ps_if (pt_cmpR op_eq (pv 2) pe_int (nomark _))
    (pss_one (ps_ret (pe_lst (pa_cons (pe_disp (pps_cons (pv 4) (pe_tup (pa_cons pe_str (pa_cons (pe_disp (pps_cons (pv 8) (pv 4) (pps_cons (pv 9) (pv 5) pps_nil)) (by rfl) (by rfl) (fun z => by cases z) (by decide)) pa_nil))) (pps_cons (pv 5) (pe_tup (pa_cons pe_str (pa_cons pe_dnewK pa_nil))) pps_nil)) (by rfl) (by rfl) (fun z => by cases z) (by decide)) (pa_cons (pv 4) pa_nil))))) pss_nil)
  (pss_cons (ps_if (pt_cmpR op_eq (pv 2) pe_int (nomark _))
    (pss_one (ps_ret (pe_lst (pa_cons (pe_disp (pps_cons (pv 4) (pe_tup (pa_cons pe_str (pa_cons (pe_disp (pps_cons (pv 8) (pv 5) (pps_cons (pv 9) (pv 6) pps_nil)) (by rfl) (by rfl) (fun z => by cases z) (by decide)) pa_nil))) (pps_cons (pv 5) (pe_tup (pa_cons pe_str (pa_cons (pe_disp (pps_cons (pv 10) (pv 4) (pps_cons (pv 11) (pv 6) pps_nil)) (by rfl) (by rfl) (fun z => by cases z) (by decide)) pa_nil))) (pps_cons (pv 6) (pe_tup (pa_cons pe_str (pa_cons pe_dnewK pa_nil))) pps_nil))) (by rfl) (by rfl) (fun z => by cases z) (by decide)) (pa_cons (pv 4) pa_nil))))) pss_nil)
  (pss_cons (ps_set (i := 12) nd rfl (Or.inl rfl) (pe_disp (pps_cons (pv 4) (pe_tup (pa_cons pe_str (pa_cons (pe_disp (pps_cons (pv 8) (pv 5) (pps_cons (pv 9) (pv 6) pps_nil)) (by rfl) (by rfl) (fun z => by cases z) (by decide)) pa_nil))) (pps_cons (pv 5) (pe_tup (pa_cons pe_str (pa_cons (pe_disp (pps_cons (pv 10) (pv 4) (pps_cons (pv 11) (pv 7) pps_nil)) (by rfl) (by rfl) (fun z => by cases z) (by decide)) pa_nil))) (pps_cons (pv 7) (pe_tup (pa_cons pe_str (pa_cons pe_dnewK pa_nil))) pps_nil))) (by rfl) (by rfl) (fun z => by cases z) (by decide)))
  (pss_cons (ps_dput hu (pv 12) (pv 6) (pe_ifExp (pt_cmpR op_eq (pv 2) pe_int (nomark _)) (pe_tup (pa_cons pe_str (pa_cons (pe_disp (pps_cons (pv 10) (pv 4) (pps_cons (pv 11) (pv 7) pps_nil)) (by rfl) (by rfl) (fun z => by cases z) (by decide)) pa_nil))) (pe_tup (pa_cons pe_str (pa_cons (pe_disp (pps_cons (pv 10) (pv 6) pps_nil) (by rfl) (by rfl) (fun z => by cases z) (by decide)) pa_nil)))) rfl)
  (pss_one (ps_ret (pe_lst (pa_cons (pv 12) (pa_cons (pv 4) pa_nil)))))))))))), ?_⟩
    have D0 : Dn p (L + 110) G H G H := Dn.start pu
    walk_at "go"
    refine draw_use (G := G) (L := L + 109) (pu.less (by omega) (by omega)) (by omega) (by decide) (by decide) (fun way H1 _ _ N1 P1 => ?_)
    have D1 := D0.drw N1 P1
    walk_at "go"
    refine ⟨p, 4, L + 9, G, rfl, by rw [show L + 9 + 100 = L + 109 by omega]; exact P1, by omega, by decide, fun r ss G2 H2 N2 P2 g2 _ sl sn ssp => ?_⟩
    have D2 := D1.drw N2 P2
    obtain ⟨x1, x2, x3, x4, rfl⟩ : ∃ x1 x2 x3 x4, ss = [x1, x2, x3, x4] := by
      match ss, sl with
      | [a, b, c, d], _ => exact ⟨a, b, c, d, rfl⟩
    obtain ⟨w1, w2, w3, w4', wr, rfl⟩ : ∃ w1 w2 w3 w4 wr, ws = w1 :: w2 :: w3 :: w4 :: wr := by
      match ws, w4 with
      | a :: b :: c :: d :: wr, _ => exact ⟨a, b, c, d, wr, rfl⟩
    walk_at "go"
    refine g_glst (xs := [.str x1, .str x2, .str x3, .str x4]) (SqL.of (D2.at g2)) rfl ?_
    walk_at "go"
    refine ⟨wd, _, rfl, SqL.of (D2.at (D2.n.gg _ _ hwd)), fun q hq => ?_⟩
    have c1 : cutV ((w1 :: w2 :: w3 :: w4' :: wr).map V.str) none (some 4) = [.str w1, .str w2, .str w3, .str w4'] := cut_take (i := 4)
    rw [c1]
    have D3 := D2.own (o := .lst [.str w1, .str w2, .str w3, .str w4']) hq
    have h3 : (upd H2 q (.lst [.str w1, .str w2, .str w3, .str w4'])) q = some (.lst [.str w1, .str w2, .str w3, .str w4']) := upd_same
    generalize upd H2 q (.lst [.str w1, .str w2, .str w3, .str w4']) = H3 at D3 h3 ⊢
    refine g_glst (xs := [.str w1, .str w2, .str w3, .str w4']) (SqL.of h3) rfl ?_
    iterate 9 walk_at "g1"
    refine st_norm [some (.ref p), some (.ref wd), some (.int way), some (.ref r), some (.str x1), some (.str x2), some (.str x3), some (.str x4), some (.str w1), some (.str w2), some (.str w3), some (.str w4'), none] ?_
    have D4 := D3.less (M := L) L0 (by omega)
    have wn4 : w1 ≠ w2 ∧ w3 ≠ w4' := by
      simp only [List.nodup_cons, List.mem_cons, not_or] at wnd
      exact ⟨wnd.1.1, wnd.2.2.1.1⟩
    have wp4 : spelt w1 = true ∧ spelt w2 = true ∧ spelt w3 = true ∧ spelt w4' = true := ⟨wsp _ (by simp), wsp _ (by simp), wsp _ (by simp), wsp _ (by simp)⟩
    have xn4 : x1 ≠ x2 ∧ x1 ≠ x3 ∧ x1 ≠ x4 ∧ x2 ≠ x3 ∧ x2 ≠ x4 ∧ x3 ≠ x4 := by
      simp only [List.nodup_cons, List.mem_cons, not_or, List.not_mem_nil] at sn
      exact ⟨sn.1.1, sn.1.2.1, sn.1.2.2.1, sn.2.1.1, sn.2.1.2.1, sn.2.2.1.1⟩
    have xp4 : spelt x1 = true ∧ spelt x2 = true ∧ spelt x3 = true ∧ spelt x4 = true := ⟨ssp _ (by simp), ssp _ (by simp), ssp _ (by simp), ssp _ (by simp)⟩
    have row2 : ∀ (kd u v y z : Str), (kd = "says" ∨ kd = "hears") → u ≠ v → spelt u = true → spelt v = true → spelt y = true → spelt z = true → RowOk (kd, [(u, y), (v, z)]) := fun kd u v y z hk ne a b c d =>
      ⟨hk.elim .inl fun h => .inr (.inl h), ⟨fun q => absurd (show kd = "done" from q) (by rcases hk with h | h <;> rw [h] <;> decide +kernel), fun q => by cases q⟩, by simp [a, b, c, d], by simpa using ne, by show 2 ≤ 20; decide⟩
    have row1 : ∀ (kd u y : Str), (kd = "says" ∨ kd = "hears") → spelt u = true → spelt y = true → RowOk (kd, [(u, y)]) := fun kd u y hk a c =>
      ⟨hk.elim .inl fun h => .inr (.inl h), ⟨fun q => absurd (show kd = "done" from q) (by rcases hk with h | h <;> rw [h] <;> decide +kernel), fun q => by cases q⟩, by simp [a, c], by simp, by show 1 ≤ 20; decide⟩
    have row0 : RowOk ("done", []) := ⟨.inr (.inr rfl), ⟨fun _ => rfl, fun _ => rfl⟩, by simp, List.nodup_nil, by show 0 ≤ 20; decide⟩
    have fin : ∀ (b : Addr) (wb : Book) (G5 H5 : Hp), Nxt none G2 H3 G5 H5 → BookAt G5 b wb → BookOk wb → x1 ∈ wb.map (·.1) → wb.length ≤ 4 →
        (2 ≤ sizeLine ∧ ∀ a, H5 a = none → Q (.ref a) (upd H5 a (.lst [.ref b, .str x1]))) := fun b wb G5 H5 N5 hb ok hs few => by
      refine ⟨by decide, fun a ha => ?_⟩
      have D5 := (D4.step N5).new (o := .lst [.ref b, .str x1]) ha
      exact k a wb x1 _ _ D5.n D5.p ⟨b, upd_same, hb.mono (Ex.new (N5.gh.back ha))⟩ ok hs few
    have e23 := D3.p.ex
    have bok : ∀ wb : Book, wb ≠ [] → (wb.map (·.1)).Nodup → wb.length ≤ 4 → (∀ q ∈ wb, spelt q.1 = true ∧ RowOk q.2 ∧ ∀ z ∈ q.2.2, z.2 ∈ wb.map (·.1)) → BookOk wb := fun wb a b c d => ⟨a, b, fun q hq => (d q hq).1, fun q hq => (d q hq).2.1, fun q hq z hz => (d q hq).2.2 z hz, by omega⟩
    obtain ⟨wn1, wn2⟩ := wn4
    obtain ⟨wp1, wp2, wp3, wp4⟩ := wp4
    obtain ⟨n12, n13, n14, n23, n24, n34⟩ := xn4
    obtain ⟨xp1, xp2, xp3, xp4⟩ := xp4
    walk_at "go"
    by_cases hw0 : way = 0
    · rw [decide_eq_true hw0]
      refine g_ite ?_
      walk_at "g1"
      walk_at "g1"
      walk_at "g1"
      refine disp_book (G0 := G2) (bk := [(x1, ("says", [(w1, x1), (w2, x2)])), (x2, ("done", []))]) (.cons ⟨teS_var, row_tup (disp_turns (.cons ⟨teS_var, teS_var⟩ (.cons ⟨teS_var, teS_var⟩ .nil)) (by simpa using wn1) (by show 2 ≤ 15; decide))⟩ (.cons ⟨teS_var, row_tup dnew_turns⟩ .nil)) (by simpa using n12) (by show 2 ≤ 15; decide) G2 H3 _ (Ex.refl _) e23 (fun b G5 H5 N5 hb => ?_)
      walk_at "go"
      refine fin b _ _ _ N5 hb (bok _ (by simp) (by simpa using n12) (by show 2 ≤ 4; decide) ?_) (by simp) (by show 2 ≤ 4; decide)
      intro q hq
      simp only [List.mem_cons, List.not_mem_nil, or_false] at hq
      rcases hq with rfl | rfl
      · exact ⟨xp1, row2 _ _ _ _ _ (.inl rfl) wn1 wp1 wp2 xp1 xp2, by simp⟩
      · exact ⟨xp2, row0, by simp⟩
    · rw [decide_eq_false hw0]
      refine g_itf ?_
      walk_at "go"
      by_cases hw1 : way = 1
      · rw [decide_eq_true hw1]
        refine g_ite ?_
        walk_at "g1"
        walk_at "g1"
        walk_at "g1"
        refine disp_book (G0 := G2) (bk := [(x1, ("says", [(w1, x2), (w2, x3)])), (x2, ("says", [(w3, x1), (w4', x3)])), (x3, ("done", []))]) (.cons ⟨teS_var, row_tup (disp_turns (.cons ⟨teS_var, teS_var⟩ (.cons ⟨teS_var, teS_var⟩ .nil)) (by simpa using wn1) (by show 2 ≤ 15; decide))⟩ (.cons ⟨teS_var, row_tup (disp_turns (.cons ⟨teS_var, teS_var⟩ (.cons ⟨teS_var, teS_var⟩ .nil)) (by simpa using wn2) (by show 2 ≤ 15; decide))⟩ (.cons ⟨teS_var, row_tup dnew_turns⟩ .nil))) (by simp [n12, n13, n23]) (by show 3 ≤ 15; decide) G2 H3 _ (Ex.refl _) e23 (fun b G5 H5 N5 hb => ?_)
        walk_at "go"
        refine fin b _ _ _ N5 hb (bok _ (by simp) (by simp [n12, n13, n23]) (by show 3 ≤ 4; decide) ?_) (by simp) (by show 3 ≤ 4; decide)
        intro q hq
        simp only [List.mem_cons, List.not_mem_nil, or_false] at hq
        rcases hq with rfl | rfl | rfl
        · exact ⟨xp1, row2 _ _ _ _ _ (.inl rfl) wn1 wp1 wp2 xp2 xp3, by simp⟩
        · exact ⟨xp2, row2 _ _ _ _ _ (.inl rfl) wn2 wp3 wp4 xp1 xp3, by simp⟩
        · exact ⟨xp3, row0, by simp⟩
      · rw [decide_eq_false hw1]
        refine g_itf ?_
        walk_at "g1"
        walk_at "g1"
        walk_at "g1"
        refine disp_bookO (G0 := G2) (bk := [(x1, ("hears", [(w1, x2), (w2, x3)])), (x2, ("says", [(w3, x1), (w4', x4)])), (x4, ("done", []))]) (.cons ⟨teS_var, row_tup (disp_turns (.cons ⟨teS_var, teS_var⟩ (.cons ⟨teS_var, teS_var⟩ .nil)) (by simpa using wn1) (by show 2 ≤ 15; decide))⟩ (.cons ⟨teS_var, row_tup (disp_turns (.cons ⟨teS_var, teS_var⟩ (.cons ⟨teS_var, teS_var⟩ .nil)) (by simpa using wn2) (by show 2 ≤ 15; decide))⟩ (.cons ⟨teS_var, row_tup dnew_turns⟩ .nil))) (by simp [n12, n14, n24]) (by show 3 ≤ 15; decide) G2 H3 _ (Ex.refl _) e23 (fun b rs G5 H5 N5 gb b0 hb hrs => ?_)
        walk_at "g1"
        walk_at "g1"
        with_reducible refine g_dput ?_
        refine te_J (fun v H' => ∃ (t : Addr) (G' : Hp) (r : Row), v = .ref t ∧ Nxt none G5 H5 G' H' ∧ RowAt G' t r ∧ RowOk r ∧ ∀ z ∈ r.2, z.2 ∈ [x1, x2, x4, x3]) (fun Q' hQ' => ?_) ?_
        · walk_at "g1"
          walk_at "go"
          refine g_ifb ?_ ?_
          · refine row_tup (G0 := G2) (disp_turns (ts := [(w3, x1), (w4', x4)]) (.cons ⟨teS_var, teS_var⟩ (.cons ⟨teS_var, teS_var⟩ .nil)) (by simpa using wn2) (by show 2 ≤ 15; decide)) G5 H5 _ N5.gg N5.gh (fun a G6 H6 N6 ha => ?_)
            exact hQ' _ _ ⟨a, G6, _, rfl, N6, ha, row2 _ _ _ _ _ (.inl rfl) wn2 wp3 wp4 xp1 xp4, by simp⟩
          · refine row_tup (G0 := G2) (disp_turns (ts := [(w3, x3)]) (.cons ⟨teS_var, teS_var⟩ .nil) (by simp) (by show 1 ≤ 15; decide)) G5 H5 _ N5.gg N5.gh (fun a G6 H6 N6 ha => ?_)
            exact hQ' _ _ ⟨a, G6, _, rfl, N6, ha, row1 _ _ _ (.inl rfl) wp3 xp3, by simp⟩
        · rintro v H6 ⟨t, G6, r6, rfl, N6, ht, okr, clr⟩
          obtain ⟨gb6, hb6⟩ := N6.keep gb hb
          have ek : putK (kvR rs) (Sum.inr x3 : Key) (.ref t) = kvR (rs ++ [(x3, t)]) := putK_kvG V.ref (by rw [hrs.keys]; simp [Ne.symm n13, Ne.symm n23, n34])
          have hr6 : RowsAt G6 (rs ++ [(x3, t)]) [(x1, ("hears", [(w1, x2), (w2, x3)])), (x2, ("says", [(w3, x1), (w4', x4)])), (x4, ("done", [])), (x3, r6)] := Paired.snoc (F := fun (p : Str × Addr) (q : Str × Row) => p.1 = q.1 ∧ RowAt G6 p.2 q.2) (a := (x3, t)) (b := (x3, r6)) (l₂ := [(x1, ("hears", [(w1, x2), (w2, x3)])), (x2, ("says", [(w3, x1), (w4', x4)])), (x4, ("done", []))]) (RowsAt.mono hrs N6.gg) ⟨rfl, ht⟩
          walk_at "go"
          refine ⟨b, _, rfl, DPut.s hb6 (by rw [kvR_len, hrs.len]; exact small1000 (by show 3 ≤ 1000; decide)), ?_⟩
          have N7 := ((N5.trans N6).mut (o := .dK (putK (kvR rs) (Sum.inr x3) (.ref t))) gb6 b0).frz gb6 upd_same b0
          rw [ek] at N7 ⊢
          walk_at "go"
          refine fin b _ _ _ N7 ⟨_, upd_same, RowsAt.mono hr6 (Ex.new gb6)⟩ (bok _ (by simp) (by simp [n12, n13, n14, n23, n24, Ne.symm n34]) (by show 4 ≤ 4; decide) ?_) (by simp) (by show 4 ≤ 4; decide)
          intro q hq
          simp only [List.mem_cons, List.not_mem_nil, or_false] at hq
          rcases hq with rfl | rfl | rfl | rfl
          · exact ⟨xp1, row2 _ _ _ _ _ (.inr rfl) wn1 wp1 wp2 xp2 xp3, by simp⟩
          · exact ⟨xp2, row2 _ _ _ _ _ (.inl rfl) wn2 wp3 wp4 xp1 xp4, by simp⟩
          · exact ⟨xp4, row0, by simp⟩
          · exact ⟨xp3, okr, clr⟩
end
end K69
set_option Elab.async false
set_option linter.all false
set_option maxRecDepth 100000
set_option maxHeartbeats 4000000
namespace K69
open PySem PySem.Spec PyProof.Rows L2
theorem book0_ok {s : Str} (hs : spelt s = true) : BookOk [(s, ("done", []))] := by
  refine ⟨by simp, by simp, fun q hq => ?_, fun q hq => ?_, fun q hq => ?_, by show 1 ≤ 26; decide⟩
  all_goals (rw [List.mem_singleton.mp hq])
  · exact hs
  · exact ⟨.inr (.inr rfl), ⟨fun _ => rfl, fun _ => rfl⟩, by simp, List.nodup_nil, by show 0 ≤ 20; decide⟩
  · simp
theorem g_ifc {b : Bool} {A B : Prop} (h1 : b = true → A) (h2 : b = false → B) : if b = true then A else B := by
  cases b
  · exact iteF (h2 rfl)
  · exact iteT (h1 rfl)
theorem world_use {p wd : Addr} {ws : List Str} {m top L : Int} {G H : Hp} {Q : VK} {E : XK} (h : Pur p (L + 300) G H) (L0 : 0 ≤ L) (g : G wd = some (.lst (ws.map V.str))) (w0 : 0 < ws.length) (w6 : ws.length ≤ 6) (wn : ws.Nodup) (wsp : ∀ x ∈ ws, spelt x = true) (m0 : 1 ≤ m) (m1 : m ≤ 6) (t0 : 1 ≤ top) (t1 : top ≤ 6)
    (k : ∀ (a : Addr) (wb : Book) (s : Str) (G' H' : Hp), Nxt (some p) G H G' H' → Pur p L G' H' → WorldAt G' a wb s → BookOk wb → s ∈ wb.map (·.1) → (wb.length : Int) ≤ m → Q (.ref a) H') : sp_world [.ref p, .int m, .ref wd, .int top] H Q E := by
  obtain ⟨n, rfl⟩ := Int.eq_ofNat_of_zero_le (show 0 ≤ m by omega)
  exact ⟨p, wd, ws, n, top, L, G, rfl, h, L0, g, List.length_pos_iff.mp w0, w6, wn, wsp, by omega, by omega, t0, t1, fun a wb s G' H' N P W ok hs few => k a wb s G' H' N P W ok hs (by omega)⟩
section
variable {P : Program} {w : World} {K : PySem.W.Frag} {mg : Str → Option Value} {base : Heap} {C : Addr}
local macro_rules | `(tactic| walk_at "lk") => `(tactic| first | assumption | exact upd_same | exact (by assumption : Ex _ _) _ _ (by assumption))
local macro_rules | `(tactic| walk_at "g1") => `(tactic| first
  | with_reducible refine g_seq ?_ | with_reducible refine g_asg ?_ | with_reducible refine g_name ?_ | with_reducible refine g_cons ?_ | with_reducible refine g_nil ?_
  | ((with_reducible refine' g_var ?e ?_); (case e => exact rfl)) | with_reducible refine g_C ?_ | with_reducible refine g_op ?_ | with_reducible refine g_fld0 ?_ | with_reducible refine g_dget ?_ | with_reducible refine g_cb ?_ | with_reducible refine g_call ?_
  | with_reducible refine g_ret ?_ | with_reducible refine g_ifS ?_ | with_reducible refine g_test ?_ | with_reducible refine g_B ?_ | with_reducible refine g_bl ?_ | with_reducible refine g_not ?_ | with_reducible refine g_or ?_ | with_reducible refine g_and ?_
  | with_reducible refine g_ite ?_ | with_reducible refine g_itf ?_ | with_reducible refine g_itnt ?_ | with_reducible refine g_itnf ?_ | with_reducible refine g_eqS ?_ | with_reducible refine g_neS ?_ | with_reducible refine g_neI ?_ | with_reducible refine g_eqB ?_ | with_reducible refine g_neB ?_ | with_reducible refine g_eqI ?_ | with_reducible refine g_rI0 ?_ | with_reducible refine g_ipI ?_ | with_reducible refine g_int ?_
  | with_reducible refine g_drop ?_ | with_reducible refine g_next ?_ | with_reducible refine g_bm ?_ | with_reducible refine g_bm0 ?_ | with_reducible refine g_din ?_ | with_reducible refine g_dnotin ?_ | with_reducible refine g_dput ?_ | ((with_reducible refine' g_aug ?e ?_); (case e => exact rfl))
  | with_reducible refine g_andV ?_ | with_reducible refine g_orV ?_ | with_reducible refine g_notV ?_ | with_reducible refine g_if ?_ | with_reducible refine g_isN ?_ | with_reducible refine g_notN ?_ | with_reducible refine g_sl ?_ | with_reducible refine g_nopart ?_ | with_reducible refine g_part ?_
  | with_reducible refine g_gcons ?_ | with_reducible refine g_gnil ?_ | with_reducible refine g_par2 ?_ | with_reducible refine g_par3 ?_ | with_reducible refine g_vw ?_ | with_reducible refine g_uvw ?_ | with_reducible refine g_yes ?_ | with_reducible refine g_un ?_ | with_reducible refine g_rU ?_ | with_reducible refine g_gsub ?_ | with_reducible refine g_chain ?_ | with_reducible refine g_for ?_ | with_reducible refine g_istr ?_ | with_reducible refine g_ilist ?_ | with_reducible refine g_itup ?_ | with_reducible refine g_ikeys ?_ | with_reducible refine g_ivals ?_ | with_reducible refine g_iitems ?_ | with_reducible refine g_irng1 ?_ | with_reducible refine g_izip ?_ | with_reducible refine g_while ?_ | with_reducible refine g_tru _ ?_ | with_reducible refine g_lc ?_ | with_reducible refine g_dc ?_ | with_reducible refine g_lc2 ?_ | with_reducible refine g_tup ?_ | with_reducible refine g_lst ?_ | with_reducible refine g_dnew ?_ | with_reducible refine g_sfld ?_ | with_reducible refine g_dget2 ?_ | with_reducible refine g_dzip ?_ | with_reducible refine g_dnewT ?_ | with_reducible refine g_dispT ?_ | with_reducible refine g_star ?_ | with_reducible refine g_disp ?_ | with_reducible refine g_prs ?_ | with_reducible refine g_prs0 ?_ | with_reducible refine g_sc ?_ | with_reducible refine g_make ?_ | with_reducible refine g_meth ?_
  | ((with_reducible refine' g_ixT ?h ?e ?_); (case h => walk_at "lk"); (case e => exact rfl)) | ((with_reducible refine' g_ixL ?h ?e ?_); (case h => walk_at "lk"); (case e => exact rfl))
  | ((with_reducible refine' g_fldK ?h ?c ?n ?l ?_); (case h => walk_at "lk"); (case c => exact C8.InsC.cl (Txt.insC (by assumption))); (case n => first | exact Txt.nR (by assumption) | exact Txt.nF (by assumption)); (case l => exact rfl)))
local macro_rules | `(tactic| walk_at "go") => `(tactic| (repeat walk_at "g1"))
local macro_rules | `(tactic| walk_at "ty") => `(tactic| first | exact .base (.str _) | exact .base .non | exact .base (.bl _) | exact .base (.int _) | exact .base (.tup (by assumption)) | exact .base (.lst (by assumption)) | exact .base (.dK (by assumption)) | exact .fDict (by assumption))
abbrev sl_row_of : Stmt := topS 49
abbrev Nl_row_of : List Str := ["_law_purse_here", "_law_top", "_law_pool_here", "_law_words_here"]
theorem scl_row_of : FnScope Nl_row_of ["_law_purse_here", "_law_top"] (defScope sl_row_of) := ⟨rfl, rfl, rfl, by decide +kernel, rfl, by decide +kernel, by decide +kernel⟩
def sp_row_of : Sp := fun vs H Q _ => ∃ (p : Addr) (L : Int) (G : Hp), vs = [.ref p, .int 5] ∧ Pur p (L + 500) G H ∧ 0 ≤ L ∧
  ∀ (r a wd : Addr) (wb : Book) (s : Str) (G' H' : Hp), Nxt (some p) G H G' H' → Pur p L G' H' → G' r = some (.lst [.ref a, .ref wd]) → WorldAt G' a wb s → BookOk wb → s ∈ wb.map (·.1) → wb.length ≤ 6 → Q (.ref r) H'
theorem cal_row_of (F : Has K mg "_law_row_of" sl_row_of) (T : Txt K w mg C) (c_law_draw : Cal P w K mg base 2 "_law_draw" sp_draw) (c_law_pool : Cal P w K mg base 5 "_law_pool" sp_pool) (c_law_world : Cal P w K mg base 5 "_law_world" sp_world)
    (c_law_shape : Cal P w K mg base 5 "_law_shape" sp_shape) : Cal P w K mg base 6 "_law_row_of" sp_row_of := by
  refine F.cal (fun _ _ _ _ _ _ us hl => match us, hl with | [_, _], _ => rfl) scl_row_of (fun vs H Q E h => ?_) (fun f cdv A outer s H vs Q E hr h => ?_)
  · obtain ⟨_, _, _, rfl, _⟩ := h; rfl
  · obtain ⟨p, L, G, rfl, pu, L0, k⟩ := h
    have nd := scl_row_of.nd
    have hu := hu_of hr
    refine ⟨_, (pss_cons (ps_set (i := 2) nd rfl (Or.inl rfl) (kc c_law_pool hr (pa_cons (pv 0) pa_nil)))
  (pss_cons (ps_if (pt_cmpR op_eq (kc c_law_draw hr (pa_cons (pv 0) (pa_cons pe_int pa_nil))) pe_int (nomark _))
    (pss_one (ps_ret (pe_lst (pa_cons (kc c_law_world hr (pa_cons (pv 0) (pa_cons (pe_op op_add pe_int (kc c_law_draw hr (pa_cons (pv 0) (pa_cons (pv 1) pa_nil)))) (pa_cons (pe_slice (kSlL K) (pv 2) po_none (po_some pe_int)) (pa_cons pe_int pa_nil))))) (pa_cons (pe_slice (kSlL K) (pv 2) po_none (po_some pe_int)) pa_nil))))) pss_nil)
  (pss_cons (ps_set (i := 3) nd rfl (Or.inl rfl) (pe_slice (kSlL K) (pv 2) po_none (po_some (pe_op op_add pe_int (kc c_law_draw hr (pa_cons (pv 0) (pa_cons (pe_callB (call_min2 rfl) (by rfl) T.min (by decide +kernel) (pa_cons pe_int (pa_cons (pe_callB (kLen K) (by rfl) T.len (by decide +kernel) (pa_cons (pv 2) pa_nil)) pa_nil))) pa_nil)))))))
  (pss_cons (ps_if (PW.pt (pw_and (pt_cmpR op_gt (pe_callB (kLen K) (by rfl) T.len (by decide +kernel) (pa_cons (pv 3) pa_nil)) pe_int (nomark _)) (pw_and1 (pt_cmpR op_eq (kc c_law_draw hr (pa_cons (pv 0) (pa_cons pe_int pa_nil))) pe_int (nomark _)))))
    (pss_one (ps_ret (pe_lst (pa_cons (kc c_law_shape hr (pa_cons (pv 0) (pa_cons (pv 3) pa_nil))) (pa_cons (pv 3) pa_nil))))) pss_nil)
  (pss_one (ps_ret (pe_lst (pa_cons (kc c_law_world hr (pa_cons (pv 0) (pa_cons (pe_op op_add pe_int (kc c_law_draw hr (pa_cons (pv 0) (pa_cons (pv 1) pa_nil)))) (pa_cons (pv 3) (pa_cons pe_int pa_nil))))) (pa_cons (pv 3) pa_nil))))))))), ?_⟩
    have D0 : Dn p (L + 500) G H G H := Dn.start pu
    have fin : ∀ (a wd : Addr) (wb : Book) (s : Str) (G5 H5 : Hp), Dn p L G H G5 H5 → WorldAt G5 a wb s → BookOk wb → s ∈ wb.map (·.1) → wb.length ≤ 6 →
        (2 ≤ sizeLine ∧ ∀ r, H5 r = none → Q (.ref r) (upd H5 r (.lst [.ref a, .ref wd]))) := fun a wd wb s G5 H5 D5 W ok hs few => by
      refine ⟨by decide, fun r hr => ?_⟩
      have D6 := D5.new (o := .lst [.ref a, .ref wd]) hr
      exact k r a wd wb s _ _ D6.n D6.p upd_same (W.mono (Ex.new (D5.gnone hr))) ok hs few
    walk_at "go"
    refine ⟨p, L + 380, G, rfl, by rw [show L + 380 + 120 = L + 500 by omega]; exact pu, by omega, fun q ws G1 H1 N1 P1 g1 _ wl wn wsp => ?_⟩
    have D1 := D0.drw N1 P1
    walk_at "go"
    refine draw_use (G := G1) (L := L + 379) (D1.p.less (by omega) (by omega)) (by omega) (by decide) (by decide) (fun r0 H2 _ _ N2 P2 => ?_)
    have D2 := D1.drw N2 P2
    walk_at "go"
    refine g_ifb ?_ ?_
    · walk_at "go"
      refine draw_use (G := G1) (L := L + 378) (D2.p.less (by omega) (by omega)) (by omega) (by decide) (by decide) (fun r1 H3 a0 a1 N3 P3 => ?_)
      have D3 := D2.drw N3 P3
      obtain ⟨n, rfl⟩ := Int.eq_ofNat_of_zero_le a0
      walk_at "go"
      refine ⟨q, _, rfl, SqL.of (D3.at g1), fun s1 hs1 => ?_⟩
      have c1 : cutV (ws.map V.str) none (some 6) = (ws.take 6).map V.str := by rw [List.map_take]; exact cut_take (i := 6)
      rw [c1, List.take_of_length_le (by omega)]
      have D4 := D3.new (o := .lst (ws.map V.str)) hs1
      have g4 : (upd G1 s1 (.lst (ws.map V.str))) s1 = some (.lst (ws.map V.str)) := upd_same
      have e4 : Ex G1 (upd G1 s1 (.lst (ws.map V.str))) := Ex.new (D3.gnone hs1)
      generalize upd G1 s1 (.lst (ws.map V.str)) = G4 at D4 g4 e4
      generalize upd H3 s1 (.lst (ws.map V.str)) = H4 at D4 ⊢
      walk_at "go"
      refine world_use (G := G4) (L := L) (D4.p.less (by omega) (by omega)) L0 g4 (by omega) (by omega) wn wsp (by omega) (by omega) (by decide) (by decide) (fun a wb s G5 H5 N5 P5 W ok hs few => ?_)
      have D5 := D4.drw N5 P5
      walk_at "go"
      refine ⟨q, _, rfl, SqL.of (D5.at (N5.gg _ _ (e4 _ _ g1))), fun s2 hs2 => ?_⟩
      have D6 := D5.own (o := .lst (cutV (ws.map V.str) none (some 6))) hs2
      generalize upd H5 s2 (.lst (cutV (ws.map V.str) none (some 6))) = H6 at D6 ⊢
      walk_at "go"
      exact fin a s2 wb s G5 H6 D6 W ok hs (by omega)
    · walk_at "go"
      refine ⟨q, _, rfl, .inl (SqL.of (D2.at g1)), ?_⟩
      walk_at "go"
      refine ⟨_, _, rfl, ?_⟩
      rw [List.length_map, wl]
      walk_at "go"
      refine draw_use (G := G1) (L := L + 378) (D2.p.less (by omega) (by omega)) (by omega) (by decide) (by decide) (fun r1 H3 a0 a1 N3 P3 => ?_)
      have D3 := D2.drw N3 P3
      obtain ⟨n, rfl⟩ := Int.eq_ofNat_of_zero_le a0
      have n4 : n < 5 := by
        have : (n : Int) < 5 := a1
        omega
      walk_at "go"
      refine ⟨q, _, rfl, SqL.of (D3.at g1), fun s1 hs1 => ?_⟩
      have c1 : cutV (ws.map V.str) none (some (1 + (n : Int))) = (ws.take (n + 1)).map V.str := by
        rw [show (1 + (n : Int)) = ((n + 1 : Nat) : Int) by omega, List.map_take]; exact cut_take (i := n + 1)
      rw [c1]
      have vl : (ws.take (n + 1)).length = n + 1 := by rw [List.length_take]; omega
      have vn : (ws.take (n + 1)).Nodup := wn.sublist (List.take_sublist _ _)
      have vsp : ∀ x ∈ ws.take (n + 1), spelt x = true := fun x hx => wsp x (List.mem_of_mem_take hx)
      generalize ws.take (n + 1) = vs at vl vn vsp ⊢
      have D4 := D3.new (o := .lst (vs.map V.str)) hs1
      have g4 : (upd G1 s1 (.lst (vs.map V.str))) s1 = some (.lst (vs.map V.str)) := upd_same
      generalize upd G1 s1 (.lst (vs.map V.str)) = G4 at D4 g4
      generalize upd H3 s1 (.lst (vs.map V.str)) = H4 at D4 ⊢
      walk_at "go"
      refine ⟨s1, _, rfl, .inl (SqL.of (D4.at g4)), ?_⟩
      rw [List.length_map, vl]
      walk_at "go"
      refine g_ifc (fun hc => ?_) (fun hc => ?_)
      · walk_at "go"
        refine draw_use (G := G4) (L := L + 377) (D4.p.less (by omega) (by omega)) (by omega) (by decide) (by decide) (fun r5 H5 _ _ N5 P5 => ?_)
        have D5 := D4.drw N5 P5
        walk_at "go"
        refine g_ifb ?_ ?_
        · walk_at "go"
          have hc : 3 < n + 1 := by have := of_decide_eq_true hc; omega
          refine ⟨p, s1, vs, L, G4, rfl, D5.p.less (by omega) (by omega), L0, g4, by omega, vn, vsp, fun a wb s G7 H7 N7 P7 W ok hs few => ?_⟩
          have D7 := D5.drw N7 P7
          walk_at "go"
          exact fin a s1 wb s G7 H7 D7 W ok hs (by omega)
        · walk_at "go"
          walk_at "go"
          refine draw_use (G := G4) (L := L + 301) (D5.p.less (by omega) (by omega)) (by omega) (by decide) (by decide) (fun r7 H6 c0 c1 N6 P6 => ?_)
          have D6 := D5.drw N6 P6
          walk_at "go"
          refine world_use (G := G4) (L := L) (D6.p.less (by omega) (by omega)) L0 g4 (by omega) (by omega) vn vsp (by omega) (by omega) (by decide) (by decide) (fun a wb s G7 H7 N7 P7 W ok hs few => ?_)
          have D7 := D6.drw N7 P7
          walk_at "go"
          exact fin a s1 wb s G7 H7 D7 W ok hs (by omega)
      · walk_at "go"
        walk_at "go"
        refine draw_use (G := G4) (L := L + 301) (D4.p.less (by omega) (by omega)) (by omega) (by decide) (by decide) (fun r7 H6 c0 c1 N6 P6 => ?_)
        have D6 := D4.drw N6 P6
        walk_at "go"
        refine world_use (G := G4) (L := L) (D6.p.less (by omega) (by omega)) L0 g4 (by omega) (by omega) vn vsp (by omega) (by omega) (by decide) (by decide) (fun a wb s G7 H7 N7 P7 W ok hs few => ?_)
        have D7 := D6.drw N7 P7
        walk_at "go"
        exact fin a s1 wb s G7 H7 D7 W ok hs (by omega)
end
end K69
set_option Elab.async false
set_option linter.all false
set_option maxRecDepth 100000
set_option maxHeartbeats 4000000
namespace K69
open PySem PySem.Spec PyProof.Rows L2
section
variable {P : Program} {w : World} {K : PySem.W.Frag} {mg : Str → Option Value} {base : Heap} {C : Addr}
local macro_rules | `(tactic| walk_at "lk") => `(tactic| first | assumption | exact upd_same | exact (by assumption : Ex _ _) _ _ (by assumption))
local macro_rules | `(tactic| walk_at "g1") => `(tactic| first
  | with_reducible refine g_seq ?_ | with_reducible refine g_asg ?_ | with_reducible refine g_name ?_ | with_reducible refine g_cons ?_ | with_reducible refine g_nil ?_
  | ((with_reducible refine' g_var ?e ?_); (case e => exact rfl)) | with_reducible refine g_C ?_ | with_reducible refine g_op ?_ | with_reducible refine g_fld0 ?_ | with_reducible refine g_dget ?_ | with_reducible refine g_cb ?_ | with_reducible refine g_call ?_
  | with_reducible refine g_ret ?_ | with_reducible refine g_ifS ?_ | with_reducible refine g_test ?_ | with_reducible refine g_B ?_ | with_reducible refine g_bl ?_ | with_reducible refine g_not ?_ | with_reducible refine g_or ?_ | with_reducible refine g_and ?_
  | with_reducible refine g_ite ?_ | with_reducible refine g_itf ?_ | with_reducible refine g_itnt ?_ | with_reducible refine g_itnf ?_ | with_reducible refine g_eqS ?_ | with_reducible refine g_neS ?_ | with_reducible refine g_neI ?_ | with_reducible refine g_eqB ?_ | with_reducible refine g_neB ?_ | with_reducible refine g_eqI ?_ | with_reducible refine g_rI0 ?_ | with_reducible refine g_ipI ?_ | with_reducible refine g_int ?_
  | with_reducible refine g_drop ?_ | with_reducible refine g_next ?_ | with_reducible refine g_bm ?_ | with_reducible refine g_bm0 ?_ | with_reducible refine g_din ?_ | with_reducible refine g_dnotin ?_ | with_reducible refine g_dput ?_ | ((with_reducible refine' g_aug ?e ?_); (case e => exact rfl))
  | with_reducible refine g_andV ?_ | with_reducible refine g_orV ?_ | with_reducible refine g_notV ?_ | with_reducible refine g_if ?_ | with_reducible refine g_isN ?_ | with_reducible refine g_notN ?_ | with_reducible refine g_sl ?_ | with_reducible refine g_nopart ?_ | with_reducible refine g_part ?_
  | with_reducible refine g_gcons ?_ | with_reducible refine g_gnil ?_ | with_reducible refine g_par2 ?_ | with_reducible refine g_par3 ?_ | with_reducible refine g_vw ?_ | with_reducible refine g_uvw ?_ | with_reducible refine g_yes ?_ | with_reducible refine g_un ?_ | with_reducible refine g_rU ?_ | with_reducible refine g_gsub ?_ | with_reducible refine g_chain ?_ | with_reducible refine g_for ?_ | with_reducible refine g_istr ?_ | with_reducible refine g_ilist ?_ | with_reducible refine g_itup ?_ | with_reducible refine g_ikeys ?_ | with_reducible refine g_ivals ?_ | with_reducible refine g_iitems ?_ | with_reducible refine g_irng1 ?_ | with_reducible refine g_izip ?_ | with_reducible refine g_while ?_ | with_reducible refine g_tru _ ?_ | with_reducible refine g_lc ?_ | with_reducible refine g_dc ?_ | with_reducible refine g_lc2 ?_ | with_reducible refine g_tup ?_ | with_reducible refine g_lst ?_ | with_reducible refine g_dnew ?_ | with_reducible refine g_sfld ?_ | with_reducible refine g_dget2 ?_ | with_reducible refine g_dzip ?_ | with_reducible refine g_dnewT ?_ | with_reducible refine g_dispT ?_ | with_reducible refine g_star ?_ | with_reducible refine g_disp ?_ | with_reducible refine g_prs ?_ | with_reducible refine g_prs0 ?_ | with_reducible refine g_sc ?_ | with_reducible refine g_make ?_ | with_reducible refine g_meth ?_
  | ((with_reducible refine' g_ixT ?h ?e ?_); (case h => walk_at "lk"); (case e => exact rfl)) | ((with_reducible refine' g_ixL ?h ?e ?_); (case h => walk_at "lk"); (case e => exact rfl))
  | ((with_reducible refine' g_fldK ?h ?c ?n ?l ?_); (case h => walk_at "lk"); (case c => exact C8.InsC.cl (Txt.insC (by assumption))); (case n => first | exact Txt.nR (by assumption) | exact Txt.nF (by assumption)); (case l => exact rfl)))
local macro_rules | `(tactic| walk_at "go") => `(tactic| (repeat walk_at "g1"))
local macro_rules | `(tactic| walk_at "ty") => `(tactic| first | exact .base (.str _) | exact .base .non | exact .base (.bl _) | exact .base (.int _) | exact .base (.tup (by assumption)) | exact .base (.lst (by assumption)) | exact .base (.dK (by assumption)) | exact .fDict (by assumption))
abbrev sl_part : Stmt := topS 55
abbrev Nl_part : List Str := ["_law_purse_here", "_law_words_here", "_law_top", "_law_world_here", "_law_turn"]
theorem scl_part : FnScope Nl_part ["_law_purse_here", "_law_words_here", "_law_top"] (defScope sl_part) := ⟨rfl, rfl, rfl, by decide +kernel, rfl, by decide +kernel, by decide +kernel⟩
def sp_part : Sp := fun vs H Q _ => ∃ (p wd : Addr) (ws : List Str) (top L : Int) (G : Hp), vs = [.ref p, .ref wd, .int top] ∧ Pur p (L + 2000) G H ∧ 0 ≤ L ∧ G wd = some (.lst (ws.map V.str)) ∧
  0 < ws.length ∧ ws.length ≤ 6 ∧ ws.Nodup ∧ (∀ x ∈ ws, spelt x = true) ∧ 1 ≤ top ∧ top ≤ 6 ∧
  ∀ (a : Addr) (wb : Book) (s : Str) (G' H' : Hp), Nxt (some p) G H G' H' → Pur p L G' H' → WorldAt G' a wb s → BookOk wb → s ∈ wb.map (·.1) → (wb.length : Int) ≤ top → Q (.ref a) H'
theorem cal_part (F : Has K mg "_law_part" sl_part) (T : Txt K w mg C) (c_law_draw : Cal P w K mg base 2 "_law_draw" sp_draw) (c_law_world : Cal P w K mg base 5 "_law_world" sp_world) (c_law_viable : Cal P w K mg base 1 "_law_viable" sp_viable) :
    Cal P w K mg base 6 "_law_part" sp_part := by
  refine F.cal (fun _ _ _ _ _ _ us hl => match us, hl with | [_, _, _], _ => rfl) scl_part (fun vs H Q E h => ?_) (fun f cdv A outer s H vs Q E hr h => ?_)
  · obtain ⟨_, _, _, _, _, _, rfl, _⟩ := h; rfl
  · obtain ⟨p, wd, ws, top, L, G, rfl, pu, L0, hwd, w0, w6, wn, wsp, t0, t6, k⟩ := h
    have nd := scl_part.nd
    have hu := hu_of hr
    refine ⟨_, (pss_cons (ps_set (i := 3) nd rfl (Or.inl rfl) (kc c_law_world hr (pa_cons (pv 0) (pa_cons (pe_op op_add pe_int (kc c_law_draw hr (pa_cons (pv 0) (pa_cons (pv 2) pa_nil)))) (pa_cons (pv 1) (pa_cons pe_int pa_nil))))))
  (pss_cons (ps_for PassesOwn.never rfl (pi_range1 (by rfl) T.range (pa_cons (pe_op op_mul pe_int (pe_callTy call_int1 (by rfl) T.tint (by decide +kernel) (pa_cons (pe_cmpR op_gt (kc c_law_draw hr (pa_cons (pv 0) (pa_cons pe_int pa_nil))) pe_int (nomark _)) pa_nil))) pa_nil)) (pg_name (i := 4) nd rfl (Or.inl rfl))
    (pss_one (ps_if (pt_cmpR (kNotIn K) (pe_ix (kIxL K) (pv 3) pe_int (fun _ _ => rfl)) (kc c_law_viable hr (pa_cons (pv 3) pa_nil)) rfl)
      (pss_one (ps_set (i := 3) nd rfl (Or.inl rfl) (kc c_law_world hr (pa_cons (pv 0) (pa_cons (pe_op op_add pe_int (kc c_law_draw hr (pa_cons (pv 0) (pa_cons (pv 2) pa_nil)))) (pa_cons (pv 1) (pa_cons pe_int pa_nil))))))) pss_nil)))
  (pss_cons (ps_if (pt_cmpR op_eq (kc c_law_draw hr (pa_cons (pv 0) (pa_cons pe_int pa_nil))) pe_int (nomark _))
    (pss_one (ps_set (i := 3) nd rfl (Or.inl rfl) (pe_lst (pa_cons (pe_disp (pps_cons (pe_ix (kIxL K) (pv 3) pe_int (fun _ _ => rfl)) (pe_tup (pa_cons pe_str (pa_cons pe_dnewK pa_nil))) pps_nil) (by rfl) (by rfl) (fun z => by cases z) (by decide)) (pa_cons (pe_ix (kIxL K) (pv 3) pe_int (fun _ _ => rfl)) pa_nil))))) pss_nil)
  (pss_one (ps_ret (pv 3)))))), ?_⟩
    have D0 : Dn p (L + 2000) G H G H := Dn.start pu
    walk_at "go"
    refine draw_use (G := G) (L := L + 1999) (pu.less (by omega) (by omega)) (by omega) (by omega) (by omega) (fun r0 H1 a0 a1 N1 P1 => ?_)
    have D1 := D0.drw N1 P1
    walk_at "go"
    refine world_use (G := G) (L := L + 1690) (D1.p.less (by omega) (by omega)) (by omega) hwd w0 w6 wn wsp (by omega) (by omega) (by decide) (by decide) (fun a wb s G2 H2 N2 P2 W ok hs few => ?_)
    have D2 := D1.drw N2 P2
    walk_at "go"
    refine draw_use (G := G2) (L := L + 1689) (D2.p.less (by omega) (by omega)) (by omega) (by decide) (by decide) (fun r3 H3 _ _ N3 P3 => ?_)
    have D3 := D2.drw N3 P3
    walk_at "go"
    refine .inr ⟨_, rfl, ?_⟩
    obtain ⟨n, en, n1⟩ : ∃ n : Int, (if decide (0 < r3) = true then (1 : Int) else 0) = n ∧ (n = 0 ∨ n = 1) := ⟨_, rfl, by split <;> simp⟩
    rw [en]
    walk_at "go"
    refine ⟨4, n, rfl, rfl, ?_, ?_⟩
    · constructor <;> omega
    walk_at "go"
    refine ⟨4 * n, rfl, by omega, by omega, ?_⟩
    refine for_it walk_range (fun i σ' H' => ∃ (a : Addr) (wb : Book) (s : Str) (Gi : Hp) (x4 : Option V), σ' = [some (.ref p), some (.ref wd), some (.int top), some (.ref a), x4] ∧ Dn p (L + 1689 - 400 * i) G H Gi H' ∧ WorldAt Gi a wb s ∧ BookOk wb ∧ s ∈ wb.map (·.1) ∧ (wb.length : Int) ≤ top)
      ⟨a, wb, s, G2, none, rfl, D3.less (by omega) (by omega), W, ok, hs, by omega⟩ (fun _ _ _ _ _ => trivial) ?_ ?_
    · rintro i y σ' _ H4 hi ⟨a, wb, s, G4, x4, rfl, D4, W, ok, hs, few⟩ ⟨rfl, rfl⟩
      have hi4 : (i : Int) < 4 := by
        have : (i : Int) < ((4 * n).toNat : Int) := by omega
        omega
      obtain ⟨b, ga, hb⟩ := W
      have W : WorldAt G4 a wb s := ⟨b, ga, hb⟩
      have ha4 := D4.at ga
      walk_at "go"
      refine ⟨a, wb, s, G4, rfl, D4.p.ex, W, ok, fun r l H5 e5 hr => ?_⟩
      have D5 := D4.step (Nxt.flat D4.p.ex e5)
      walk_at "go"
      refine g_nin (.inl (SqL.of hr)) rfl (flatS _) (inV_str s l) ?_
      walk_at "go"
      refine g_ifb ?_ ?_
      · walk_at "go"
        refine draw_use (G := G4) (L := L + 1689 - 400 * i - 1) (D5.p.less (by omega) (by omega)) (by omega) (by omega) (by omega) (fun r7 H6 c0 c1 N6 P6 => ?_)
        have D6 := D5.drw N6 P6
        walk_at "go"
        refine world_use (G := G4) (L := L + 1689 - 400 * (i + 1 : Nat)) (D6.p.less (by omega) (by omega)) (by omega) (D4.n.gg _ _ hwd) w0 w6 wn wsp (by omega) (by omega) (by decide) (by decide) (fun a wb s G7 H7 N7 P7 W ok hs few => ?_)
        have D7 := D6.drw N7 P7
        walk_at "go"
        exact ⟨a, wb, s, G7, _, rfl, D7, W, ok, hs, by omega⟩
      · walk_at "go"
        exact ⟨a, wb, s, G4, _, rfl, D5.less (by omega) (by omega), W, ok, hs, few⟩
    · rintro σ' H4 ⟨a, wb, s, G4, x4, rfl, D4, W, ok, hs, few⟩
      have D4 := D4.less (M := L + 1) (by omega) (by omega)
      obtain ⟨b, ga, hb⟩ := W
      have W : WorldAt G4 a wb s := ⟨b, ga, hb⟩
      walk_at "go"
      refine draw_use (G := G4) (L := L) D4.p L0 (by decide) (by decide) (fun r5 H5 _ _ N5 P5 => ?_)
      have D5 := D4.drw N5 P5
      walk_at "go"
      refine g_ifb ?_ ?_
      · have ha5 := D5.at ga
        walk_at "g1"
        walk_at "g1"
        walk_at "g1"
        have sps : spelt s = true := by
          obtain ⟨q, hq, e⟩ := List.mem_map.mp hs
          rw [← e]; exact ok.sp q hq
        refine disp_book (G0 := G4) (bk := [(s, ("done", []))]) (.cons ⟨?_, row_tup dnew_turns⟩ .nil) (by simp) (by show 1 ≤ 15; decide) G4 H5 _ (Ex.refl _) D5.p.ex (fun b1 G6 H6 N6 hb1 => ?_)
        · intro H8 Q8 e8 q8
          have ha8 := e8 _ _ ga
          walk_at "go"
          exact q8
        · have D6 := D5.step N6
          have ha6 := D6.at (N6.gg _ _ ga)
          walk_at "go"
          refine ⟨by show 2 ≤ sizeLine; decide, fun l hl => ?_⟩
          have D7 := D6.new (o := .lst [.ref b1, .str s]) hl
          walk_at "go"
          exact k l [(s, ("done", []))] s _ _ D7.n D7.p ⟨b1, upd_same, hb1.mono (Ex.new (D6.gnone hl))⟩ (book0_ok sps) (by simp) (by show ((1 : Nat) : Int) ≤ top; omega)
      · walk_at "go"
        exact k a wb s _ _ D5.n D5.p W ok hs few
end
end K69
set_option Elab.async false
set_option linter.all false
set_option maxRecDepth 100000
set_option maxHeartbeats 8000000
namespace K69
open PySem PySem.Spec PyProof.Rows L2
def H00 : Hp := fun _ => none
theorem ex00 (H : Hp) : Ex H00 H := fun _ _ h => by cases h
abbrev eS : Str := Str.ofString "e"
def loneB : Book := [(eS, doneR)]
theorem loneB_ok : BookOk loneB := book0_ok (by decide +kernel)
theorem lone_waists : waistsL loneB eS = [eS] := by
  have hl : ∀ (a : Str) (r : Row), loneB.lookup a = some r → a = eS ∧ r = doneR := fun a r h => by
    have m := lookup_mem h
    unfold loneB at m
    rw [List.mem_singleton] at m
    cases m
    exact ⟨rfl, rfl⟩
  have he : loneB.lookup eS = some doneR := by simp [loneB]
  have h1 : ∀ x : Str, x ∈ [eS] ↔ Wst loneB eS x := fun x => by
    rw [List.mem_singleton]
    constructor
    · rintro rfl
      exact ⟨⟨eS, .refl (by simp), _, he, rfl⟩, .refl (by simp), fun ⟨t, h, _⟩ => h.start rfl⟩
    · rintro ⟨_, h, _⟩
      exact h.within (fun y => y = eS) rfl fun a b ha ⟨r, hr, hm⟩ _ => by
        rw [(hl a r hr).2] at hm
        cases hm
  rw [← waistsL_of loneB_ok (l := [eS]) (by simp [loneB]) (by simp) h1]
  exact srtS_id (by simp)
def sp_law (K : PySem.W.Frag) : Sp := fun vs H Q _ => ∃ (a : Addr) (ns : List Int), vs = [.ref a] ∧ SqL K H a (ns.map V.int) ∧ ns.length ≤ 1000 ∧ ∀ H', Q (.bl true) H'
section
variable {P : Program} {w : World} {K : PySem.W.Frag} {mg : Str → Option Value} {base : Heap} {C : Addr}
local macro_rules | `(tactic| walk_at "lk") => `(tactic| first | assumption | exact upd_same | exact (by assumption : Ex _ _) _ _ (by assumption))
local macro_rules | `(tactic| walk_at "g1") => `(tactic| first
  | with_reducible refine g_seq ?_ | with_reducible refine g_asg ?_ | with_reducible refine g_name ?_ | with_reducible refine g_cons ?_ | with_reducible refine g_nil ?_
  | ((with_reducible refine' g_var ?e ?_); (case e => exact rfl)) | with_reducible refine g_C ?_ | with_reducible refine g_op ?_ | with_reducible refine g_fld0 ?_ | with_reducible refine g_dget ?_ | with_reducible refine g_cb ?_ | with_reducible refine g_call ?_
  | with_reducible refine g_ret ?_ | with_reducible refine g_ifS ?_ | with_reducible refine g_test ?_ | with_reducible refine g_B ?_ | with_reducible refine g_bl ?_ | with_reducible refine g_not ?_ | with_reducible refine g_or ?_ | with_reducible refine g_and ?_
  | with_reducible refine g_ite ?_ | with_reducible refine g_itf ?_ | with_reducible refine g_itnt ?_ | with_reducible refine g_itnf ?_ | with_reducible refine g_eqS ?_ | with_reducible refine g_neS ?_ | with_reducible refine g_neI ?_ | with_reducible refine g_eqB ?_ | with_reducible refine g_neB ?_ | with_reducible refine g_eqI ?_ | with_reducible refine g_rI0 ?_ | with_reducible refine g_ipI ?_ | with_reducible refine g_int ?_
  | with_reducible refine g_drop ?_ | with_reducible refine g_next ?_ | with_reducible refine g_bm ?_ | with_reducible refine g_bm0 ?_ | with_reducible refine g_din ?_ | with_reducible refine g_dnotin ?_ | with_reducible refine g_dput ?_ | ((with_reducible refine' g_aug ?e ?_); (case e => exact rfl))
  | with_reducible refine g_andV ?_ | with_reducible refine g_orV ?_ | with_reducible refine g_notV ?_ | with_reducible refine g_if ?_ | with_reducible refine g_isN ?_ | with_reducible refine g_notN ?_ | with_reducible refine g_sl ?_ | with_reducible refine g_nopart ?_ | with_reducible refine g_part ?_
  | with_reducible refine g_gcons ?_ | with_reducible refine g_gnil ?_ | with_reducible refine g_par2 ?_ | with_reducible refine g_par3 ?_ | with_reducible refine g_vw ?_ | with_reducible refine g_uvw ?_ | with_reducible refine g_yes ?_ | with_reducible refine g_un ?_ | with_reducible refine g_rU ?_ | with_reducible refine g_gsub ?_ | with_reducible refine g_chain ?_ | with_reducible refine g_for ?_ | with_reducible refine g_istr ?_ | with_reducible refine g_ilist ?_ | with_reducible refine g_itup ?_ | with_reducible refine g_ikeys ?_ | with_reducible refine g_ivals ?_ | with_reducible refine g_iitems ?_ | with_reducible refine g_irng1 ?_ | with_reducible refine g_izip ?_ | with_reducible refine g_while ?_ | with_reducible refine g_tru _ ?_ | with_reducible refine g_lc ?_ | with_reducible refine g_dc ?_ | with_reducible refine g_lc2 ?_ | with_reducible refine g_tup ?_ | with_reducible refine g_lst ?_ | with_reducible refine g_dnew ?_ | with_reducible refine g_sfld ?_ | with_reducible refine g_dget2 ?_ | with_reducible refine g_dzip ?_ | with_reducible refine g_dnewT ?_ | with_reducible refine g_dispT ?_ | with_reducible refine g_star ?_ | with_reducible refine g_disp ?_ | with_reducible refine g_prs ?_ | with_reducible refine g_prs0 ?_ | with_reducible refine g_sc ?_ | with_reducible refine g_make ?_ | with_reducible refine g_meth ?_
  | ((with_reducible refine' g_ixT ?h ?e ?_); (case h => walk_at "lk"); (case e => exact rfl)) | ((with_reducible refine' g_ixL ?h ?e ?_); (case h => walk_at "lk"); (case e => exact rfl))
  | ((with_reducible refine' g_fldK ?h ?c ?n ?l ?_); (case h => walk_at "lk"); (case c => exact C8.InsC.cl (Txt.insC (by assumption))); (case n => first | exact Txt.nR (by assumption) | exact Txt.nF (by assumption)); (case l => exact rfl)))
local macro_rules | `(tactic| walk_at "go") => `(tactic| (repeat walk_at "g1"))
local macro_rules | `(tactic| walk_at "ty") => `(tactic| first | exact .base (.str _) | exact .base .non | exact .base (.bl _) | exact .base (.int _) | exact .base (.tup (by assumption)) | exact .base (.lst (by assumption)) | exact .base (.dK (by assumption)) | exact .fDict (by assumption))
abbrev slaw : Stmt := topS 66
abbrev Nlaw : List Str := ["_law_script", "_law_purse_here", "_law_words_here", "_law_worlds", "_law_desks", "_law_world_here", "_law_at", "_law_both", "_law_desk_here", "_law_lone"]
theorem sclaw : FnScope Nlaw ["_law_script"] (defScope slaw) := ⟨rfl, rfl, rfl, by decide +kernel, rfl, by decide +kernel, by decide +kernel⟩
theorem ok_law {fl : Addr} {fdl : FuncData} (F : L2.Fun K "law" "law" slaw fl fdl) (T : Txt K w mg C) (c_law_purses : Cal P w K mg base 2 "_law_purses" (sp_purses K)) (c_law_pool : Cal P w K mg base 5 "_law_pool" sp_pool) (c_law_part : Cal P w K mg base 6 "_law_part" sp_part) (c_law_row_of : Cal P w K mg base 6 "_law_row_of" sp_row_of)
    (c_law_desk : Cal P w K mg base 6 "_law_desk" (sp_l_desk C)) (c_law_desk_right : Cal P w K mg base 10 "_law_desk_right" (sp_desk_right C)) (c_then : Cal P w K mg base 8 "then" (sp_joined_then C)) (c_law_world_of : Cal P w K mg base 3 "_law_world_of" (sp_world_of C))
    (c_law_stays : Cal P w K mg base 7 "_law_stays" (sp_stays C)) (c_Desk : Mak P w K mg base 4 "Desk" C (sp_init C)) (c_law_exact : Cal P w K mg base 2 "_law_exact" (spE (EL E0))) (c_waists : Cal P w K mg base 4 "waists" (sp_waists_of C)) (c_law_goes : Cal P w K mg base 7 "_law_goes" (sp_goes C))
    (c_cut_at : Cal P w K mg base 6 "cut_at" (sp_cut_at C)) (c_Desk_book : Met P w K mg base 2 C "book" (sp_book C)) : FnOk P w K mg base L2.CX0 11 fl fdl ["_law_script"] (sp_law K) := by
  refine F.ok sclaw (fun vs H Q E h => ?_) (fun cdv A outer s H vs Q E hr h => ?_)
  · obtain ⟨_, _, rfl, _⟩ := h; rfl
  · obtain ⟨a, ns, rfl, ha, nl, k⟩ := h
    have nd := sclaw.nd
    have hu := hu_of hr
    refine ⟨_, (pss_cons (ps_for PassesOwn.never rfl (kpList K (kc c_law_purses hr (pa_cons (pv 0) (pa_cons pe_int pa_nil)))) (pg_name (i := 1) nd rfl (Or.inl rfl))
    (pss_cons (ps_set (i := 2) nd rfl (Or.inl rfl) (pe_slice (kSlL K) (kc c_law_pool hr (pa_cons (pv 1) pa_nil)) po_none (po_some pe_int)))
    (pss_cons (ps_set (i := 3) nd rfl (Or.inl rfl) (pe_lst (pa_cons (kc c_law_part hr (pa_cons (pv 1) (pa_cons (pv 2) (pa_cons pe_int pa_nil)))) (pa_cons (pe_ix (kIxL K) (kc c_law_row_of hr (pa_cons (pv 1) (pa_cons pe_int pa_nil))) pe_int (fun _ _ => rfl)) (pa_cons (kc c_law_part hr (pa_cons (pv 1) (pa_cons (pv 2) (pa_cons pe_int pa_nil)))) pa_nil)))))
    (pss_cons (ps_setLc (i := 4) (own := [("_law_world_here", 5)]) rfl nd rfl rfl (sw_true rfl rfl rfl (by decide +kernel)) (kpList K (pv 3)) (blkOk_by (N := Nlaw) (sc := defScope slaw) (by decide +kernel)) (fun _ _ _ _ _ => (pg_name (i := 5) nd rfl (Or.inl rfl))) (fun _ _ _ _ _ => pts_nil) (fun _ _ _ _ _ => (kc c_law_desk hr (pa_cons (pv 5) pa_nil))))
    (pss_cons (ps_for PassesOwn.never rfl (kpTup K (pe_tup (pa_cons pe_int (pa_cons pe_int (pa_cons pe_int (pa_cons pe_int pa_nil)))))) (pg_name (i := 6) nd rfl (Or.inl rfl))
      (pss_one (ps_if (pt_not (pt_val (kc c_law_desk_right hr (pa_cons (pe_ix (kIxL K) (pv 3) (pv 6) (fun _ _ => rfl)) (pa_cons (pe_ix (kIxL K) (pv 4) (pv 6) (fun _ _ => rfl)) pa_nil)))))
        (pss_one (ps_ret pe_bl)) pss_nil)))
    (pss_cons (ps_set (i := 7) nd rfl (Or.inl rfl) (kc c_then hr (pa_cons (pe_ix (kIxL K) (pv 4) pe_int (fun _ _ => rfl)) (pa_cons (pe_ix (kIxL K) (pv 4) pe_int (fun _ _ => rfl)) pa_nil))))
    (pss_cons (ps_if (pt_not (pt_val (kc c_law_desk_right hr (pa_cons (kc c_law_world_of hr (pa_cons (pv 7) pa_nil)) (pa_cons (pv 7) pa_nil)))))
      (pss_one (ps_ret pe_bl)) pss_nil)
    (pss_one (ps_if (pt_not (pt_val (pe_callB (kAll K rfl) (by rfl) T.all (by decide +kernel) (pa_cons (pe_lc (own := [("_law_desk_here", 8), ("_law_world_here", 5)]) rfl nd (kpZip K T.zip (pa_cons (pv 4) (pa_cons (pv 3) pa_nil))) (blkOk_by (N := Nlaw) (sc := defScope slaw) (by decide +kernel)) (fun _ _ _ _ _ => (kgTup K (n := 2) rfl (pgs_cons (pg_name (i := 8) nd rfl (Or.inl rfl)) (pgs_cons (pg_name (i := 5) nd rfl (Or.inl rfl)) pgs_nil)))) (fun _ _ _ _ _ => pts_nil) (fun _ _ _ _ _ => (kc c_law_stays hr (pa_cons (pv 8) (pa_cons (pv 5) pa_nil))))) pa_nil))))
      (pss_one (ps_ret pe_bl)) pss_nil)))))))))
  (pss_cons (ps_set (i := 9) nd rfl (Or.inl rfl) (kmk c_Desk hr (pa_cons (pe_disp (pps_cons pe_str (pe_tup (pa_cons pe_str (pa_cons pe_dnewK pa_nil))) pps_nil) (by rfl) (by rfl) (fun z => by cases z) (by decide)) (pa_cons pe_str pa_nil))))
  (pss_one (ps_ret (pe_and (kc c_law_exact hr (pa_cons (kc c_waists hr (pa_cons (pv 9) pa_nil)) (pa_cons (pe_lst (pa_cons pe_str pa_nil)) pa_nil))) (pe_one (kc c_law_goes hr (pa_cons (kc c_then hr (pa_cons (pe_ix (kIxT K) (kc c_cut_at hr (pa_cons (pv 9) (pa_cons pe_str pa_nil))) pe_int (fun _ _ => rfl)) (pa_cons (pe_ix (kIxT K) (kc c_cut_at hr (pa_cons (pv 9) (pa_cons pe_str pa_nil))) pe_int (fun _ _ => rfl)) pa_nil))) (pa_cons (pe_lst (pa_cons (kmt0 c_Desk_book hr (pv 9)) (pa_cons pe_str pa_nil))) pa_nil))))))))), ?_⟩
    walk_at "go"
    refine ⟨a, ns, rfl, ha, nl, fun r ps H1 e1 h1 pn rp pl pa => ?_⟩
    refine ⟨r, rfl, ⟨_, SqL.of h1⟩, ?_⟩
    refine for_it walk_list (fun i σ' H' => ∃ (x1 x2 x3 x4 x6 x7 : Option V), σ' = [some (.ref a), x1, x2, x3, x4, none, x6, x7, none, none] ∧ H' r = some (.lst (ps.map V.ref)) ∧ ∀ j q, i ≤ j → ps[j]? = some q → PAt q 1000000 H')
      ⟨_, _, _, _, _, _, rfl, h1, fun j q _ hq => pa q (List.mem_of_getElem? hq)⟩ (fun j σ' H' _ ⟨_, _, _, _, _, _, _, h, _⟩ => SqL.of h) ?_ ?_
    · rintro i y σ' _ H2 hi ⟨x1, x2, x3, x4, x6, x7, rfl, h2, pa2⟩ ⟨rfl, hy⟩
      obtain ⟨p, hp, rfl⟩ : ∃ p, ps[i]? = some p ∧ y = .ref p := by
        rw [List.getElem?_map] at hy
        cases e : ps[i]? with
        | none => rw [e] at hy; cases hy
        | some p => rw [e] at hy; cases hy; exact ⟨p, rfl, rfl⟩
      have rnp : r ≠ p := fun z => rp (z ▸ List.mem_of_getElem? hp)
      have D2 : Dn p 1000000 H00 H2 H00 H2 := Dn.start ⟨ex00 _, rfl, pa2 i p (Nat.le_refl _) hp⟩
      walk_at "go"
      refine ⟨p, 999880, H00, rfl, D2.p, by decide, fun q ws G3 H3 N3 P3 g3 _ wl wn wsp => ?_⟩
      have D3 := D2.drw N3 P3
      walk_at "go"
      refine ⟨q, _, rfl, SqL.of (D3.at g3), fun s1 hs1 => ?_⟩
      have c1 : cutV (ws.map V.str) none (some 3) = (ws.take 3).map V.str := by rw [List.map_take]; exact cut_take (i := 3)
      rw [c1]
      have vl : (ws.take 3).length = 3 := by rw [List.length_take]; omega
      have vn : (ws.take 3).Nodup := wn.sublist (List.take_sublist _ _)
      have vsp : ∀ x ∈ ws.take 3, spelt x = true := fun x hx => wsp x (List.mem_of_mem_take hx)
      generalize ws.take 3 = vs at vl vn vsp ⊢
      have D4 := D3.new (o := .lst (vs.map V.str)) hs1
      have g4 : (upd G3 s1 (.lst (vs.map V.str))) s1 = some (.lst (vs.map V.str)) := upd_same
      generalize upd G3 s1 (.lst (vs.map V.str)) = G4 at D4 g4
      generalize upd H3 s1 (.lst (vs.map V.str)) = H4 at D4 ⊢
      walk_at "go"
      refine ⟨p, s1, vs, 6, 990000, G4, rfl, D4.p.less (by decide) (by decide), by decide, g4, by omega, by omega, vn, vsp, by decide, by decide, fun a0 wb0 s0 G5 H5 N5 P5 W0 ok0 hs0 few0 => ?_⟩
      have D5 := D4.drw N5 P5
      walk_at "go"
      refine ⟨p, 980000, G5, rfl, D5.p.less (by decide) (by decide), by decide, fun rw1 a1 wd1 wb1 s1' G6 H6 N6 P6 g6 W1 ok1 hs1' few1 => ?_⟩
      have D6 := D5.drw N6 P6
      refine ⟨rw1, _, 0, .ref a1, rfl, rfl, SqL.of (D6.at g6), atI_nat (j := 0) rfl, ?_⟩
      walk_at "go"
      refine ⟨p, s1, vs, 3, 970000, G6, rfl, D6.p.less (by decide) (by decide), by decide, N6.gg _ _ (N5.gg _ _ g4), by omega, by omega, vn, vsp, by decide, by decide, fun a2 wb2 s2 G7 H7 N7 P7 W2 ok2 hs2 few2 => ?_⟩
      have D7 := D6.drw N7 P7
      have W0 := W0.mono (N6.gg.trans N7.gg)
      have W1 := W1.mono N7.gg
      walk_at "go"
      refine ⟨by show 3 ≤ sizeLine; decide, fun wl3 hwl3 => ?_⟩
      have e8 : Ex G7 (upd G7 wl3 (.lst [.ref a0, .ref a1, .ref a2])) := Ex.new (D7.gnone hwl3)
      have D8 := D7.new (o := .lst [.ref a0, .ref a1, .ref a2]) hwl3
      have g8 : (upd G7 wl3 (.lst [.ref a0, .ref a1, .ref a2])) wl3 = some (.lst [.ref a0, .ref a1, .ref a2]) := upd_same
      have W0 := W0.mono e8
      have W1 := W1.mono e8
      have W2 := W2.mono e8
      generalize upd G7 wl3 (.lst [.ref a0, .ref a1, .ref a2]) = G8 at D8 g8 W0 W1 W2
      generalize upd H7 wl3 (.lst [.ref a0, .ref a1, .ref a2]) = H8 at D8 ⊢
      clear e8 D7 D6 D5 D4 D3 D2
      have hW : ∀ (j : Nat) (x : Addr), [a0, a1, a2][j]? = some x → ∃ wb s, [(wb0, s0), (wb1, s1'), (wb2, s2)][j]? = some ((wb, s) : Book × Str) ∧ WorldAt G8 x wb s ∧ BookOk wb ∧ s ∈ wb.map (·.1) ∧ wb.length ≤ 6 := fun j x h => by
        match j with
        | 0 => cases h; exact ⟨wb0, s0, rfl, W0, ok0, hs0, by omega⟩
        | 1 => cases h; exact ⟨wb1, s1', rfl, W1, ok1, hs1', few1⟩
        | 2 => cases h; exact ⟨wb2, s2, rfl, W2, ok2, hs2, by omega⟩
        | j + 3 => simp at h
      have h8 := D8.at g8
      walk_at "go"
      refine ⟨wl3, rfl, ⟨_, SqL.of h8⟩, fun D hD => ?_⟩
      refine lc_gen walk_list D8.p.ex hD (by show 3 < sizeLine; decide) (fun i acc Gi => ∃ ds : List Addr, acc = ds.map V.ref ∧ ds.length = i ∧ ∀ (j : Nat) (d : Addr) (w : Book × Str), ds[j]? = some d → [(wb0, s0), (wb1, s1'), (wb2, s2)][j]? = some w → DeskAt C Gi d (nrm w.1) w.2) ⟨[], rfl, rfl, by simp⟩ (fun H' e => SqL.of (e _ _ h8)) ?_ ?_
      · rintro j y G3 H3 H4 acc Kt Kf hj N g0 hh hl' ⟨ds, rfl, dl, dd⟩ ⟨rfl, hy⟩ htt hff
        obtain ⟨x, hx, rfl⟩ : ∃ x, [a0, a1, a2][j]? = some x ∧ y = .ref x := by
          match j with
          | 0 => cases hy; exact ⟨a0, rfl, rfl⟩
          | 1 => cases hy; exact ⟨a1, rfl, rfl⟩
          | 2 => cases hy; exact ⟨a2, rfl, rfl⟩
          | j + 3 => simp at hy
        obtain ⟨wb, s, hws, W, ok, hs, few⟩ := hW j x hx
        walk_at "go"
        refine ⟨rfl, ?_⟩
        walk_at "go"
        refine ⟨x, wb, s, G3, rfl, N.gh, W.mono N.gg, ok, hs, fun d G5 H5 N5 dk => ?_⟩
        refine htt (.ref d) G5 H5 N5 ⟨ds ++ [d], by rw [List.map_append]; rfl, by simp [dl], fun m d' w hd hw => ?_⟩
        rcases Nat.lt_or_ge m ds.length with h | h
        · rw [List.getElem?_append_left h] at hd
          exact (dd m d' w hd hw).mono N5.gg
        · rw [List.getElem?_append_right h] at hd
          have : m = j := by
            have := (List.getElem?_eq_some_iff.mp hd).1
            simp at this
            omega
          subst this
          rw [hws] at hw
          cases hw
          rw [dl, Nat.sub_self] at hd
          cases hd
          exact dk
      · rintro G9 H9 acc N g0 hh hl' ⟨ds, rfl, dl, dd⟩
        obtain ⟨d0, d1, d2, rfl⟩ : ∃ d0 d1 d2, ds = [d0, d1, d2] := by
          match ds, dl with
          | [a, b, c], _ => exact ⟨a, b, c, rfl⟩
        have D9 := (D8.step N).frz g0 hh (D8.none0 hD) (D8.p.ne hD)
        have e9 : Ex G9 (upd G9 D (.lst ([d0, d1, d2].map V.ref))) := Ex.new g0
        have g9 : (upd G9 D (.lst ([d0, d1, d2].map V.ref))) D = some (.lst [.ref d0, .ref d1, .ref d2]) := upd_same
        have e89 : Ex G8 (upd G9 D (.lst ([d0, d1, d2].map V.ref))) := N.gg.trans e9
        have k0 := (dd 0 d0 _ rfl rfl).mono e9
        have k1 := (dd 1 d1 _ rfl rfl).mono e9
        have k2 := (dd 2 d2 _ rfl rfl).mono e9
        clear dd hh g0 hl' N
        generalize upd G9 D (.lst ([d0, d1, d2].map V.ref)) = GA at D9 e9 g9 e89 k0 k1 k2
        have W0 := W0.mono e89
        have W1 := W1.mono e89
        have W2 := W2.mono e89
        have gw := e89 _ _ g8
        walk_at "go"
        refine ⟨by show 4 ≤ sizeLine; decide, fun tt htt => ?_⟩
        have D10 := D9.own (o := .tup [.int 0, .int 1, .int 2, .int 0]) htt
        have h10 : (upd H9 tt (.tup [.int 0, .int 1, .int 2, .int 0])) tt = some (.tup [.int 0, .int 1, .int 2, .int 0]) := upd_same
        generalize upd H9 tt (.tup [.int 0, .int 1, .int 2, .int 0]) = HA at D10 h10 ⊢
        refine ⟨tt, rfl, ⟨_, SqT.of h10⟩, ?_⟩
        refine for_it walk_tup (fun i σ' H' => ∃ (x6 : Option V), σ' = [some (.ref a), some (.ref p), some (.ref s1), some (.ref wl3), some (.ref D), none, x6, x7, none, none] ∧ Ex HA H') ⟨x6, rfl, Ex.refl _⟩ (fun j σ' H' _ ⟨_, _, e⟩ => SqT.of (e _ _ h10)) ?_ ?_
        · rintro j y σ' _ HB hj ⟨x6, rfl, eB⟩ ⟨rfl, hy⟩
          have eGB := D10.p.ex.trans eB
          have right : ∀ (n : Nat) (x d : Addr) (wb : Book) (s : Str), atI [V.ref a0, V.ref a1, V.ref a2] (n : Int) = some (.ref x) → atI [V.ref d0, V.ref d1, V.ref d2] (n : Int) = some (.ref d) → WorldAt GA x wb s → DeskAt C GA d (nrm wb) s → BookOk wb → s ∈ wb.map (·.1) → wb.length ≤ 6 → y = .int (n : Int) →
              ∃ (i : Int) (x d : Addr) (wb : Book) (s : Str), y = .int i ∧ atI [V.ref a0, V.ref a1, V.ref a2] i = some (.ref x) ∧ atI [V.ref d0, V.ref d1, V.ref d2] i = some (.ref d) ∧ WorldAt GA x wb s ∧ DeskAt C GA d (nrm wb) s ∧ BookOk wb ∧ s ∈ wb.map (·.1) ∧ wb.length ≤ 6 :=
            fun n x d wb s h1 h2 h3 h4 h5 h6 h7 h8 => ⟨n, x, d, wb, s, h8, h1, h2, h3, h4, h5, h6, h7⟩
          have r0 := right 0 a0 d0 wb0 s0 (atI_nat (j := 0) rfl) (atI_nat (j := 0) rfl) W0 k0 ok0 hs0 (by omega)
          have r1 := right 1 a1 d1 wb1 s1' (atI_nat (j := 1) rfl) (atI_nat (j := 1) rfl) W1 k1 ok1 hs1' few1
          have r2 := right 2 a2 d2 wb2 s2 (atI_nat (j := 2) rfl) (atI_nat (j := 2) rfl) W2 k2 ok2 hs2 (by omega)
          have rr : ∃ (i : Int) (x d : Addr) (wb : Book) (s : Str), y = .int i ∧ atI [V.ref a0, V.ref a1, V.ref a2] i = some (.ref x) ∧ atI [V.ref d0, V.ref d1, V.ref d2] i = some (.ref d) ∧ WorldAt GA x wb s ∧ DeskAt C GA d (nrm wb) s ∧ BookOk wb ∧ s ∈ wb.map (·.1) ∧ wb.length ≤ 6 := by
            match j with
            | 0 => cases hy; exact r0 rfl
            | 1 => cases hy; exact r1 rfl
            | 2 => cases hy; exact r2 rfl
            | 3 => cases hy; exact r0 rfl
            | j + 4 => simp at hy
          clear right r0 r1 r2 hy
          obtain ⟨n, x, d, wb, s, rfl, hx, hd, W, dk, ok, hs, few⟩ := rr
          walk_at "go"
          refine ⟨wl3, _, n, .ref x, rfl, rfl, SqL.of (eGB _ _ gw), hx, ?_⟩
          walk_at "go"
          refine ⟨D, _, n, .ref d, rfl, rfl, SqL.of (eGB _ _ g9), hd, ?_⟩
          walk_at "go"
          refine ⟨x, d, wb, s, GA, rfl, eGB, W, dk, ok, hs, by omega, fun HC eC => ⟨true, rfl, ?_⟩⟩
          refine g_itnt ?_
          walk_at "go"
          exact ⟨_, rfl, eB.trans eC⟩
        · rintro σ' HB ⟨x6, rfl, eB⟩
          have D11 := D10.step (Nxt.flat D10.p.ex eB)
          have hgB := D11.at g9
          have dk2 := DeskOk.mk' ok2 hs2
          have dk0 := DeskOk.mk' ok0 hs0
          obtain ⟨r0, hr0, _⟩ := dk0.ok.get (nrm_mem.mpr hs0)
          have nl2 := nrm_len wb2
          have nl0 := nrm_len wb0
          walk_at "go"
          refine ⟨d2, d0, nrm wb2, nrm wb0, s2, s0, r0, GA, rfl, D11.p.ex, k2, k0, dk2, dk0, hr0, by omega, fun bd GC HC tk tt2 N12 dkb Db tlen _ _ => ?_⟩
          have D12 := D11.step N12
          walk_at "go"
          refine ⟨bd, tk, tt2, GC, rfl, D12.p.ex, dkb, Db, fun bw GD HD N13 Wb => ?_⟩
          have D13 := D12.step N13
          walk_at "go"
          refine ⟨bw, bd, tk, tt2, GD, rfl, D13.p.ex, Wb, by rw [Db.n]; exact dkb.mono N13.gg, Db.ok, Db.st, by omega, fun HE eE => ⟨true, rfl, ?_⟩⟩
          have D14 := D13.step (Nxt.flat D13.p.ex eE)
          refine g_itnt ?_
          have eAD := N12.gg.trans N13.gg
          have hg14 := D14.at (eAD _ _ g9)
          have hw14 := D14.at (eAD _ _ gw)
          walk_at "go"
          refine ⟨D, wl3, _, _, rfl, SqL.of hg14, SqL.of hw14, fun L2 hL2 => ?_⟩
          refine lc_gen (walk_zip (n := 3) (by rfl)) D14.p.ex hL2 (by show 3 < sizeLine; decide) (fun i acc _ => acc = (List.replicate i true).map V.bl) rfl (fun H' e => ⟨SqL.of (e _ _ hg14), SqL.of (e _ _ hw14)⟩) ?_ ?_
          · rintro i x G3 H3 H4 acc Kt Kf hi N g0 hh hl' rfl ⟨Tt, u, v, rfl, hT, rfl, hu1, hv1⟩ ht hf
            have N2 : Nxt none G3 H3 G3 (upd H3 Tt (.tup [u, v])) := Nxt.flat N.gh (Ex.new hT)
            have hT2 : (upd H3 Tt (.tup [u, v])) Tt = some (.tup [u, v]) := upd_same
            generalize upd H3 Tt (.tup [u, v]) = H5 at N2 hT2 ⊢
            refine g_gtup (SqT.of hT2) rfl ?_
            walk_at "go"
            refine ⟨rfl, ?_⟩
            have eA3 : Ex GA G3 := eAD.trans N.gg
            have rr : ∃ (x d : Addr) (wb : Book) (s : Str), u = .ref d ∧ v = .ref x ∧ WorldAt GA x wb s ∧ DeskAt C GA d (nrm wb) s ∧ BookOk wb ∧ s ∈ wb.map (·.1) := by
              match i with
              | 0 => cases hu1; cases hv1; exact ⟨a0, d0, wb0, s0, rfl, rfl, W0, k0, ok0, hs0⟩
              | 1 => cases hu1; cases hv1; exact ⟨a1, d1, wb1, s1', rfl, rfl, W1, k1, ok1, hs1'⟩
              | 2 => cases hu1; cases hv1; exact ⟨a2, d2, wb2, s2, rfl, rfl, W2, k2, ok2, hs2⟩
              | i + 3 => simp at hu1
            obtain ⟨x, d, wb, s, rfl, rfl, W, dk, ok, hs⟩ := rr
            walk_at "go"
            refine ⟨d, x, wb, s, G3, rfl, N2.gh, dk.mono eA3, W.mono eA3, ok, hs, fun H6 e6 => ?_⟩
            exact ht (.bl true) _ _ (N2.trans (Nxt.flat N2.gh e6)) (by rw [List.replicate_succ']; simp)
          · rintro G3 H3 acc N g0 hh hl' rfl
            walk_at "go"
            refine ⟨L2, _, rfl, SqL.of hh, ?_⟩
            have D15 := D14.step N
            walk_at "go"
            refine ⟨_, _, _, _, _, _, rfl, D15.n.hh r _ (fun z => rnp (Option.some.inj z).symm) h2, fun j q hj hq => ?_⟩
            obtain ⟨l, q1, q2⟩ := pa2 j q (by omega) hq
            refine ⟨l, D15.n.hh q _ (fun z => ?_) q1, q2⟩
            have z := Option.some.inj z
            subst z
            have := (List.getElem?_inj (i := i) (j := j) (List.getElem?_eq_some_iff.mp hp).1 pn).mp (hp.trans hq.symm)
            omega
    · rintro σ' H2 ⟨x1, x2, x3, x4, x6, x7, rfl, h2, pa2⟩
      have okl := loneB_ok
      have hsl : eS ∈ loneB.map (·.1) := by simp [loneB]
      have D := DeskOk.mk' okl hsl
      have ew : waistsL (nrm loneB) eS = [eS] := by rw [waistsL_nrm okl hsl]; exact lone_waists
      have hx : eS ∈ waistsL (nrm loneB) eS := by rw [ew]; simp
      have wx := (waistsL_mem D.ok D.st).mp hx
      obtain ⟨r2, hr2, _⟩ := D.ok.get D.st
      have nlen : (nrm loneB).length = 1 := by rw [nrm_len]; rfl
      iterate 4 walk_at "g1"
      refine disp_book (G0 := H00) (bk := loneB) (.cons ⟨teS_C, row_tup dnew_turns⟩ .nil) okl.nd (by show 1 ≤ 15; decide) H00 H2 _ (Ex.refl _) (ex00 _) (fun b1 G3 H3 N3 hb1 => ?_)
      walk_at "go"
      refine mk_desk N3.gh (hb1.mono N3.gh) okl hsl fun lo G4 H4 N4 dk _ => ?_
      walk_at "go"
      refine ⟨lo, nrm loneB, eS, G4, rfl, N4.gh, dk, D.ok, D.st, fun p1 G5 H5 N5 gp1 _ => ?_⟩
      rw [ew] at gp1
      walk_at "go"
      refine ⟨by show 1 ≤ sizeLine; decide, fun l1 hl1 => ?_⟩
      have N6 : Nxt none G5 H5 (upd G5 l1 (.lst [.str eS])) (upd H5 l1 (.lst [.str eS])) := Nxt.new1 N5.gh hl1
      have g6 : (upd G5 l1 (.lst [.str eS])) l1 = some (.lst ([eS].map V.str)) := upd_same
      have gp6 := N6.gg _ _ gp1
      have dk6 := dk.mono (N5.gg.trans N6.gg)
      generalize upd G5 l1 (.lst [.str eS]) = G6 at N6 g6 gp6 dk6
      generalize upd H5 l1 (.lst [.str eS]) = H6 at N6 ⊢
      walk_at "go"
      refine ⟨.ref p1, .ref l1, rfl, E0_strs (N6.gh _ _ gp6) (N6.gh _ _ g6) (by show 1 ≤ 900; decide), fun H7 e7 => ⟨true, rfl, ?_⟩⟩
      have e67 := N6.gh.trans e7
      refine g_ite ?_
      walk_at "go"
      refine ⟨lo, nrm loneB, eS, eS, G6, rfl, e67, dk6, D, hx, fun t G8 H8 q1 q2 ck N8 gt dk1 dk2 D1 D2 cB clen _ => ?_⟩
      refine ⟨t, _, 0, .ref q1, rfl, rfl, SqT.of (N8.gh _ _ gt), atI_nat (j := 0) rfl, ?_⟩
      walk_at "go"
      refine ⟨lo, nrm loneB, eS, eS, G8, rfl, N8.gh, dk6.mono N8.gg, D, hx, fun t' G9 H9 q3 q4 ck' N9 gt' dk3 dk4 D3 D4 cB' clen' _ => ?_⟩
      refine ⟨t', _, 1, .ref q4, rfl, rfl, SqT.of (N9.gh _ _ gt'), atI_nat (j := 1) rfl, ?_⟩
      walk_at "go"
      refine ⟨q1, q4, ck, nrm loneB, eS, eS, r2, G9, rfl, N9.gh, dk1.mono N9.gg, dk4, D1, D4, hr2, by omega, fun n3 GA HA tk tt NA dkn Dn' tlen hT _ => ?_⟩
      have dkA := dk6.mono (N8.gg.trans (N9.gg.trans NA.gg))
      walk_at "go"
      obtain ⟨bq, dxq, hq1, _⟩ := dkA.mono NA.gh
      refine ⟨lo, dxq, _, rfl, hq1, rfl, lo, nrm loneB, eS, GA, rfl, NA.gh, dkA, D, fun bb GB' HB NB hbb _ => ?_⟩
      walk_at "go"
      refine ⟨by show 2 ≤ sizeLine; decide, fun l2 hl2 => ?_⟩
      have NC : Nxt none GB' HB (upd GB' l2 (.lst [.ref bb, .str eS])) (upd HB l2 (.lst [.ref bb, .str eS])) := Nxt.new1 NB.gh hl2
      have WC : WorldAt (upd GB' l2 (.lst [.ref bb, .str eS])) l2 (nrm loneB) eS := ⟨bb, upd_same, hbb.mono NC.gg⟩
      generalize upd GB' l2 (.lst [.ref bb, .str eS]) = GC at NC WC
      generalize upd HB l2 (.lst [.ref bb, .str eS]) = HC at NC ⊢
      obtain ⟨R, hR0, hRB⟩ := jn_cut D D1 wx cB hr2
      obtain ⟨Rt, hRt0, hRtB⟩ := hT
      walk_at "go"
      exact ⟨n3, l2, tk, nrm loneB, tt, eS, _, GC, rfl, NC.gh, dkn.mono (NB.gg.trans NC.gg), Dn', WC.mono NC.gh, D.ok.w, ⟨kF eS, hRt0, hR0⟩, hRtB.comp hRB, fun HD _ => k HD⟩
end
end K69
set_option Elab.async false
set_option linter.all false
set_option maxRecDepth 100000
set_option maxHeartbeats 8000000
namespace K69
open PySem PySem.Spec PyProof.Rows L2
/-- all promises, one behind the other -/
theorem all_ok {P : Program} {w : World} {K : PySem.W.Frag} {mg : Str → Option Value} {base : Heap} {C CI fI fi fb fs fe fl : Addr} {fdI fdi fdb fds fde fdl : FuncData}
    (T : Txt K w mg C) (Z : ZTxt P K mg CI fI fdI)
    (Fi : L2.Fun K "__init__" "Desk.__init__" sDesk_init fi fdi) (Mi : Mk K C fi) (Fb : L2.Fun K "book" "Desk.book" sDesk_book fb fdb) (Mb : Meth K C "book" fb) (Fs : L2.Fun K "start" "Desk.start" sDesk_start fs fds) (Ms : Meth K C "start" fs)
    (Fe : L2.Fun K "__eq__" "Desk.__eq__" sDesk_eq fe fde) (Me1 : PySem.W.findIn K (.ref C) "__eq__" = some (some (.ref fe))) (Me2 : PySem.W.isFn K (.ref fe) = true)
    (F_is_spelt : Has K mg "is_spelt" sis_spelt)
    (F_copied : Has K mg "copied" scopied)
    (F_is_row : Has K mg "is_row" sis_row)
    (F_is_book : Has K mg "is_book" sis_book)
    (F_first_words : Has K mg "first_words" sfirst_words)
    (F_check_desk : Has K mg "check_desk" scheck_desk)
    (F_is_done : Has K mg "is_done" sis_done)
    (F_reached_from : Has K mg "reached_from" sreached_from)
    (F_ends_without : Has K mg "ends_without" sends_without)
    (F_waists_of : Has K mg "waists_of" swaists_of)
    (F_waists : Has K mg "waists" swaists)
    (F_cut_at : Has K mg "cut_at" scut_at)
    (F_second_row : Has K mg "second_row" ssecond_row)
    (F_marked : Has K mg "marked" smarked)
    (F_reached_in : Has K mg "reached_in" sreached_in)
    (F_made : Has K mg "made" smade)
    (F_joined_then : Has K mg "joined_then" sjoined_then)
    (F_then : Has K mg "then" sthen)
    (F_law_differ : Has K mg "_law_differ" sl_differ)
    (F_law_parting : Has K mg "_law_parting" sl_parting)
    (F_law_alike : Has K mg "_law_alike" sl_alike)
    (F_law_world_of : Has K mg "_law_world_of" sl_world_of)
    (F_law_desk : Has K mg "_law_desk" sl_desk)
    (F_law_come_to : Has K mg "_law_come_to" sl_come_to)
    (F_law_walk : Has K mg "_law_walk" sl_walk)
    (F_law_waists : Has K mg "_law_waists" sl_waists)
    (F_law_trimmed : Has K mg "_law_trimmed" sl_trimmed)
    (F_law_is_sound : Has K mg "_law_is_sound" sl_is_sound)
    (F_law_goes : Has K mg "_law_goes" sl_goes)
    (F_law_stays : Has K mg "_law_stays" sl_stays)
    (F_law_behind : Has K mg "_law_behind" sl_behind)
    (F_law_met : Has K mg "_law_met" sl_met)
    (F_law_firsts_right : Has K mg "_law_firsts_right" sl_firsts_right)
    (F_law_marked : Has K mg "_law_marked" sl_marked)
    (F_law_then : Has K mg "_law_then" sl_then)
    (F_law_cut_right : Has K mg "_law_cut_right" sl_cut_right)
    (F_law_is_refused : Has K mg "_law_is_refused" sl_is_refused)
    (F_law_desk_right : Has K mg "_law_desk_right" sl_desk_right)
    (F_law_purse : Has K mg "_law_purse" sl_purse)
    (F_law_purses : Has K mg "_law_purses" sl_purses)
    (F_law_mixed : Has K mg "_law_mixed" sl_mixed)
    (F_law_draw : Has K mg "_law_draw" sl_draw)
    (F_law_one_of : Has K mg "_law_one_of" sl_one_of)
    (F_law_shuffled : Has K mg "_law_shuffled" sl_shuffled)
    (F_law_word : Has K mg "_law_word" sl_word)
    (F_law_words : Has K mg "_law_words" sl_words)
    (F_law_pool : Has K mg "_law_pool" sl_pool)
    (F_law_turns : Has K mg "_law_turns" sl_turns)
    (F_law_world : Has K mg "_law_world" sl_world)
    (F_law_viable : Has K mg "_law_viable" sl_viable)
    (F_law_shape : Has K mg "_law_shape" sl_shape)
    (F_law_row_of : Has K mg "_law_row_of" sl_row_of)
    (F_law_part : Has K mg "_law_part" sl_part)
    (F_law_exact : Has K mg "_law_exact" sl_exact)
    (Fl : L2.Fun K "law" "law" slaw fl fdl) : FnOk P w K mg base L2.CX0 11 fl fdl ["_law_script"] (sp_law K) := by
  have c_is_spelt : Cal P w K mg base 1 "is_spelt" sp_is_spelt := by apply cal_is_spelt <;> assumption
  have c_copied : Cal P w K mg base 1 "copied" sp_copied := by apply cal_copied <;> assumption
  have c_is_row : Cal P w K mg base 2 "is_row" sp_is_row := by apply cal_is_row <;> assumption
  have c_is_book : Cal P w K mg base 3 "is_book" sp_is_book := by apply cal_is_book <;> assumption
  have c_first_words : Cal P w K mg base 1 "first_words" sp_first_words := by apply cal_first_words <;> assumption
  have c_Desk : Mak P w K mg base 4 "Desk" C (sp_init C) := ⟨fi, fdi, ["self", "book", "start"], Mi, by apply ok_init <;> assumption, T.desk, Fi.binds (fun _ _ _ _ _ _ us hl => match us, hl with | [_, _, _], _ => rfl)⟩
  have c_Desk_book : Met P w K mg base 2 C "book" (sp_book C) := ⟨fb, fdb, ["self"], T.insC.cl, Mb, by apply ok_book <;> assumption, Fb.binds (fun _ _ _ _ _ _ us hl => match us, hl with | [_], _ => rfl)⟩
  have c_Desk_start : Met P w K mg base 1 C "start" (sp_start C) := ⟨fs, fds, ["self"], T.insC.cl, Ms, by apply ok_start <;> assumption, Fs.binds (fun _ _ _ _ _ _ us hl => match us, hl with | [_], _ => rfl)⟩
  have c_Desk_eq : Eqs P w K mg base 1 C (ReqD C) := ⟨fe, fde, ["self", "other"], by apply ok_eq <;> assumption, Me1, Me2, Fe.binds (fun _ _ _ _ _ _ us hl => match us, hl with | [_, _], _ => rfl)⟩
  have c_check_desk : Cal P w K mg base 1 "check_desk" (sp_check_desk C) := by apply cal_check_desk <;> assumption
  have c_is_done : Cal P w K mg base 1 "is_done" (sp_is_done C) := by apply cal_is_done <;> assumption
  have c_reached_from : Cal P w K mg base 1 "reached_from" sp_reached_from := by apply cal_reached_from <;> assumption
  have c_ends_without : Cal P w K mg base 2 "ends_without" (sp_ends_without C) := by apply cal_ends_without <;> assumption
  have c_waists_of : Cal P w K mg base 3 "waists_of" (sp_waists_of C) := by apply cal_waists_of <;> assumption
  have c_waists : Cal P w K mg base 4 "waists" (sp_waists_of C) := by apply cal_waists <;> assumption
  have c_cut_at : Cal P w K mg base 6 "cut_at" (sp_cut_at C) := by apply cal_cut_at <;> assumption
  have c_second_row : Cal P w K mg base 1 "second_row" (sp_second_row C) := by apply cal_second_row <;> assumption
  have c_marked : Cal P w K mg base 1 "marked" (sp_marked C) := by apply cal_marked <;> assumption
  have c_reached_in : Cal P w K mg base 1 "reached_in" sp_reached_in := by apply cal_reached_in <;> assumption
  have c_made : Cal P w K mg base 6 "made" (sp_made C) := by apply cal_made <;> assumption
  have c_joined_then : Cal P w K mg base 7 "joined_then" (sp_joined_then C) := by apply cal_joined_then <;> assumption
  have c_then : Cal P w K mg base 8 "then" (sp_joined_then C) := by apply cal_then <;> assumption
  have c_exact1 : Cal P w K mg base 1 "_law_exact" (spE E0) := by apply cal_exact0 <;> assumption
  have c_exact2 : Cal P w K mg base 2 "_law_exact" (spE (EL E0)) := cal_exactL F_law_exact T monE0 c_exact1
  have c_exact3 : Cal P w K mg base 3 "_law_exact" (spE (EL (EL E0))) := cal_exactL F_law_exact T (monEL monE0) c_exact2
  have c_law_differ : Cal P w K mg base 1 "_law_differ" sp_differ := by apply cal_differ <;> assumption
  have c_law_parting : Cal P w K mg base 2 "_law_parting" sp_parting := by apply cal_parting <;> assumption
  have c_law_alike : Cal P w K mg base 3 "_law_alike" sp_alike := by apply cal_alike <;> assumption
  have c_law_world_of : Cal P w K mg base 3 "_law_world_of" (sp_world_of C) := by apply cal_world_of <;> assumption
  have c_law_desk : Cal P w K mg base 6 "_law_desk" (sp_l_desk C) := by apply cal_l_desk <;> assumption
  have c_law_come_to : Cal P w K mg base 1 "_law_come_to" sp_come_to := by apply cal_come_to <;> assumption
  have c_law_walk : Cal P w K mg base 1 "_law_walk" sp_walk := by apply cal_walk <;> assumption
  have c_law_waists : Cal P w K mg base 2 "_law_waists" sp_l_waists := by apply cal_l_waists <;> assumption
  have c_law_trimmed : Cal P w K mg base 2 "_law_trimmed" sp_trimmed := by apply cal_trimmed <;> assumption
  have c_law_is_sound : Cal P w K mg base 6 "_law_is_sound" (sp_is_sound C) := by apply cal_is_sound <;> assumption
  have c_law_goes : Cal P w K mg base 7 "_law_goes" (sp_goes C) := by apply cal_goes <;> assumption
  have c_law_stays : Cal P w K mg base 7 "_law_stays" (sp_stays C) := by apply cal_stays <;> assumption
  have c_law_behind : Cal P w K mg base 1 "_law_behind" sp_behind := by apply cal_behind <;> assumption
  have c_law_met : Cal P w K mg base 1 "_law_met" sp_met := by apply cal_met <;> assumption
  have c_law_firsts_right : Cal P w K mg base 2 "_law_firsts_right" sp_firsts := by apply cal_firsts <;> assumption
  have c_law_marked : Cal P w K mg base 1 "_law_marked" sp_l_marked := by apply cal_l_marked <;> assumption
  have c_law_then : Cal P w K mg base 2 "_law_then" sp_l_then := by apply cal_l_then <;> assumption
  have c_law_cut_right : Cal P w K mg base 9 "_law_cut_right" (sp_cut_right C) := by apply cal_cut_right <;> assumption
  have x_cut_at : CalX P w K mg base 6 "cut_at" (sp_cut_no C CI) := by apply cal_cut_no <;> assumption
  have c_law_is_refused : Cal P w K mg base 9 "_law_is_refused" (sp_is_refused C) := by apply cal_is_refused <;> assumption
  have c_law_desk_right : Cal P w K mg base 10 "_law_desk_right" (sp_desk_right C) := by apply cal_desk_right <;> assumption
  have c_law_purse : Cal P w K mg base 1 "_law_purse" (sp_purse (K := K)) := by apply cal_purse <;> assumption
  have c_law_purses : Cal P w K mg base 2 "_law_purses" (sp_purses K) := by apply cal_purses <;> assumption
  have c_law_mixed : Cal P w K mg base 1 "_law_mixed" sp_mixed := by apply cal_mixed <;> assumption
  have c_law_draw : Cal P w K mg base 2 "_law_draw" sp_draw := by apply cal_draw <;> assumption
  have c_law_one_of : Cal P w K mg base 3 "_law_one_of" sp_one_of := by apply cal_one_of <;> assumption
  have c_law_shuffled : Cal P w K mg base 3 "_law_shuffled" sp_shuffled := by apply cal_shuffled <;> assumption
  have c_law_word : Cal P w K mg base 3 "_law_word" sp_word := by apply cal_word <;> assumption
  have c_law_words : Cal P w K mg base 4 "_law_words" sp_words := by apply cal_words <;> assumption
  have c_law_pool : Cal P w K mg base 5 "_law_pool" sp_pool := by apply cal_pool <;> assumption
  have c_law_turns : Cal P w K mg base 4 "_law_turns" sp_turns := by apply cal_turns <;> assumption
  have c_law_world : Cal P w K mg base 5 "_law_world" sp_world := by apply cal_world <;> assumption
  have c_law_viable : Cal P w K mg base 1 "_law_viable" sp_viable := by apply cal_viable <;> assumption
  have c_law_shape : Cal P w K mg base 5 "_law_shape" sp_shape := by apply cal_shape <;> assumption
  have c_law_row_of : Cal P w K mg base 6 "_law_row_of" sp_row_of := by apply cal_row_of <;> assumption
  have c_law_part : Cal P w K mg base 6 "_law_part" sp_part := by apply cal_part <;> assumption
  apply ok_law <;> assumption
end K69
set_option Elab.async false
set_option linter.all false
set_option maxRecDepth 100000
set_option maxHeartbeats 8000000
namespace K69
open PySem PySem.Spec PyProof.Rows L2
section
variable {P : Program} {w : World} {K : PySem.W.Frag} {h : Heap} {mg : Str → Option Value} {R : Prop}
theorem Has.use {x : Str} {st : Stmt} {f : Addr} {oc : Value} {od an : Option Addr} {osl : Array (Option Value)} {kV doc pm cdv ct : Value} (X : K.In h) (G : h.Ns mainGlobals mg)
    (a : PySem.W.nsIn K mainGlobals x = some (some (.ref f))) (l : K.lookup f = some ⟨oc, od, .func (PySem.W.fnOf x x (defArgs st) (defBody st) (defScope st) .none kV doc pm an cdv ct), osl⟩)
    (c : PySem.W.codeIn K cdv x = true) (k : PySem.W.keepIn K (.ref f) = true) (r : Has K mg x st → R) : R := r (Has.mk' X G a l c k)
theorem txt_use {C td : Addr} {zl : Str} {tl : Tok} {es : Array DictEntry} {n : Nat} {u1 u2 u3 : Value} (X : K.In h) (G : h.Ns mainGlobals mg)
    (aD : PySem.W.nsIn K mainGlobals "Desk" = some (some (.ref C))) (aL : PySem.W.nsIn K mainGlobals "LETTERS" = some (some (.str zl tl))) (eL : zl = "abcdefghijklmnopqrstuvwxyz") (aT : PySem.W.nsIn K mainGlobals "TURNED" = some (some (.ref td)))
    (lT : K.lookup td = some ⟨.type "dict", none, .dict es n, #[]⟩) (kT : PySem.W.KeysLit w.params es.toList) (sT : (td == sysModules) = false)
    (t1 : PySem.W.nsIn K td "says" = some (some u1)) (t2 : PySem.W.nsIn K td "hears" = some (some u2)) (t3 : PySem.W.nsIn K td "done" = some (some u3))
    (pg : PySem.W.plainGet K C Str.empty = true) (hd : PySem.W.hasDictIn K C = true) (po : PySem.W.plainOver K C = true) (sa : PySem.W.findIn K (.ref C) "__setattr__" = some (some (.builtin "object.__setattr__")))
    (ha : PySem.W.findIn K (.ref C) "__class__" = some (some (.builtin "object.__class__"))) (hn : PySem.W.specialIn K (.builtin "object.__class__") "__get__" = some (some (.builtin "getset_descriptor.__get__")))
    (htk : PySem.W.takesIn K (.builtin "object.__class__") = some true) (hm : PySem.W.mroIn K C (.type "object") = some true)
    (nR : PySem.W.findIn K (.ref C) "rows" = some none) (nF : PySem.W.findIn K (.ref C) "first" = some none)
    (b_len : PySem.W.nsIn K mainGlobals "len" = some none)
    (b_isinstance : PySem.W.nsIn K mainGlobals "isinstance" = some none)
    (b_all : PySem.W.nsIn K mainGlobals "all" = some none)
    (b_any : PySem.W.nsIn K mainGlobals "any" = some none)
    (b_sorted : PySem.W.nsIn K mainGlobals "sorted" = some none)
    (b_range : PySem.W.nsIn K mainGlobals "range" = some none)
    (b_zip : PySem.W.nsIn K mainGlobals "zip" = some none)
    (b_sum : PySem.W.nsIn K mainGlobals "sum" = some none)
    (b_max : PySem.W.nsIn K mainGlobals "max" = some none)
    (b_min : PySem.W.nsIn K mainGlobals "min" = some none)
    (b_str : PySem.W.nsIn K mainGlobals "str" = some none)
    (b_list : PySem.W.nsIn K mainGlobals "list" = some none)
    (b_dict : PySem.W.nsIn K mainGlobals "dict" = some none)
    (b_int : PySem.W.nsIn K mainGlobals "int" = some none)
    (b_bool : PySem.W.nsIn K mainGlobals "bool" = some none)
    (b_tuple : PySem.W.nsIn K mainGlobals "tuple" = some none)
    (r : Txt K w mg C → R) : R := r
  { letters := ⟨_, PySem.W.mg_of X G aL, tl, by rw [eL]⟩, turned := ⟨td, es, n, PySem.W.mg_of X G aT, ⟨lT, kT, sT⟩, fun z hz => by
      rcases hz with rfl | rfl | rfl
      · exact ⟨_, t1⟩
      · exact ⟨_, t2⟩
      · exact ⟨_, t3⟩⟩,
    desk := PySem.W.mg_of X G aD, insC := ⟨⟨pg, hd, po, sa⟩, ha, hn, htk, hm, by unfold PySem.W.kitOne; rw [if_pos (by simp)]⟩, nR := nR, nF := nF, len := PySem.W.mg_none_of X G b_len, isinstance := PySem.W.mg_none_of X G b_isinstance, all := PySem.W.mg_none_of X G b_all, any := PySem.W.mg_none_of X G b_any, sorted := PySem.W.mg_none_of X G b_sorted, range := PySem.W.mg_none_of X G b_range, zip := PySem.W.mg_none_of X G b_zip, sum := PySem.W.mg_none_of X G b_sum, max := PySem.W.mg_none_of X G b_max, min := PySem.W.mg_none_of X G b_min, tstr := PySem.W.mg_none_of X G b_str, tlist := PySem.W.mg_none_of X G b_list, tdict := PySem.W.mg_none_of X G b_dict, tint := PySem.W.mg_none_of X G b_int, tbool := PySem.W.mg_none_of X G b_bool, ttuple := PySem.W.mg_none_of X G b_tuple }
theorem met_use {C : Addr} {m q : Str} {st : Stmt} {f : Addr} {oc : Value} {od an : Option Addr} {osl : Array (Option Value)} {kV doc pm cdv ct : Value} (T : Txt K w mg C)
    (a : PySem.W.findIn K (.ref C) m = some (some (.ref f))) (i : PySem.W.isFn K (.ref f) = true) (l : K.lookup f = some ⟨oc, od, .func (PySem.W.fnOf m q (defArgs st) (defBody st) (defScope st) .none kV doc pm an cdv ct), osl⟩)
    (c : PySem.W.codeIn K cdv q = true) (k : PySem.W.keepIn K (.ref f) = true) (r : ∀ fd, L2.Fun K m q st f fd → PySem.W.findIn K (.ref C) m = some (some (.ref f)) → PySem.W.isFn K (.ref f) = true → PySem.W.keepIn K (.ref f) = true → R) : R := r _ (fun_mk l c k) a i k
theorem exm_me {S : Addr} (h1 : PySem.W.subIn K (.ref S) (.type "BaseException") = some true) (h2 : PySem.W.isClsIn K S = true) (h3 : PySem.W.typeIn K (.ref S) = some (.type "type")) (h4 : PySem.W.subIn K (.ref S) (.ref S) = some true) : PySem.W.exmOne K (.ref S) (.ref S) = some true := by
  have e2 : (PySem.W.clsIn K S).isSome = true := h2
  have e3 : PySem.W.kitCls K (.ref S) (.ref S) = some true := by
    show (if ((PySem.W.clsIn K S).isSome && PySem.W.typeIn K (.ref S) == some (.type "type")) = true then PySem.W.subIn K (.ref S) (.ref S) else none) = some true
    rw [e2, h3, h4]
    exact if_pos (by decide)
  unfold PySem.W.exmOne
  rw [h1, e3]
  rfl
theorem bd_xinit {TD cc : Addr} {tc dv kV doc pm cdv ct : Value} {tdd an : Option Addr} {n : Nat} {tsl : Array (Option Value)} (lT : K.lookup TD = some ⟨tc, tdd, .seq #[dv] n, tsl⟩) :
    Binds K (PySem.W.fnX "__init__" "InvalidState.__init__" (defArgs sX_init) (defBody sX_init) (defScope sX_init) [("__class__", cc)] (.ref TD) kV doc pm an cdv ct) ["self", "value"] [] :=
  fun s us X hl => match us, hl with | [a, b], _ => BindsTo.of_defaults rfl (X _ _ lT) rfl rfl rfl
theorem z_use {CI fI TD cc c : Addr} {oc kV doc pm ct tc dv cl ocl : Value} {od tdd cld ocd : Option Addr} {osl tsl csl ocs : Array (Option Value)} {cvs : Array Value} {n : Nat} {file : Str} {tf : Tok}
    {nm q : Str} {N : Addr} {bs bm : List Value} {sn : List Str} {sub : List Value} {ab : Bool} {col : Option Bool} {dd : Option Addr} {k0 k1 k2 k3 k5 : Option Value}
    (X : K.In h) (G : h.Ns mainGlobals mg)
    (aC : PySem.W.nsIn K mainGlobals "InvalidState" = some (some (.ref CI))) (iC : PySem.W.findIn K (.ref CI) "__init__" = some (some (.ref fI))) (tI : PySem.W.typeIn K (.ref fI) = some (.type "function"))
    (lI : K.lookup fI = some ⟨oc, od, .func (PySem.W.fnX "__init__" "InvalidState.__init__" (defArgs sX_init) (defBody sX_init) (defScope sX_init) [("__class__", cc)] (.ref TD) kV doc pm none (.ref c) ct), osl⟩)
    (lT : K.lookup TD = some ⟨tc, tdd, .seq #[dv] n, tsl⟩) (cI : PySem.W.codeIn K (.ref c) "InvalidState.__init__" = true)
    (lcc : K.lookup cc = some ⟨cl, cld, .cell (some (.ref CI)), csl⟩) (lc : K.lookup c = some ⟨ocl, ocd, .fields cvs, ocs⟩) (hv : cvs[2]? = some (.str file tf)) (hf : ((P.main.file : Str) == file) = true)
    (tp : (P.main.scope.names.lookup ("super" : Str)).isSome = false) (ns : PySem.W.nsIn K mainGlobals "super" = some none)
    (sup : PySem.W.ks_superIn K CI CI "__init__" = some (some (.builtin "ValueError.__init__"))) (mro : PySem.W.mroIn K CI (.ref CI) = some true) (sb : PySem.W.subIn K (.ref CI) (.type "ValueError") = some true)
    (th : PySem.W.nsIn K cStatics "thirdparty.any" = some none) (nv : PySem.W.findIn K (.ref CI) "value" = some none)
    (xL : K.lookup CI = some (excClassObj nm q CI N bs bm true sn sub ab col dd k0 k1 k2 k3 k5 "ValueError.__new__")) (ve : PySem.HandSPX.refsVE bm = true)
    (sa : PySem.W.findIn K (.ref CI) "__setattr__" = some (some (.builtin "object.__setattr__"))) (eC : PySem.W.subIn K (.ref CI) (.type "BaseException") = some true) (tC : PySem.W.typeIn K (.ref CI) = some (.type "type")) (kC : PySem.W.keepIn K (.ref CI) = true)
    (ga : PySem.W.findIn K (.ref CI) "__getattribute__" = some (some (.builtin "BaseException.__getattribute__"))) (gg : PySem.W.findIn K (.ref CI) "__getattr__" = some none) (hdC : PySem.W.hasDictIn K CI = true)
    (isC : PySem.W.isClsIn K CI = true) (sC : PySem.W.subIn K (.ref CI) (.ref CI) = some true)
    (r : ∀ fd, ZTxt P K mg CI fI fd → R) : R :=
  r _ { xfn := { ex := ⟨_, _, _, _, _, _, _, _, _, _, _, _, _, _, _, _, _, _, _, rfl, lI, cI, lcc, lc, hv, hf⟩, top := tp, noSuper := PySem.W.mg_none_of X G ns, sup := sup, mro := mro, sub := sb, third := th, noval := nv,
                 cls := ⟨⟨nm, q, N, bs, bm, sn, sub, ab, col, dd, k0, k1, k2, k3, k5, xL, ve⟩, sa, eC, tC, kC⟩ },
        iC := iC, tI := tI, gm := PySem.W.mg_of X G aC, xf := ⟨ga, gg, eC, hdC⟩, exm := exm_me eC isC tC sC, bd := bd_xinit lT }
theorem law_use {l : PySem.W.OpenLaw} {fa f : Addr} {oc : Value} {od an : Option Addr} {osl : Array (Option Value)} {kV doc pm cdv ct : Value} (X : K.In h) (G : h.Ns mainGlobals mg) (hfa : mg "law" = some (.ref fa))
    (a : PySem.W.nsIn K mainGlobals "law" = some (some (.ref f))) (lk : K.lookup f = some ⟨oc, od, .func (PySem.W.fnOf "law" "law" (defArgs slaw) (defBody slaw) (defScope slaw) .none kV doc pm an cdv ct), osl⟩)
    (c : PySem.W.codeIn K cdv "law" = true) (k : PySem.W.keepIn K (.ref f) = true)
    (r : ∀ fd base, L2.Fun K "law" "law" slaw f fd → FnOk l.prog w K mg base L2.CX0 11 f fd ["_law_script"] (sp_law K)) :
    ∃ fd : FuncData, (∀ (s : Shared) (v : Value), BindsTo s fd ⟨[v], []⟩ [("_law_script", v)]) ∧ ∀ base : Heap, K.In base → base.Ns mainGlobals mg → FnOk l.prog w K mg base L2.CX0 11 fa fd ["_law_script"] (sp_law K) := by
  have e := hfa.symm.trans (PySem.W.mg_of X G a)
  cases e
  exact ⟨PySem.W.fnOf "law" "law" (defArgs slaw) (defBody slaw) (defScope slaw) .none kV doc pm an cdv ct, fun s v => .of_eq rfl, fun base _ _ => r _ base (fun_mk lk c k)⟩
end
end K69
set_option Elab.async false
set_option linter.all false
set_option maxRecDepth 100000
set_option maxHeartbeats 0
open PySem PySem.W PyProof.Rows
open_top hd69 for PySem.Challenge.rw_endswell_k69_whole_waists_and_cuts
set_option Elab.async false
set_option linter.all false
set_option maxRecDepth 100000
set_option maxHeartbeats 0
open PySem PySem.W PySem.Spec PyProof.Rows L2 K69
theorem PySem.Challenge.cw_endswell_k69_whole_waists_and_cuts_holds : PySem.Challenge.rw_endswell_k69_whole_waists_and_cuts.Holds := by
  refine hd69 ?_
  k_fill
  refine L2.walk_ofK (l := PySem.Challenge.rw_endswell_k69_whole_waists_and_cuts) (n := 63) (k := 11) (x := "_law_script") (CX := L2.CX0) (sp := K69.sp_law) rfl (by decide) rfl ⟨rfl, by decide, by decide⟩ (fun w h Y => PySem.W.kIn_of Y) ?F (fun K H a ns hl _ hS => ⟨a, ns, rfl, hS, Nat.le_trans hl (by decide), fun _ => rfl⟩) (fun _ _ _ _ z => z)
  intro w mg fa h KX G hmg
  have hfa : mg "law" = some (.ref fa) := hmg
  clear hmg
  refine' K69.txt_use (w := w) KX G ?q1_aD ?q1_aL ?q1_eL ?q1_aT ?q1_lT ?q1_kT ?q1_sT ?q1_t1 ?q1_t2 ?q1_t3 ?q1_pg ?q1_hd ?q1_po ?q1_sa ?q1_ha ?q1_hn ?q1_htk ?q1_hm ?q1_nR ?q1_nF ?q1_b_len ?q1_b_isinstance ?q1_b_all ?q1_b_any ?q1_b_sorted ?q1_b_range ?q1_b_zip ?q1_b_sum ?q1_b_max ?q1_b_min ?q1_b_str ?q1_b_list ?q1_b_dict ?q1_b_int ?q1_b_bool ?q1_b_tuple ?q1_r
  (case q1_aD => k_is); (case q1_aL => k_is)
  (case q1_eL => first | rfl | decide +kernel)
  (case q1_aT => k_is); (case q1_lT => k_is)
  (case q1_kT => exact ⟨⟨_, _, rfl, rfl⟩, ⟨_, _, rfl, rfl⟩, ⟨_, _, rfl, rfl⟩, trivial⟩)
  (case q1_sT => first | rfl | decide +kernel)
  (case q1_t1 => k_is); (case q1_t2 => k_is); (case q1_t3 => k_is); (case q1_pg => k_is); (case q1_hd => k_is); (case q1_po => k_is); (case q1_sa => k_is); (case q1_ha => k_is); (case q1_hn => k_is); (case q1_htk => k_is); (case q1_hm => k_is); (case q1_nR => k_is); (case q1_nF => k_is); (case q1_b_len => k_is); (case q1_b_isinstance => k_is); (case q1_b_all => k_is); (case q1_b_any => k_is); (case q1_b_sorted => k_is); (case q1_b_range => k_is); (case q1_b_zip => k_is); (case q1_b_sum => k_is); (case q1_b_max => k_is); (case q1_b_min => k_is); (case q1_b_str => k_is); (case q1_b_list => k_is); (case q1_b_dict => k_is); (case q1_b_int => k_is); (case q1_b_bool => k_is); (case q1_b_tuple => k_is)
  case' q1_r => intro T
  refine' K69.met_use (m := "__init__") (q := "Desk.__init__") (st := K69.sDesk_init) T ?q2_a ?q2_i ?q2_l ?q2_c ?q2_k ?q2_r
  (case q2_a => k_is); (case q2_i => k_is); (case q2_l => k_is); (case q2_c => k_is); (case q2_k => k_is)
  case' q2_r => intro fdi Fi ai ii ki
  refine' K69.met_use (m := "book") (q := "Desk.book") (st := K69.sDesk_book) T ?q3_a ?q3_i ?q3_l ?q3_c ?q3_k ?q3_r
  (case q3_a => k_is); (case q3_i => k_is); (case q3_l => k_is); (case q3_c => k_is); (case q3_k => k_is)
  case' q3_r => intro fdb Fb ab ib kb
  refine' K69.met_use (m := "start") (q := "Desk.start") (st := K69.sDesk_start) T ?q4_a ?q4_i ?q4_l ?q4_c ?q4_k ?q4_r
  (case q4_a => k_is); (case q4_i => k_is); (case q4_l => k_is); (case q4_c => k_is); (case q4_k => k_is)
  case' q4_r => intro fds Fs as is ks
  refine' K69.met_use (m := "__eq__") (q := "Desk.__eq__") (st := K69.sDesk_eq) T ?q5_a ?q5_i ?q5_l ?q5_c ?q5_k ?q5_r
  (case q5_a => k_is); (case q5_i => k_is); (case q5_l => k_is); (case q5_c => k_is); (case q5_k => k_is)
  case' q5_r => intro fde Fe ae ie ke
  refine' K69.z_use (P := (PySem.Challenge.rw_endswell_k69_whole_waists_and_cuts).prog) KX G ?q6_aC ?q6_iC ?q6_tI ?q6_lI ?q6_lT ?q6_cI ?q6_lcc ?q6_lc ?q6_hv ?q6_hf ?q6_tp ?q6_ns ?q6_sup ?q6_mro ?q6_sb ?q6_th ?q6_nv ?q6_xL ?q6_ve ?q6_sa ?q6_eC ?q6_tC ?q6_kC ?q6_ga ?q6_gg ?q6_hdC ?q6_isC ?q6_sC ?q6_r
  (case q6_aC => k_is); (case q6_iC => k_is); (case q6_tI => k_is); (case q6_lI => k_is); (case q6_lT => k_is); (case q6_cI => k_is); (case q6_lcc => k_is); (case q6_lc => k_is)
  (case q6_hv => rfl); (case q6_hf => first | rfl | decide +kernel); (case q6_tp => first | rfl | decide +kernel)
  (case q6_ns => k_is)
  (case q6_sup => ks_is)
  (case q6_mro => k_is); (case q6_sb => k_is); (case q6_th => k_is); (case q6_nv => k_is); (case q6_xL => k_is)
  (case q6_ve => decide +kernel)
  (case q6_sa => k_is); (case q6_eC => k_is); (case q6_tC => k_is); (case q6_kC => k_is); (case q6_ga => k_is); (case q6_gg => k_is); (case q6_hdC => k_is); (case q6_isC => k_is)
  (case q6_sC => first | rfl | k_is)
  case' q6_r => intro fdI Z
  refine' K69.Has.use (x := "is_spelt") (st := K69.sis_spelt) KX G ?q7_a ?q7_l ?q7_c ?q7_k ?q7_r
  (case q7_a => k_is); (case q7_l => k_is); (case q7_c => k_is); (case q7_k => k_is)
  case' q7_r => intro F_is_spelt
  refine' K69.Has.use (x := "copied") (st := K69.scopied) KX G ?q8_a ?q8_l ?q8_c ?q8_k ?q8_r
  (case q8_a => k_is); (case q8_l => k_is); (case q8_c => k_is); (case q8_k => k_is)
  case' q8_r => intro F_copied
  refine' K69.Has.use (x := "is_row") (st := K69.sis_row) KX G ?q9_a ?q9_l ?q9_c ?q9_k ?q9_r
  (case q9_a => k_is); (case q9_l => k_is); (case q9_c => k_is); (case q9_k => k_is)
  case' q9_r => intro F_is_row
  refine' K69.Has.use (x := "is_book") (st := K69.sis_book) KX G ?q10_a ?q10_l ?q10_c ?q10_k ?q10_r
  (case q10_a => k_is); (case q10_l => k_is); (case q10_c => k_is); (case q10_k => k_is)
  case' q10_r => intro F_is_book
  refine' K69.Has.use (x := "first_words") (st := K69.sfirst_words) KX G ?q11_a ?q11_l ?q11_c ?q11_k ?q11_r
  (case q11_a => k_is); (case q11_l => k_is); (case q11_c => k_is); (case q11_k => k_is)
  case' q11_r => intro F_first_words
  refine' K69.Has.use (x := "check_desk") (st := K69.scheck_desk) KX G ?q12_a ?q12_l ?q12_c ?q12_k ?q12_r
  (case q12_a => k_is); (case q12_l => k_is); (case q12_c => k_is); (case q12_k => k_is)
  case' q12_r => intro F_check_desk
  refine' K69.Has.use (x := "is_done") (st := K69.sis_done) KX G ?q13_a ?q13_l ?q13_c ?q13_k ?q13_r
  (case q13_a => k_is); (case q13_l => k_is); (case q13_c => k_is); (case q13_k => k_is)
  case' q13_r => intro F_is_done
  refine' K69.Has.use (x := "reached_from") (st := K69.sreached_from) KX G ?q14_a ?q14_l ?q14_c ?q14_k ?q14_r
  (case q14_a => k_is); (case q14_l => k_is); (case q14_c => k_is); (case q14_k => k_is)
  case' q14_r => intro F_reached_from
  refine' K69.Has.use (x := "ends_without") (st := K69.sends_without) KX G ?q15_a ?q15_l ?q15_c ?q15_k ?q15_r
  (case q15_a => k_is); (case q15_l => k_is); (case q15_c => k_is); (case q15_k => k_is)
  case' q15_r => intro F_ends_without
  refine' K69.Has.use (x := "waists_of") (st := K69.swaists_of) KX G ?q16_a ?q16_l ?q16_c ?q16_k ?q16_r
  (case q16_a => k_is); (case q16_l => k_is); (case q16_c => k_is); (case q16_k => k_is)
  case' q16_r => intro F_waists_of
  refine' K69.Has.use (x := "waists") (st := K69.swaists) KX G ?q17_a ?q17_l ?q17_c ?q17_k ?q17_r
  (case q17_a => k_is); (case q17_l => k_is); (case q17_c => k_is); (case q17_k => k_is)
  case' q17_r => intro F_waists
  refine' K69.Has.use (x := "cut_at") (st := K69.scut_at) KX G ?q18_a ?q18_l ?q18_c ?q18_k ?q18_r
  (case q18_a => k_is); (case q18_l => k_is); (case q18_c => k_is); (case q18_k => k_is)
  case' q18_r => intro F_cut_at
  refine' K69.Has.use (x := "second_row") (st := K69.ssecond_row) KX G ?q19_a ?q19_l ?q19_c ?q19_k ?q19_r
  (case q19_a => k_is); (case q19_l => k_is); (case q19_c => k_is); (case q19_k => k_is)
  case' q19_r => intro F_second_row
  refine' K69.Has.use (x := "marked") (st := K69.smarked) KX G ?q20_a ?q20_l ?q20_c ?q20_k ?q20_r
  (case q20_a => k_is); (case q20_l => k_is); (case q20_c => k_is); (case q20_k => k_is)
  case' q20_r => intro F_marked
  refine' K69.Has.use (x := "reached_in") (st := K69.sreached_in) KX G ?q21_a ?q21_l ?q21_c ?q21_k ?q21_r
  (case q21_a => k_is); (case q21_l => k_is); (case q21_c => k_is); (case q21_k => k_is)
  case' q21_r => intro F_reached_in
  refine' K69.Has.use (x := "made") (st := K69.smade) KX G ?q22_a ?q22_l ?q22_c ?q22_k ?q22_r
  (case q22_a => k_is); (case q22_l => k_is); (case q22_c => k_is); (case q22_k => k_is)
  case' q22_r => intro F_made
  refine' K69.Has.use (x := "joined_then") (st := K69.sjoined_then) KX G ?q23_a ?q23_l ?q23_c ?q23_k ?q23_r
  (case q23_a => k_is); (case q23_l => k_is); (case q23_c => k_is); (case q23_k => k_is)
  case' q23_r => intro F_joined_then
  refine' K69.Has.use (x := "then") (st := K69.sthen) KX G ?q24_a ?q24_l ?q24_c ?q24_k ?q24_r
  (case q24_a => k_is); (case q24_l => k_is); (case q24_c => k_is); (case q24_k => k_is)
  case' q24_r => intro F_then
  refine' K69.Has.use (x := "_law_differ") (st := K69.sl_differ) KX G ?q25_a ?q25_l ?q25_c ?q25_k ?q25_r
  (case q25_a => k_is); (case q25_l => k_is); (case q25_c => k_is); (case q25_k => k_is)
  case' q25_r => intro F_law_differ
  refine' K69.Has.use (x := "_law_parting") (st := K69.sl_parting) KX G ?q26_a ?q26_l ?q26_c ?q26_k ?q26_r
  (case q26_a => k_is); (case q26_l => k_is); (case q26_c => k_is); (case q26_k => k_is)
  case' q26_r => intro F_law_parting
  refine' K69.Has.use (x := "_law_alike") (st := K69.sl_alike) KX G ?q27_a ?q27_l ?q27_c ?q27_k ?q27_r
  (case q27_a => k_is); (case q27_l => k_is); (case q27_c => k_is); (case q27_k => k_is)
  case' q27_r => intro F_law_alike
  refine' K69.Has.use (x := "_law_world_of") (st := K69.sl_world_of) KX G ?q28_a ?q28_l ?q28_c ?q28_k ?q28_r
  (case q28_a => k_is); (case q28_l => k_is); (case q28_c => k_is); (case q28_k => k_is)
  case' q28_r => intro F_law_world_of
  refine' K69.Has.use (x := "_law_desk") (st := K69.sl_desk) KX G ?q29_a ?q29_l ?q29_c ?q29_k ?q29_r
  (case q29_a => k_is); (case q29_l => k_is); (case q29_c => k_is); (case q29_k => k_is)
  case' q29_r => intro F_law_desk
  refine' K69.Has.use (x := "_law_come_to") (st := K69.sl_come_to) KX G ?q30_a ?q30_l ?q30_c ?q30_k ?q30_r
  (case q30_a => k_is); (case q30_l => k_is); (case q30_c => k_is); (case q30_k => k_is)
  case' q30_r => intro F_law_come_to
  refine' K69.Has.use (x := "_law_walk") (st := K69.sl_walk) KX G ?q31_a ?q31_l ?q31_c ?q31_k ?q31_r
  (case q31_a => k_is); (case q31_l => k_is); (case q31_c => k_is); (case q31_k => k_is)
  case' q31_r => intro F_law_walk
  refine' K69.Has.use (x := "_law_waists") (st := K69.sl_waists) KX G ?q32_a ?q32_l ?q32_c ?q32_k ?q32_r
  (case q32_a => k_is); (case q32_l => k_is); (case q32_c => k_is); (case q32_k => k_is)
  case' q32_r => intro F_law_waists
  refine' K69.Has.use (x := "_law_trimmed") (st := K69.sl_trimmed) KX G ?q33_a ?q33_l ?q33_c ?q33_k ?q33_r
  (case q33_a => k_is); (case q33_l => k_is); (case q33_c => k_is); (case q33_k => k_is)
  case' q33_r => intro F_law_trimmed
  refine' K69.Has.use (x := "_law_is_sound") (st := K69.sl_is_sound) KX G ?q34_a ?q34_l ?q34_c ?q34_k ?q34_r
  (case q34_a => k_is); (case q34_l => k_is); (case q34_c => k_is); (case q34_k => k_is)
  case' q34_r => intro F_law_is_sound
  refine' K69.Has.use (x := "_law_goes") (st := K69.sl_goes) KX G ?q35_a ?q35_l ?q35_c ?q35_k ?q35_r
  (case q35_a => k_is); (case q35_l => k_is); (case q35_c => k_is); (case q35_k => k_is)
  case' q35_r => intro F_law_goes
  refine' K69.Has.use (x := "_law_stays") (st := K69.sl_stays) KX G ?q36_a ?q36_l ?q36_c ?q36_k ?q36_r
  (case q36_a => k_is); (case q36_l => k_is); (case q36_c => k_is); (case q36_k => k_is)
  case' q36_r => intro F_law_stays
  refine' K69.Has.use (x := "_law_behind") (st := K69.sl_behind) KX G ?q37_a ?q37_l ?q37_c ?q37_k ?q37_r
  (case q37_a => k_is); (case q37_l => k_is); (case q37_c => k_is); (case q37_k => k_is)
  case' q37_r => intro F_law_behind
  refine' K69.Has.use (x := "_law_met") (st := K69.sl_met) KX G ?q38_a ?q38_l ?q38_c ?q38_k ?q38_r
  (case q38_a => k_is); (case q38_l => k_is); (case q38_c => k_is); (case q38_k => k_is)
  case' q38_r => intro F_law_met
  refine' K69.Has.use (x := "_law_firsts_right") (st := K69.sl_firsts_right) KX G ?q39_a ?q39_l ?q39_c ?q39_k ?q39_r
  (case q39_a => k_is); (case q39_l => k_is); (case q39_c => k_is); (case q39_k => k_is)
  case' q39_r => intro F_law_firsts_right
  refine' K69.Has.use (x := "_law_marked") (st := K69.sl_marked) KX G ?q40_a ?q40_l ?q40_c ?q40_k ?q40_r
  (case q40_a => k_is); (case q40_l => k_is); (case q40_c => k_is); (case q40_k => k_is)
  case' q40_r => intro F_law_marked
  refine' K69.Has.use (x := "_law_then") (st := K69.sl_then) KX G ?q41_a ?q41_l ?q41_c ?q41_k ?q41_r
  (case q41_a => k_is); (case q41_l => k_is); (case q41_c => k_is); (case q41_k => k_is)
  case' q41_r => intro F_law_then
  refine' K69.Has.use (x := "_law_cut_right") (st := K69.sl_cut_right) KX G ?q42_a ?q42_l ?q42_c ?q42_k ?q42_r
  (case q42_a => k_is); (case q42_l => k_is); (case q42_c => k_is); (case q42_k => k_is)
  case' q42_r => intro F_law_cut_right
  refine' K69.Has.use (x := "_law_is_refused") (st := K69.sl_is_refused) KX G ?q43_a ?q43_l ?q43_c ?q43_k ?q43_r
  (case q43_a => k_is); (case q43_l => k_is); (case q43_c => k_is); (case q43_k => k_is)
  case' q43_r => intro F_law_is_refused
  refine' K69.Has.use (x := "_law_desk_right") (st := K69.sl_desk_right) KX G ?q44_a ?q44_l ?q44_c ?q44_k ?q44_r
  (case q44_a => k_is); (case q44_l => k_is); (case q44_c => k_is); (case q44_k => k_is)
  case' q44_r => intro F_law_desk_right
  refine' K69.Has.use (x := "_law_purse") (st := K69.sl_purse) KX G ?q45_a ?q45_l ?q45_c ?q45_k ?q45_r
  (case q45_a => k_is); (case q45_l => k_is); (case q45_c => k_is); (case q45_k => k_is)
  case' q45_r => intro F_law_purse
  refine' K69.Has.use (x := "_law_purses") (st := K69.sl_purses) KX G ?q46_a ?q46_l ?q46_c ?q46_k ?q46_r
  (case q46_a => k_is); (case q46_l => k_is); (case q46_c => k_is); (case q46_k => k_is)
  case' q46_r => intro F_law_purses
  refine' K69.Has.use (x := "_law_mixed") (st := K69.sl_mixed) KX G ?q47_a ?q47_l ?q47_c ?q47_k ?q47_r
  (case q47_a => k_is); (case q47_l => k_is); (case q47_c => k_is); (case q47_k => k_is)
  case' q47_r => intro F_law_mixed
  refine' K69.Has.use (x := "_law_draw") (st := K69.sl_draw) KX G ?q48_a ?q48_l ?q48_c ?q48_k ?q48_r
  (case q48_a => k_is); (case q48_l => k_is); (case q48_c => k_is); (case q48_k => k_is)
  case' q48_r => intro F_law_draw
  refine' K69.Has.use (x := "_law_one_of") (st := K69.sl_one_of) KX G ?q49_a ?q49_l ?q49_c ?q49_k ?q49_r
  (case q49_a => k_is); (case q49_l => k_is); (case q49_c => k_is); (case q49_k => k_is)
  case' q49_r => intro F_law_one_of
  refine' K69.Has.use (x := "_law_shuffled") (st := K69.sl_shuffled) KX G ?q50_a ?q50_l ?q50_c ?q50_k ?q50_r
  (case q50_a => k_is); (case q50_l => k_is); (case q50_c => k_is); (case q50_k => k_is)
  case' q50_r => intro F_law_shuffled
  refine' K69.Has.use (x := "_law_word") (st := K69.sl_word) KX G ?q51_a ?q51_l ?q51_c ?q51_k ?q51_r
  (case q51_a => k_is); (case q51_l => k_is); (case q51_c => k_is); (case q51_k => k_is)
  case' q51_r => intro F_law_word
  refine' K69.Has.use (x := "_law_words") (st := K69.sl_words) KX G ?q52_a ?q52_l ?q52_c ?q52_k ?q52_r
  (case q52_a => k_is); (case q52_l => k_is); (case q52_c => k_is); (case q52_k => k_is)
  case' q52_r => intro F_law_words
  refine' K69.Has.use (x := "_law_pool") (st := K69.sl_pool) KX G ?q53_a ?q53_l ?q53_c ?q53_k ?q53_r
  (case q53_a => k_is); (case q53_l => k_is); (case q53_c => k_is); (case q53_k => k_is)
  case' q53_r => intro F_law_pool
  refine' K69.Has.use (x := "_law_turns") (st := K69.sl_turns) KX G ?q54_a ?q54_l ?q54_c ?q54_k ?q54_r
  (case q54_a => k_is); (case q54_l => k_is); (case q54_c => k_is); (case q54_k => k_is)
  case' q54_r => intro F_law_turns
  refine' K69.Has.use (x := "_law_world") (st := K69.sl_world) KX G ?q55_a ?q55_l ?q55_c ?q55_k ?q55_r
  (case q55_a => k_is); (case q55_l => k_is); (case q55_c => k_is); (case q55_k => k_is)
  case' q55_r => intro F_law_world
  refine' K69.Has.use (x := "_law_viable") (st := K69.sl_viable) KX G ?q56_a ?q56_l ?q56_c ?q56_k ?q56_r
  (case q56_a => k_is); (case q56_l => k_is); (case q56_c => k_is); (case q56_k => k_is)
  case' q56_r => intro F_law_viable
  refine' K69.Has.use (x := "_law_shape") (st := K69.sl_shape) KX G ?q57_a ?q57_l ?q57_c ?q57_k ?q57_r
  (case q57_a => k_is); (case q57_l => k_is); (case q57_c => k_is); (case q57_k => k_is)
  case' q57_r => intro F_law_shape
  refine' K69.Has.use (x := "_law_row_of") (st := K69.sl_row_of) KX G ?q58_a ?q58_l ?q58_c ?q58_k ?q58_r
  (case q58_a => k_is); (case q58_l => k_is); (case q58_c => k_is); (case q58_k => k_is)
  case' q58_r => intro F_law_row_of
  refine' K69.Has.use (x := "_law_part") (st := K69.sl_part) KX G ?q59_a ?q59_l ?q59_c ?q59_k ?q59_r
  (case q59_a => k_is); (case q59_l => k_is); (case q59_c => k_is); (case q59_k => k_is)
  case' q59_r => intro F_law_part
  refine' K69.Has.use (x := "_law_exact") (st := K69.sl_exact) KX G ?q60_a ?q60_l ?q60_c ?q60_k ?q60_r
  (case q60_a => k_is); (case q60_l => k_is); (case q60_c => k_is); (case q60_k => k_is)
  case' q60_r => intro F_law_exact
  refine' K69.law_use (l := PySem.Challenge.rw_endswell_k69_whole_waists_and_cuts) KX G hfa ?q61_a ?q61_l ?q61_c ?q61_k ?q61_r
  (case q61_a => k_is); (case q61_l => k_is); (case q61_c => k_is); (case q61_k => k_is)
  case q61_r =>
    intro fdl base Fl
    have Mi : ∃ mk kc, (⟨mk, ai, ii, kc⟩ : Mk _ _ _) = ⟨mk, ai, ii, kc⟩ := ⟨by k_is, by k_is, rfl⟩
    obtain ⟨mk, kc, _⟩ := Mi
    exact K69.all_ok T Z Fi ⟨mk, ai, ii, kc⟩ Fb ⟨ab, ib, kb⟩ Fs ⟨as, is, ks⟩ Fe ae ie F_is_spelt F_copied F_is_row F_is_book F_first_words F_check_desk F_is_done F_reached_from F_ends_without F_waists_of F_waists F_cut_at F_second_row F_marked F_reached_in F_made F_joined_then F_then F_law_differ F_law_parting F_law_alike F_law_world_of F_law_desk F_law_come_to F_law_walk F_law_waists F_law_trimmed F_law_is_sound F_law_goes F_law_stays F_law_behind F_law_met F_law_firsts_right F_law_marked F_law_then F_law_cut_right F_law_is_refused F_law_desk_right F_law_purse F_law_purses F_law_mixed F_law_draw F_law_one_of F_law_shuffled F_law_word F_law_words F_law_pool F_law_turns F_law_world F_law_viable F_law_shape F_law_row_of F_law_part F_law_exact Fl
#print axioms PySem.Challenge.cw_endswell_k69_whole_waists_and_cuts_holds
