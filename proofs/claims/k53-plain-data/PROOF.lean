import PyProof.Rows.All
import Wide.All
import OpenK.AllK
import Wide.FinOn
import HandS.ForMost
import HandS.Exc
import HandS.TryOnly
import HandS.ExcOwn
import HandS.WordsExc
import HandS.IsInst
import HandS.Flow
import HandS.Style
import HandS.Conv
import HandS.Codes
import HandS.Walk
import PySem.Challenge.RW_forksalike_k53_whole_plain_data
import HandS.Wide
import HandS.More
import HandS.RaiseMore
import KE.KIntText
import KE.DatumIndex
import PyProof.Rows.StrOr
import PyProof.Draws
set_option Elab.async false
set_option linter.all false
set_option maxRecDepth 100000
set_option maxHeartbeats 4000000
namespace Z
open PySem PySem.Spec PyProof.Rows L2
/-! ### the text by places -/
def top (i : Nat) : Stmt := PySem.Challenge.pw_forksalike_k53_whole_plain_data.main.body.getD i (.Pass ⟨0, 0, 0, 0⟩)
abbrev s_is_whole : Stmt := top 5
abbrev s_is_word : Stmt := top 12
abbrev s_is_short : Stmt := top 13
abbrev s_atom_text : Stmt := top 14
abbrev s_write_data : Stmt := top 15
abbrev s_read_whole : Stmt := top 16
abbrev s_read_atom : Stmt := top 17
abbrev s_pieces_of : Stmt := top 18
abbrev s_DataReader___init__ : Stmt := inClass (top 19) 0
abbrev s_DataReader_item : Stmt := inClass (top 19) 1
abbrev s_DataReader_open_one : Stmt := inClass (top 19) 2
abbrev s_DataReader_close_one : Stmt := inClass (top 19) 3
abbrev s_DataReader_comma : Stmt := inClass (top 19) 4
abbrev s_DataReader_take : Stmt := inClass (top 19) 5
abbrev s_read_data : Stmt := top 20
abbrev s__law_draw : Stmt := top 22
abbrev s__law_take : Stmt := top 23
abbrev s__law_data : Stmt := top 24
abbrev s__law_word : Stmt := top 25
abbrev s__law_written : Stmt := top 26
abbrev s__law_number : Stmt := top 27
abbrev s__law_read : Stmt := top 28
abbrev s__law_told : Stmt := top 29
abbrev s_law : Stmt := top 30

/-! ### calls of defs in short -/
section
variable (P : Program) (w : World) (K : PySem.W.Frag) (mg : Str → Option Value) (base : Heap)
/-- a def that may be called by its name and lets nothing out -/
structure Cl (k : Nat) (x : Str) (sp : Sp) : Prop where
  ex : ∃ (f : Addr) (fd : FuncData) (ps : List Str), FnOk P w K mg base CX0 k f fd ps sp ∧ mg x = some (.ref f) ∧ PySem.W.keepIn K (.ref f) = true ∧ Binds K fd ps []
/-- one that may raise -/
structure ClX (k : Nat) (x : Str) (sp : Sp) : Prop where
  ex : ∃ (f : Addr) (fd : FuncData) (ps : List Str), FnOk P w K mg base (L2.CX P w) k f fd ps sp ∧ mg x = some (.ref f) ∧ PySem.W.keepIn K (.ref f) = true ∧ Binds K fd ps []
end
section
variable {X : Cx} {k j : Nat} {x : Str} {sp : Sp} {p pos : Pos} {e : Expr} {es : List Expr} {t : TA}
theorem pcl (c : Cl X.prog X.w X.K X.mg X.base k x sp) (hr : Room j X.A) (hk : k ≤ j) (ha : PA X (e :: es) t) (hg : Gl X x := by rfl)
    (hdb : (x == ("__debug__" : Str)) = false := by decide) (he : starEach (e :: es) X.env = (false, eval e X.env) :: starEach es X.env := by rfl) (hpl : (backTo pos (starEach es X.env)).any (·.1) = false := by rfl) :
    PE X (.Call (.Name x p) (e :: es) [] pos) (tCall sp [] E0 t) := by
  obtain ⟨f, fd, ps, F, hm, kp, b⟩ := c.ex
  exact pe_call F (hr.mono hk) hg hm kp b .nil pass0 ha hdb he hpl
end
section
variable {X : Cx} {k j : Nat} {C : Addr} {x m : Str} {sp : Sp} {E : XK} {p pos apos : Pos} {e o : Expr} {es : List Expr} {ta : TE} {t : TA}
theorem pclX (c : ClX X.prog X.w X.K X.mg X.base k x sp) (hr : Room j X.A) (hk : k ≤ j) (hx : Passes (L2.CX X.prog X.w) X E) (ha : PA X (e :: es) t) (hg : Gl X x := by rfl)
    (hdb : (x == ("__debug__" : Str)) = false := by decide) (he : starEach (e :: es) X.env = (false, eval e X.env) :: starEach es X.env := by rfl) (hpl : (backTo pos (starEach es X.env)).any (·.1) = false := by rfl) :
    PE X (.Call (.Name x p) (e :: es) [] pos) (tCall sp [] E t) := by
  obtain ⟨f, fd, ps, F, hm, kp, b⟩ := c.ex
  exact pe_call F (hr.mono hk) hg hm kp b .nil hx ha hdb he hpl
theorem pclS {E : L2.St → XK} (c : ClX X.prog X.w X.K X.mg X.base k x sp) (hr : Room j X.A) (hk : k ≤ j) (hx : ∀ σ, PassesAt (L2.CX X.prog X.w) X σ (E σ)) (ha : PA X (e :: es) t) (hg : Gl X x := by rfl)
    (hdb : (x == ("__debug__" : Str)) = false := by decide) (he : starEach (e :: es) X.env = (false, eval e X.env) :: starEach es X.env := by rfl) (hpl : (backTo pos (starEach es X.env)).any (·.1) = false := by rfl) :
    PE X (.Call (.Name x p) (e :: es) [] pos) (tCallS sp E t) := by
  obtain ⟨f, fd, ps, F, hm, kp, b⟩ := c.ex
  exact pe_callS F (hr.mono hk) hg hm kp b hx ha hdb he hpl
end
section
variable (P : Program) (w : World) (K : PySem.W.Frag) (mg : Str → Option Value) (base : Heap)
/-- a method that may raise -/
structure MtX (k : Nat) (C : Addr) (m : Str) (sp : Sp) : Prop where
  ex : ∃ (f : Addr) (fd : FuncData) (ps : List Str), Cls K C ∧ Meth K C m f ∧ FnOk P w K mg base (L2.CX P w) k f fd ps sp ∧ Binds K fd ps []
end
section
variable {X : Cx} {k j : Nat} {C : Addr} {x m : Str} {sp : Sp} {E : XK} {p pos apos : Pos} {e o : Expr} {es : List Expr} {ta : TE} {t : TA}
theorem pmtX {pl : Sem Bool} (c : MtX X.prog X.w X.K X.mg X.base k C m sp) (hr : Room j X.A) (hk : k ≤ j) (hx : Passes (L2.CX X.prog X.w) X E) (he : PE X o ta) (ha : PA X (e :: es) t)
    (hst : starEach (e :: es) X.env = (false, eval e X.env) :: starEach es X.env := by rfl) (hpl : (backTo pos (starEach es X.env)).any (·.1) = false := by rfl)
    (ht : eval (.Call (.Attribute o m apos) (e :: es) [] pos) X.env = (do
      let ov ← eval o X.env
      standAt apos.atName
      let (f, first) ← holding [ov] (getMethod ov m pl)
      callWith pos f first (backTo pos (starEach (e :: es) X.env)) (backToKw pos (keywordEach [] X.env))) := by rfl) : PE X (.Call (.Attribute o m apos) (e :: es) [] pos) (tMeth C m sp [] E ta t) := by
  obtain ⟨f, fd, ps, hc, hm, F, b⟩ := c.ex
  exact pe_meth (pl := pl) he hc hm F (hr.mono hk) b .nil hx ha hst hpl ht
theorem pmtX0 {pl : Sem Bool} (c : MtX X.prog X.w X.K X.mg X.base k C m sp) (hr : Room j X.A) (hk : k ≤ j) (hx : Passes (L2.CX X.prog X.w) X E) (he : PE X o ta)
    (ht : eval (.Call (.Attribute o m apos) [] [] pos) X.env = (do
      let ov ← eval o X.env
      standAt apos.atName
      let (f, first) ← holding [ov] (getMethod ov m pl)
      callWith pos f first (backTo pos (starEach [] X.env)) (backToKw pos (keywordEach [] X.env))) := by rfl) : PE X (.Call (.Attribute o m apos) [] [] pos) (tMeth C m sp [] E ta tNil) := by
  obtain ⟨f, fd, ps, hc, hm, F, b⟩ := c.ex
  exact pe_meth0 (pl := pl) he hc hm F (hr.mono hk) b .nil hx ht
end
/-- an own class of errors over ValueError -/
structure XC (K : PySem.W.Frag) (mg : Str → Option Value) (x : Str) (C : Addr) : Prop where
  q : PySem.W.excIn K C [.type "ValueError", .type "Exception", .type "BaseException", .type "object"] "ValueError.__new__" = true
  g : mg x = some (.ref C)
  k : PySem.W.keepIn K (.ref C) = true
  b : PySem.W.subIn K (.ref C) (.type "BaseException") = some true
  t : PySem.W.typeIn K (.ref C) = some (.type "type")
  e : PySem.W.exmOne K (.ref C) (.ref C) = some true
theorem ps_rz {X : Cx} {W : WX} {x m : Str} {C : Addr} {j : Nat} {p p2 pos pos2 : Pos} (T : XC X.K X.mg x C) (hc : X.calm = true) (tk : Takes X W) (hg : Gl X x := by rfl) (hdb : (x == ("__debug__" : Str)) = false := by decide) :
    PS X (.Raise (some (.Call (.Name x p) [.Constant (.str m) j p2] [] pos)) none pos2) (fun _ σ H => W (.ref C) none σ H) :=
  ps_raise hc tk (pmk_own PySem.F.excBase_ValueError T.q T.g T.k (raises_own T.b T.t) hg hdb)
/-- a constant of the module -/
def GV (mg : Str → Option Value) (x : Str) (v : V) : Prop := ∃ u, mg x = some u ∧ RelV v u
theorem pe_gv {X : Cx} {x : Str} {v : V} {pos : Pos} (g : GV X.mg x v) (hg : Gl X x := by rfl) (hd : (x == ("__debug__" : Str)) = false := by decide) : PE X (.Name x pos) (tC v) := by
  obtain ⟨u, hm, r⟩ := g
  exact pe_glob hg hm r hd
/-! ### heaps -/
theorem same_upd {H : Hp} {p : Addr} {o : HO} (h : H p = none) : Same H (upd H p o) := fun b x e => by
  rw [upd_ne (ne_of_none e h)]
  exact e
/-- all that was tracked but what stands at a is as it was -/
def But (a : Addr) (H H' : Hp) : Prop := ∀ b o, H b = some o → b ≠ a → H' b = some o
theorem But.refl (a : Addr) (H : Hp) : But a H H := fun _ _ h _ => h
theorem But.trans {a : Addr} {H H1 H2 : Hp} (f : But a H H1) (g : But a H1 H2) : But a H H2 := fun b o e n => g b o (f b o e n) n
theorem But.of {a : Addr} {H H1 : Hp} (s : Same H H1) : But a H H1 := fun b o e _ => s b o e
theorem But.upd {a : Addr} {H H1 : Hp} {o : HO} (f : But a H H1) : But a H (upd H1 a o) := fun b u e n => by
  rw [upd_ne n]
  exact f b u e n
theorem But.new {a : Addr} {H H1 : Hp} {p : Addr} {o : HO} (f : But a H H1) (h : H1 p = none) : But a H (L2.upd H1 p o) := fun b u e n => by
  have q := f b u e n
  rw [upd_ne (ne_of_none q h)]
  exact q

section
variable {CX : CXT} {P : Program} {w : World} {K : PySem.W.Frag} {mg : Str → Option Value} {base : Heap} {N : List Str} {qual : Str} {scope : Scope} {f : Addr} {cd : Value} {A : Around} {outer : List Env} {s : Shared} {H : Hp} {E : XK}
theorem cxOf_K : (cxOf CX P w K mg base N qual scope f cd A outer s H E).K = K := rfl
theorem cxOf_Kn : (cxOf CX P w K mg base N qual scope f cd A outer s H E).nox.K = K := rfl
end
theorem cut_to (xs : List V) (k : Nat) : cutV xs none (some (k : Int)) = xs.take k := by
  unfold cutV
  rw [HT.sIx_none, HT.sIx_nat, List.drop_zero, Nat.sub_zero]
  by_cases h : k ≤ xs.length
  · rw [Nat.min_eq_left h]
  · rw [Nat.min_eq_right (by omega), List.take_of_length_le (Nat.le_refl _), List.take_of_length_le (by omega)]
theorem cut63 {ns : List Int} (h : ns.length ≤ 63) : cutV (ns.map V.int) none (some 63) = ns.map V.int := by
  have e := cut_to (ns.map V.int) 63
  rw [List.take_of_length_le (by rw [List.length_map]; exact h)] at e
  exact e
theorem int_at {ns : List Int} {i : Nat} {x : V} (h : (ns.map V.int)[i]? = some x) : ∃ z, ns[i]? = some z ∧ x = .int z := by
  rw [List.getElem?_map] at h
  cases e : ns[i]? with
  | none =>
    rw [e] at h
    cases h
  | some z =>
    rw [e] at h
    exact ⟨z, rfl, (Option.some.inj h).symm⟩
/-! ### readings in short -/
theorem sc_ii (i j : Int) : scal (.int i) (.int j) = true := rfl
theorem sc_ss (i j : Str) : scal (.str i) (.str j) = true := rfl
theorem sc_bb (i j : Bool) : scal (.bl i) (.bl j) = true := rfl
theorem sc_is (i : Int) (j : Str) : scal (.int i) (.str j) = true := rfl
theorem sc_si (i : Str) (j : Int) : scal (.str i) (.int j) = true := rfl
theorem sc_bs (i : Bool) (j : Str) : scal (.bl i) (.str j) = true := rfl
theorem sc_sb (i : Str) (j : Bool) : scal (.str i) (.bl j) = true := rfl
section
variable {K : PySem.W.Frag} {H : Hp} {a p : Addr} {xs : List V} {i : Int} {v y : V} {Q : VK} {n : Nat}
theorem ixl (h : H a = some (.lst xs)) (hi : atI xs i = some v) (q : Q v H) : rIxL K (.ref a) (.int i) H Q := ⟨a, xs, i, v, rfl, rfl, SqL.of h, hi, q⟩
theorem tyl (h : H a = some (.lst xs)) : tyV K "list" (.ref a) H := .inl ⟨rfl, _, SqL.of h⟩
theorem len_l (h : H a = some (.lst xs)) (e : n = xs.length) : LenV K (.ref a) H n := .inl ⟨xs, SqL.of h, e⟩
theorem len_t (h : SqT K H a xs) (e : n = xs.length) : LenV K (.ref a) H n := .inr ⟨xs, h, e⟩
end
theorem ref_int_ne {H : Hp} {a c e : Addr} {r : List V} {xs : List Int} (ha : H a = some (.lst (.ref e :: r))) (hc : H c = some (.lst (xs.map V.int))) : c ≠ a := by
  rintro rfl
  rw [ha] at hc
  have h := HO.lst.inj (Option.some.inj hc)
  cases xs with
  | nil => cases h
  | cons x xs => cases (List.cons.inj h).1
/-! ### draws -/
structure DrawAt (H : Hp) (a c : Addr) (n : Nat) : Prop where
  ex : ∃ (xs : List Int) (d1 d2 d3 d4 d5 : Int), H a = some (.lst [.ref c, .int d1, .int d2, .int d3, .int d4, .int d5]) ∧ H c = some (.lst (xs.map V.int)) ∧ xs.length ≤ 63 ∧ (∀ x ∈ xs, 0 ≤ x) ∧
    0 ≤ d1 ∧ 0 ≤ d4 ∧ d4 ≤ 2147483647 ∧ 0 ≤ d5 ∧ d5 ≤ (n : Int)
def spDraw (K : PySem.W.Frag) : Sp := fun vs H Q _ => ∃ (a : Addr) (ns : List Int), vs = [.ref a] ∧ SqL K H a (ns.map V.int) ∧ ns.length ≤ 63 ∧ ∀ (p c : Addr) (H' : Hp), H p = none → H c = none → Same H H' → DrawAt H' p c 0 → Q (.ref p) H'
def spTake : Sp := fun vs H Q _ => ∃ (a c : Addr) (m : Int) (n : Nat), vs = [.ref a, .int m] ∧ DrawAt H a c n ∧ 0 < m ∧ m < 1073741824 ∧ n ≤ 1000000000 ∧
  ∀ (r : Int) (H' : Hp), 0 ≤ r → r < m → DrawAt H' a c (n + 1) → But a H H' → Q (.int r) H'

/-! ### tuples stay -/
/-- tuples (and locked things) are as they were -/
structure Tp (H H' : Hp) : Prop where
  tup : ∀ b xs, H b = some (.tup xs) → H' b = some (.tup xs)
  frz : ∀ b o u, H b = some (.frz o u) → H' b = some (.frz o u)
theorem Tp.refl (H : Hp) : Tp H H := ⟨fun _ _ h => h, fun _ _ _ h => h⟩
theorem Tp.trans {H H1 H2 : Hp} (f : Tp H H1) (g : Tp H1 H2) : Tp H H2 := ⟨fun b xs e => g.tup b xs (f.tup b xs e), fun b o u e => g.frz b o u (f.frz b o u e)⟩
theorem Tp.of {H H1 : Hp} (s : Same H H1) : Tp H H1 := ⟨fun b _ e => s b _ e, fun b _ _ e => s b _ e⟩
theorem Tp.but {a : Addr} {H H1 : Hp} {xs : List V} (f : But a H H1) (h : H a = some (.lst xs)) : Tp H H1 :=
  ⟨fun b ys e => f b _ e (ne_of e h (fun z => by cases z)), fun b o u e => f b _ e (ne_of e h (fun z => by cases z))⟩
theorem Tp.upd {a : Addr} {H H1 : Hp} {xs : List V} {o : HO} (f : Tp H H1) (h : H1 a = some (.lst xs)) : Tp H (L2.upd H1 a o) :=
  ⟨fun b ys e => by
    have q := f.tup b ys e
    rw [upd_ne (ne_of q h (fun z => by cases z))]
    exact q, fun b u y e => by
    have q := f.frz b u y e
    rw [upd_ne (ne_of q h (fun z => by cases z))]
    exact q⟩
theorem Tp.new {p : Addr} {H H1 : Hp} {o : HO} (f : Tp H H1) (h : H1 p = none) : Tp H (L2.upd H1 p o) := f.trans (.of (same_upd h))
theorem Tp.sqt {K : PySem.W.Frag} {H H' : Hp} {a : Addr} {xs : List V} (f : Tp H H') (h : SqT K H a xs) : SqT K H' a xs := by
  rcases h with (h | ⟨o, h⟩) | h
  · exact .inl (.inl (f.tup _ _ h))
  · exact .inl (.inr ⟨o, f.frz _ _ _ h⟩)
  · exact .inr h
mutual
theorem _root_.L2.Dp.same {K : PySem.W.Frag} {H H' : Hp} (f : Same H H') : ∀ {d : PyData} {v : V}, Dp K H v d → Dp K H' v d
  | _, _, .non => .non
  | _, _, .bl b => .bl b
  | _, _, .int i => .int i
  | _, _, .str x => .str x
  | _, _, .lst hs ha => .lst (f.seq hs) (L2.DpAll.same f ha)
  | _, _, .tup hs ha => .tup ((Tp.of f).sqt hs) (L2.DpAll.same f ha)
theorem _root_.L2.DpAll.same {K : PySem.W.Frag} {H H' : Hp} (f : Same H H') : ∀ {ds : List PyData} {vs : List V}, DpAll K H vs ds → DpAll K H' vs ds
  | _, _, .nil => .nil
  | _, _, .cons h t => .cons (L2.Dp.same f h) (L2.DpAll.same f t)
end
/-- data without lists -/
inductive To : PyData → Prop where
  | non : To .none
  | bl (b : Bool) : To (.bool b)
  | int (i : Int) : To (.int i)
  | str (x : Str) : To (.str x)
  | tup (ds : List PyData) (h : ∀ d ∈ ds, To d) : To (.tuple ds)
theorem DpAll.map {K : PySem.W.Frag} {H H' : Hp} : ∀ {vs : List V} {ds : List PyData}, DpAll K H vs ds → (∀ d ∈ ds, ∀ v, Dp K H v d → Dp K H' v d) → DpAll K H' vs ds
  | _, _, .nil, _ => .nil
  | _, _, .cons h t, f => .cons (f _ (List.mem_cons_self ..) _ h) (DpAll.map t fun d hd v hv => f d (List.mem_cons_of_mem _ hd) v hv)
theorem To.mono {K : PySem.W.Frag} {H H' : Hp} (f : Tp H H') {d : PyData} (t : To d) : ∀ v, Dp K H v d → Dp K H' v d := by
  induction t with
  | non => intro v h; cases h; exact .non
  | bl b => intro v h; cases h; exact .bl _
  | int i => intro v h; cases h; exact .int _
  | str x => intro v h; cases h; exact .str _
  | tup ds h ih =>
    intro v hv
    cases hv with
    | tup hs ha => exact .tup (f.sqt hs) (DpAll.map ha fun d hd v hv => ih d hd v hv)
theorem To.monoAll {K : PySem.W.Frag} {H H' : Hp} (f : Tp H H') {ds : List PyData} (t : ∀ d ∈ ds, To d) {vs : List V} (h : DpAll K H vs ds) : DpAll K H' vs ds := DpAll.map h fun d hd v hv => (t d hd).mono f v hv
theorem DpAll.append {K : PySem.W.Frag} {H : Hp} : ∀ {vs us : List V} {ds es : List PyData}, DpAll K H vs ds → DpAll K H us es → DpAll K H (vs ++ us) (ds ++ es)
  | _, _, _, _, .nil, h => h
  | _, _, _, _, .cons h t, r => .cons h (DpAll.append t r)
theorem DpAll.length {K : PySem.W.Frag} {H : Hp} : ∀ {vs : List V} {ds : List PyData}, DpAll K H vs ds → vs.length = ds.length
  | _, _, .nil => rfl
  | _, _, .cons _ t => congrArg (· + 1) (DpAll.length t)
theorem DpAll.at {K : PySem.W.Frag} {H : Hp} : ∀ {vs : List V} {ds : List PyData} {i : Nat} {v : V}, DpAll K H vs ds → vs[i]? = some v → ∃ d, ds[i]? = some d ∧ Dp K H v d
  | _, _, _, _, .nil, e => by simp at e
  | _, _, 0, _, .cons h _, e => by
    simp only [List.getElem?_cons_zero, Option.some.injEq] at e
    subst e
    exact ⟨_, rfl, h⟩
  | _, _, i + 1, _, .cons _ t, e => by
    simp only [List.getElem?_cons_succ] at e
    obtain ⟨d, h1, h2⟩ := DpAll.at t e
    exact ⟨d, by simpa using h1, h2⟩
theorem fn_false {P : Program} {w : World} {K : PySem.W.Frag} {mg : Str → Option Value} {base : Heap} {CX : CXT} {k : Nat} {f : Addr} {fd : FuncData} {ps : List Str} {sp : Sp} (no : ∀ vs H Q E, ¬ sp vs H Q E) : FnOk P w K mg base CX k f fd ps sp :=
  ⟨fun vs H Q E h => absurd h (no vs H Q E), fun A outer s H args us vs Q E _ _ _ _ h => absurd h (no vs H Q E)⟩
theorem DrawAt.mono {H : Hp} {a c : Addr} {m n : Nat} (d : DrawAt H a c m) (h : m ≤ n) : DrawAt H a c n := by
  obtain ⟨xs, d1, d2, d3, d4, d5, h1, h2, h3, h4, h5, h6, h7, h8, h9⟩ := d
  exact ⟨xs, d1, d2, d3, d4, d5, h1, h2, h3, h4, h5, h6, h7, h8, by omega⟩
theorem DrawAt.lst {H : Hp} {a c : Addr} {n : Nat} (d : DrawAt H a c n) : ∃ ys, H a = some (.lst ys) := by
  obtain ⟨xs, d1, d2, d3, d4, d5, h1, _⟩ := d
  exact ⟨_, h1⟩
theorem DrawAt.tp {H H' : Hp} {a c : Addr} {n : Nat} (d : DrawAt H a c n) (f : But a H H') : Tp H H' := by
  obtain ⟨ys, h⟩ := d.lst
  exact .but f h
theorem DrawAt.same {H H' : Hp} {a c : Addr} {n : Nat} (d : DrawAt H a c n) (f : Same H H') : DrawAt H' a c n := by
  obtain ⟨xs, d1, d2, d3, d4, d5, h1, h2, h3⟩ := d
  exact ⟨xs, d1, d2, d3, d4, d5, f _ _ h1, f _ _ h2, h3⟩
theorem DrawAt.off {H : Hp} {a c D : Addr} {n : Nat} (d : DrawAt H a c n) (h : H D = none) : D ≠ a ∧ D ≠ c := by
  obtain ⟨xs, d1, d2, d3, d4, d5, h1, h2, h3⟩ := d
  exact ⟨(ne_of_none h1 h).symm, (ne_of_none h2 h).symm⟩
/-- some list that is no draw's is changed -/
theorem DrawAt.upd {H : Hp} {a c D : Addr} {n : Nat} {o : HO} (d : DrawAt H a c n) (h1 : D ≠ a) (h2 : D ≠ c) : DrawAt (L2.upd H D o) a c n := by
  obtain ⟨xs, d1, d2, d3, d4, d5, e1, e2, h3⟩ := d
  exact ⟨xs, d1, d2, d3, d4, d5, by rw [upd_ne h1.symm]; exact e1, by rw [upd_ne h2.symm]; exact e2, h3⟩
/-! ### the data that are drawn -/
def isLet (c : Nat) : Bool := decide (97 ≤ c) && decide (c ≤ 122)
def isDig (c : Nat) : Bool := decide (48 ≤ c) && decide (c ≤ 57)
def isWd (l : List Nat) : Bool := match l with
  | [] => false
  | c :: r => decide (r.length ≤ 11) && isLet c && r.all fun c => isLet c || isDig c
inductive Gd : Nat → PyData → Prop where
  | bl (n : Nat) (b : Bool) : Gd n (.bool b)
  | emp (n : Nat) : Gd n (.str ⟨#[]⟩)
  | word (n : Nat) (x : Str) (h : isWd x.cps.toList = true) : Gd n (.str x)
  | int (n : Nat) (i : Int) (h : i.natAbs ≤ 10 ^ 40) : Gd n (.int i)
  | tup (n : Nat) (ds : List PyData) (l : ds.length ≤ 3) (h : ∀ d ∈ ds, Gd n d) : Gd (n + 1) (.tuple ds)
theorem Gd.to {n : Nat} {d : PyData} (g : Gd n d) : To d := by
  induction g with
  | bl n b => exact .bl b
  | emp n => exact .str _
  | word n x h => exact .str _
  | int n i h => exact .int _
  | tup n ds l h ih => exact .tup _ ih
/-- how many draws such data take at most -/
def takes : Nat → Nat
  | 0 => 3
  | k + 1 => 3 + 3 * takes k
def spData (K : PySem.W.Frag) (k : Nat) : Sp := fun vs H Q _ => ∃ (a c : Addr) (deep n : Nat), vs = [.ref a, .int deep] ∧ deep < k ∧ DrawAt H a c n ∧ n + takes deep ≤ 1000000000 ∧
  ∀ (d : PyData) (v : V) (H' : Hp), Gd deep d → Dp K H' v d → DrawAt H' a c (n + takes deep) → But a H H' → Q v H'

/-! ### kinds of data -/
def tyName : PyData → String
  | .none => "NoneType"
  | .bool _ => "bool"
  | .int _ => "int"
  | .str _ => "str"
  | .list _ => "list"
  | .tuple _ => "tuple"
  | .dict _ => "dict"
section
variable {K : PySem.W.Frag} {H : Hp} {v : V} {d : PyData} {Q : VK}
theorem ty_lst {a : Addr} {xs : List V} (h : SqL K H a xs) : TyX K H (.ref a) (.type "list") := by
  rcases h with (h | ⟨o, h⟩) | ⟨o, its, n, hk, hc, _⟩
  · exact .base (.lst h)
  · exact .base (.frz h)
  · exact .kList hk hc
theorem ty_tup {a : Addr} {xs : List V} (h : SqT K H a xs) : TyX K H (.ref a) (.type "tuple") := by
  rcases h with (h | ⟨o, h⟩) | ⟨o, its, n, hk, hc, _⟩
  · exact .base (.tup h)
  · exact .fTuple h
  · exact .kTuple hk hc
theorem Dp.ty (h : Dp K H v d) : TyX K H v (.type (tyName d)) := by
  cases h with
  | non => exact .base .non
  | bl b => exact .base (.bl b)
  | int i => exact .base (.int i)
  | str x => exact .base (.str x)
  | lst hs ha => exact ty_lst hs
  | tup hs ha => exact ty_tup hs
theorem isi {x : V} {t T : String} {b : Bool} (ty : TyX K H x (.type t)) (k : kitB t T = some b) (q : Q (.bl b) H) : rIsi K [x, .ty T] H Q := ⟨x, .ty T, _, _, b, rfl, .ty T, ty, kit_ty k, q⟩
def isStr : PyData → Bool
  | .str _ => true
  | _ => false
def isTup : PyData → Bool
  | .tuple _ => true
  | _ => false
def isBool : PyData → Bool
  | .bool _ => true
  | _ => false
def isInt : PyData → Bool
  | .bool _ => true
  | .int _ => true
  | _ => false
theorem kb_all : ∀ n ∈ ["NoneType", "bool", "int", "str", "list", "tuple", "dict"], kitB n "str" = some (n == "str") ∧ kitB n "tuple" = some (n == "tuple") ∧ kitB n "bool" = some (n == "bool") ∧ kitB n "int" = some (n == "int" || n == "bool") := by decide +kernel
theorem tyName_mem (d : PyData) : tyName d ∈ ["NoneType", "bool", "int", "str", "list", "tuple", "dict"] := by cases d <;> simp [tyName]
theorem isi_str (h : Dp K H v d) (q : Q (.bl (isStr d)) H) : rIsi K [v, .ty "str"] H Q :=
  isi (Dp.ty h) ((kb_all _ (tyName_mem d)).1.trans (by cases d <;> simp [tyName, isStr])) q
theorem isi_tup (h : Dp K H v d) (q : Q (.bl (isTup d)) H) : rIsi K [v, .ty "tuple"] H Q :=
  isi (Dp.ty h) ((kb_all _ (tyName_mem d)).2.1.trans (by cases d <;> simp [tyName, isTup])) q
theorem isi_bool (h : Dp K H v d) (q : Q (.bl (isBool d)) H) : rIsi K [v, .ty "bool"] H Q :=
  isi (Dp.ty h) ((kb_all _ (tyName_mem d)).2.2.1.trans (by cases d <;> simp [tyName, isBool])) q
theorem isi_int (h : Dp K H v d) (q : Q (.bl (isInt d)) H) : rIsi K [v, .ty "int"] H Q :=
  isi (Dp.ty h) ((kb_all _ (tyName_mem d)).2.2.2.trans (by cases d <;> simp [tyName, isInt])) q
end
/-! ### comprehensions whose steps change nothing -/
theorem lc_map {J : It} {xs : List V} {G : Hp → Prop} (w : Walk J xs.length G (YAt xs)) {te : TE} {s : Nat} {σ : L2.St} {H1 : Hp} {D : Addr} {Qd : Hp → Prop} (f : V → V) (hz : xs.length ≤ sizeLine) (hG : ∀ acc, G (upd H1 D (.lst acc)))
    (hs : ∀ x ∈ xs, ∀ acc (R : VK), R (f x) (upd H1 D (.lst acc)) → te (σ.set s (some x)) (upd H1 D (.lst acc)) R) (hd : Qd (upd H1 D (.lst (xs.map f)))) :
    ∃ W : Nat → Nat → Hp → Prop, (∃ m, W 0 m (upd H1 D (.lst []))) ∧ ∀ i m H, W i m H →
      (J.stop i H ∧ Qd H) ∨ (J.go i H ∧ ∃ Nx : Hp → Prop, (∀ H', Nx H' → ∃ m', m' < m ∧ W (i + 1) m' H') ∧ ∀ x H', J.yld i H x H' → gName s x (wipe σ [s]) H' fun σ2 H2 => wipe σ2 [s] = wipe σ [s] ∧ tYes σ2 H2 fun b H3 =>
        if b = true then te σ2 H3 fun y H4 => ∃ acc, H4 D = some (.lst acc) ∧ acc.length < sizeLine ∧ Nx (upd H4 D (.lst (acc ++ [y]))) else Nx H3) := by
  refine lc_it w (fun i H => H = upd H1 D (.lst ((xs.take i).map f))) rfl (fun i H _ e => by subst e; exact hG _) ?_ ?_
  · rintro i x H H' hi rfl ⟨rfl, hx⟩
    have e0 : (wipe σ [s]).set s (some x) = σ.set s (some x) := by simp only [wipe, List.set_set]
    simp only [gName, tYes, ↓reduceIte, e0]
    refine ⟨by simp only [wipe, List.set_set], (hs x (List.mem_of_getElem? hx) _ _ ⟨_, upd_same, ?_, ?_⟩)⟩
    · rw [List.length_map, List.length_take]
      omega
    · rw [upd_upd, List.take_add_one, hx, List.map_append]
      rfl
  · rintro H rfl
    rw [List.take_of_length_le (Nat.le_refl _)]
    exact hd
/-- the signs of a text, as texts -/
def sg (c : Nat) : V := .str ⟨#[c]⟩
def sgs (x : Str) : List V := x.cps.toList.map sg
theorem sgs_len (x : Str) : (sgs x).length = x.length := by
  rw [sgs, List.length_map, Array.length_toList]
  rfl
theorem walk_sgs (x : Str) : Walk (Its x) (sgs x).length (fun _ => True) (YAt (sgs x)) where
  goes := fun i H hi _ => by
    rw [sgs_len] at hi
    exact hi
  stops := fun H _ => by
    rw [sgs_len]
    exact Nat.le_refl _
  yields := fun i H y H' hi _ ⟨e, c, hc, hy⟩ => ⟨e, by
    rw [sgs, List.getElem?_map, Array.getElem?_toList, hc, hy]
    rfl⟩
theorem all_sgs (x : Str) (p : Nat → Bool) (g : V → V) (h : ∀ c, g (sg c) = .bl (p c)) : (sgs x).map g = (x.cps.toList.map p).map V.bl := by
  rw [sgs, List.map_map, List.map_map]
  exact List.map_congr_left fun c _ => h c
theorem ixs {K : PySem.W.Frag} {H : Hp} {z : Str} {i : Int} {c : Nat} {Q : VK} (h : z.length ≤ sizeLine) (hi : atI z.cps.toList i = some c) (q : Q (.str ⟨#[c]⟩) H) : rIxS (.str z) (.int i) H Q := ⟨z, i, c, rfl, rfl, h, hi, q⟩
/-- all of tests of a text's signs -/
theorem all_of {K : PySem.W.Frag} {H : Hp} {D : Addr} {l : List Nat} {p : Nat → Bool} {xs : List V} {Q : VK} (e : xs = (l.map p).map V.bl) (q : Q (.bl (l.all p)) (upd H D (.lst xs))) : rAll K [.ref D] (upd H D (.lst xs)) Q := by
  subst e
  refine ⟨D, l.map p, rfl, SqL.of upd_same, ?_⟩
  rw [List.all_map]
  exact q
theorem one_inj (c d : Nat) : ((⟨#[c]⟩ : Str) = ⟨#[d]⟩) = (c = d) := by
  apply propext
  constructor
  · intro h
    have := congrArg (fun z : Str => z.cps.toList) h
    exact (List.cons.inj this).1
  · rintro rfl
    rfl
theorem lt_one (c d : Nat) : decide ([c] < [d]) = decide (c < d) := by
  rw [Bool.eq_iff_iff, decide_eq_true_eq, decide_eq_true_eq]
  constructor
  · intro h
    cases h with
    | rel h => exact h
    | cons h => cases h
  · intro h
    exact List.Lex.rel h
theorem le_lo (s : Str) (k c : Nat) (e : s.cps.toList = [k]) : (!decide ((⟨#[c]⟩ : Str).cps.toList < s.cps.toList)) = decide (k ≤ c) := by
  rw [e, show (⟨#[c]⟩ : Str).cps.toList = [c] from rfl, lt_one, Bool.eq_iff_iff, Bool.not_eq_true', decide_eq_false_iff_not, decide_eq_true_eq]
  omega
theorem le_hi (s : Str) (k c : Nat) (e : s.cps.toList = [k]) : (!decide (s.cps.toList < (⟨#[c]⟩ : Str).cps.toList)) = decide (c ≤ k) := by
  rw [e, show (⟨#[c]⟩ : Str).cps.toList = [c] from rfl, lt_one, Bool.eq_iff_iff, Bool.not_eq_true', decide_eq_false_iff_not, decide_eq_true_eq]
  omega
theorem le_a (c : Nat) : (!decide ([c] < (Str.ofString "a").cps.toList)) = decide (97 ≤ c) := le_lo _ _ _ (by decide +kernel)
theorem le_z (c : Nat) : (!decide ((Str.ofString "z").cps.toList < [c])) = decide (c ≤ 122) := le_hi _ _ _ (by decide +kernel)
theorem le_0 (c : Nat) : (!decide ([c] < (Str.ofString "0").cps.toList)) = decide (48 ≤ c) := le_lo _ _ _ (by decide +kernel)
theorem le_9 (c : Nat) : (!decide ((Str.ofString "9").cps.toList < [c])) = decide (c ≤ 57) := le_hi _ _ _ (by decide +kernel)
def spLaw (K : PySem.W.Frag) : Sp := fun vs H Q _ => ∃ (a : Addr) (ns : List Int), vs = [.ref a] ∧ SqL K H a (ns.map V.int) ∧ ns.length ≤ 63 ∧ ∀ H', Q (.bl true) H'
/-! ### words -/
theorem mem_let (c : Nat) : decide (c ∈ (Str.ofString "abcdefghijklmnopqrstuvwxyz").cps.toList) = isLet c := by
  have e : (Str.ofString "abcdefghijklmnopqrstuvwxyz").cps.toList = [97, 98, 99, 100, 101, 102, 103, 104, 105, 106, 107, 108, 109, 110, 111, 112, 113, 114, 115, 116, 117, 118, 119, 120, 121, 122] := by decide +kernel
  rw [e, isLet, Bool.eq_iff_iff, Bool.and_eq_true, decide_eq_true_eq, decide_eq_true_eq, decide_eq_true_eq]
  simp only [List.mem_cons, List.not_mem_nil, or_false]
  omega
theorem mem_dig (c : Nat) : decide (c ∈ (Str.ofString "0123456789").cps.toList) = isDig c := by
  have e : (Str.ofString "0123456789").cps.toList = [48, 49, 50, 51, 52, 53, 54, 55, 56, 57] := by decide +kernel
  rw [e, isDig, Bool.eq_iff_iff, Bool.and_eq_true, decide_eq_true_eq, decide_eq_true_eq, decide_eq_true_eq]
  simp only [List.mem_cons, List.not_mem_nil, or_false]
  omega
theorem isWd_eq (l : List Nat) : isWd l = (decide (1 ≤ l.length ∧ l.length ≤ 12) && (l.head?.any isLet) && l.all fun c => isLet c || isDig c) := by
  cases l with
  | nil => rfl
  | cons c r =>
    simp only [isWd, List.length_cons, List.head?_cons, Option.any_some, List.all_cons]
    by_cases h : r.length ≤ 11
    · by_cases h2 : isLet c = true
      · simp [h, h2]
      · simp [h2]
    · simp [h]
theorem head_at (x : Str) (c : Nat) (h : x.cps.toList.head? = some c) : atI x.cps.toList 0 = some c := by
  have := atI_nat (xs := x.cps.toList) (j := 0) (v := c) (by rw [← List.head?_eq_getElem?]; exact h)
  exact this
theorem len_s {K : PySem.W.Frag} {H : Hp} {x : Str} {n : Nat} (h : x.length ≤ sizeLine) (e : n = x.length) : LenV K (.str x) H n := ⟨h, e⟩
theorem tl_len (x : Str) : x.cps.toList.length = x.length := Array.length_toList
def wordD : PyData → Bool
  | .str x => isWd x.cps.toList
  | _ => false
def spWord (K : PySem.W.Frag) : Sp := fun vs H Q _ => ∃ (v : V) (d : PyData), vs = [v] ∧ Dp K H v d ∧ (∀ x, d = .str x → x.length ≤ sizeLine) ∧ ∀ H', Same H H' → Q (.bl (wordD d)) H'
end Z

set_option Elab.async false
set_option linter.all false
set_option maxRecDepth 100000
set_option maxHeartbeats 4000000
namespace Z
open PySem PySem.Spec PyProof.Rows L2
local macro_rules | `(tactic| walk_at "sx") => `(tactic| try simp only [and_assoc, cxOf_K, cxOf_Kn, C8.tCut, rEq, rNe, sc_ii, sc_ss, sc_bb, sc_is, sc_si, sc_bs, sc_sb, tSeq, tAsg, tPar, tPar3, tC, gName, gNil, gCons, gTup, gSub, rSetL, L2.start, tVar, tOp, tUn, rI0, rI, rU, tTest, tChain, tOrV, tAndV, tNotV, tCB, tCons, tNil, tLst, tTup, tIfS, tNext, tRet, tRetN, tDrop, tAnd, tOr, tNot, tB, tIf, tSl, tNoPart, tPart, rSlL, tBM, tBM0, rAppend, rPop, rExtend, tCall, tMeth, List.map_cons, List.map_nil, List.replicate, List.length_cons, List.length_nil, List.append, List.cons_append, List.nil_append, List.append_nil, List.getElem?_cons_zero, List.getElem?_cons_succ, List.set_cons_zero, List.set_cons_succ, Option.some.injEq, exists_eq_left', exists_eq_left, exists_eq, exists_and_left, exists_const, wipe, tYes, upd_same, ↓reduceIte, decide_false, decide_true, Bool.not_true, Bool.not_false, Bool.false_eq_true, V.int.injEq, HO.lst.injEq, HO.tup.injEq, V.ref.injEq, V.str.injEq, one_inj, le_a, le_z, le_0, le_9, mem_let, mem_dig, V.bl.injEq, List.cons.injEq, and_true, true_and, reduceCtorEq, false_and, exists_false, or_false, false_or])
namespace R
open PySem.W
section
variable {X : Cx} {pins : List (Addr × Obj)} {σ : L2.St} {H : Hp} {s : Shared}
theorem digits_in (nd : X.base.NoDigits) (I : Inv X pins σ H s) : s.heap.NoDigits := nd.keeps I.bk
/-- str(x) of an int below the line on digits, of a text, of a truth -/
theorem call_str_any (nd : X.base.NoDigits) (hc : X.calm = true) : CallR X (.type "str") (fun xs H Q => (∃ i : Int, xs = [.int i] ∧ i.natAbs < 10 ^ 4300 ∧ Q (.str (toString i)) H) ∨ (∃ a, xs = [.str a] ∧ Q (.str a) H) ∨ ∃ b : Bool, xs = [.bl b] ∧ Q (.str (if b then "True" else "False")) H) := by
  intro pins s σ H xs us Q I r h
  rcases h with ⟨i, rfl, hz, q⟩ | ⟨a, rfl, q⟩ | ⟨b, rfl, q⟩
  · obtain ⟨u, rfl, t, rfl⟩ := vals1 r
    exact str_of_int_or (I.ok.hd hc) (digits_in nd I) (fun _ => ⟨.str _, H, I.tok _, ⟨_, rfl⟩, q⟩) fun h => absurd hz (Nat.not_lt.mpr h)
  · obtain ⟨u, rfl, t, rfl⟩ := vals1 r
    exact PySem.P.str_of_str ⟨.str a, H, I, ⟨t, rfl⟩, q⟩
  · obtain ⟨u, rfl, e⟩ := vals1 r
    obtain rfl : u = Value.bool b := e
    exact PySem.P.str_of_bool ⟨.str _, H, I.tok _, ⟨_, rfl⟩, q⟩
end
open PySem.NumText
theorem wp_textB {M : Model} {A : Around} {E : Value → Shared → Prop} {s : Shared} {Q : Value → Shared → Prop} {v : Value} {text : List Nat} {n : Int} (nd : s.heap.NoDigits)
    (hs : ¬ (text.takeWhile (· != 0)).length ≤ 640) (hr : (int_private% "readNumeral") 4300 10 (text.takeWhile (· != 0)) = (int_private% "Numeral.value") n)
    (ha : ((text.takeWhile (· != 0)).length == text.length) = true) (h : Q (.int n s.toks) { s with toks := s.toks + 1 }) :
    wpAny M A ((int_private% "intFromText") v text 10) Q E s := by
  obtain ⟨mc, hns, hno⟩ := nd
  obtain ⟨hp, g, d, tk, os⟩ := s
  repeat (any_goals (first
    | assumption
    | (with_reducible refine wpAny_ite_false (decide_eq_false hs) ?_)
    | (with_reducible refine wpAny_nsGet hns ?_)
    | (with_reducible refine wpAny_ite_true (decide_eq_true ha) ?_)
    | wp_step))
  all_goals (try rw [hno])
  all_goals (try dsimp only)
  repeat (any_goals (first
    | assumption
    | (with_reducible refine wpAny_ite_true (decide_eq_true ha) ?_)
    | wp_step))
  all_goals (try rw [hr])
  all_goals (try dsimp only)
  repeat (any_goals (first
    | assumption
    | (with_reducible refine wpAny_ite_true (decide_eq_true ha) ?_)
    | wp_step))

structure Box (p : Prop) : Prop where
  out : p
theorem meets_textB {x : PySem.Str} {u : Tok} {n : Int} (hx : x.length ≤ sizeLine) (hn : PySem.intText? x = some n) : Meets (Builtin.«int.__new__» ⟨[.type "int", .str x u], []⟩) (fun _ R s => s.heap.NoDigits ∧ R (.ok (.ret (.int n s.toks))) { s with toks := s.toks + 1 }) := by
  by_cases hl : (numSeenOf x).length ≤ 640
  · have hr : (int_private% "readNumeral") 0 10 (numSeenOf x) = (int_private% "Numeral.value") n ∧ ((numSeenOf x).length == (numTextOf x).length) = true := by
      rcases read0 x hl with ⟨m, h1, h2, h3⟩ | ⟨h1, _⟩
      · rw [hn] at h1
        obtain rfl := Option.some.inj h1
        exact ⟨h3, h2⟩
      · rw [hn] at h1
        cases h1
    intro prog w A R s ⟨nd, h⟩
    obtain ⟨hp, g, d, tk, os⟩ := s
    have f1 := F.conv_sub_int
    have f2 := F.madeHere_int
    have f3 := KIN.str_int
    have f4 := KIN.str_idx
    have f5 := KIN.str_trunc
    have f6 : typeOf (.str x u) = pure (.type "str") := rfl
    have hk := Box.mk (And.intro hl hr)
    clear hl hr hn nd
    repeat (any_goals (first
      | assumption
      | ((with_reducible show wpAny _ _ ((int_private% "intFromText") _ _ _) _ _ _); refine KIN.wp_text hk.out.1 hk.out.2.1 hk.out.2.2 ?_)
      | wp_step))
  · have hr : (int_private% "readNumeral") 4300 10 (numSeenOf x) = (int_private% "Numeral.value") n ∧ ((numSeenOf x).length == (numTextOf x).length) = true := by
      rcases read4300 x hx with ⟨m, h1, h2, h3⟩ | ⟨h1, _⟩
      · rw [hn] at h1
        obtain rfl := Option.some.inj h1
        exact ⟨h3, h2⟩
      · rw [hn] at h1
        cases h1
    intro prog w A R s ⟨nd, h⟩
    obtain ⟨hp, g, d, tk, os⟩ := s
    have f1 := F.conv_sub_int
    have f2 := F.madeHere_int
    have f3 := KIN.str_int
    have f4 := KIN.str_idx
    have f5 := KIN.str_trunc
    have f6 : typeOf (.str x u) = pure (.type "str") := rfl
    have hk := Box.mk (And.intro hl hr)
    have hd := Box.mk nd
    clear hl hr hn nd
    repeat (any_goals (first
      | assumption
      | ((with_reducible show wpAny _ _ ((int_private% "intFromText") _ _ _) _ _ _); refine wp_textB hd.out hk.out.1 hk.out.2.1 hk.out.2.2 ?_)
      | wp_step))
/-- int(text), by what the text reads as, below the line on digits -/
theorem call_int_any {X : Cx} (nd : X.base.NoDigits) : CallR X (.type "int") (fun xs H Q => ∃ a n, xs = [.str a] ∧ PySem.intText? a = some n ∧ a.length ≤ sizeLine ∧ Q (.int n) H) := by
  intro pins s σ H xs us Q I r h
  obtain ⟨a, n, rfl, hn, hl, q⟩ := h
  obtain ⟨u, rfl, t, rfl⟩ := vals1 r
  exact call_int_1 (meets_textB hl hn) ⟨digits_in nd I, typeIs_int _ _ _, ⟨.int n, H, I.tok _, ⟨_, rfl⟩, q⟩⟩
/-! ### enumerate(text) -/
/-- each sign in a new pair with its place -/
def Ites (x : Str) : It := ⟨fun i _ => i < x.cps.size, fun i H v H' => ∃ T c, v = .ref T ∧ H T = none ∧ H' = upd H T (.tup [.int (i : Nat), .str ⟨#[c]⟩]) ∧ x.cps[i]? = some c, fun i _ => i = x.cps.size⟩
theorem draws_str {prog : Program} {w : World} {A : Around} (hh : A.handled = none) (it : Addr) (x : Str) (t : Tok) :
    Draws prog w A it [it] x.cps.size (fun i v => ∃ c u, x.cps[i]? = some c ∧ v = .str ⟨#[c]⟩ u) (fun i h => h.IsStrIter it (strIterType x) x t i) := by
  unfold strIterType
  by_cases h : x.cps.all (· < 128) = true
  · simp only [h, if_true]
    exact Draws.strAscii hh it x t
  · simp only [h, if_false]
    exact Draws.strWide hh it x t
theorem turn_enumS {P : Program} {w : World} {K : PySem.W.Frag} {elts : List Expr} {kk : Nat} {tpos : Pos} (x : Str) (t : Tok) (e it : Addr) :
    Turn P w K (.Tuple elts kk tpos) (Ites x) [e, it] e (fun i h => (∃ old, IsEnum h e it ((i : Nat) : Int) old) ∧ h.IsStrIter it (strIterType x) x t i ∧ e ≠ it) where
  mem := by simp
  obj := fun i h st b hb => by
    obtain ⟨⟨old, he⟩, ⟨o, ho, hc, hd⟩, _⟩ := st
    rcases List.mem_cons.mp hb with rfl | hb
    · exact ⟨_, he, fun v z => by cases z⟩
    · obtain rfl := List.mem_singleton.mp hb
      exact ⟨o, ho, fun v z => by rw [hd] at z; cases z⟩
  keep := fun i h h' ⟨⟨old, he⟩, ⟨o, ho, hr⟩, hne⟩ k => ⟨⟨old, k e (by simp) _ he⟩, ⟨o, k it (by simp) o ho, hr⟩, hne⟩
  item := by
    intro X hP hw hK hc i pins s σ H E I hf st hg
    subst hP hw hK
    obtain ⟨⟨old, he⟩, hit, hne⟩ := st
    have le : e < s.heap.objs.size := Heap.lt_size he
    have li : it < s.heap.objs.size := by
      obtain ⟨o, ho, _⟩ := hit
      exact Heap.lt_size ho
    have D : Draws X.prog X.w X.A.in1 it [it] x.cps.size (fun i v => ∃ c u, x.cps[i]? = some c ∧ v = .str ⟨#[c]⟩ u) (fun i h => h.IsStrIter it (strIterType x) x t i) := draws_str (A := X.A.in1) (show X.A.in1.handled = none from I.ok.hd hc) it x t
    refine wpAny_pyNext_enum_itemD D he hit hg hne (by simpa using hne) fun y h' tk hy ho hit' hT hsz hk => ?_
    obtain ⟨c, u, hcx, rfl⟩ := hy
    refine ⟨_, rfl, wpAny_letOwnedTupleGo_enum ho fun h'' he' sb => ?_⟩
    have sb' : Heap.SameBut e h' h'' := sb
    have hT2 := (sb'.2 _ (Nat.ne_of_gt le)).trans hT
    have new : ObjOk X.prog X.w (upd H s.heap.objs.size (.tup [.int (i : Nat), .str ⟨#[c]⟩])) h'' s.heap.objs.size (.tup [.int (i : Nat), .str ⟨#[c]⟩]) :=
      ⟨by show 2 ≤ sizeLine; decide, [.int i tk, .str ⟨#[c]⟩ u], .cons ⟨_, rfl⟩ (.cons ⟨_, rfl⟩ .nil), ⟨_, hT2, rfl, _, rfl⟩⟩
    have I1 : Inv X pins σ (upd H s.heap.objs.size (.tup [.int (i : Nat), .str ⟨#[c]⟩])) { s with heap := h'', toks := tk + 1 } :=
      I.turnedNew (ch := [e, it]) (fun b ob hb q => by
        simp only [List.mem_cons, List.not_mem_nil, or_false, not_or] at hb
        exact (sb'.2 b hb.1).trans (hk b ob hb.1 hb.2 q)) hf (Nat.le_refl _) new
    refine ⟨.ref s.heap.objs.size, _, I1, rfl, ⟨_, c, rfl, I.hok.fresh (Nat.le_refl _), rfl, hcx⟩, ⟨⟨_, by rw [Int.natCast_add]; exact he'⟩, hit'.imp fun o z => ⟨(sb'.2 it (Ne.symm hne)).trans z.1, z.2⟩, hne⟩, fun b hb => ?_⟩
    have lb : b < s.heap.objs.size := by
      rcases List.mem_cons.mp hb with rfl | hb
      · exact le
      · obtain rfl := List.mem_singleton.mp hb
        exact li
    rw [upd_ne (Nat.ne_of_lt lb)]
    exact (hf b hb).1
  done := by
    intro X hP hw hK hc i pins s σ H E I hf st hg
    subst hP hw hK
    obtain ⟨⟨old, he⟩, hit, hne⟩ := st
    obtain ⟨f0, f1, f2, f3, f4, f5⟩ := hf it (by simp)
    have D : Draws X.prog X.w X.A.in1 it [it] x.cps.size (fun i v => ∃ c u, x.cps[i]? = some c ∧ v = .str ⟨#[c]⟩ u) (fun i h => h.IsStrIter it (strIterType x) x t i) := draws_str (A := X.A.in1) (show X.A.in1.handled = none from I.ok.hd hc) it x t
    have hg : i = x.cps.size := hg
    subst hg
    exact wpAny_pyNext_enum_endD D he hit fun h' eb => ⟨rfl, I.turned (t' := s.toks) (fun b o hb q => eb b o hb q) f0 f1 f3 f4 f5⟩
  self := fun A i s Q E st h => by
    obtain ⟨⟨_, he⟩, _⟩ := st
    exact wpAny_pyIter_enum he h
def iEnumS (ta : TA) : TI := fun σ H R => ta σ H fun vs H1 => ∃ x, vs = [.str x] ∧ R (Ites x) H1
theorem pi_enumS {X : Cx} {e : Expr} {ta : TA} {p pos tpos : Pos} {elts : List Expr} {kk : Nat} (hg : Gl X "enumerate") (hm : X.mg "enumerate" = none) (ha : PA X [e] ta) (hs : starEach [e] X.env = [(false, eval e X.env)] := by rfl) :
    PI X (.Tuple elts kk tpos) (.Call (.Name "enumerate" p) [e] [] pos) (iEnumS ta) := by
  refine ⟨fun pins s σ H R I h => ?_⟩
  refine Call_ (ld_blt I hg hm boot_enumerate (PyProof.Rows.callWith_type1 (thn (ha.run pos pins s σ H _ I h) fun us s1 ⟨vs, H1, I1, r1, q1⟩ => ?_) hs rfl))
  obtain ⟨x, rfl, q⟩ := q1
  obtain ⟨u, rfl, t, rfl⟩ := vals1 r1
  refine call_enumerate_str fun h' he hit hsz hk => wpAny_pyIter_enum he ?_
  have I2 : Inv X pins σ H1 { s1 with heap := h' } := I1.kept (t' := s1.toks) hk
  refine ⟨s1.heap.objs.size + 1, [s1.heap.objs.size + 1, s1.heap.objs.size], _, _, H1, rfl, I2, turn_enumS x t (s1.heap.objs.size + 1) s1.heap.objs.size, ⟨⟨.none, he⟩, hit, Nat.succ_ne_self _⟩, fun b hb => ?_, q⟩
  have hle : s1.heap.objs.size ≤ b := by
    rcases List.mem_cons.mp hb with rfl | hb
    · exact Nat.le_succ _
    · rw [List.mem_singleton.mp hb]
      exact Nat.le_refl _
  exact I1.fpOk hle (I1.hok.fresh hle)
theorem walk_enumS (x : Str) : Walk (Ites x) x.cps.size (fun _ => True) (fun i H v H' => ∃ T c, v = .ref T ∧ H T = none ∧ H' = upd H T (.tup [.int (i : Nat), .str ⟨#[c]⟩]) ∧ x.cps[i]? = some c) :=
  ⟨fun _ _ h _ => h, fun _ _ => rfl, fun _ _ _ _ _ _ y => y⟩
/-! ### text * int, repr -/
section
variable {X : Cx}
theorem rep_size (z : Array Nat) : ∀ (n : Nat) (a : Array Nat), (List.foldl (fun x1 x2 => x1 ++ x2) a (List.replicate n z)).size = a.size + n * z.size
  | 0, a => by simp
  | n + 1, a => by
    rw [List.replicate_succ, List.foldl_cons, rep_size z n, Array.size_append, Nat.add_mul]
    omega
theorem op_mul_str : OpR X (binaryOp .Mult) (fun x y H Q => ∃ (z : Str) (n : Nat), x = .str z ∧ y = .int (n : Nat) ∧ 2 ≤ n ∧ 1 ≤ z.length ∧ z.length * n ≤ 1000000 ∧ Q (.str ⟨(List.replicate n z.cps).foldl (· ++ ·) #[]⟩) H) := by
  intro pins s σ H x y v u Q I rx ry h
  obtain ⟨z, n, rfl, rfl, h2, h1, hz, q⟩ := h
  obtain ⟨t, rfl⟩ := rx
  obtain ⟨t', rfl⟩ := ry
  have e1 : ¬ ((n : Int) < 1) := by omega
  have e2 : ((n : Int) == 1 || z.length == 0) = false := by
    rw [Bool.or_eq_false_iff]
    exact ⟨beq_eq_false_iff_ne.mpr (by omega), beq_eq_false_iff_ne.mpr (by omega)⟩
  have nz : n ≤ 1000000 := Nat.le_trans (Nat.le_mul_of_pos_left n h1) hz
  have zz : z.length ≤ 1000000 := Nat.le_trans (Nat.le_mul_of_pos_right z.length (by omega)) hz
  refine PySem.P.mul_str ?_ (fun _ _ => ?_) (fun _ _ => ?_) ?_
  · rw [decide_eq_false (by omega), decide_eq_false (by omega)]
    rfl
  · have h3 : (z.length : Int) * (n : Int) ≤ 1000000 := by
      rw [← Int.natCast_mul]
      exact Int.ofNat_le.mpr hz
    have h4 : (z.length : Int) ≤ (2 ^ 63 - 1) / (n : Int) := by
      rw [Int.le_ediv_iff_mul_le (by omega)]
      omega
    omega
  · unfold PySem.Builtin.Str.tooLong
    rw [decide_eq_false_iff_not, sizeLine_eq, Int.toNat_natCast]
    omega
  · rw [if_neg e1, if_neg (by rw [e2]; exact Bool.false_ne_true), Int.toNat_natCast]
    refine ⟨?_, ⟨.str _, H, I.tok _, ⟨_, rfl⟩, q⟩⟩
    show (List.foldl (fun x1 x2 => x1 ++ x2) #[] (List.replicate n z.cps)).size ≤ sizeLine
    rw [rep_size, sizeLine_eq, show (#[] : Array Nat).size = 0 from rfl]
    have : z.cps.size * n ≤ 1000000 := hz
    rw [Nat.mul_comm] at this
    omega
theorem call_repr_any (hg : X.A.guards = some []) (hu : X.A.units + 64 < cLine) : CallR X (.builtin "repr") (fun xs H Q => (xs = [.non] ∧ Q (.str "None") H) ∨ ∃ a d, xs = [.ref a] ∧ Dp X.K H (.ref a) d ∧ d.showable = true ∧ d.hasDict = false ∧ d.depth ≤ 60 ∧ d.shown.length ≤ sizeLine ∧ Q (.str d.shown) H) := by
  intro pins s σ H xs us Q I r h
  rcases h with ⟨rfl, q⟩ | ⟨a, d, rfl, hd, h1, h2, h3, h4, q⟩
  · obtain ⟨u, rfl, e⟩ := vals1 r
    obtain rfl : u = Value.none := e
    exact PySem.P.repr_of_none ⟨.str _, H, I.tok _, ⟨_, rfl⟩, q⟩
  · obtain ⟨u, rfl, e⟩ := vals1 r
    obtain rfl : u = Value.ref a := e
    obtain ⟨as, rd⟩ := Dp.reads I d _ _ hd rfl
    exact repr_of_reads' rd h1 (PyData.noDict_hsm h2) hg (by omega) (fun _ _ e => e) (fun h' u tk hk => ⟨.str _, H, I.kept (t' := tk) hk, ⟨_, rfl⟩, q⟩) h4
end
theorem iop_mulW {X : Cx} : OpR X (inplaceOp .Mult) (rI CMulW fun i j => .int (i * j)) := opI fun _ _ _ _ _ _ _ hc q => imul_int q hc.ok
end R
/-- ten to the four thousandth -/
def big : Nat := 10 ^ 4000
def isWhole : PyData → Bool
  | .int _ => true
  | _ => false
def shortD : PyData → Bool
  | .int i => decide (i.natAbs < big)
  | _ => false
def spWhole (K : PySem.W.Frag) : Sp := fun vs H Q _ => ∃ (v : V) (d : PyData), vs = [v] ∧ Dp K H v d ∧ Q (.bl (isWhole d)) H
def spShort (K : PySem.W.Frag) : Sp := fun vs H Q _ => ∃ (v : V) (d : PyData), vs = [v] ∧ Dp K H v d ∧ Q (.bl (shortD d)) H

/-- the text of an atom -/
def atomT : PyData → Option Str
  | .bool b => some (if b then "+" else "-")
  | .str x => if isWd x.cps.toList = true then some x else if x = Str.ofString "" then some "." else none
  | .int i => if i.natAbs < big then some (Str.ofString (toString i)) else none
  | _ => none
theorem atomT_str (x : Str) : atomT (.str x) = if isWd x.cps.toList = true then some x else if x = Str.ofString "" then some (Str.ofString ".") else none := rfl
theorem atomT_int (i : Int) : atomT (.int i) = if i.natAbs < big then some (Str.ofString (toString i)) else none := rfl
def spAtom (K : PySem.W.Frag) (C : Addr) : Sp := fun vs H Q E => ∃ (v : V) (d : PyData), vs = [v] ∧ Dp K H v d ∧ (∀ x, d = .str x → x.length ≤ sizeLine) ∧ (∀ t H', atomT d = some t → Same H H' → Q (.str t) H') ∧ (∀ H', atomT d = none → Same H H' → E (.ref C) none H')

end Z

set_option Elab.async false
set_option linter.all false
set_option maxRecDepth 100000
set_option maxHeartbeats 4000000
namespace Z
open PySem PySem.Spec PyProof.Rows L2 Z.R
local macro_rules | `(tactic| walk_at "sx") => `(tactic| try simp only [and_assoc, cxOf_K, cxOf_Kn, C8.tCut, rEq, rNe, sc_ii, sc_ss, sc_bb, sc_is, sc_si, sc_bs, sc_sb, tSeq, tAsg, tPar, tPar3, tC, gName, gNil, gCons, gTup, gSub, rSetL, L2.start, tVar, tOp, tUn, rI0, rI, rU, tTest, tChain, tOrV, tAndV, tNotV, tCB, tCons, tNil, tLst, tTup, tIfS, tNext, tRet, tRetN, tDrop, tAnd, tOr, tNot, tB, tIf, tSl, tNoPart, tPart, rSlL, tBM, tBM0, rAppend, rPop, rExtend, tCall, tMeth, List.map_cons, List.map_nil, List.replicate, List.length_cons, List.length_nil, List.append, List.cons_append, List.nil_append, List.append_nil, List.getElem?_cons_zero, List.getElem?_cons_succ, List.set_cons_zero, List.set_cons_succ, Option.some.injEq, exists_eq_left', exists_eq_left, exists_eq, exists_and_left, exists_const, wipe, tYes, upd_same, ↓reduceIte, decide_false, decide_true, Bool.not_true, Bool.not_false, Bool.false_eq_true, V.int.injEq, HO.lst.injEq, HO.tup.injEq, V.ref.injEq, V.str.injEq, one_inj, le_a, le_z, le_0, le_9, mem_let, mem_dig, V.bl.injEq, List.cons.injEq, and_true, true_and, reduceCtorEq, false_and, exists_false, or_false, false_or])
/-! ### data as text, by a stack of what waits -/
mutual
/-- the pieces of data at a depth -/
def wp : Nat → PyData → Option (List Str)
  | k, .tuple ds => if k ≤ 1000 then (wpAll (k + 1) ds).map fun l => (Str.ofString "[" :: l) ++ [Str.ofString "]"] else none
  | _, d => (atomT d).map fun t => [t]
def wpAll : Nat → List PyData → Option (List Str)
  | _, [] => some []
  | k, d :: ds => (wp k d).bind fun a => (wpTail k ds).map fun b => a ++ b
def wpTail : Nat → List PyData → Option (List Str)
  | _, [] => some []
  | k, d :: ds => (wp k d).bind fun a => (wpTail k ds).map fun b => Str.ofString "," :: (a ++ b)
end
mutual
/-- how many pieces at most -/
def pc : PyData → Nat
  | .tuple ds => 2 + pcAll ds
  | _ => 1
def pcAll : List PyData → Nat
  | [] => 0
  | d :: ds => pc d + 1 + pcAll ds
end
theorem pc_pos (d : PyData) : 1 ≤ pc d := by
  cases d <;> simp only [pc] <;> omega
theorem wp_atom {k : Nat} {d : PyData} (h : isTup d = false) : wp k d = (atomT d).map fun t => [t] := by
  cases d <;> first | rfl | (cases h)
theorem wp_deep {k : Nat} {d : PyData} (h : ¬ k ≤ 1000) : wp k d = (atomT d).map fun t => [t] := by
  cases d with
  | tuple ds =>
    simp only [wp]
    rw [if_neg h]
    rfl
  | _ => rfl
theorem wp_tup {k : Nat} {ds : List PyData} (h : k ≤ 1000) : wp k (.tuple ds) = (wpAll (k + 1) ds).map fun l => (Str.ofString "[" :: l) ++ [Str.ofString "]"] := by
  simp only [wp]
  rw [if_pos h]
/-- all texts within are small -/
inductive Sm : PyData → Prop where
  | non : Sm .none
  | bl (b : Bool) : Sm (.bool b)
  | int (i : Int) : Sm (.int i)
  | str (x : Str) (h : x.length ≤ 1000000) : Sm (.str x)
  | lst (ds : List PyData) : Sm (.list ds)
  | tup (ds : List PyData) (h : ∀ d ∈ ds, Sm d) : Sm (.tuple ds)
theorem Sm.str_le {d : PyData} (s : Sm d) : ∀ x, d = .str x → x.length ≤ sizeLine := by
  cases s with
  | str x h =>
    intro y e
    cases e
    exact Nat.le_trans h (by decide)
  | _ => intro x e; cases e
/-- what waits: a sign, or data at a depth -/
inductive Wt where
  | txt (s : Str)
  | dat (d : PyData) (k : Nat)
def Wt.out : Wt → Option (List Str)
  | .txt s => some [s]
  | .dat d k => wp k d
def Wt.sz : Wt → Nat
  | .txt _ => 1
  | .dat d _ => pc d
def Wt.ok : Wt → Prop
  | .txt s => s.length ≤ 1
  | .dat d k => Sm d ∧ 1 ≤ k
/-- the last one waits to be told first -/
def outs : List Wt → Option (List Str)
  | [] => some []
  | x :: l => (outs l).bind fun a => x.out.map fun b => a ++ b
theorem outs_app : ∀ (l m : List Wt), outs (l ++ m) = (outs m).bind fun a => (outs l).map fun b => a ++ b
  | [], m => by
    show outs m = (outs m).bind fun a => some (a ++ [])
    cases outs m with
    | none => rfl
    | some a => simp
  | x :: l, m => by
    show (outs (l ++ m)).bind _ = _
    rw [outs_app l m]
    show _ = (outs m).bind fun a => ((outs l).bind fun b => x.out.map fun c => b ++ c).map fun b => a ++ b
    cases outs m with
    | none => rfl
    | some a =>
      cases outs l with
      | none => rfl
      | some b =>
        cases x.out with
        | none => rfl
        | some c => simp
theorem outs_snoc (l : List Wt) (x : Wt) : outs (l ++ [x]) = x.out.bind fun a => (outs l).map fun b => a ++ b := by
  rw [outs_app]
  have : outs [x] = x.out := by
    show (some []).bind _ = _
    show x.out.map (fun b => [] ++ b) = x.out
    cases x.out <;> rfl
  rw [this]
def szs (l : List Wt) : Nat := (l.map Wt.sz).sum
theorem szs_snoc (l : List Wt) (x : Wt) : szs (l ++ [x]) = szs l + x.sz := by simp [szs]
/-- what is put by for the items from the j-th on, the last one first -/
def segs (k : Nat) : List PyData → List Wt
  | [] => []
  | d :: ds => segs k ds ++ [.dat d k, .txt (Str.ofString ",")]
theorem outs_segs (k : Nat) : ∀ ds, outs (segs k ds) = wpTail k ds
  | [] => rfl
  | d :: ds => by
    show outs (segs k ds ++ [.dat d k, .txt (Str.ofString ",")]) = _
    rw [show segs k ds ++ [.dat d k, .txt (Str.ofString ",")] = (segs k ds ++ [.dat d k]) ++ [.txt (Str.ofString ",")] by simp, outs_snoc, outs_snoc, outs_segs k ds]
    simp only [wpTail, Wt.out]
    cases wp k d with
    | none => rfl
    | some a =>
      cases wpTail k ds with
      | none => rfl
      | some b => rfl
theorem szs_segs (k : Nat) : ∀ ds, szs (segs k ds) = pcAll ds
  | [] => rfl
  | d :: ds => by
    show szs (segs k ds ++ [.dat d k, .txt (Str.ofString ",")]) = _
    rw [show segs k ds ++ [.dat d k, .txt (Str.ofString ",")] = (segs k ds ++ [.dat d k]) ++ [.txt (Str.ofString ",")] by simp, szs_snoc, szs_snoc, szs_segs k ds]
    simp only [pcAll, Wt.sz]
    omega
/-- all items but the comma ahead of the first one -/
def segAll (k : Nat) : List PyData → List Wt
  | [] => []
  | d :: ds => segs k ds ++ [.dat d k]
theorem outs_segAll (k : Nat) : ∀ ds, outs (segAll k ds) = wpAll k ds
  | [] => rfl
  | d :: ds => by
    show outs (segs k ds ++ [.dat d k]) = _
    rw [outs_snoc, outs_segs k ds]
    simp only [wpAll, Wt.out]
theorem szs_segAll (k : Nat) (ds : List PyData) : szs (segAll k ds) ≤ pcAll ds := by
  cases ds with
  | nil => exact Nat.le_refl _
  | cons d ds =>
    show szs (segs k ds ++ [.dat d k]) ≤ _
    rw [szs_snoc, szs_segs]
    simp only [pcAll, Wt.sz]
    omega
/-- how what waits stands in the heap; the data as they were at the start -/
def WtAt (K : PySem.W.Frag) (H0 H : Hp) (x : V) (y : Wt) : Prop := ∃ (p : Addr) (v : V) (k : Nat), x = .ref p ∧ SqT K H p [v, .int (k : Nat)] ∧ match y with
  | .txt s => v = .str s ∧ k = 0
  | .dat d j => Dp K H0 v d ∧ k = j
inductive WtAll (K : PySem.W.Frag) (H0 H : Hp) : List V → List Wt → Prop
  | nil : WtAll K H0 H [] []
  | cons {v : V} {vs : List V} {y : Wt} {ys : List Wt} : WtAt K H0 H v y → WtAll K H0 H vs ys → WtAll K H0 H (v :: vs) (y :: ys)
section
variable {K : PySem.W.Frag} {H0 H H' : Hp}
theorem WtAll.snoc {v : V} {y : Wt} : ∀ {vs : List V} {ys : List Wt}, WtAll K H0 H vs ys → WtAt K H0 H v y → WtAll K H0 H (vs ++ [v]) (ys ++ [y])
  | _, _, .nil, h => .cons h .nil
  | _, _, .cons a t, h => .cons a (WtAll.snoc t h)
theorem WtAll.len : ∀ {vs : List V} {ys : List Wt}, WtAll K H0 H vs ys → vs.length = ys.length
  | _, _, .nil => rfl
  | _, _, .cons _ t => congrArg (· + 1) (WtAll.len t)
theorem WtAll.back {ys : List Wt} {y : Wt} : ∀ {vs : List V}, WtAll K H0 H vs (ys ++ [y]) → ∃ us u, vs = us ++ [u] ∧ WtAll K H0 H us ys ∧ WtAt K H0 H u y := by
  induction ys with
  | nil =>
    intro vs h
    cases h with
    | cons a t =>
      cases t
      exact ⟨[], _, rfl, .nil, a⟩
  | cons z ys ih =>
    intro vs h
    cases h with
    | cons a t =>
      obtain ⟨us, u, rfl, h1, h2⟩ := ih t
      exact ⟨_ :: us, u, rfl, .cons a h1, h2⟩
theorem WtAt.mono (f : Tp H H') {v : V} {y : Wt} (h : WtAt K H0 H v y) : WtAt K H0 H' v y := by
  obtain ⟨p, u, k, e, hp, r⟩ := h
  exact ⟨p, u, k, e, f.sqt hp, r⟩
theorem WtAll.mono (f : Tp H H') : ∀ {vs : List V} {ys : List Wt}, WtAll K H0 H vs ys → WtAll K H0 H' vs ys
  | _, _, .nil => .nil
  | _, _, .cons a t => .cons (a.mono f) (WtAll.mono f t)
end
theorem cps_ofString (s : String) : (Str.ofString s).cps.toList = s.toList.map Char.toNat := by rw [Str.ofString_eq_toList]
theorem int_nat (n : Nat) : (Str.ofString (toString ((n : Nat) : Int))).cps.toList = TL.numL n := TL.tl_num n
theorem int_neg (n : Nat) : (Str.ofString (toString (Int.negSucc n))).cps.toList = 45 :: TL.numL (n + 1) := by
  have e : toString (Int.negSucc n) = "-" ++ toString (((n + 1 : Nat) : Int)) := rfl
  rw [e, cps_ofString, String.toList_append, List.map_append, ← cps_ofString (toString (((n + 1 : Nat) : Int))), int_nat]
  rfl
/-- pieces are short -/
theorem atomT_len {d : PyData} {t : Str} (h : atomT d = some t) : t.length ≤ 4001 := by
  cases d with
  | bool b =>
    cases b <;> (cases h; decide)
  | str x =>
    rw [atomT_str] at h
    by_cases c : isWd x.cps.toList = true
    · rw [if_pos c] at h
      obtain rfl := Option.some.inj h
      have l := tl_len x
      cases e : x.cps.toList with
      | nil =>
        rw [e] at l
        simp only [List.length_nil] at l
        omega
      | cons c0 r =>
        rw [e] at l c
        simp only [isWd, Bool.and_eq_true, decide_eq_true_eq] at c
        simp only [List.length_cons] at l
        omega
    · rw [if_neg c] at h
      by_cases c2 : x = Str.ofString ""
      · rw [if_pos c2] at h
        cases h
        decide
      · rw [if_neg c2] at h
        cases h
  | int i =>
    rw [atomT_int] at h
    by_cases c : i.natAbs < big
    · rw [if_pos c] at h
      cases h
      have hb : ∀ n : Nat, n < big → (TL.numL n).length ≤ 4000 := fun n hn => TL.numL_len (by decide) hn
      cases i with
      | ofNat n =>
        have e := TL.tl_num n
        have l := tl_len (Str.ofString (toString ((n : Nat) : Int)))
        have := hb n c
        rw [show (Str.ofString (toString ((n : Nat) : Int))).cps.toList = TL.numL n from e] at l
        show (Str.ofString (toString ((n : Nat) : Int))).length ≤ 4001
        omega
      | negSucc n =>
        have e := int_neg n
        have l := tl_len (Str.ofString (toString (Int.negSucc n)))
        have := hb (n + 1) c
        rw [e, List.length_cons] at l
        show (Str.ofString (toString (Int.negSucc n))).length ≤ 4001
        omega
    · rw [if_neg c] at h
      cases h
  | _ => cases h
def spWrite (K : PySem.W.Frag) (C : Addr) : Sp := fun vs H Q E => ∃ (v : V) (d : PyData), vs = [v] ∧ Dp K H v d ∧ Sm d ∧ pc d ≤ 4000 ∧ (∀ l H', wp 1 d = some l → Same H H' → Q (.str (Txt.join (Str.ofString "") l)) H') ∧ (∀ H', wp 1 d = none → Same H H' → E (.ref C) none H')
theorem Same.off {H H' : Hp} {a : Addr} {o : HO} (f : Same H H') (h : H a = none) : Same H (upd H' a o) := fun b u e => by
  rw [upd_ne (ne_of_none e h)]
  exact f b u e
structure WInv (K : PySem.W.Frag) (H : Hp) (v : V) (d : PyData) (w f : Addr) (m : Nat) (σ : L2.St) (H' : Hp) : Prop where
  ex : ∃ (its : List Wt) (ws : List V) (fnd : List Str) (one depth k : Option V), σ = [some v, some (.ref w), some (.ref f), one, depth, k] ∧ H' w = some (.lst ws) ∧ H' f = some (.lst (fnd.map V.str)) ∧ WtAll K H H' ws its ∧
    (∀ y ∈ its, y.ok) ∧ Same H H' ∧ m = szs its ∧ fnd.length + szs its ≤ 4000 ∧ (∀ s ∈ fnd, s.length ≤ 4001) ∧ (outs its).map (fun l => fnd ++ l) = wp 1 d
theorem szs_len : ∀ {its : List Wt}, its.length ≤ szs its
  | [] => Nat.le_refl _
  | y :: l => by
    have : 1 ≤ y.sz := by
      cases y with
      | txt s => exact Nat.le_refl _
      | dat d k => exact pc_pos d
    have := szs_len (its := l)
    simp only [szs, List.map_cons, List.sum_cons, List.length_cons] at *
    omega
theorem small4 {n : Nat} (h : n ≤ 10000) : n < sizeLine := Nat.lt_of_le_of_lt h (by decide)
theorem segs_drop (k : Nat) {ds : List PyData} {j : Nat} {d : PyData} (h : ds[j]? = some d) : segs k (ds.drop j) = segs k (ds.drop (j + 1)) ++ [.dat d k] ++ [.txt (Str.ofString ",")] := by
  have hj : j < ds.length := (List.getElem?_eq_some_iff.mp h).1
  have e : ds.drop j = d :: ds.drop (j + 1) := by
    rw [List.drop_eq_getElem_cons hj]
    congr 1
    exact (List.getElem?_eq_some_iff.mp h).2
  rw [e]
  show segs k (ds.drop (j + 1)) ++ [.dat d k, .txt (Str.ofString ",")] = _
  simp
theorem segAll_drop (k : Nat) {ds : List PyData} {d : PyData} (h : ds[0]? = some d) : segAll k ds = segs k (ds.drop 1) ++ [.dat d k] := by
  cases ds with
  | nil => cases h
  | cons x r =>
    obtain rfl := Option.some.inj h
    rfl
theorem out_tup (fnd l1 : List Str) (o1 o2 : Option (List Str)) :
    ((o1.bind fun a => ((some [Str.ofString "]"]).bind fun b => o2.map fun c => b ++ c).map fun b => a ++ b).map fun l => (fnd ++ [Str.ofString "["]) ++ l) =
      ((o1.map fun l => (Str.ofString "[" :: l) ++ [Str.ofString "]"]).bind fun a => o2.map fun b => a ++ b).map fun l => fnd ++ l := by
  cases o1 with
  | none => rfl
  | some a =>
    cases o2 with
    | none => rfl
    | some b => simp
theorem pcAll_len : ∀ ds : List PyData, ds.length ≤ pcAll ds
  | [] => Nat.le_refl _
  | d :: ds => by
    have := pcAll_len ds
    simp only [pcAll, List.length_cons]
    omega
theorem segs_len (k : Nat) : ∀ ds, (segs k ds).length = 2 * ds.length
  | [] => rfl
  | d :: ds => by
    show (segs k ds ++ [Wt.dat d k, Wt.txt (Str.ofString ",")]).length = _
    rw [List.length_append, segs_len k ds]
    simp only [List.length_cons, List.length_nil]
    omega
theorem segAll_len (k : Nat) (ds : List PyData) : (segAll k ds).length ≤ 2 * ds.length := by
  cases ds with
  | nil => exact Nat.le_refl _
  | cons d ds =>
    show (segs k ds ++ [Wt.dat d k]).length ≤ _
    rw [List.length_append, segs_len]
    simp only [List.length_cons, List.length_nil]
    omega
theorem small5 {n : Nat} (h : n ≤ 20000) : n < sizeLine := Nat.lt_of_le_of_lt h (by decide)
theorem push_at {K : PySem.W.Frag} {H H2 : Hp} {w f p : Addr} {us : List V} {fs : List V} {its : List Wt} {u : V} {k : Nat} {y : Wt} (Hw : H w = none) (nwf : w ≠ f) (hw : H2 w = some (.lst us)) (hf : H2 f = some (.lst fs)) (hus : WtAll K H H2 us its) (s2 : Same H H2) (np : H2 p = none)
    (hy : match y with
      | .txt s => u = .str s ∧ k = 0
      | .dat d j => Dp K H u d ∧ k = j) :
    upd (upd H2 p (.tup [u, .int (k : Nat)])) w (.lst (us ++ [.ref p])) f = some (.lst fs) ∧ WtAll K H (upd (upd H2 p (.tup [u, .int (k : Nat)])) w (.lst (us ++ [.ref p]))) (us ++ [.ref p]) (its ++ [y]) ∧ Same H (upd (upd H2 p (.tup [u, .int (k : Nat)])) w (.lst (us ++ [.ref p]))) := by
  have npw : w ≠ p := ne_of_none hw np
  refine ⟨by rw [upd_ne nwf.symm, upd_ne (ne_of_none hf np)]; exact hf, WtAll.snoc (hus.mono (Tp.upd (Tp.new (.refl _) np) (by rw [upd_ne npw]; exact hw))) ⟨p, u, k, rfl, SqT.of (by rw [upd_ne npw.symm, upd_same]), hy⟩, Same.off (fun b o e => ?_) Hw⟩
  rw [upd_ne (ne_of_none (s2 b o e) np)]
  exact s2 b o e
theorem segs_ok {k : Nat} (hk : 1 ≤ k) : ∀ {ds : List PyData}, (∀ d ∈ ds, Sm d) → ∀ y ∈ segs k ds, y.ok
  | [], _, y, hy => by cases hy
  | d :: ds, h, y, hy => by
    rcases List.mem_append.mp (show y ∈ segs k ds ++ [.dat d k, .txt (Str.ofString ",")] from hy) with hy | hy
    · exact segs_ok hk (fun d hd => h d (List.mem_cons_of_mem _ hd)) y hy
    · simp only [List.mem_cons, List.not_mem_nil, or_false] at hy
      rcases hy with rfl | rfl
      · exact ⟨h d (List.mem_cons_self ..), hk⟩
      · exact (by decide : (Str.ofString ",").length ≤ 1)
theorem segAll_ok {k : Nat} (hk : 1 ≤ k) {ds : List PyData} (h : ∀ d ∈ ds, Sm d) : ∀ y ∈ segAll k ds, y.ok := by
  cases ds with
  | nil => intro y hy; cases hy
  | cons d ds =>
    intro y hy
    rcases List.mem_append.mp (show y ∈ segs k ds ++ [.dat d k] from hy) with hy | hy
    · exact segs_ok hk (fun d hd => h d (List.mem_cons_of_mem _ hd)) y hy
    · rw [List.mem_singleton.mp hy]
      exact ⟨h d (List.mem_cons_self ..), hk⟩

end Z

set_option Elab.async false
set_option linter.all false
set_option maxRecDepth 100000
set_option maxHeartbeats 4000000
namespace Z
open PySem PySem.Spec PyProof.Rows L2
local macro_rules | `(tactic| walk_at "sx") => `(tactic| try simp only [and_assoc, cxOf_K, cxOf_Kn, C8.tCut, rEq, rNe, sc_ii, sc_ss, sc_bb, sc_is, sc_si, sc_bs, sc_sb, tSeq, tAsg, tC, gName, gNil, gCons, gTup, gSub, rSetL, L2.start, tVar, tOp, tUn, rI0, rI, rU, tTest, tChain, tOrV, tAndV, tNotV, tCB, tCons, tNil, tLst, tTup, tIfS, tNext, tRet, tRetN, tDrop, tAnd, tOr, tNot, tB, tIf, tSl, tNoPart, tPart, rSlL, tBM, tBM0, rAppend, rPop, tCall, tMeth, List.map_cons, List.map_nil, List.replicate, List.length_cons, List.length_nil, List.append, List.cons_append, List.nil_append, List.append_nil, List.getElem?_cons_zero, List.getElem?_cons_succ, List.set_cons_zero, List.set_cons_succ, Option.some.injEq, exists_eq_left', exists_eq_left, exists_eq, exists_and_left, exists_const, wipe, tYes, upd_same, ↓reduceIte, Bool.false_eq_true, V.int.injEq, HO.lst.injEq, HO.tup.injEq, V.ref.injEq, V.str.injEq, one_inj, le_a, le_z, le_0, le_9, mem_let, mem_dig, V.bl.injEq, List.cons.injEq, and_true, true_and, reduceCtorEq, false_and, exists_false, or_false, false_or])
/-! ### the law's own def, run by the caller: what is known of that caller -/
def LawRun (P : Program) (w : World) (K : PySem.W.Frag) (mg : Str → Option Value) (base : Heap) (fa : Addr) (fd : FuncData) (x : Str) (sp : Sp) : Prop :=
  ∀ (s : Shared) (H : Hp) (u : Value) (v : V) (Q : VK) (E : XK), Env0 P w K mg base callerA [] s H → BindsTo s fd ⟨[u], []⟩ [(x, u)] → RelV v u → sp [v] H Q E →
    codeAny (model P w) callerA (.call (.ref fa) ⟨[u], []⟩) (CR CX0 [] P w H s Q E) s
section
variable {P : Program} {w : World} {K : PySem.W.Frag} {mg : Str → Option Value} {base : Heap}
theorem lawRun {name : Str} {st : Stmt} {f : Addr} {fd : FuncData} {N : List Str} {x : Str} {sp : Sp} (F : Fun K name name st f fd) (S : FnScope N [x] (defScope st))
    (hbody : ∀ (cdv : Value) (A : Around) (s : Shared) (H : Hp) (v : V) (Q : VK) (E : XK), A = callerA → sp [v] H Q E →
      ∃ t, PSs (cxOf CX0 P w K mg base N name (defScope st) f cdv A [] s H E).nox (defBody st) t ∧ t { nx := fun _ H' => Q .non H', rt := Q } (L2.start N [v]) H) : LawRun P w K mg base f fd x sp := by
  obtain ⟨oc, od, kV, doc, pm, an, cdv, ct, osl, rfl, lk, hcd⟩ := F.ex
  intro s H u v Q E e0 hb r hsp
  have keep : ∀ b o, base.get? b = some o → s.heap.get? b = some o := fun b o e => (e0.bs b o e).1
  have KX : K.In s.heap := e0.mod.kin.keeps keep
  have lim : s.heap.NoLimit := e0.mod.nolimit.keeps keep
  have kinds : ∀ y ∈ [(x, u)], (defScope st).names.lookup y.1 = some .local ∨ ((defScope st).names.lookup y.1 = some .cell ∧ ((cellsFrom (s.heap.objs.size + 1) (defScope st).names []).lookup y.1).isSome = true) := by
    intro y hy
    obtain rfl : y = (x, u) := List.mem_singleton.mp hy
    rcases S.par x (List.mem_singleton_self x) with q | q
    · exact .inl q
    · exact .inr ⟨q, PySem.W.cellsFrom_some _ _ _ (.inl q)⟩
  have hd : callerA.depth < recursionLimit := by decide
  refine codeAny_call_function hd (KX _ _ lk) rfl S.co S.gen rfl (PySem.W.codeRec_of KX hcd) (hb _ _ _ _ ?_)
  refine wpAny_newFunctionEnv_cells S.kind kinds fun env he s1 fresh => ?_
  subst he
  refine ⟨lim.keeps fresh.toInCall.keep, codeAny_func ?_⟩
  obtain ⟨t, ht, hq⟩ := hbody cdv callerA s H v Q E rfl hsp
  have I := inv_start (CX := CX0) (E := E) (ps := [x]) (us := [u]) (vs := [v]) S rfl e0 rfl (.cons r .nil) fresh
  refine wpAny_mono (ht.nox.run [] s1 (L2.start N [v]) H _ I hq) (fun fl s' hs => ?_) fun e s' hs => hs
  cases fl with
  | ret u =>
    obtain ⟨v', σ', H', J, rv, q⟩ := hs
    exact ⟨v', H', J.os, J.bare, J.base, J.hok, rv, q⟩
  | next =>
    obtain ⟨σ', H', J, q⟩ := hs
    exact ⟨.non, H', J.os, J.bare, J.base, J.hok, rfl, q⟩
  | brk =>
    obtain ⟨_, _, _, q⟩ := hs
    exact False.elim q
  | cont =>
    obtain ⟨_, _, _, q⟩ := hs
    exact False.elim q
/-- the call of the law at the heap behind the top: only the script is tracked -/
theorem lawCall {mb : Str → Option Value} {fa a : Addr} {fd : FuncData} {x : Str} {sp : Sp} {s₁ : Shared} {vs : List Value} {ns : List Int}
    (KX : K.In s₁.heap) (hns : s₁.heap.Ns mainGlobals mg) (hb : s₁.heap.Ns builtinsNs mb) (hbb : ∀ x : Str, x ≠ "__name__" → mb x = bootBuiltins x) (hlim : s₁.heap.NoLimit) (hdig : s₁.heap.NoDigits) (hg : s₁.gens = #[])
    (ha : s₁.heap.get? a = some { cls := .type "list", data := .seq vs.toArray }) (hi : IntsAre vs ns) (hl : ns.length ≤ sizeLine)
    (F : ∀ base : Heap, K.In base → base.Ns mainGlobals mg → base.NoDigits → LawRun P w K mg base fa fd x sp) (hbind : ∀ (s : Shared) (u : Value), BindsTo s fd ⟨[u], []⟩ [(x, u)])
    (hsp : ∀ H : Hp, SqL K H a (ns.map V.int) → sp [.ref a] H (fun v _ => v = .bl true) fun _ _ _ => False) :
    codeAny (model P w) callerA (.call (.ref fa) ⟨[.ref a], []⟩) (fun r s' => r = .ok (.ret (.bool true)) ∧ OldK s₁.heap s'.heap ∧ s'.os = s₁.os ∧ AllBare s'.gens) s₁ := by
  have rv := vals_ints hi
  have lenV := hi.length
  have core : ∀ H : Hp, (∀ b o, H b = some o → b = a ∧ ∃ ob xs, o = .frz ob (.lst xs)) → SqL K H a (ns.map V.int) → HOk P w H s₁.heap → (H a ≠ none → K.lookup a = none) →
      codeAny (model P w) callerA (.call (.ref fa) ⟨[.ref a], []⟩) (fun r s' => r = .ok (.ret (.bool true)) ∧ OldK s₁.heap s'.heap ∧ s'.os = s₁.os ∧ AllBare s'.gens) s₁ := by
    intro H hO hS hok hK
    have free : ∀ {b : Addr} {o : Obj}, s₁.heap.get? b = some o → (b = a → K.lookup a = none → False) → H b = none := fun {b o} e n => by
      cases q : H b with
      | none => rfl
      | some u =>
        have eb := (hO b u q).1
        exact (n eb (hK (by rw [← eb, q]; simp))).elim
    have dictFree : ∀ {b : Addr} {o : Obj} {es : Array DictEntry} {ep : Nat}, s₁.heap.get? b = some o → o.data = .dict es ep → H b = none := fun {b o es ep} e d =>
      free e fun eb _ => by
        subst eb
        rw [ha] at e
        cases e
        cases d
    have nsK : ∀ {b : Addr} {m : Str → Option Value}, s₁.heap.Ns b m → (hidT s₁.heap H).Ns b m := fun {b m} ⟨o, es, ep, e, d, r⟩ => ⟨o, es, ep, hidT_get e (dictFree e d), d, r⟩
    have hKb : K.In (hidT s₁.heap H) := fun b o e => hidT_get (KX b o e) (free (KX b o e) fun eb z => by
      rw [eb, z] at e
      cases e)
    have hM : Mod K mg (hidT s₁.heap H) := ⟨hKb, nsK hns, ⟨mb, nsK hb, hbb⟩, let ⟨mc, h1, h2⟩ := hlim; ⟨mc, nsK h1, h2⟩⟩
    have hD : (hidT s₁.heap H).NoDigits := let ⟨mc, h1, h2⟩ := hdig; ⟨mc, nsK h1, h2⟩
    have e0 : Env0 P w K mg (hidT s₁.heap H) callerA [] s₁ H := ⟨rfl, hM, fun b o e => of_hidT e, Nat.le_of_eq (hidT_size _ _), trivial, fun b hb => absurd (show b ∈ ([] : List Addr) from hb) (by simp), hok, .of_eq hg⟩
    refine codeAny_mono (F _ hKb (nsK hns) hD s₁ H (.ref a) (.ref a) _ _ e0 (hbind s₁ (.ref a)) rfl (hsp H hS)) fun r s' h => ?_
    match r, h with
    | .error e, h => exact False.elim h
    | .ok .next, h => exact False.elim h
    | .ok .brk, h => exact False.elim h
    | .ok .cont, h => exact False.elim h
    | .ok (.ret u), h =>
      obtain ⟨v, H', os, bare, un, hok', r', q⟩ := h
      obtain rfl : v = .bl true := q
      obtain rfl : u = Value.bool true := r'
      refine ⟨rfl, OldK.of_keep fun b o e => ?_, os, bare⟩
      cases q : H b with
      | none => exact un.keep b o e q (by simp [frs]) (by simp)
      | some u =>
        obtain ⟨eb, ob, xs, rfl⟩ := hO b u q
        obtain ⟨e1, _⟩ := hok b _ q
        obtain ⟨e2, _⟩ := hok' b _ (un.frzs b ob _ q)
        rw [e] at e1
        cases e1
        exact e2
  cases hk : K.lookup a with
  | some o =>
    have e := KX a o hk
    rw [ha] at e
    cases e
    exact core (fun _ => none) (fun b o z => by cases z) (.inr ⟨_, vs.toArray, _, hk, rfl, rfl, rfl, by rw [List.size_toArray, lenV]; exact hl, by simpa using rv⟩) (fun b u z => by cases z) fun z => absurd rfl z
  | none =>
    refine core (fun b => if b = a then some (.frz { cls := .type "list", data := .seq vs.toArray } (.lst (ns.map V.int))) else none) (fun b o z => ?_) (.inl (.inr ⟨{ cls := .type "list", data := .seq vs.toArray }, if_pos rfl⟩)) (fun b u z => ?_) fun _ => hk
    · by_cases h : b = a
      · simp only [h, if_true, Option.some.injEq] at z
        exact ⟨h, _, _, z.symm⟩
      · simp only [h, if_false] at z
        cases z
    · by_cases h : b = a
      · simp only [h, if_true, Option.some.injEq] at z
        subst z
        subst h
        exact ⟨ha, by rw [List.length_map]; exact hl, vs, _, rv, ha⟩
      · simp only [h, if_false] at z
        cases z
end
theorem walkG {l : PySem.W.OpenLaw} {q : Program} {loose : List Str} {XP : (Str → Option Value) → Heap → Prop} {YP : World → Heap → Prop} {d : DefRec} {K : Params → PySem.W.Frag} (hn : l.most = some 63) (hdf : d.params.defaults = [])
    (hY : ∀ (w : World) (h : Heap), YP w h → (K w.params).In h)
    (F : ∀ (w : World) (mg : Str → Option Value) (fa : Addr) (h : Heap), (K w.params).In h → h.Ns mainGlobals mg → mg d.name = some (.ref fa) →
      ∃ fd : FuncData, (∀ (s : Shared) (u : Value), BindsTo s fd ⟨[u], []⟩ [("script", u)]) ∧ ∀ base : Heap, (K w.params).In base → base.Ns mainGlobals mg → base.NoDigits → LawRun l.prog w (K w.params) mg base fa fd "script" (spLaw (K w.params))) :
    PySem.W.WalkO q loose XP YP l.row.toRowW d [] (fun f vs => PySem.call f vs) := by
  refine Att.attach_call hn hdf fun w s₀ s₁ mg mb fa o pm cd doc a vs ns G Y ho hd hcd hmg hobj hints hlen hg => ?_
  obtain ⟨fd, hb, hF⟩ := F w mg fa _ (hY w _ Y) G.T.g hmg
  exact lawCall (hY w _ Y) G.T.g G.T.b G.T.builtins G.T.nolimit G.T.nodigits hg hobj hints (Nat.le_trans hlen (by decide)) hF hb fun H hS => ⟨a, ns, rfl, hS, hlen, fun _ => rfl⟩

end Z

set_option Elab.async false
set_option linter.all false
set_option maxRecDepth 100000
set_option maxHeartbeats 4000000
namespace Z
open PySem PySem.Spec PyProof.Rows L2 Z.R
local macro_rules | `(tactic| walk_at "sx") => `(tactic| try simp only [and_assoc, cxOf_K, cxOf_Kn, C8.tCut, rEq, rNe, sc_ii, sc_ss, sc_bb, sc_is, sc_si, sc_bs, sc_sb, tSeq, tAsg, tPar, tPar3, tC, gName, gNil, gCons, gTup, gSub, rSetL, L2.start, tVar, tOp, tUn, rI0, rI, rU, tTest, tChain, tOrV, tAndV, tNotV, tCB, tCons, tNil, tLst, tTup, tIfS, tNext, tRet, tRetN, tDrop, tAnd, tOr, tNot, tB, tIf, tSl, tNoPart, tPart, rSlL, tBM, tBM0, rAppend, rPop, rExtend, tCall, tMeth, List.map_cons, List.map_nil, List.replicate, List.length_cons, List.length_nil, List.append, List.cons_append, List.nil_append, List.append_nil, List.getElem?_cons_zero, List.getElem?_cons_succ, List.set_cons_zero, List.set_cons_succ, Option.some.injEq, exists_eq_left', exists_eq_left, exists_eq, exists_and_left, exists_const, wipe, tYes, upd_same, ↓reduceIte, decide_false, decide_true, Bool.not_true, Bool.not_false, Bool.false_eq_true, V.int.injEq, HO.lst.injEq, HO.tup.injEq, V.ref.injEq, V.str.injEq, one_inj, le_a, le_z, le_0, le_9, mem_let, mem_dig, V.bl.injEq, List.cons.injEq, and_true, true_and, reduceCtorEq, false_and, exists_false, or_false, false_or])
open SX (S)
/-! ### reading, in plain -/
def delim (c : Nat) : Bool := c == 91 || c == 93 || c == 44
/-- the signs of a number without its sign -/
def bodyOf (t : List Nat) : List Nat := if t.head? = some 45 then t.tail else t
def numOk (t : List Nat) : Bool := decide (bodyOf t ≠ []) && (bodyOf t).all isDig && !(decide ((bodyOf t).head? = some 48) && decide (t ≠ [48]))
def numV (t : List Nat) : Int := if t.head? = some 45 then -((NumText.digitsVal t.tail : Nat) : Int) else ((NumText.digitsVal t : Nat) : Int)
/-- what an atom's signs read as -/
def atomR (t : List Nat) : Option PyData :=
  if t = [43] then some (.bool true) else if t = [45] then some (.bool false) else if t = [46] then some (.str (S [])) else if isWd t = true then some (.str (S t)) else
    if numOk t = true ∧ (bodyOf t).length ≤ 4000 then some (.int (numV t)) else none
/-- the tuples that are open, the inmost first; what was just read -/
structure MS where
  rows : List (List PyData)
  cur : Option PyData
def stepM (s : MS) (p : List Nat) : Option MS :=
  if p = [91] then (match s.cur with
    | none => if s.rows.length < 1000 then some ⟨[] :: s.rows, none⟩ else none
    | some _ => none)
  else if p = [93] then (match s.rows, s.cur with
    | [], _ => none
    | row :: r, some x => some ⟨r, some (.tuple (row ++ [x]))⟩
    | row :: r, none => if row = [] then some ⟨r, some (.tuple row)⟩ else none)
  else if p = [44] then (match s.rows, s.cur with
    | row :: r, some x => some ⟨(row ++ [x]) :: r, none⟩
    | _, _ => none)
  else (match s.cur with
    | none => (atomR p).map fun x => ⟨s.rows, some x⟩
    | some _ => none)
def runM : MS → List (List Nat) → Option MS
  | s, [] => some s
  | s, p :: ps => (stepM s p).bind fun s' => runM s' ps
/-- the pieces of a text, what was begun in hand -/
def pcs : List Nat → List Nat → List (List Nat)
  | tok, [] => if tok = [] then [] else [tok]
  | tok, c :: r => if delim c = true then (if tok = [] then [] else [tok]) ++ [c] :: pcs [] r else pcs (tok ++ [c]) r
def finM (s : MS) : Option PyData := if s.rows = [] then s.cur else none
def ans (t : List Nat) : Option PyData := (runM ⟨[], none⟩ (pcs [] t)).bind finM
theorem runM_app : ∀ (ps qs : List (List Nat)) (s : MS), runM s (ps ++ qs) = (runM s ps).bind fun s' => runM s' qs
  | [], qs, s => rfl
  | p :: ps, qs, s => by
    show (stepM s p).bind (fun s' => runM s' (ps ++ qs)) = ((stepM s p).bind fun s' => runM s' ps).bind fun s' => runM s' qs
    cases stepM s p with
    | none => rfl
    | some s' => exact runM_app ps qs s'
theorem pcs_flat : ∀ (t tok : List Nat), (pcs tok t).flatten = tok ++ t
  | [], tok => by
    simp only [pcs]
    by_cases h : tok = []
    · rw [if_pos h, h]
      rfl
    · rw [if_neg h]
      simp
  | c :: r, tok => by
    simp only [pcs]
    by_cases hc : delim c = true
    · rw [if_pos hc]
      have := pcs_flat r []
      by_cases h : tok = []
      · rw [if_pos h, h]
        simp [this]
      · rw [if_neg h]
        simp [this]
    · rw [if_neg hc, pcs_flat r (tok ++ [c])]
      simp
/-! ### writing, in plain -/
def intL : Int → List Nat
  | .ofNat n => TL.numL n
  | .negSucc n => 45 :: TL.numL (n + 1)
theorem intL_eq (i : Int) : Str.ofString (toString i) = S (intL i) := by
  cases i with
  | ofNat n => exact TL.ext_tl (int_nat n)
  | negSucc n => exact TL.ext_tl (int_neg n)
mutual
/-- the signs of data -/
def wr : PyData → List Nat
  | .bool b => if b then [43] else [45]
  | .str x => if x.cps.toList = [] then [46] else x.cps.toList
  | .int i => intL i
  | .tuple ds => 91 :: (wrAll ds ++ [93])
  | _ => []
def wrAll : List PyData → List Nat
  | [] => []
  | d :: ds => wr d ++ wrTail ds
def wrTail : List PyData → List Nat
  | [] => []
  | d :: ds => 44 :: (wr d ++ wrTail ds)
end
/-- data that can be written -/
inductive Gr : PyData → Prop where
  | bl (b : Bool) : Gr (.bool b)
  | emp : Gr (.str (S []))
  | word (x : Str) (h : isWd x.cps.toList = true) : Gr (.str x)
  | int (i : Int) (h : i.natAbs < big) : Gr (.int i)
  | tup (ds : List PyData) (h : ∀ d ∈ ds, Gr d) : Gr (.tuple ds)
theorem Gr.to {d : PyData} (g : Gr d) : To d := by
  induction g with
  | bl b => exact .bl b
  | emp => exact .str _
  | word x h => exact .str _
  | int i h => exact .int _
  | tup ds h ih => exact .tup _ ih
theorem isWd_len {t : List Nat} (h : isWd t = true) : t.length ≤ 12 := by
  cases t with
  | nil => exact Nat.zero_le _
  | cons c r =>
    simp only [isWd, Bool.and_eq_true, decide_eq_true_eq] at h
    simp only [List.length_cons]
    omega
theorem Gr.sm {d : PyData} (g : Gr d) : Sm d := by
  induction g with
  | bl b => exact .bl b
  | emp => exact .str _ (by decide)
  | word x h =>
    have := isWd_len h
    exact .str _ (by rw [← tl_len]; omega)
  | int i h => exact .int _
  | tup ds h ih => exact .tup _ ih
theorem wr_str {x : Str} (h : isWd x.cps.toList = true) : wr (.str x) = x.cps.toList := by
  simp only [wr]
  rw [if_neg (fun z => by rw [z] at h; cases h)]
/-- a comma behind each -/
def items : List PyData → List Nat
  | [] => []
  | d :: ds => wr d ++ 44 :: items ds
theorem items_app : ∀ (a b : List PyData), items (a ++ b) = items a ++ items b
  | [], b => rfl
  | d :: a, b => by
    show wr d ++ 44 :: items (a ++ b) = _
    rw [items_app a b]
    simp [items]
theorem wrAll_snoc (x : PyData) : ∀ ds, wrAll (ds ++ [x]) = items ds ++ wr x := by
  have tail : ∀ ds, wrTail (ds ++ [x]) = 44 :: (items ds ++ wr x) := by
    intro ds
    induction ds with
    | nil =>
      show wrTail [x] = _
      simp only [wrTail, items]
      simp
    | cons d ds ih =>
      show wrTail (d :: (ds ++ [x])) = _
      simp only [wrTail, items, ih]
      simp
  intro ds
  cases ds with
  | nil =>
    show wrAll [x] = _
    simp only [wrAll, wrTail, items]
    simp
  | cons d ds =>
    show wrAll (d :: (ds ++ [x])) = _
    simp only [wrAll, items, tail]
    simp
/-! ### atoms -/
theorem digs {t : List Nat} (h : t.all isDig = true) : NumText.AllDigits t := fun c hc => by
  have := List.all_eq_true.mp h c hc
  simpa [isDig] using this
theorem numL_back {cs : List Nat} (h : NumText.AllDigits cs) (hne : cs ≠ []) (h0 : cs.head? = some 48 → cs = [48]) : TL.numL (NumText.digitsVal cs) = cs := by
  obtain ⟨n, hn⟩ : ∃ n, cs.length = n + 1 := ⟨cs.length - 1, by cases cs with
    | nil => exact absurd rfl hne
    | cons c r => simp⟩
  have e := NumText.toDigits_digitsVal n cs hn h (by
    cases cs with
    | nil => exact absurd rfl hne
    | cons c r =>
      by_cases hc : c = 48
      · subst hc
        have := h0 rfl
        rw [this] at hn
        left
        simpa using hn.symm
      · right
        have := h c (List.mem_cons_self ..)
        exact ⟨c, r, rfl, by omega⟩)
  show (Nat.toDigits 10 (NumText.digitsVal cs)).map Char.toNat = cs
  rw [e, List.map_map]
  have : ∀ l : List Nat, NumText.AllDigits l → l.map (Char.toNat ∘ Char.ofNat) = l := by
    intro l
    induction l with
    | nil => intro _; rfl
    | cons c r ih =>
      intro hl
      rw [List.map_cons, ih hl.tail]
      have hc := hl.head
      have : (Char.toNat ∘ Char.ofNat) c = c := by
        have : ∀ k : Nat, k < 58 → (Char.ofNat k).toNat = k := by decide
        exact this c (by omega)
      rw [this]
  exact this cs h
theorem val_lt : ∀ cs : List Nat, NumText.AllDigits cs → NumText.digitsVal cs < 10 ^ cs.length := by
  intro cs
  induction h : cs.length generalizing cs with
  | zero =>
    intro _
    rw [List.length_eq_zero_iff.mp h]
    decide
  | succ n ih =>
    intro hd
    obtain ⟨r, c, rfl⟩ : ∃ r c, cs = r ++ [c] := by
      have : cs ≠ [] := fun z => by rw [z] at h; cases h
      exact ⟨cs.dropLast, cs.getLast this, (List.dropLast_concat_getLast this).symm⟩
    rw [List.length_append, List.length_singleton] at h
    have := ih r (by omega) fun x hx => hd x (List.mem_append_left _ hx)
    have hc := hd c (List.mem_append_right _ (List.mem_singleton_self c))
    rw [NumText.digitsVal_snoc, Nat.pow_succ]
    omega
theorem numOk_iff {t : List Nat} (h : numOk t = true) : bodyOf t ≠ [] ∧ NumText.AllDigits (bodyOf t) ∧ ((bodyOf t).head? = some 48 → t = [48]) := by
  simp only [numOk, Bool.and_eq_true, Bool.not_eq_true', Bool.and_eq_false_iff, decide_eq_true_eq, decide_eq_false_iff_not] at h
  refine ⟨h.1.1, digs h.1.2, fun z => ?_⟩
  rcases h.2 with q | q
  · exact absurd z q
  · exact Classical.not_not.mp q
theorem numOk_intL {t : List Nat} (h : numOk t = true) : intL (numV t) = t := by
  obtain ⟨h1, h2, h3⟩ := numOk_iff h
  unfold numV
  by_cases hm : t.head? = some 45
  · rw [if_pos hm]
    obtain ⟨r, rfl⟩ : ∃ r, t = 45 :: r := by
      cases t with
      | nil => cases hm
      | cons c r =>
        obtain rfl := Option.some.inj hm
        exact ⟨r, rfl⟩
    have e : bodyOf (45 :: r) = r := by simp [bodyOf]
    rw [e] at h1 h2 h3
    have h0 : r.head? ≠ some 48 := fun z => by
      have := h3 z
      cases this
    have back := numL_back h2 h1 (fun z => absurd z h0)
    have pos : 0 < NumText.digitsVal r := by
      cases r with
      | nil => exact absurd rfl h1
      | cons c r =>
        have hc := h2.head
        exact NumText.digitsVal_pos (by
          have : c ≠ 48 := fun z => h0 (by rw [z]; rfl)
          omega)
    show intL (-((NumText.digitsVal r : Nat) : Int)) = _
    obtain ⟨k, hk⟩ : ∃ k, NumText.digitsVal r = k + 1 := ⟨NumText.digitsVal r - 1, by omega⟩
    rw [hk] at back ⊢
    show intL (Int.negSucc k) = _
    simp only [intL, back]
  · rw [if_neg hm]
    have e : bodyOf t = t := by simp [bodyOf, hm]
    rw [e] at h1 h2 h3
    show TL.numL _ = t
    exact numL_back h2 h1 h3
theorem numV_lt {t : List Nat} (h : numOk t = true) : (numV t).natAbs < 10 ^ (bodyOf t).length := by
  obtain ⟨h1, h2, h3⟩ := numOk_iff h
  have := val_lt _ h2
  unfold numV
  unfold bodyOf at this ⊢
  by_cases hm : t.head? = some 45
  · rw [if_pos hm] at this ⊢
    rw [if_pos hm]
    omega
  · rw [if_neg hm] at this ⊢
    rw [if_neg hm]
    omega
/-- an atom that was read is written as it stood -/
theorem atomR_wr {t : List Nat} {d : PyData} (h : atomR t = some d) : Gr d ∧ wr d = t := by
  unfold atomR at h
  by_cases c1 : t = [43]
  · rw [if_pos c1] at h
    cases h
    exact ⟨.bl _, by rw [c1]; simp [wr]⟩
  rw [if_neg c1] at h
  by_cases c2 : t = [45]
  · rw [if_pos c2] at h
    cases h
    exact ⟨.bl _, by rw [c2]; simp [wr]⟩
  rw [if_neg c2] at h
  by_cases c3 : t = [46]
  · rw [if_pos c3] at h
    cases h
    exact ⟨.emp, by rw [c3]; simp [wr]⟩
  rw [if_neg c3] at h
  by_cases c4 : isWd t = true
  · rw [if_pos c4] at h
    cases h
    exact ⟨.word _ c4, wr_str (x := S t) c4⟩
  rw [if_neg c4] at h
  by_cases c5 : numOk t = true ∧ (bodyOf t).length ≤ 4000
  · rw [if_pos c5] at h
    cases h
    refine ⟨.int _ (Nat.lt_of_lt_of_le (numV_lt c5.1) (Nat.pow_le_pow_right (by decide) c5.2)), ?_⟩
    simp only [wr]
    exact numOk_intL c5.1
  · rw [if_neg c5] at h
    cases h
/-! ### soundness -/
def stand : List (List PyData) → List Nat
  | [] => []
  | row :: r => stand r ++ 91 :: items row
def seen (s : MS) : List Nat := stand s.rows ++ (match s.cur with
  | none => []
  | some x => wr x)
def MS.good (s : MS) : Prop := (∀ row ∈ s.rows, ∀ d ∈ row, Gr d) ∧ ∀ x, s.cur = some x → Gr x
theorem stepM_seen {s s' : MS} {p : List Nat} (h : stepM s p = some s') (g : s.good) : s'.good ∧ seen s' = seen s ++ p := by
  obtain ⟨rows, cur⟩ := s
  obtain ⟨g1, g2⟩ := g
  unfold stepM at h
  by_cases c1 : p = [91]
  · rw [if_pos c1] at h
    cases cur with
    | some x => cases h
    | none =>
      simp only at h
      by_cases c : rows.length < 1000
      · rw [if_pos c] at h
        cases h
        refine ⟨⟨fun row hr => ?_, fun x e => (by cases e)⟩, ?_⟩
        · rcases List.mem_cons.mp hr with rfl | hr
          · intro d hd
            cases hd
          · exact g1 row hr
        · rw [c1]
          simp [seen, stand, items]
      · rw [if_neg c] at h
        cases h
  rw [if_neg c1] at h
  by_cases c2 : p = [93]
  · rw [if_pos c2] at h
    cases rows with
    | nil => cases h
    | cons row r =>
      have gr : ∀ d ∈ row, Gr d := g1 row (List.mem_cons_self ..)
      have g1r : ∀ row ∈ r, ∀ d ∈ row, Gr d := fun row hr => g1 row (List.mem_cons_of_mem _ hr)
      cases cur with
      | some x =>
        cases h
        refine ⟨⟨g1r, fun y e => ?_⟩, ?_⟩
        · cases e
          refine .tup _ fun d hd => ?_
          rcases List.mem_append.mp hd with hd | hd
          · exact gr d hd
          · rw [List.mem_singleton.mp hd]
            exact g2 x rfl
        · rw [c2]
          simp only [seen, stand, wr, wrAll_snoc]
          simp
      | none =>
        simp only at h
        by_cases c : row = []
        · subst c
          rw [if_pos rfl] at h
          cases h
          refine ⟨⟨g1r, fun y e => ?_⟩, ?_⟩
          · cases e
            exact .tup _ fun d hd => by cases hd
          · rw [c2]
            simp [seen, stand, wr, wrAll, items]
        · rw [if_neg c] at h
          cases h
  rw [if_neg c2] at h
  by_cases c3 : p = [44]
  · rw [if_pos c3] at h
    cases rows with
    | nil => cases h
    | cons row r =>
      cases cur with
      | none => cases h
      | some x =>
        cases h
        refine ⟨⟨fun row' hr => ?_, fun y e => (by cases e)⟩, ?_⟩
        · rcases List.mem_cons.mp hr with rfl | hr
          · intro d hd
            rcases List.mem_append.mp hd with hd | hd
            · exact g1 row (List.mem_cons_self ..) d hd
            · rw [List.mem_singleton.mp hd]
              exact g2 x rfl
          · exact g1 row' (List.mem_cons_of_mem _ hr)
        · rw [c3]
          simp [seen, stand, items_app, items]
  rw [if_neg c3] at h
  cases cur with
  | some x => cases h
  | none =>
    simp only at h
    cases ha : atomR p with
    | none =>
      rw [ha] at h
      cases h
    | some x =>
      rw [ha] at h
      cases h
      obtain ⟨q1, q2⟩ := atomR_wr ha
      refine ⟨⟨g1, fun y e => ?_⟩, ?_⟩
      · cases e
        exact q1
      · simp [seen, q2]
theorem runM_seen : ∀ {ps : List (List Nat)} {s s' : MS}, runM s ps = some s' → s.good → s'.good ∧ seen s' = seen s ++ ps.flatten
  | [], s, s', h, g => by
    cases h
    exact ⟨g, by simp⟩
  | p :: ps, s, s', h, g => by
    cases e : stepM s p with
    | none =>
      simp only [runM, e] at h
      cases h
    | some s1 =>
      simp only [runM, e] at h
      obtain ⟨g1, e1⟩ := stepM_seen e g
      obtain ⟨g2, e2⟩ := runM_seen (s := s1) h g1
      exact ⟨g2, by rw [e2, e1]; simp⟩
/-- what was read is written as it stood -/
theorem ans_wr {t : List Nat} {d : PyData} (h : ans t = some d) : Gr d ∧ wr d = t := by
  unfold ans at h
  cases e : runM ⟨[], none⟩ (pcs [] t) with
  | none =>
    rw [e] at h
    cases h
  | some s =>
    rw [e] at h
    obtain ⟨g, q⟩ := runM_seen e ⟨fun row hr => (by cases hr), fun x e => (by cases e)⟩
    obtain ⟨rows, cur⟩ := s
    have h : finM ⟨rows, cur⟩ = some d := h
    unfold finM at h
    by_cases c : rows = []
    · subst c
      rw [if_pos rfl] at h
      have h : cur = some d := h
      subst h
      rw [pcs_flat] at q
      refine ⟨g.2 _ rfl, ?_⟩
      simpa [seen, stand] using q
    · rw [if_neg c] at h
      cases h

end Z

set_option Elab.async false
set_option linter.all false
set_option maxRecDepth 100000
set_option maxHeartbeats 4000000
namespace Z
open PySem PySem.Spec PyProof.Rows L2 Z.R
local macro_rules | `(tactic| walk_at "sx") => `(tactic| try simp only [and_assoc, cxOf_K, cxOf_Kn, C8.tCut, rEq, rNe, sc_ii, sc_ss, sc_bb, sc_is, sc_si, sc_bs, sc_sb, tSeq, tAsg, tPar, tPar3, tC, gName, gNil, gCons, gTup, gSub, rSetL, L2.start, tVar, tOp, tUn, rI0, rI, rU, tTest, tChain, tOrV, tAndV, tNotV, tCB, tCons, tNil, tLst, tTup, tIfS, tNext, tRet, tRetN, tDrop, tAnd, tOr, tNot, tB, tIf, tSl, tNoPart, tPart, rSlL, tBM, tBM0, rAppend, rPop, rExtend, tCall, tMeth, List.map_cons, List.map_nil, List.replicate, List.length_cons, List.length_nil, List.append, List.cons_append, List.nil_append, List.append_nil, List.getElem?_cons_zero, List.getElem?_cons_succ, List.set_cons_zero, List.set_cons_succ, Option.some.injEq, exists_eq_left', exists_eq_left, exists_eq, exists_and_left, exists_const, wipe, tYes, upd_same, ↓reduceIte, decide_false, decide_true, Bool.not_true, Bool.not_false, Bool.false_eq_true, V.int.injEq, HO.lst.injEq, HO.tup.injEq, V.ref.injEq, V.str.injEq, one_inj, le_a, le_z, le_0, le_9, mem_let, mem_dig, V.bl.injEq, List.cons.injEq, and_true, true_and, reduceCtorEq, false_and, exists_false, or_false, false_or])
open SX (S)
/-! ### back: what was written is read as it was -/
theorem dig_nodelim {c : Nat} (h : 48 ≤ c ∧ c ≤ 57) : delim c = false := by
  simp only [delim, Bool.or_eq_false_iff, beq_eq_false_iff_ne]
  omega
theorem wd_nodelim {c : Nat} (h : (isLet c || isDig c) = true) : delim c = false := by
  simp only [isLet, isDig, Bool.or_eq_true, Bool.and_eq_true, decide_eq_true_eq] at h
  simp only [delim, Bool.or_eq_false_iff, beq_eq_false_iff_ne]
  omega
theorem isWd_all {t : List Nat} (h : isWd t = true) : (∀ c ∈ t, (isLet c || isDig c) = true) ∧ ∃ c r, t = c :: r ∧ isLet c = true := by
  cases t with
  | nil => cases h
  | cons c r =>
    simp only [isWd, Bool.and_eq_true] at h
    refine ⟨fun d hd => ?_, c, r, rfl, h.1.2⟩
    rcases List.mem_cons.mp hd with rfl | hd
    · rw [h.1.2]
      rfl
    · exact List.all_eq_true.mp h.2 d hd
theorem isWd_ne {t : List Nat} (h : isWd t = true) (c : Nat) (hc : isLet c = false) (r : List Nat) : t ≠ c :: r := by
  rintro rfl
  obtain ⟨_, d, s, e, q⟩ := isWd_all h
  obtain ⟨rfl, rfl⟩ := List.cons.inj e
  rw [hc] at q
  cases q
theorem intL_shape (i : Int) : (∃ cs, intL i = cs ∧ NumText.AllDigits cs ∧ cs ≠ [] ∧ i = ((NumText.digitsVal cs : Nat) : Int) ∧ (cs.head? = some 48 → cs = [48])) ∨
    (∃ cs, intL i = 45 :: cs ∧ NumText.AllDigits cs ∧ cs ≠ [] ∧ i = -((NumText.digitsVal cs : Nat) : Int) ∧ cs.head? ≠ some 48) := by
  have hd : ∀ n : Nat, (TL.numL n).head? = some 48 → n = 0 := by
    intro n
    induction n using Nat.strongRecOn with
    | _ n ih =>
      intro h
      by_cases hn : n < 10
      · rw [TL.numL_lt hn] at h
        have := Option.some.inj h
        omega
      · rw [TL.numL_step (by omega)] at h
        have : (TL.numL (n / 10)).head? = some 48 := by
          rw [List.head?_append] at h
          cases e : (TL.numL (n / 10)).head? with
          | none => exact absurd (List.head?_eq_none_iff.mp e) (TL.numL_ne _)
          | some x =>
            rw [e] at h
            exact h
        have := ih (n / 10) (by omega) this
        omega
  cases i with
  | ofNat n =>
    refine .inl ⟨TL.numL n, rfl, TL.numL_digits n, TL.numL_ne n, by rw [TL.numL_val]; rfl, fun h => ?_⟩
    rw [hd n h]
    exact TL.numL_lt (by decide)
  | negSucc n =>
    refine .inr ⟨TL.numL (n + 1), rfl, TL.numL_digits _, TL.numL_ne _, by rw [TL.numL_val]; rfl, fun h => ?_⟩
    have := hd _ h
    omega
theorem digs_of {t : List Nat} (h : NumText.AllDigits t) : t.all isDig = true := List.all_eq_true.mpr fun c hc => by
  have := h c hc
  simpa [isDig] using this
theorem numL_len2 {n k : Nat} (hk : 0 < k) (h : n < 10 ^ k) : (TL.numL n).length ≤ k := TL.numL_len hk h
theorem big_eq : big = 10 ^ 4000 := rfl
theorem intL_read {i : Int} (h : i.natAbs < big) : numOk (intL i) = true ∧ (bodyOf (intL i)).length ≤ 4000 ∧ numV (intL i) = i := by
  have hl : (bodyOf (intL i)).length ≤ 4000 := by
    cases i with
    | ofNat n =>
      have e : bodyOf (TL.numL n) = TL.numL n := by
        unfold bodyOf
        rw [if_neg]
        intro z
        have := TL.numL_digits n 45 (List.mem_of_mem_head? z)
        omega
      show (bodyOf (TL.numL n)).length ≤ 4000
      rw [e]
      exact TL.numL_len (by decide) h
    | negSucc n =>
      show (TL.numL (n + 1)).length ≤ 4000
      exact TL.numL_len (by decide) h
  refine ⟨?_, hl, ?_⟩
  · rcases intL_shape i with ⟨cs, e, h1, h2, h3, h4⟩ | ⟨cs, e, h1, h2, h3, h4⟩
    · have hn : cs.head? ≠ some 45 := fun z => by
        have := h1 45 (List.mem_of_mem_head? z)
        omega
      rw [e]
      unfold numOk bodyOf
      rw [if_neg hn, digs_of h1, decide_eq_true h2]
      by_cases z : cs.head? = some 48
      · rw [h4 z]
        rfl
      · rw [decide_eq_false z]
        rfl
    · rw [e]
      unfold numOk bodyOf
      rw [if_pos (by rfl)]
      show (decide (cs ≠ []) && cs.all isDig && !(decide (cs.head? = some 48) && _)) = true
      rw [digs_of h1, decide_eq_true h2, decide_eq_false h4]
      rfl
  · rcases intL_shape i with ⟨cs, e, h1, h2, h3, h4⟩ | ⟨cs, e, h1, h2, h3, h4⟩
    · have hn : cs.head? ≠ some 45 := fun z => by
        have := h1 45 (List.mem_of_mem_head? z)
        omega
      rw [e]
      unfold numV
      rw [if_neg hn]
      exact h3.symm
    · rw [e]
      unfold numV
      rw [if_pos (by rfl)]
      exact h3.symm
theorem intL_signs (i : Int) : (∀ c ∈ intL i, c = 45 ∨ (48 ≤ c ∧ c ≤ 57)) ∧ intL i ≠ [] ∧ (∀ c, intL i = [c] → 48 ≤ c) := by
  rcases intL_shape i with ⟨cs, e, h1, h2, h3, h4⟩ | ⟨cs, e, h1, h2, h3, h4⟩
  · rw [e]
    exact ⟨fun c hc => .inr (h1 c hc), h2, fun c hc => (h1 c (by rw [hc]; exact List.mem_singleton_self c)).1⟩
  · rw [e]
    refine ⟨fun c hc => ?_, by simp, fun c hc => ?_⟩
    · rcases List.mem_cons.mp hc with rfl | hc
      · exact .inl rfl
      · exact .inr (h1 c hc)
    · have := (List.cons.inj hc).2
      exact absurd this h2
/-- atoms: no signs of tuples in them, read as they were, written as by the program -/
theorem atom_back {d : PyData} (g : Gr d) (ht : isTup d = false) : atomR (wr d) = some d ∧ (∀ c ∈ wr d, delim c = false) ∧ wr d ≠ [] ∧ atomT d = some (S (wr d)) := by
  cases g with
  | bl b => cases b <;> exact ⟨by simp [wr, atomR], by simp [wr, delim], by simp [wr], rfl⟩
  | emp => exact ⟨by simp [wr, atomR], by simp [wr, delim], by simp [wr], rfl⟩
  | word x h =>
    have e := wr_str h
    rw [e]
    refine ⟨?_, fun c hc => wd_nodelim ((isWd_all h).1 c hc), (fun z => by rw [z] at h; cases h), ?_⟩
    · unfold atomR
      rw [if_neg (isWd_ne h 43 rfl []), if_neg (isWd_ne h 45 rfl []), if_neg (isWd_ne h 46 rfl []), if_pos h, SX.S_tl]
    · rw [atomT_str, if_pos h, SX.S_tl]
  | int i h =>
    obtain ⟨h1, h2, h3⟩ := intL_read h
    obtain ⟨s1, s2, s3⟩ := intL_signs i
    have e : wr (.int i) = intL i := by simp only [wr]
    rw [e]
    refine ⟨?_, fun c hc => ?_, s2, ?_⟩
    · unfold atomR
      rw [if_neg (fun z => by have := s3 _ z; omega), if_neg (fun z => by have := s3 _ z; omega), if_neg (fun z => by have := s3 _ z; omega), if_neg, if_pos ⟨h1, h2⟩, h3]
      intro z
      obtain ⟨_, c, r, e2, q⟩ := isWd_all z
      have := s1 c (by rw [e2]; exact List.mem_cons_self ..)
      simp only [isLet, Bool.and_eq_true, decide_eq_true_eq] at q
      omega
    · rcases s1 c hc with rfl | q
      · rfl
      · exact dig_nodelim q
    · rw [atomT_int, if_pos h, intL_eq]
  | tup ds h => cases ht
theorem pcs_free : ∀ (u tok rest : List Nat), (∀ c ∈ u, delim c = false) → pcs tok (u ++ rest) = pcs (tok ++ u) rest
  | [], tok, rest, _ => by simp
  | c :: u, tok, rest, h => by
    show pcs tok (c :: (u ++ rest)) = _
    simp only [pcs]
    rw [h c (List.mem_cons_self ..), if_neg Bool.false_ne_true, pcs_free u (tok ++ [c]) rest fun x hx => h x (List.mem_cons_of_mem _ hx)]
    simp
theorem pcs_tok {tok rest : List Nat} (hn : tok ≠ []) (hr : rest = [] ∨ ∃ c r, rest = c :: r ∧ delim c = true) : pcs tok rest = tok :: pcs [] rest := by
  rcases hr with rfl | ⟨c, r, rfl, hc⟩
  · simp only [pcs]
    simp [hn]
  · simp only [pcs]
    simp [hn, hc]
theorem pcs_delim {c : Nat} {r : List Nat} (h : delim c = true) : pcs [] (c :: r) = [c] :: pcs [] r := by
  simp only [pcs]
  simp [h]
theorem atomR_nodelim {c : Nat} (h : delim c = true) {p : List Nat} {d : PyData} (hp : atomR p = some d) (hf : ∀ x ∈ p, delim x = false) : p ≠ [c] := by
  rintro rfl
  rw [hf c (List.mem_singleton_self c)] at h
  cases h
def Ahead (rest : List Nat) : Prop := rest = [] ∨ ∃ c r, rest = c :: r ∧ delim c = true
theorem fwd {d : PyData} (g : Gr d) : ∀ (rows : List (List PyData)) (rest : List Nat), rows.length + d.depth ≤ 1000 → Ahead rest → runM ⟨rows, none⟩ (pcs [] (wr d ++ rest)) = runM ⟨rows, some d⟩ (pcs [] rest) := by
  have atom : ∀ d, Gr d → isTup d = false → ∀ (rows : List (List PyData)) (rest : List Nat), Ahead rest → runM ⟨rows, none⟩ (pcs [] (wr d ++ rest)) = runM ⟨rows, some d⟩ (pcs [] rest) := by
    intro d g ht rows rest hr
    obtain ⟨h1, h2, h3, _⟩ := atom_back g ht
    rw [pcs_free _ _ _ h2, List.nil_append, pcs_tok h3 hr]
    have hs : stepM ⟨rows, none⟩ (wr d) = some ⟨rows, some d⟩ := by
      unfold stepM
      rw [if_neg (atomR_nodelim (c := 91) rfl h1 h2), if_neg (atomR_nodelim (c := 93) rfl h1 h2), if_neg (atomR_nodelim (c := 44) rfl h1 h2)]
      show (atomR (wr d)).map _ = _
      rw [h1]
      rfl
    simp only [runM, hs]
    rfl
  induction g with
  | bl b => exact fun rows rest _ => atom _ (.bl b) rfl rows rest
  | emp => exact fun rows rest _ => atom _ .emp rfl rows rest
  | word x h => exact fun rows rest _ => atom _ (.word x h) rfl rows rest
  | int i h => exact fun rows rest _ => atom _ (.int i h) rfl rows rest
  | tup ds h ih =>
    intro rows rest hd hr
    have hd : rows.length + (PyData.depthAll ds + 1) ≤ 1000 := by simpa only [PyData.depth] using hd
    have e : wr (.tuple ds) ++ rest = 91 :: (wrAll ds ++ 93 :: rest) := by
      simp only [wr]
      simp
    rw [e, pcs_delim rfl]
    have hs : stepM ⟨rows, none⟩ [91] = some ⟨[] :: rows, none⟩ := by
      unfold stepM
      rw [if_pos rfl]
      show (if rows.length < 1000 then _ else _) = _
      rw [if_pos (by omega)]
    have tail : ∀ (es row : List PyData) (x : PyData), (∀ d ∈ es, d ∈ ds) → PyData.depthAll es ≤ PyData.depthAll ds → runM ⟨row :: rows, some x⟩ (pcs [] (wrTail es ++ 93 :: rest)) = runM ⟨rows, some (.tuple (row ++ x :: es))⟩ (pcs [] rest) := by
      intro es
      induction es with
      | nil =>
        intro row x _ _
        show runM _ (pcs [] (wrTail [] ++ 93 :: rest)) = _
        rw [show wrTail [] = [] by simp only [wrTail], List.nil_append, pcs_delim rfl]
        rfl
      | cons y es ih2 =>
        intro row x hm hdp
        have hdp2 : max y.depth (PyData.depthAll es) ≤ PyData.depthAll ds := by simpa only [PyData.depthAll] using hdp
        rw [show wrTail (y :: es) ++ 93 :: rest = 44 :: (wr y ++ (wrTail es ++ 93 :: rest)) by simp only [wrTail]; simp, pcs_delim rfl]
        have hs2 : stepM ⟨row :: rows, some x⟩ [44] = some ⟨(row ++ [x]) :: rows, none⟩ := rfl
        show (stepM ⟨row :: rows, some x⟩ [44]).bind _ = _
        rw [hs2]
        show runM ⟨(row ++ [x]) :: rows, none⟩ _ = _
        have ah : Ahead (wrTail es ++ 93 :: rest) := by
          cases es with
          | nil => exact .inr ⟨93, rest, by simp only [wrTail]; rfl, rfl⟩
          | cons z zs => exact .inr ⟨44, _, by simp only [wrTail]; rfl, rfl⟩
        rw [ih y (hm y (List.mem_cons_self ..)) _ _ (by simp only [List.length_cons]; omega) ah, ih2 _ _ (fun d hd => hm d (List.mem_cons_of_mem _ hd)) (by omega)]
        simp
    show (stepM ⟨rows, none⟩ [91]).bind _ = _
    rw [hs]
    show runM ⟨[] :: rows, none⟩ _ = _
    cases ds with
    | nil =>
      rw [show wrAll [] = [] by simp only [wrAll], List.nil_append, pcs_delim rfl]
      rfl
    | cons y es =>
      have hdp2 : max y.depth (PyData.depthAll es) = PyData.depthAll (y :: es) := by simp only [PyData.depthAll]
      rw [show wrAll (y :: es) ++ 93 :: rest = wr y ++ (wrTail es ++ 93 :: rest) by simp only [wrAll]; simp]
      have ah : Ahead (wrTail es ++ 93 :: rest) := by
        cases es with
        | nil => exact .inr ⟨93, rest, by simp only [wrTail]; rfl, rfl⟩
        | cons z zs => exact .inr ⟨44, _, by simp only [wrTail]; rfl, rfl⟩
      rw [ih y (List.mem_cons_self ..) _ _ (by simp only [List.length_cons]; omega) ah, tail es [] y (fun d hd => List.mem_cons_of_mem _ hd) (by omega)]
      rfl
theorem ans_back {d : PyData} (g : Gr d) (h : d.depth ≤ 1000) : ans (wr d) = some d := by
  unfold ans
  have := fwd g [] [] (by simpa using h) (.inl rfl)
  rw [List.append_nil] at this
  rw [this]
  rfl
/-! ### the program writes the same -/
theorem wp_wr {d : PyData} (g : Gr d) : ∀ k : Nat, k + d.depth ≤ 1001 → ∃ l : List Str, wp k d = some l ∧ (l.map TL.tl).flatten = wr d := by
  have atom : ∀ d, Gr d → isTup d = false → ∀ k : Nat, ∃ l : List Str, wp k d = some l ∧ (l.map TL.tl).flatten = wr d := by
    intro d g ht k
    obtain ⟨_, _, _, h4⟩ := atom_back g ht
    refine ⟨[S (wr d)], by rw [wp_atom ht, h4]; rfl, ?_⟩
    simp [TL.tl]
  induction g with
  | bl b => exact fun k _ => atom _ (.bl b) rfl k
  | emp => exact fun k _ => atom _ .emp rfl k
  | word x h => exact fun k _ => atom _ (.word x h) rfl k
  | int i h => exact fun k _ => atom _ (.int i h) rfl k
  | tup ds h ih =>
    intro k hk
    have hk : k + (PyData.depthAll ds + 1) ≤ 1001 := by simpa only [PyData.depth] using hk
    have tail : ∀ es : List PyData, (∀ d ∈ es, d ∈ ds) → PyData.depthAll es ≤ PyData.depthAll ds → ∃ l, wpTail (k + 1) es = some l ∧ (l.map TL.tl).flatten = wrTail es := by
      intro es
      induction es with
      | nil => exact fun _ _ => ⟨[], by simp only [wpTail], by simp only [wrTail]; rfl⟩
      | cons y es ih2 =>
        intro hm hdp
        have hdp2 : max y.depth (PyData.depthAll es) ≤ PyData.depthAll ds := by simpa only [PyData.depthAll] using hdp
        obtain ⟨a, ha, ea⟩ := ih y (hm y (List.mem_cons_self ..)) (k + 1) (by omega)
        obtain ⟨b, hb, eb⟩ := ih2 (fun d hd => hm d (List.mem_cons_of_mem _ hd)) (by omega)
        refine ⟨Str.ofString "," :: (a ++ b), by simp only [wpTail, ha, hb]; rfl, ?_⟩
        simp only [wrTail, List.map_cons, List.map_append, List.flatten_cons, List.flatten_append, ea, eb]
        rfl
    rw [wp_tup (by omega)]
    cases ds with
    | nil =>
      refine ⟨[Str.ofString "[", Str.ofString "]"], by simp only [wpAll]; rfl, ?_⟩
      simp only [wr, wrAll]
      rfl
    | cons y es =>
      have hdp2 : max y.depth (PyData.depthAll es) = PyData.depthAll (y :: es) := by simp only [PyData.depthAll]
      obtain ⟨a, ha, ea⟩ := ih y (List.mem_cons_self ..) (k + 1) (by omega)
      obtain ⟨b, hb, eb⟩ := tail es (fun d hd => List.mem_cons_of_mem _ hd) (by omega)
      refine ⟨(Str.ofString "[" :: (a ++ b)) ++ [Str.ofString "]"], by simp only [wpAll, ha, hb]; rfl, ?_⟩
      simp only [wr, wrAll, List.map_cons, List.map_append, List.flatten_cons, List.flatten_append, ea, eb, List.map_nil, List.flatten_nil, List.cons_append]
      simp only [TL.tl]
      rfl
theorem joinL_nil : ∀ l : List (List Nat), TL.joinL [] l = l.flatten
  | [] => rfl
  | [p] => by simp [TL.joinL]
  | p :: q :: r => by
    show p ++ ([] ++ TL.joinL [] (q :: r)) = _
    rw [joinL_nil (q :: r)]
    simp
theorem write_ok {d : PyData} (g : Gr d) (h : d.depth ≤ 1000) : ∃ l, wp 1 d = some l ∧ Txt.join (Str.ofString "") l = S (wr d) := by
  obtain ⟨l, h1, h2⟩ := wp_wr g 1 (by omega)
  refine ⟨l, h1, ?_⟩
  have e : l = (l.map TL.tl).map S := by
    rw [List.map_map]
    have : S ∘ TL.tl = id := funext fun x => SX.S_tl x
    rw [this, List.map_id]
  rw [e, show Str.ofString "" = S [] from rfl, SX.join_S, joinL_nil, h2]

end Z

set_option Elab.async false
set_option linter.all false
set_option maxRecDepth 100000
set_option maxHeartbeats 4000000
namespace Z
open PySem PySem.Spec PyProof.Rows L2 Z.R
local macro_rules | `(tactic| walk_at "sx") => `(tactic| try simp only [and_assoc, cxOf_K, cxOf_Kn, C8.tCut, rEq, rNe, sc_ii, sc_ss, sc_bb, sc_is, sc_si, sc_bs, sc_sb, tSeq, tAsg, tPar, tPar3, tC, gName, gNil, gCons, gTup, gSub, rSetL, L2.start, tVar, tOp, tUn, rI0, rI, rU, tTest, tChain, tOrV, tAndV, tNotV, tCB, tCons, tNil, tLst, tTup, tIfS, tNext, tRet, tRetN, tDrop, tAnd, tOr, tNot, tB, tIf, tSl, tNoPart, tPart, rSlL, tBM, tBM0, rAppend, rPop, rExtend, tCall, tMeth, List.map_cons, List.map_nil, List.replicate, List.length_cons, List.length_nil, List.append, List.cons_append, List.nil_append, List.append_nil, List.getElem?_cons_zero, List.getElem?_cons_succ, List.set_cons_zero, List.set_cons_succ, Option.some.injEq, exists_eq_left', exists_eq_left, exists_eq, exists_and_left, exists_const, wipe, tYes, upd_same, ↓reduceIte, decide_false, decide_true, Bool.not_true, Bool.not_false, Bool.false_eq_true, V.int.injEq, HO.lst.injEq, HO.tup.injEq, V.ref.injEq, V.str.injEq, one_inj, le_a, le_z, le_0, le_9, mem_let, mem_dig, V.bl.injEq, List.cons.injEq, and_true, true_and, reduceCtorEq, false_and, exists_false, or_false, false_or])
open SX (S)
/-! ### texts: no semicolon, short runs, low brackets, short -/
def cn (c : Nat) (l : List Nat) : Nat := l.count c
theorem cn_app (c : Nat) (a b : List Nat) : cn c (a ++ b) = cn c a + cn c b := List.count_append
theorem cn_le (c : Nat) (a : List Nat) : cn c a ≤ a.length := List.count_le_length
def Runs (L : Nat) (t : List Nat) : Prop := ∀ a m b, t = a ++ m ++ b → (∀ c ∈ m, delim c = false) → m.length ≤ L
def Hgt (h : Nat) (t : List Nat) : Prop := ∀ p q, t = p ++ q → cn 91 p ≤ cn 93 p + h
structure Tx (L h N : Nat) (t : List Nat) : Prop where
  semi : 59 ∉ t
  runs : Runs L t
  hgt : Hgt h t
  len : t.length ≤ N
theorem Runs.nil (L : Nat) : Runs L [] := fun a m b e _ => by
  have := congrArg List.length e
  simp only [List.length_append, List.length_nil] at this
  omega
theorem Runs.short {L : Nat} {t : List Nat} (h : t.length ≤ L) : Runs L t := fun a m b e _ => by
  have := congrArg List.length e
  simp only [List.length_append] at this
  omega
theorem Runs.mono {L M : Nat} {t : List Nat} (r : Runs L t) (h : L ≤ M) : Runs M t := fun a m b e f => Nat.le_trans (r a m b e f) h
theorem Runs.infix {L : Nat} {x t y : List Nat} (r : Runs L (x ++ t ++ y)) : Runs L t := fun a m b e f => r (x ++ a) m (b ++ y) (by rw [e]; simp) f
theorem Runs.app {L M : Nat} {x y : List Nat} (r : Runs L x) (q : Runs M y) : Runs (L + M) (x ++ y) := fun a m b e f => by
  rw [List.append_assoc] at e
  rcases List.append_eq_append_iff.mp e with ⟨u, e1, e2⟩ | ⟨u, e1, e2⟩
  · -- a = x ++ u, y = u ++ (m ++ b)
    have := q u m b (by rw [e2]; simp) f
    omega
  · -- x = a ++ u, m ++ b = u ++ y
    rcases List.append_eq_append_iff.mp e2 with ⟨v, e3, e4⟩ | ⟨v, e3, e4⟩
    · -- u = m ++ v
      have := r a m v (by rw [e1, e3]; simp) f
      omega
    · -- m = u ++ v, y = v ++ b
      have h1 := r a u [] (by rw [e1]; simp) fun c hc => f c (by rw [e3]; exact List.mem_append_left _ hc)
      have h2 := q [] v b (by rw [e4]; simp) fun c hc => f c (by rw [e3]; exact List.mem_append_right _ hc)
      rw [e3, List.length_append]
      omega
/-- a sign of tuples between -/
theorem Runs.cut {L : Nat} {x y : List Nat} {c : Nat} (r : Runs L x) (q : Runs L y) (hc : delim c = true) : Runs L (x ++ c :: y) := fun a m b e f => by
  rw [List.append_assoc] at e
  rcases List.append_eq_append_iff.mp e with ⟨u, e1, e2⟩ | ⟨u, e1, e2⟩
  · -- a = x ++ u, c :: y = u ++ (m ++ b)
    cases u with
    | nil =>
      cases m with
      | nil => exact Nat.zero_le _
      | cons d m =>
        have := (List.cons.inj e2).1
        rw [this, f d (List.mem_cons_self ..)] at hc
        cases hc
    | cons d u => exact q u m b (by rw [(List.cons.inj e2).2]; simp) f
  · rcases List.append_eq_append_iff.mp e2 with ⟨v, e3, e4⟩ | ⟨v, e3, e4⟩
    · exact r a m v (by rw [e1, e3]; simp) f
    · cases v with
      | nil =>
        rw [List.append_nil] at e3
        rw [e3]
        exact r a u [] (by rw [e1]; simp) (by rw [← e3]; exact f)
      | cons d v =>
        have := (List.cons.inj e4).1
        rw [this, f d (by rw [e3]; simp)] at hc
        cases hc
theorem Hgt.mono {h k : Nat} {t : List Nat} (r : Hgt h t) (q : h ≤ k) : Hgt k t := fun p s e => Nat.le_trans (r p s e) (by omega)
theorem bent_hgt {h : Nat} {a m b x : List Nat} (r : Hgt h (a ++ m ++ b)) (hm : m.length ≤ 1) (hx : x.length ≤ 1) : Hgt (h + 2) (a ++ x ++ b) := fun p q e => by
  rw [List.append_assoc] at e
  rcases List.append_eq_append_iff.mp e with ⟨u, e1, e2⟩ | ⟨u, e1, e2⟩
  · -- p = a ++ u, x ++ b = u ++ q
    rcases List.append_eq_append_iff.mp e2 with ⟨v, e3, e4⟩ | ⟨v, e3, e4⟩
    · -- u = x ++ v, b = v ++ q
      have := r (a ++ m ++ v) q (by rw [e4]; simp)
      simp only [cn_app] at this
      have h1 := cn_le 93 m
      have h2 := cn_le 91 x
      rw [e1, e3]
      simp only [cn_app]
      omega
    · -- x = u ++ v
      have := r a (m ++ b) (by simp)
      have hu : u.length ≤ 1 := by
        have := congrArg List.length e3
        simp only [List.length_append] at this
        omega
      have h2 := cn_le 91 u
      rw [e1]
      simp only [cn_app]
      omega
  · -- a = p ++ u
    have := r p (u ++ m ++ b) (by rw [e1]; simp)
    omega
theorem bent {L h N : Nat} {a m b x : List Nat} (t : Tx L h N (a ++ m ++ b)) (hm : m.length ≤ 1) (hx : x.length ≤ 1) (hs : 59 ∉ x) : Tx (2 * L + 1) (h + 2) (N + 1) (a ++ x ++ b) where
  semi := by
    have := t.semi
    simp only [List.mem_append, not_or] at this ⊢
    exact ⟨⟨this.1.1, hs⟩, this.2⟩
  runs := by
    have ra : Runs L a := Runs.infix (x := []) (y := m ++ b) (by simpa using t.runs)
    have rb : Runs L b := Runs.infix (x := a ++ m) (y := []) (by simpa using t.runs)
    have := (ra.app (Runs.short hx)).app rb
    exact this.mono (by omega)
  hgt := bent_hgt t.hgt hm hx
  len := by
    have := t.len
    simp only [List.length_append] at this ⊢
    omega
/-! ### the texts of data -/
def bal (t : List Nat) : Prop := cn 91 t = cn 93 t
theorem cn_of {c : Nat} {t : List Nat} (h : ∀ x ∈ t, delim x = false) (hc : delim c = true) : cn c t = 0 := List.count_eq_zero.mpr fun z => by
  rw [h c z] at hc
  cases hc
/-- balanced, and never higher than h -/
structure Hb (h : Nat) (t : List Nat) : Prop where
  b : bal t
  h : Hgt h t
theorem Hb.nil (h : Nat) : Hb h [] := ⟨rfl, fun p q e => by
  have := List.append_eq_nil_iff.mp e.symm
  rw [this.1]
  exact Nat.zero_le _⟩
theorem Hb.free {h : Nat} {t : List Nat} (f : ∀ x ∈ t, delim x = false) : Hb h t := ⟨by
  unfold bal
  rw [cn_of f rfl, cn_of f rfl], fun p q e => by
  rw [cn_of (c := 91) (fun x hx => f x (by rw [e]; exact List.mem_append_left _ hx)) rfl]
  exact Nat.zero_le _⟩
theorem Hb.zero {h : Nat} {t : List Nat} (f : cn 91 t = 0) (g : cn 93 t = 0) : Hb h t := ⟨by unfold bal; rw [f, g], fun p q e => by
  rw [e, cn_app] at f
  omega⟩
theorem Hb.app {h : Nat} {x y : List Nat} (f : Hb h x) (g : Hb h y) : Hb h (x ++ y) := by
  have fb : cn 91 x = cn 93 x := f.b
  have gb : cn 91 y = cn 93 y := g.b
  refine ⟨by unfold bal; rw [cn_app, cn_app]; omega, fun p q e => ?_⟩
  rcases List.append_eq_append_iff.mp e with ⟨u, e1, e2⟩ | ⟨u, e1, e2⟩
  · have := g.h u q e2
    rw [e1]
    simp only [cn_app]
    omega
  · exact f.h p u e1
theorem Hb.mono {h k : Nat} {t : List Nat} (r : Hb h t) (q : h ≤ k) : Hb k t := ⟨r.b, r.h.mono q⟩
theorem Hb.brk {h : Nat} {t : List Nat} (f : Hb h t) : Hb (h + 1) (91 :: (t ++ [93])) := by
  have fb : cn 91 t = cn 93 t := f.b
  have e0 : (91 :: (t ++ [93])) = [91] ++ t ++ [93] := by simp
  have n1 : cn 91 [91] = 1 := rfl
  have n2 : cn 93 [91] = 0 := rfl
  have n3 : cn 91 [93] = 0 := rfl
  have n4 : cn 93 [93] = 1 := rfl
  refine ⟨by unfold bal; rw [e0]; simp only [cn_app]; omega, fun p q e => ?_⟩
  cases p with
  | nil => exact Nat.zero_le _
  | cons c p =>
    have e9 : t ++ [93] = p ++ q := (List.cons.inj e).2
    obtain rfl : 91 = c := (List.cons.inj e).1
    have e1 : cn 91 (91 :: p) = 1 + cn 91 p := by rw [show 91 :: p = [91] ++ p from rfl, cn_app, n1]
    have e2 : cn 93 (91 :: p) = cn 93 p := by rw [show 91 :: p = [91] ++ p from rfl, cn_app, n2]; omega
    rw [e1, e2]
    rcases List.append_eq_append_iff.mp e9 with ⟨u, e3, e4⟩ | ⟨u, e3, e4⟩
    · have hu : u.length ≤ 1 := by
        have := congrArg List.length e4
        simp only [List.length_append, List.length_singleton] at this
        omega
      have h91 : cn 91 u = 0 := by
        have : cn 91 (u ++ q) = 0 := by rw [← e4]; rfl
        rw [cn_app] at this
        omega
      rw [e3]
      simp only [cn_app]
      omega
    · have := f.h p u e3
      omega
theorem wr_hb {d : PyData} (g : Gr d) : Hb d.depth (wr d) := by
  induction g with
  | bl b => exact .free (atom_back (.bl b) rfl).2.1
  | emp => exact .free (atom_back .emp rfl).2.1
  | word x h => exact .free (atom_back (.word x h) rfl).2.1
  | int i h => exact .free (atom_back (.int i h) rfl).2.1
  | tup ds h ih =>
    have tail : ∀ es : List PyData, (∀ d ∈ es, d ∈ ds) → Hb (PyData.depthAll es) (wrTail es) := by
      intro es
      induction es with
      | nil => intro _; simp only [wrTail]; exact .nil _
      | cons y es ih2 =>
        intro hm
        simp only [wrTail, PyData.depthAll]
        have h1 := ih y (hm y (List.mem_cons_self ..))
        have h2 := ih2 fun d hd => hm d (List.mem_cons_of_mem _ hd)
        have h0 : Hb (max y.depth (PyData.depthAll es)) [44] := .zero rfl rfl
        exact h0.app ((h1.mono (by omega)).app (h2.mono (by omega)))
    simp only [wr, PyData.depth]
    refine Hb.brk ?_
    cases ds with
    | nil => simp only [wrAll]; exact .nil _
    | cons y es =>
      simp only [wrAll, PyData.depthAll]
      have h1 := ih y (List.mem_cons_self ..)
      have h2 := tail es fun d hd => List.mem_cons_of_mem _ hd
      exact (h1.mono (by omega)).app (h2.mono (by omega))
/-- .. and as high somewhere -/
theorem wr_deep {d : PyData} (g : Gr d) : ∃ p q, wr d = p ++ q ∧ cn 91 p = cn 93 p + d.depth := by
  induction g with
  | bl b => exact ⟨[], _, rfl, rfl⟩
  | emp => exact ⟨[], _, rfl, rfl⟩
  | word x h => exact ⟨[], _, rfl, rfl⟩
  | int i h => exact ⟨[], _, rfl, rfl⟩
  | tup ds h ih =>
    have tail : ∀ es : List PyData, (∀ d ∈ es, d ∈ ds) → ∃ p q, wrTail es = p ++ q ∧ cn 91 p = cn 93 p + PyData.depthAll es := by
      intro es
      induction es with
      | nil => exact fun _ => ⟨[], _, rfl, rfl⟩
      | cons y es ih2 =>
        intro hm
        obtain ⟨p1, q1, e1, c1⟩ := ih y (hm y (List.mem_cons_self ..))
        obtain ⟨p2, q2, e2, c2⟩ := ih2 fun d hd => hm d (List.mem_cons_of_mem _ hd)
        have hb : cn 91 (wr y) = cn 93 (wr y) := (wr_hb (h y (hm y (List.mem_cons_self ..)))).b
        simp only [wrTail, PyData.depthAll]
        have n1 : cn 91 [44] = 0 := rfl
        have n2 : cn 93 [44] = 0 := rfl
        by_cases c : PyData.depthAll es ≤ y.depth
        · refine ⟨[44] ++ p1, q1 ++ wrTail es, by rw [e1]; simp, ?_⟩
          simp only [cn_app]
          rw [Nat.max_eq_left c]
          omega
        · refine ⟨[44] ++ wr y ++ p2, q2, by rw [e2]; simp, ?_⟩
          simp only [cn_app]
          rw [Nat.max_eq_right (by omega)]
          omega
    have n1 : cn 91 [91] = 1 := rfl
    have n2 : cn 93 [91] = 0 := rfl
    simp only [wr, PyData.depth]
    cases ds with
    | nil => exact ⟨[91], [93], by simp [wrAll], rfl⟩
    | cons y es =>
      obtain ⟨p1, q1, e1, c1⟩ := ih y (List.mem_cons_self ..)
      obtain ⟨p2, q2, e2, c2⟩ := tail es fun d hd => List.mem_cons_of_mem _ hd
      have hb : cn 91 (wr y) = cn 93 (wr y) := (wr_hb (h y (List.mem_cons_self ..))).b
      simp only [wrAll, PyData.depthAll]
      by_cases c : PyData.depthAll es ≤ y.depth
      · refine ⟨[91] ++ p1, q1 ++ wrTail es ++ [93], by rw [e1]; simp, ?_⟩
        simp only [cn_app]
        rw [Nat.max_eq_left c]
        omega
      · refine ⟨[91] ++ wr y ++ p2, q2 ++ [93], by rw [e2]; simp, ?_⟩
        simp only [cn_app]
        rw [Nat.max_eq_right (by omega)]
        omega
theorem depth_of {h : Nat} {d : PyData} (g : Gr d) (t : Hgt h (wr d)) : d.depth ≤ h := by
  obtain ⟨p, q, e, c⟩ := wr_deep g
  have := t p q e
  omega
/-! ### what is drawn -/
theorem natAbs_big {i : Int} (h : i.natAbs ≤ 10 ^ 40) : i.natAbs < big := Nat.lt_of_le_of_lt h (Nat.pow_lt_pow_right (by decide) (by decide))
theorem Gd.gr {n : Nat} {d : PyData} (g : Gd n d) : Gr d := by
  induction g with
  | bl n b => exact .bl b
  | emp n => exact .emp
  | word n x h => exact .word x h
  | int n i h => exact .int i (natAbs_big h)
  | tup n ds l h ih => exact .tup _ ih
theorem depthAll_le {m : Nat} : ∀ {ds : List PyData}, (∀ d ∈ ds, d.depth ≤ m) → PyData.depthAll ds ≤ m
  | [], _ => by simp [PyData.depthAll]
  | d :: ds, h => by
    have h1 := h d (List.mem_cons_self ..)
    have h2 := depthAll_le (ds := ds) fun x hx => h x (List.mem_cons_of_mem _ hx)
    simp only [PyData.depthAll]
    omega
theorem Gd.depth {n : Nat} {d : PyData} (g : Gd n d) : d.depth ≤ n := by
  induction g with
  | tup n ds l h ih =>
    simp only [PyData.depth]
    have := depthAll_le ih
    omega
  | _ => simp [PyData.depth]
theorem intL_len {i : Int} (h : i.natAbs ≤ 10 ^ 40) : (intL i).length ≤ 42 := by
  cases i with
  | ofNat n =>
    have h : n ≤ 10 ^ 40 := h
    have := TL.numL_len (n := n) (k := 41) (by decide) (by omega)
    show (TL.numL n).length ≤ 42
    omega
  | negSucc n =>
    have h : n + 1 ≤ 10 ^ 40 := h
    have := TL.numL_len (n := n + 1) (k := 41) (by decide) (by omega)
    show (TL.numL (n + 1)).length + 1 ≤ 42
    omega
def wmax : Nat → Nat
  | 0 => 42
  | n + 1 => 45 + 3 * (wmax n + 1)
theorem wmax_ge (n : Nat) : 42 ≤ wmax n := by
  cases n with
  | zero => exact Nat.le_refl _
  | succ n => simp only [wmax]; omega
theorem Gd.len {n : Nat} {d : PyData} (g : Gd n d) : (wr d).length ≤ wmax n := by
  induction g with
  | bl n b => have := wmax_ge n; cases b <;> (simp [wr]; omega)
  | emp n => have := wmax_ge n; simp [wr]; omega
  | word n x h =>
    have := wmax_ge n
    have := isWd_len h
    rw [wr_str h]
    omega
  | int n i h =>
    have := wmax_ge n
    have := intL_len h
    simp only [wr]
    omega
  | tup n ds l h ih =>
    have tail : ∀ es : List PyData, (∀ d ∈ es, d ∈ ds) → (wrTail es).length ≤ es.length * (wmax n + 1) := by
      intro es
      induction es with
      | nil => intro _; simp [wrTail]
      | cons y es ih2 =>
        intro hm
        have h1 := ih y (hm y (List.mem_cons_self ..))
        have h2 := ih2 fun d hd => hm d (List.mem_cons_of_mem _ hd)
        simp only [wrTail, List.length_cons, List.length_append, Nat.add_mul]
        omega
    simp only [wr, wmax, List.length_cons, List.length_append, List.length_nil]
    cases ds with
    | nil => simp only [wrAll, List.length_nil]; omega
    | cons y es =>
      have h1 := ih y (List.mem_cons_self ..)
      have h2 := tail es fun d hd => List.mem_cons_of_mem _ hd
      have h3 : es.length ≤ 2 := by simpa using l
      have h4 : es.length * (wmax n + 1) ≤ 2 * (wmax n + 1) := Nat.mul_le_mul_right _ h3
      simp only [wrAll, List.length_append]
      omega
theorem Gd.runs {n : Nat} {d : PyData} (g : Gd n d) : Runs 42 (wr d) := by
  induction g with
  | bl n b => exact .short (by cases b <;> simp [wr])
  | emp n => exact .short (by simp [wr])
  | word n x h =>
    have := isWd_len h
    rw [wr_str h]
    exact .short (by omega)
  | int n i h =>
    have := intL_len h
    simp only [wr]
    exact .short this
  | tup n ds l h ih =>
    have tail : ∀ es : List PyData, (∀ d ∈ es, d ∈ ds) → ∀ x, Runs 42 x → Runs 42 (x ++ wrTail es) := by
      intro es
      induction es with
      | nil => intro _ x hx; simpa [wrTail] using hx
      | cons y es ih2 =>
        intro hm x hx
        have h1 := ih y (hm y (List.mem_cons_self ..))
        simp only [wrTail]
        have := ih2 (fun d hd => hm d (List.mem_cons_of_mem _ hd)) (x ++ 44 :: wr y) (hx.cut h1 rfl)
        rw [show x ++ 44 :: (wr y ++ wrTail es) = x ++ 44 :: wr y ++ wrTail es by simp]
        exact this
    simp only [wr]
    refine Runs.cut (x := []) (.nil _) ?_ rfl
    refine Runs.cut (y := []) ?_ (.nil _) rfl
    cases ds with
    | nil => simp only [wrAll]; exact .nil _
    | cons y es =>
      simp only [wrAll]
      exact tail es (fun d hd => List.mem_cons_of_mem _ hd) _ (ih y (List.mem_cons_self ..))
theorem Gr.semi {d : PyData} (g : Gr d) : 59 ∉ wr d := by
  induction g with
  | bl b => cases b <;> simp [wr]
  | emp => simp [wr]
  | word x h =>
    rw [wr_str h]
    intro z
    have := (isWd_all h).1 59 z
    revert this
    decide
  | int i h =>
    simp only [wr]
    intro z
    have := (intL_signs i).1 59 z
    omega
  | tup ds h ih =>
    have tail : ∀ es : List PyData, (∀ d ∈ es, d ∈ ds) → 59 ∉ wrTail es := by
      intro es
      induction es with
      | nil => intro _; simp [wrTail]
      | cons y es ih2 =>
        intro hm
        have h1 := ih y (hm y (List.mem_cons_self ..))
        have h2 := ih2 fun d hd => hm d (List.mem_cons_of_mem _ hd)
        simp [wrTail, h1, h2]
    simp only [wr]
    cases ds with
    | nil => simp [wrAll]
    | cons y es =>
      have h1 := ih y (List.mem_cons_self ..)
      have h2 := tail es fun d hd => List.mem_cons_of_mem _ hd
      simp [wrAll, h1, h2]
theorem Gd.tx {d : PyData} (g : Gd 5 d) : Tx 42 5 20000 (wr d) where
  semi := g.gr.semi
  runs := g.runs
  hgt := (wr_hb g.gr).h.mono g.depth
  len := Nat.le_trans g.len (by decide)
/-! ### what such a text reads as can be shown -/
theorem Gr.shows {d : PyData} (g : Gr d) (r : Runs 200 (wr d)) : d.showable = true ∧ d.hasDict = false ∧ d.leavesShort 200 = true ∧ d.bulk ≤ (wr d).length := by
  induction g with
  | bl b => exact ⟨rfl, rfl, rfl, Nat.zero_le _⟩
  | emp => exact ⟨rfl, rfl, rfl, Nat.zero_le _⟩
  | word x h =>
    refine ⟨rfl, rfl, ?_, ?_⟩
    · simp only [PyData.leavesShort]
      rw [List.all_eq_true]
      intro c hc
      have := (isWd_all h).1 c hc
      simp only [isLet, isDig, Bool.or_eq_true, Bool.and_eq_true, decide_eq_true_eq] at this
      rw [decide_eq_true_eq]
      have : (16 : Nat) ^ 8 = 4294967296 := rfl
      omega
    · rw [wr_str h]
      simp [PyData.bulk]
  | int i h =>
    have hl : (intL i).length ≤ 200 := by
      have := r [] (wr (.int i)) [] (by simp) (atom_back (.int i h) rfl).2.1
      simpa only [wr] using this
    have ha : i.natAbs < 10 ^ 200 := by
      rcases intL_shape i with ⟨cs, e, h1, h2, h3, _⟩ | ⟨cs, e, h1, h2, h3, _⟩
      · have := val_lt cs h1
        rw [e] at hl
        have h5 : (10 : Nat) ^ cs.length ≤ 10 ^ 200 := Nat.pow_le_pow_right (by decide) hl
        omega
      · have := val_lt cs h1
        rw [e, List.length_cons] at hl
        have h5 : (10 : Nat) ^ cs.length ≤ 10 ^ 200 := Nat.pow_le_pow_right (by decide) (by omega)
        omega
    refine ⟨?_, rfl, ?_, Nat.zero_le _⟩
    · simp only [PyData.showable]
      rw [decide_eq_true_eq]
      by_cases h0 : i.natAbs = 0
      · rw [h0]
        decide
      · rw [Nat.log2_lt h0]
        exact Nat.lt_of_lt_of_le ha (by decide)
    · simp only [PyData.leavesShort]
      rw [decide_eq_true_eq]
      show (Str.ofString (toString i)).length ≤ 200
      rw [intL_eq, SX.S_len]
      exact hl
  | tup ds h ih =>
    have tail : ∀ es : List PyData, (∀ d ∈ es, d ∈ ds) → Runs 200 (wrTail es) → PyData.showableAll es = true ∧ PyData.hasDictAll es = false ∧ PyData.leavesShortAll 200 es = true ∧ PyData.bulkAll es ≤ (wrTail es).length := by
      intro es
      induction es with
      | nil => exact fun _ _ => ⟨rfl, rfl, rfl, Nat.zero_le _⟩
      | cons y es ih2 =>
        intro hm hr
        simp only [wrTail] at hr
        obtain ⟨a1, a2, a3, a4⟩ := ih y (hm y (List.mem_cons_self ..)) (Runs.infix (x := [44]) (y := wrTail es) (by simpa using hr))
        obtain ⟨b1, b2, b3, b4⟩ := ih2 (fun d hd => hm d (List.mem_cons_of_mem _ hd)) (Runs.infix (x := [44] ++ wr y) (y := []) (by simpa using hr))
        refine ⟨by simp only [PyData.showableAll, a1, b1, Bool.and_self], by simp only [PyData.hasDictAll, a2, b2, Bool.or_self], by simp only [PyData.leavesShortAll, a3, b3, Bool.and_self], ?_⟩
        simp only [PyData.bulkAll, wrTail, List.length_cons, List.length_append]
        omega
    simp only [wr] at r
    have ra : Runs 200 (wrAll ds) := Runs.infix (x := [91]) (y := [93]) (by simpa using r)
    simp only [PyData.showable, PyData.hasDict, PyData.leavesShort, PyData.bulk, wr, List.length_cons, List.length_append, List.length_nil]
    cases ds with
    | nil => exact ⟨rfl, rfl, rfl, Nat.zero_le _⟩
    | cons y es =>
      simp only [wrAll] at ra
      obtain ⟨a1, a2, a3, a4⟩ := ih y (List.mem_cons_self ..) (Runs.infix (x := []) (y := wrTail es) (by simpa using ra))
      obtain ⟨b1, b2, b3, b4⟩ := tail es (fun d hd => List.mem_cons_of_mem _ hd) (Runs.infix (x := wr y) (y := []) (by simpa using ra))
      refine ⟨by simp only [PyData.showableAll, a1, b1, Bool.and_self], by simp only [PyData.hasDictAll, a2, b2, Bool.or_self], by simp only [PyData.leavesShortAll, a3, b3, Bool.and_self], ?_⟩
      simp only [PyData.bulkAll, wrAll, List.length_append]
      omega
/-- [d] can be shown -/
theorem Gr.shows1 {d : PyData} {L h N : Nat} (g : Gr d) (t : Tx L h N (wr d)) (hL : L ≤ 200) (hh : h ≤ 50) (hN : N ≤ 30000) :
    (PyData.list [d]).showable = true ∧ (PyData.list [d]).hasDict = false ∧ (PyData.list [d]).depth ≤ 60 ∧ (PyData.list [d]).shown.length ≤ sizeLine := by
  obtain ⟨a1, a2, a3, a4⟩ := g.shows (t.runs.mono hL)
  have hd := depth_of g t.hgt
  have hl := t.len
  have hw := PyData.shown_le_bulk 200 (by decide) (.list [d]) (by simp only [PyData.leavesShort, PyData.leavesShortAll, a3, Bool.and_self])
  refine ⟨by simp only [PyData.showable, PyData.showableAll, a1, Bool.and_self], by simp only [PyData.hasDict, PyData.hasDictAll, a2, Bool.or_self], by simp only [PyData.depth, PyData.depthAll]; omega, ?_⟩
  have hb : (PyData.list [d]).bulk = d.bulk + 1 := by simp only [PyData.bulk, PyData.bulkAll]
  rw [hb] at hw
  have : (200 + 2) * (d.bulk + 1) + 200 ≤ 202 * 30001 + 200 := by omega
  exact Nat.le_trans hw (Nat.le_trans this (by decide))

end Z

set_option Elab.async false
set_option linter.all false
set_option maxRecDepth 100000
set_option maxHeartbeats 4000000

namespace Z
open PySem PySem.Spec PyProof.Rows L2 Z.R
local macro_rules | `(tactic| walk_at "sx") => `(tactic| try simp only [and_assoc, cxOf_K, cxOf_Kn, C8.tCut, rEq, rNe, sc_ii, sc_ss, sc_bb, sc_is, sc_si, sc_bs, sc_sb, tSeq, tAsg, tPar, tPar3, tC, gName, gNil, gCons, gTup, gSub, rSetL, L2.start, tVar, tOp, tUn, rI0, rI, rU, tTest, tChain, tOrV, tAndV, tNotV, tCB, tCons, tNil, tLst, tTup, tIfS, tNext, tRet, tRetN, tDrop, tAnd, tOr, tNot, tB, tIf, tSl, tFld, sFld, putF, tNoPart, tPart, rSlL, tBM, tBM0, rAppend, rPop, rExtend, tCall, tMeth, List.map_cons, List.map_nil, List.replicate, List.length_cons, List.length_nil, List.append, List.cons_append, List.nil_append, List.append_nil, List.getElem?_cons_zero, List.getElem?_cons_succ, List.set_cons_zero, List.set_cons_succ, Option.some.injEq, exists_eq_left', exists_eq_left, exists_eq, exists_and_left, exists_const, wipe, tYes, upd_same, ↓reduceIte, decide_false, decide_true, Bool.not_true, Bool.not_false, Bool.false_eq_true, V.int.injEq, HO.lst.injEq, HO.tup.injEq, V.ref.injEq, V.str.injEq, one_inj, le_a, le_z, le_0, le_9, mem_let, mem_dig, V.bl.injEq, List.cons.injEq, and_true, true_and, reduceCtorEq, false_and, exists_false, or_false, false_or])
open SX (S)
/-! ### long and deep -/
def nines : List Nat := List.replicate 4000 57
def deepN : Nat → PyData
  | 0 => .tuple []
  | n + 1 => .tuple [deepN n]
theorem deepN_gr : ∀ n, Gr (deepN n)
  | 0 => .tup [] fun d hd => by cases hd
  | n + 1 => .tup [deepN n] fun d hd => by
    rw [List.mem_singleton.mp hd]
    exact deepN_gr n
theorem deepN_depth : ∀ n, (deepN n).depth = n + 1
  | 0 => rfl
  | n + 1 => by
    show PyData.depth (.tuple [deepN n]) = _
    simp only [PyData.depth, PyData.depthAll, deepN_depth n]
    omega
theorem deepN_wr : ∀ n, wr (deepN n) = List.replicate (n + 1) 91 ++ List.replicate (n + 1) 93
  | 0 => by simp [deepN, wr, wrAll]
  | n + 1 => by
    show wr (.tuple [deepN n]) = _
    simp only [wr, wrAll, wrTail, List.append_nil, deepN_wr n]
    rw [List.replicate_succ (n := n + 1) (a := 91), List.replicate_succ' (n := n + 1) (a := 93)]
    simp
theorem deepN_pc : ∀ n, pc (deepN n) = 2 + 3 * n
  | 0 => rfl
  | n + 1 => by
    show pc (.tuple [deepN n]) = _
    simp only [pc, pcAll, deepN_pc n]
    omega
theorem deepN_wp : ∀ n k, k + n > 1000 → wp k (deepN n) = none
  | 0, k, h => by
    rw [wp_deep (by omega)]
    rfl
  | n + 1, k, h => by
    by_cases hk : k ≤ 1000
    · show wp k (.tuple [deepN n]) = none
      rw [wp_tup hk]
      simp only [wpAll, deepN_wp n (k + 1) (by omega)]
      rfl
    · rw [wp_deep hk]
      rfl
theorem run_over : ∀ (k : Nat) (rows : List (List PyData)) (rest : List Nat), rows.length + k > 1000 → rows.length ≤ 1000 → runM ⟨rows, none⟩ (pcs [] (List.replicate k 91 ++ rest)) = none
  | 0, rows, rest, h, h2 => by omega
  | k + 1, rows, rest, h, h2 => by
    rw [List.replicate_succ, List.cons_append, pcs_delim rfl]
    show (stepM ⟨rows, none⟩ [91]).bind _ = none
    by_cases c : rows.length < 1000
    · have e : stepM ⟨rows, none⟩ [91] = some ⟨[] :: rows, none⟩ := by
        unfold stepM
        rw [if_pos rfl]
        show (if rows.length < 1000 then _ else _) = _
        rw [if_pos c]
      rw [e]
      exact run_over k ([] :: rows) rest (by simp only [List.length_cons]; omega) (by simp only [List.length_cons]; omega)
    · have e : stepM ⟨rows, none⟩ [91] = none := by
        unfold stepM
        rw [if_pos rfl]
        show (if rows.length < 1000 then _ else _) = _
        rw [if_neg c]
      rw [e]
      rfl
theorem ans_over (rest : List Nat) : ans (List.replicate 1001 91 ++ rest) = none := by
  unfold ans
  rw [run_over 1001 [] rest (by decide) (by decide)]
  rfl
theorem nines_digs : NumText.AllDigits nines := fun c hc => by
  rw [List.eq_of_mem_replicate hc]
  decide
theorem nines_len : nines.length = 4000 := List.length_replicate
theorem nines_head : nines.head? = some 57 := rfl
theorem nines_ok : numOk nines = true := by
  have e : bodyOf nines = nines := by
    unfold bodyOf
    rw [nines_head, if_neg (by decide)]
  unfold numOk
  rw [e, digs_of nines_digs, nines_head, decide_eq_true (fun z => by have := nines_len; rw [z] at this; cases this)]
  rfl
theorem minus_ok : numOk (45 :: nines) = true := by
  have e : bodyOf (45 :: nines) = nines := by
    simp [bodyOf]
  unfold numOk
  rw [e, digs_of nines_digs, nines_head, decide_eq_true (fun z => by have := nines_len; rw [z] at this; cases this)]
  rfl
theorem nines_val : numV nines + 1 = ((big : Nat) : Int) := by
  have h : ∀ k, NumText.digitsVal (List.replicate k 57) + 1 = 10 ^ k := by
    intro k
    induction k with
    | zero => rfl
    | succ k ih =>
      rw [List.replicate_succ', NumText.digitsVal_snoc, Nat.pow_succ]
      omega
  unfold numV
  rw [nines_head, if_neg (by decide)]
  have e := h 4000
  show ((NumText.digitsVal (List.replicate 4000 57) : Nat) : Int) + 1 = ((10 ^ 4000 : Nat) : Int)
  rw [← e, Int.natCast_add]
  rfl
theorem nines_small : (numV nines).natAbs < big := by
  have h := nines_val
  have h0 : 0 ≤ numV nines := by
    unfold numV
    rw [nines_head, if_neg (by decide)]
    exact Int.natCast_nonneg _
  generalize numV nines = z at h h0 ⊢
  generalize big = b at h ⊢
  omega
theorem nines_gr : Gr (.int (numV nines)) := .int _ nines_small
theorem nines_wr : wr (.int (numV nines)) = nines := by
  simp only [wr]
  exact numOk_intL nines_ok
theorem over_wp : wp 1 (.int (numV nines + 1)) = none := by
  rw [wp_atom rfl, atomT_int, if_neg]
  · rfl
  · have h := nines_val
    generalize numV nines = z at h ⊢
    generalize big = b at h ⊢
    omega
theorem minus_ans : ans (45 :: nines) = some (.int (numV (45 :: nines))) := by
  have e : wr (.int (numV (45 :: nines))) = 45 :: nines := by
    simp only [wr]
    exact numOk_intL minus_ok
  have hb : (bodyOf (45 :: nines)).length = 4000 := by
    have e : bodyOf (45 :: nines) = nines := by simp [bodyOf]
    rw [e]
    exact nines_len
  have g : Gr (.int (numV (45 :: nines))) := .int _ (by
    have := numV_lt minus_ok
    rw [hb] at this
    exact this)
  have := ans_back g (by decide)
  rw [e] at this
  exact this
theorem longer_ans : ans (nines ++ [48]) = none := by
  cases h : ans (nines ++ [48]) with
  | none => rfl
  | some d =>
    obtain ⟨g, e⟩ := ans_wr h
    have hl : (wr d).length = 4001 := by
      rw [e, List.length_append, nines_len]
      rfl
    have hh : (wr d).head? = some 57 := by rw [e]; rfl
    exfalso
    cases g with
    | bl b => cases b <;> simp [wr] at hl
    | emp => simp [wr] at hl
    | word x hx =>
      rw [wr_str hx] at hl
      have := isWd_len hx
      omega
    | int i hi =>
      simp only [wr] at hl hh
      cases i with
      | ofNat n =>
        have : (TL.numL n).length ≤ 4000 := TL.numL_len (by decide) hi
        have hl : (TL.numL n).length = 4001 := hl
        omega
      | negSucc n =>
        have hh : (45 :: TL.numL (n + 1)).head? = some 57 := hh
        cases hh
    | tup ds hd =>
      simp only [wr] at hh
      cases hh
theorem rep_text (n c : Nat) : (⟨(List.replicate n (⟨#[c]⟩ : Str).cps).foldl (· ++ ·) #[]⟩ : Str) = S (List.replicate n c) := by
  have h : ∀ (n : Nat) (a : Array Nat), (List.replicate n (⟨#[c]⟩ : Str).cps).foldl (· ++ ·) a = a ++ (List.replicate n c).toArray := by
    intro n
    induction n with
    | zero => intro a; simp
    | succ n ih =>
      intro a
      rw [List.replicate_succ, List.foldl_cons, ih, List.replicate_succ]
      apply Array.ext'
      simp
  rw [h]
  show (⟨_⟩ : Str) = ⟨_⟩
  simp
theorem Gr.low {d : PyData} (g : Gr d) : ∀ c ∈ wr d, c < 128 := by
  induction g with
  | bl b => cases b <;> simp [wr]
  | emp => simp [wr]
  | word x h =>
    rw [wr_str h]
    intro c hc
    have := (isWd_all h).1 c hc
    simp only [isLet, isDig, Bool.or_eq_true, Bool.and_eq_true, decide_eq_true_eq] at this
    omega
  | int i h =>
    simp only [wr]
    intro c hc
    have := (intL_signs i).1 c hc
    omega
  | tup ds h ih =>
    have tail : ∀ es : List PyData, (∀ d ∈ es, d ∈ ds) → ∀ c ∈ wrTail es, c < 128 := by
      intro es
      induction es with
      | nil => intro _ c hc; simp [wrTail] at hc
      | cons y es ih2 =>
        intro hm c hc
        simp only [wrTail, List.mem_cons, List.mem_append] at hc
        rcases hc with rfl | hc | hc
        · omega
        · exact ih y (hm y (List.mem_cons_self ..)) c hc
        · exact ih2 (fun d hd => hm d (List.mem_cons_of_mem _ hd)) c hc
    simp only [wr]
    intro c hc
    cases ds with
    | nil =>
      simp only [wrAll, List.mem_cons, List.mem_append, List.not_mem_nil, or_false, false_or] at hc
      omega
    | cons y es =>
      simp only [wrAll, List.mem_cons, List.mem_append, List.not_mem_nil, or_false] at hc
      rcases hc with rfl | (hc | hc) | rfl
      · omega
      · exact ih y (List.mem_cons_self ..) c hc
      · exact tail es (fun d hd => List.mem_cons_of_mem _ hd) c hc
      · omega
theorem strOk_S {t : List Nat} (h : ∀ c ∈ t, c < 128) : PyData.strOk (S t) = true := by
  unfold PyData.strOk
  rw [← Array.all_toList, List.all_eq_true]
  intro c hc
  have := h c hc
  rw [decide_eq_true_eq]
  omega
/-- [text] -/
theorem shaped_text {t : List Nat} (h : ∀ c ∈ t, c < 128) : SeqAt.shaped (.list [.str (S t)]) = true := by
  unfold SeqAt.shaped
  have : PyData.canLay0 (.list [.str (S t)]) = true := by
    simp only [PyData.canLay0, PyData.canLayAll0, strOk_S h, Bool.and_self]
  rw [this]
  rfl
theorem eqv_text (x : Str) : PyData.eqv (.list [.str x]) (.list [.str x]) = true := by
  simp [PyData.eqv, PyData.eqvAll]
def pmax : Nat → Nat
  | 0 => 1
  | n + 1 => 2 + 3 * (pmax n + 1)
theorem pmax_ge (n : Nat) : 1 ≤ pmax n := by
  cases n <;> simp only [pmax] <;> omega
theorem Gd.pc_le {n : Nat} {d : PyData} (g : Gd n d) : pc d ≤ pmax n := by
  induction g with
  | tup n ds l h ih =>
    have all : ∀ es : List PyData, (∀ d ∈ es, d ∈ ds) → pcAll es ≤ es.length * (pmax n + 1) := by
      intro es
      induction es with
      | nil => intro _; exact Nat.zero_le _
      | cons y es ih2 =>
        intro hm
        have h1 := ih y (hm y (List.mem_cons_self ..))
        have h2 := ih2 fun d hd => hm d (List.mem_cons_of_mem _ hd)
        simp only [pcAll, List.length_cons, Nat.add_mul]
        omega
    have h1 := all ds fun d hd => hd
    have h2 : ds.length * (pmax n + 1) ≤ 3 * (pmax n + 1) := Nat.mul_le_mul_right _ l
    simp only [pc, pmax]
    omega
  | bl n b => exact pmax_ge n
  | emp n => exact pmax_ge n
  | word n x h => exact pmax_ge n
  | int n i h => exact pmax_ge n

end Z

set_option Elab.async false
set_option linter.all false
set_option maxRecDepth 100000
set_option maxHeartbeats 4000000
namespace Z
open PySem PySem.Spec PyProof.Rows L2 Z.R
local macro_rules | `(tactic| walk_at "sx") => `(tactic| try simp only [and_assoc, cxOf_K, cxOf_Kn, C8.tCut, rEq, rNe, sc_ii, sc_ss, sc_bb, sc_is, sc_si, sc_bs, sc_sb, tSeq, tAsg, tC, gName, gNil, gCons, gTup, gSub, rSetL, L2.start, tVar, tOp, tUn, rI0, rI, rU, tTest, tChain, tOrV, tAndV, tNotV, tCB, tCons, tNil, tLst, tTup, tIfS, tNext, tRet, tRetN, tDrop, tAnd, tOr, tNot, tB, tIf, tSl, tNoPart, tPart, rSlL, tBM, tBM0, rAppend, rPop, tCall, tMeth, List.map_cons, List.map_nil, List.replicate, List.length_cons, List.length_nil, List.append, List.cons_append, List.nil_append, List.append_nil, List.getElem?_cons_zero, List.getElem?_cons_succ, List.set_cons_zero, List.set_cons_succ, Option.some.injEq, exists_eq_left', exists_eq_left, exists_eq, exists_and_left, exists_const, wipe, tYes, upd_same, ↓reduceIte, decide_false, decide_true, Bool.not_true, Bool.not_false, Bool.false_eq_true, V.int.injEq, HO.lst.injEq, HO.tup.injEq, V.ref.injEq, V.str.injEq, one_inj, le_a, le_z, le_0, le_9, mem_let, mem_dig, V.bl.injEq, List.cons.injEq, and_true, true_and, reduceCtorEq, false_and, exists_false, or_false, false_or])
section
variable {P : Program} {w : World} {K : PySem.W.Frag} {mg : Str → Option Value} {base : Heap}
theorem sc__law_draw : FnScope ["script", "seed", "cell"] ["script"] (defScope s__law_draw) := ⟨rfl, rfl, rfl, by decide +kernel, rfl, by decide +kernel, by decide +kernel⟩
theorem ok__law_draw {f : Addr} {fd : FuncData} (F : Fun K "_law_draw" "_law_draw" s__law_draw f fd) (b_int : mg "int" = none) (b_abs : mg "abs" = none) : FnOk P w K mg base CX0 1 f fd ["script"] (spDraw K) := by
  have nd := sc__law_draw.nd
  refine F.ok sc__law_draw (fun vs H Q E h => ?_) (fun cdv A outer s H vs Q E hr h => ?_)
  · obtain ⟨a, ns, rfl, _⟩ := h
    rfl
  obtain ⟨a, ns, rfl, hS, h63, q⟩ := h
  refine ⟨_, (pss_cons (ps_set (i := 1) nd rfl (.inl rfl) pe_int)
  (pss_cons (ps_for PassesOwn.never rfl (pi_list (pe_slice sl_list (pv 0) po_none (po_some pe_int))) (pg_name (i := 2) nd rfl (.inl rfl))
    (pss_one (ps_set (i := 1) nd rfl (.inl rfl) (pe_op op_add (pe_op op_modN (pe_callTy call_int1 (by rfl) b_int (by decide +kernel) (pa_cons (pe_op op_add (pe_op op_mul (pv 1) pe_int) (pv 2)) pa_nil)) pe_int) pe_int))))
  (pss_one (ps_ret (pe_lst (pa_cons (pe_lc (own := [("cell", 2)]) rfl nd (pi_list (pe_slice sl_list (pv 0) po_none (po_some pe_int))) (blkOk_by (N := ["script", "seed", "cell"]) (sc := defScope s__law_draw) (by decide +kernel)) (fun _ _ _ _ _ => (pg_name (i := 2) nd rfl (.inl rfl))) (fun _ _ _ _ _ => pts_nil) (fun _ _ _ _ _ => (pe_callB call_abs (by rfl) b_abs (by decide +kernel) (pa_cons (pe_callTy call_int1 (by rfl) b_int (by decide +kernel) (pa_cons (pv 2) pa_nil)) pa_nil)))) (pa_cons pe_int (pa_cons pe_int (pa_cons pe_int (pa_cons (pv 1) (pa_cons pe_int pa_nil))))))))))), ?_⟩
  walk_at "sx"
  refine ⟨.ref a, rfl, 63, rfl, a, _, rfl, hS, fun p np => ⟨p, rfl, ⟨_, SqL.of upd_same⟩, for_list (K := K) (a := p) (xs := cutV (ns.map V.int) none (some 63)) (fun i σ H' => ∃ (seed : Int) (c : Option V), σ = [some (.ref a), some (.int seed), c] ∧ Same H H' ∧ H' p = some (.lst (cutV (ns.map V.int) none (some 63))) ∧ 1 ≤ seed ∧ seed ≤ 2147483629)
    ⟨7, none, rfl, same_upd np, upd_same, by decide, by decide⟩ (fun i σ H' _ ⟨_, _, _, _, e, _⟩ => SqL.of e) ?_ ?_⟩⟩
  · rintro i x σ H' hi ⟨seed, c, rfl, sm, ep, s1, s2⟩
    rw [cut63 h63] at hi
    obtain ⟨z, _, rfl⟩ := int_at hi
    walk_at "sx"
    refine ⟨.inr ⟨by decide, by decide⟩, by decide, sm, ep, ?_, ?_⟩
    · have h0 := Int.fmod_nonneg_of_pos (seed * 48271 + z) (b := 2147483629) (by decide)
      omega
    · have h0 := Int.fmod_lt_of_pos (seed * 48271 + z) (b := 2147483629) (by decide)
      omega
  · rintro σ H' ⟨seed, c, rfl, sm, ep, s1, s2⟩
    walk_at "sx"
    refine ⟨.ref a, rfl, 63, rfl, a, _, rfl, sm.seq hS, fun p2 np2 => ⟨p2, rfl, ⟨_, SqL.of upd_same⟩, fun D nD => lc_list (K := K) (a := p2) (xs := cutV (ns.map V.int) none (some 63)) (fun i H2 => Same H' H2 ∧ H2 p2 = some (.lst (cutV (ns.map V.int) none (some 63))) ∧ H2 D = some (.lst (((ns.take i).map fun z => (z.natAbs : Int)).map V.int)))
      ⟨(same_upd np2).trans (same_upd nD), (by rw [upd_ne (ne_of_none upd_same nD), upd_same]), upd_same⟩ (fun i H2 _ h => SqL.of h.2.1) ?_ ?_⟩⟩
    · rintro i x H2 hi ⟨sm2, e2, eD⟩
      rw [cut63 h63] at hi
      obtain ⟨z, hz, rfl⟩ := int_at hi
      walk_at "sx"
      have hl : i < ns.length := (List.getElem?_eq_some_iff.mp hz).1
      refine ⟨_, eD, ?_, fun b o e => ?_, ?_, ?_⟩
      · rw [List.length_map, List.length_map, List.length_take]
        exact small1000 (by omega)
      · rw [upd_ne (fun z => ?_)]
        · exact sm2 b o e
        · subst z
          rw [(same_upd np2).trans (Same.refl _) _ _ e] at nD
          cases nD
      · rw [upd_ne (ne_of_none upd_same nD)]
        exact e2
      · have ea : (if z < 0 then -z else z) = (z.natAbs : Int) := by
          split <;> omega
        rw [List.take_add_one, hz, List.map_append, List.map_append, ea]
        rfl
    · rintro H2 ⟨sm2, e2, eD⟩
      walk_at "sx"
      refine ⟨by decide, fun r nr => q r D _ (sm.trans sm2 |>.free nr) (sm.free ((same_upd np2).free nD)) ((sm.trans sm2).trans (same_upd nr)) ⟨_, _, _, _, _, _, upd_same, (by rw [upd_ne (ne_of_none eD nr)]; exact eD), ?_, ?_, by omega, by omega, by omega, by omega, by omega⟩⟩
      · rw [List.length_map, List.length_take]
        omega
      · intro x hx
        obtain ⟨y, _, rfl⟩ := List.mem_map.mp hx
        exact Int.natCast_nonneg _
end

end Z

set_option Elab.async false
set_option linter.all false
set_option maxRecDepth 100000
set_option maxHeartbeats 4000000
namespace Z
open PySem PySem.Spec PyProof.Rows L2 Z.R
local macro_rules | `(tactic| walk_at "sx") => `(tactic| try simp only [and_assoc, cxOf_K, cxOf_Kn, C8.tCut, rEq, rNe, sc_ii, sc_ss, sc_bb, sc_is, sc_si, sc_bs, sc_sb, tSeq, tAsg, tC, gName, gNil, gCons, gTup, gSub, rSetL, L2.start, tVar, tOp, tUn, rI0, rI, rU, tTest, tChain, tOrV, tAndV, tNotV, tCB, tCons, tNil, tLst, tTup, tIfS, tNext, tRet, tRetN, tDrop, tAnd, tOr, tNot, tB, tIf, tSl, tNoPart, tPart, rSlL, tBM, tBM0, rAppend, rPop, tCall, tMeth, List.map_cons, List.map_nil, List.replicate, List.length_cons, List.length_nil, List.append, List.cons_append, List.nil_append, List.append_nil, List.getElem?_cons_zero, List.getElem?_cons_succ, List.set_cons_zero, List.set_cons_succ, Option.some.injEq, exists_eq_left', exists_eq_left, exists_eq, exists_and_left, exists_const, wipe, tYes, upd_same, ↓reduceIte, decide_false, decide_true, Bool.not_true, Bool.not_false, Bool.false_eq_true, V.int.injEq, HO.lst.injEq, HO.tup.injEq, V.ref.injEq, V.str.injEq, one_inj, le_a, le_z, le_0, le_9, mem_let, mem_dig, V.bl.injEq, List.cons.injEq, and_true, true_and, reduceCtorEq, false_and, exists_false, or_false, false_or])
section
variable {P : Program} {w : World} {K : PySem.W.Frag} {mg : Str → Option Value} {base : Heap}
theorem sc__law_take : FnScope ["draw", "many", "found"] ["draw", "many"] (defScope s__law_take) := ⟨rfl, rfl, rfl, by decide +kernel, rfl, by decide +kernel, by decide +kernel⟩
theorem ok__law_take {f : Addr} {fd : FuncData} (F : Fun K "_law_take" "_law_take" s__law_take f fd) (b_int : mg "int" = none) (b_len : mg "len" = none) : FnOk P w K mg base CX0 1 f fd ["draw", "many"] spTake := by
  have nd := sc__law_take.nd
  refine F.ok sc__law_take (fun vs H Q E h => ?_) (fun cdv A outer s H vs Q E hr h => ?_)
  · obtain ⟨a, c, m, n, rfl, _⟩ := h
    rfl
  obtain ⟨a, c, m, n, rfl, ⟨xs, d1, d2, d3, d4, d5, ha, hc, h63, hx, g1, g4, g4', g5, g5'⟩, m0, m1, hn, q⟩ := h
  have nca : c ≠ a := ref_int_ne ha hc
  refine ⟨_, (C8.pss_cut (ps_if (PW.pt (pw_and (pt_cmpR op_eq (pe_ix ix_list (pv 0) pe_int (fun _ _ => rfl)) pe_int (nomark _)) (pw_and1 (pt_cmpR op_lt (pe_ix ix_list (pv 0) pe_int (fun _ _ => rfl)) (pe_callB call_len (by rfl) b_len (by decide +kernel) (pa_cons (pe_ix ix_list (pv 0) pe_int (fun _ _ => rfl)) pa_nil)) (nomark _))))) (pss_one (ps_asg (pe_tup (pa_cons (pe_ix ix_list (pe_ix ix_list (pv 0) pe_int (fun _ _ => rfl)) (pe_ix ix_list (pv 0) pe_int (fun _ _ => rfl)) (fun _ _ => rfl)) (pa_cons pe_int (pa_cons (pe_op op_add (pe_ix ix_list (pv 0) pe_int (fun _ _ => rfl)) pe_int) pa_nil)))) (pg_tup (n := 3) (by rfl) (pgs_cons (pg_sub (pv 0) pe_int set_list) (pgs_cons (pg_sub (pv 0) pe_int set_list) (pgs_cons (pg_sub (pv 0) pe_int set_list) pgs_nil)))))) pss_nil)
  (pss_cons (ps_if (pt_cmpR op_gt (pe_ix ix_list (pv 0) pe_int (fun _ _ => rfl)) pe_int (nomark _)) (pss_cons (ps_set (i := 2) nd rfl (.inl rfl) (pe_op op_modN (pe_callTy call_int1 (by rfl) b_int (by decide +kernel) (pa_cons (pe_ix ix_list (pv 0) pe_int (fun _ _ => rfl)) pa_nil)) (pv 1)))
  (pss_cons (ps_asg (pe_op op_fdivN (pe_ix ix_list (pv 0) pe_int (fun _ _ => rfl)) (pv 1)) (pg_sub (pv 0) pe_int set_list))
  (pss_cons (ps_asg (pe_ifExp (pt_cmpR op_gt (pe_ix ix_list (pv 0) pe_int (fun _ _ => rfl)) pe_int (nomark _)) (pe_op op_sub (pe_ix ix_list (pv 0) pe_int (fun _ _ => rfl)) pe_int) pe_int) (pg_sub (pv 0) pe_int set_list))
  (pss_one (ps_ret (pv 2)))))) pss_nil)
  (pss_cons (ps_asg (pe_op op_add (pe_ix ix_list (pv 0) pe_int (fun _ _ => rfl)) pe_int) (pg_sub (pv 0) pe_int set_list))
  (pss_cons (ps_asg (pe_op op_modN (pe_callTy call_int1 (by rfl) b_int (by decide +kernel) (pa_cons (pe_op op_add (pe_op op_add (pe_op op_mul (pe_ix ix_list (pv 0) pe_int (fun _ _ => rfl)) pe_int) (pe_op op_mul (pe_op op_mul (pe_ix ix_list (pv 0) pe_int (fun _ _ => rfl)) (pe_ix ix_list (pv 0) pe_int (fun _ _ => rfl))) pe_int)) pe_int) pa_nil)) pe_int) (pg_sub (pv 0) pe_int set_list))
  (pss_one (ps_ret (pe_op op_modN (pe_callTy call_int1 (by rfl) b_int (by decide +kernel) (pa_cons (pe_op op_fdivN (pe_ix ix_list (pv 0) pe_int (fun _ _ => rfl)) pe_int) pa_nil)) (pv 1)))))))), ?_⟩
  simp only [C8.tCut, L2.start]
  refine ⟨fun σ H1 => ∃ e1 e2 e3, σ = [some (.ref a), some (.int m), none] ∧ H1 a = some (.lst [.ref c, .int e1, .int e2, .int e3, .int d4, .int d5]) ∧ But a H H1 ∧ 0 ≤ e1, ?_, ?_⟩
  · walk_at "sx"
    refine ixl ha rfl ?_
    walk_at "sx"
    refine ite2 (fun k0 => ?_) (fun k0 => ⟨d1, d2, d3, ha, .refl a H, g1⟩)
    refine ixl ha rfl (ixl ha rfl ⟨_, len_l hc rfl, _, rfl, ite2 (fun k1 => ?_) (fun k1 => ⟨d1, d2, d3, ha, .refl a H, g1⟩)⟩)
    have k2 : d1 < (xs.length : Int) := by
      have := of_decide_eq_true k1
      rw [List.length_map] at this
      exact this
    have hz : atI (xs.map V.int) d1 = some (.int xs[d1.toNat]) := by
      have q := atI_nat (xs := xs.map V.int) (j := d1.toNat) (v := .int xs[d1.toNat]) (by rw [List.getElem?_map, List.getElem?_eq_getElem (by omega)]; rfl)
      rwa [Int.toNat_of_nonneg g1] at q
    refine ixl ha rfl (ixl ha rfl (ixl hc hz (ixl ha rfl ?_)))
    walk_at "sx"
    refine ⟨by decide, fun p np => ?_⟩
    have npa : a ≠ p := ne_of_none ha np
    refine ⟨_, SqT.of upd_same, rfl, _, _, rfl, _, (by rw [upd_ne npa]; exact ha), _, rfl, _, _, rfl, _, rfl, _, _, rfl, _, rfl, rfl, _, _, _, rfl, But.upd (But.upd (But.upd (But.new (.refl a H) np))), by omega⟩
  · rintro σ H1 ⟨e1, e2, e3, rfl, h1, sb, ge⟩
    walk_at "sx"
    refine ixl h1 rfl ⟨_, rfl, ite2 (fun k0 => ?_) (fun k0 => ?_)⟩
    · refine ixl h1 rfl (.inl ⟨_, rfl, by omega, ixl h1 rfl ⟨_, rfl, ⟨by omega, by omega⟩, _, h1, _, rfl, ixl upd_same rfl ⟨_, rfl, ite2 (fun k1 => ixl upd_same rfl ⟨_, rfl, _, upd_same, _, rfl, ?_⟩) (fun k1 => ⟨_, upd_same, _, rfl, ?_⟩)⟩⟩⟩)
      all_goals
        refine q _ _ (Int.fmod_nonneg_of_pos _ m0) (Int.fmod_lt_of_pos _ m0) ⟨xs, e1, _, _, d4, d5, upd_same, ?_, h63, hx, ge, g4, g4', g5, by omega⟩ (But.upd (But.upd sb))
        rw [upd_ne nca, upd_ne nca]
        exact sb _ _ hc nca
    · refine ixl h1 rfl ⟨_, rfl, _, h1, _, rfl, ixl upd_same rfl ⟨_, rfl, .inr ⟨by decide, by decide⟩, ixl upd_same rfl (ixl upd_same rfl ⟨_, rfl, _, rfl, .inl ⟨by omega, by omega⟩, .inr ⟨by decide, by decide⟩, ?_⟩)⟩⟩
      refine ⟨by decide, _, upd_same, _, rfl, ixl upd_same rfl ⟨_, rfl, ⟨by decide, by decide⟩, by omega, ?_⟩⟩
      have z0 := Int.fmod_nonneg_of_pos (d4 * 48271 + (d5 + 1) * (d5 + 1) * 69621 + 11) (b := 2147483647) (by decide)
      have z1 := Int.fmod_lt_of_pos (d4 * 48271 + (d5 + 1) * (d5 + 1) * 69621 + 11) (b := 2147483647) (by decide)
      refine q _ _ (Int.fmod_nonneg_of_pos _ m0) (Int.fmod_lt_of_pos _ m0) ⟨xs, e1, _, _, _, d5 + 1, upd_same, ?_, h63, hx, ge, z0, by omega, by omega, by omega⟩ (But.upd (But.upd sb))
      rw [upd_ne nca, upd_ne nca]
      exact sb _ _ hc nca
end

end Z

set_option Elab.async false
set_option linter.all false
set_option maxRecDepth 100000
set_option maxHeartbeats 4000000
namespace Z
open PySem PySem.Spec PyProof.Rows L2 Z.R
local macro_rules | `(tactic| walk_at "sx") => `(tactic| try simp only [and_assoc, cxOf_K, cxOf_Kn, C8.tCut, rEq, rNe, sc_ii, sc_ss, sc_bb, sc_is, sc_si, sc_bs, sc_sb, tSeq, tAsg, tC, gName, gNil, gCons, gTup, gSub, rSetL, L2.start, tVar, tOp, tUn, rI0, rI, rU, tTest, tChain, tOrV, tAndV, tNotV, tCB, tCons, tNil, tLst, tTup, tIfS, tNext, tRet, tRetN, tDrop, tAnd, tOr, tNot, tB, tIf, tSl, tNoPart, tPart, rSlL, tBM, tBM0, rAppend, rPop, tCall, tMeth, List.map_cons, List.map_nil, List.replicate, List.length_cons, List.length_nil, List.append, List.cons_append, List.nil_append, List.append_nil, List.getElem?_cons_zero, List.getElem?_cons_succ, List.set_cons_zero, List.set_cons_succ, Option.some.injEq, exists_eq_left', exists_eq_left, exists_eq, exists_and_left, exists_const, wipe, tYes, upd_same, ↓reduceIte, decide_false, decide_true, Bool.not_true, Bool.not_false, Bool.false_eq_true, V.int.injEq, HO.lst.injEq, HO.tup.injEq, V.ref.injEq, V.str.injEq, one_inj, le_a, le_z, le_0, le_9, mem_let, mem_dig, V.bl.injEq, List.cons.injEq, and_true, true_and, reduceCtorEq, false_and, exists_false, or_false, false_or])
section
variable {P : Program} {w : World} {K : PySem.W.Frag} {mg : Str → Option Value} {base : Heap}
theorem sc__law_data : FnScope ["draw", "deep", "k", "turn"] ["draw", "deep"] (defScope s__law_data) := ⟨rfl, rfl, rfl, by decide +kernel, rfl, by decide +kernel, by decide +kernel⟩
theorem step__law_data {f : Addr} {fd : FuncData} {k : Nat} (F : Fun K "_law_data" "_law_data" s__law_data f fd) (c__law_take : Cl P w K mg base 1 "_law_take" spTake) (c__law_data : Cl P w K mg base (k + 1) "_law_data" (spData K k))
    (b_tuple : mg "tuple" = none) (b_range : mg "range" = none) : FnOk P w K mg base CX0 (k + 2) f fd ["draw", "deep"] (spData K (k + 1)) := by
  have nd := sc__law_data.nd
  refine F.ok sc__law_data (fun vs H Q E h => ?_) (fun cdv A outer s H vs Q E hr h => ?_)
  · obtain ⟨a, c, deep, n, rfl, _⟩ := h
    rfl
  obtain ⟨a, c, deep, n, rfl, hd, hD, hn, q⟩ := h
  have h3 : 3 ≤ takes deep := by cases deep <;> simp only [takes] <;> omega
  refine ⟨_, (pss_cons (ps_set (i := 2) nd rfl (.inl rfl) (pcl c__law_take hr (by omega) (pa_cons (pv 0) (pa_cons pe_int pa_nil))))
  (C8.pss_cut (ps_if (PW.pt (pw_and (pt_cmpR op_gt (pv 1) pe_int (nomark _)) (pw_and1 (pt_cmpR op_lt (pv 2) pe_int (nomark _))))) (pss_one (ps_ret (pe_callTy call_tuple_of (by rfl) b_tuple (by decide +kernel) (pa_cons (pe_lc (own := [("turn", 3)]) rfl nd (pi_range1 (by rfl) b_range (pa_cons (pcl c__law_take hr (by omega) (pa_cons (pv 0) (pa_cons pe_int pa_nil))) pa_nil)) (blkOk_by (N := ["draw", "deep", "k", "turn"]) (sc := defScope s__law_data) (by decide +kernel)) (fun _ _ _ _ _ => (pg_name (i := 3) nd rfl (.inl rfl))) (fun _ _ _ _ _ => pts_nil) (fun _ _ _ _ _ => (pcl c__law_data hr (by omega) (pa_cons (pv 0) (pa_cons (pe_op op_sub (pv 1) pe_int) pa_nil))))) pa_nil)))) pss_nil)
  (pss_cons (ps_if (pt_cmpR op_eq (pv 2) pe_int (nomark _)) (pss_one (ps_ret (pe_ifExp (pt_cmpR op_gt (pcl c__law_take hr (by omega) (pa_cons (pv 0) (pa_cons pe_int pa_nil))) pe_int (nomark _)) (pe_slice sl_str pe_str (po_some (pcl c__law_take hr (by omega) (pa_cons (pv 0) (pa_cons pe_int pa_nil)))) po_none) pe_str))) pss_nil)
  (pss_one (ps_ret (pe_ix ix_list (pe_lst (pa_cons pe_int (pa_cons (pe_un un_neg pe_int) (pa_cons pe_int (pa_cons (pe_op op_pow pe_int pe_int) (pa_cons (pe_un un_neg (pe_op op_pow pe_int pe_int)) (pa_cons pe_int (pa_cons pe_bl (pa_cons pe_bl (pa_cons pe_str pa_nil)))))))))) (pcl c__law_take hr (by omega) (pa_cons (pv 0) (pa_cons pe_int pa_nil))) (fun _ _ => rfl))))))), ?_⟩
  walk_at "sx"
  refine ⟨a, c, 6, n, rfl, hD, by decide, by decide, by omega, fun r1 H1 r10 r11 D1 B1 => ?_⟩
  refine ⟨fun σ H' => σ = [some (.ref a), some (.int deep), some (.int r1), none] ∧ H' = H1, ?_, ?_⟩
  · walk_at "sx"
    refine ite2 (fun c0 => ite2 (fun c1 => ?_) (fun _ => trivial)) (fun _ => trivial)
    have dp : 0 < deep := by
      have := of_decide_eq_true c0
      omega
    obtain ⟨e, rfl⟩ : ∃ e, deep = e + 1 := ⟨deep - 1, by omega⟩
    have ht : takes (e + 1) = 3 + 3 * takes e := rfl
    refine ⟨_, rfl, a, c, 4, n + 1, rfl, D1, by decide, by decide, by omega, fun r2 H2 r20 r21 D2 B2 => ?_⟩
    refine ⟨_, rfl, by omega, by omega, fun D nD => lc_range (lo := 0) (n := r2.toNat) (fun i H' => ∃ (vs : List V) (ds : List PyData), H' D = some (.lst vs) ∧ DpAll K H' vs ds ∧ ds.length = i ∧ (∀ d ∈ ds, Gd e d) ∧ DrawAt H' a c (n + 2 + i * takes e) ∧ But a H H')
      ⟨[], [], upd_same, .nil, rfl, fun _ h => (by cases h), (D2.same (same_upd nD)).mono (by omega), But.new (B1.trans B2) nD⟩ ?_ ?_⟩
    · rintro i H3 hi ⟨vs, ds, eD, hds, hl, hg, D3, B3⟩
      obtain ⟨na, nc⟩ := D2.off nD
      have hm : (i + 1) * takes e ≤ 3 * takes e := Nat.mul_le_mul_right _ (by omega)
      rw [Nat.add_mul, Nat.one_mul] at hm
      walk_at "sx"
      refine ⟨a, c, e, _, (by rw [show ((e + 1 : Nat) : Int) - 1 = (e : Int) by omega]), by omega, D3, by omega, fun d v H4 gd hv D4 B4 => ?_⟩
      have hvl := DpAll.length hds
      refine ⟨vs, B4 D _ eD na, ?_, ds ++ [d], ?_, ?_, ?_, ?_, ?_⟩
      · exact small1000 (by omega)
      · have t1 : Tp H4 (upd H4 D (.lst (vs ++ [v]))) := Tp.upd (.refl _) (B4 D _ eD na)
        exact To.monoAll t1 (fun d' hd' => by
          rcases List.mem_append.mp hd' with h | h
          · exact (hg d' h).to
          · rw [List.mem_singleton.mp h]; exact gd.to) (DpAll.append (To.monoAll (D3.tp B4) (fun d' hd' => (hg d' hd').to) hds) (.cons hv .nil))
      · rw [List.length_append, hl]
        rfl
      · intro d' hd'
        rcases List.mem_append.mp hd' with h | h
        · exact hg d' h
        · rw [List.mem_singleton.mp h]; exact gd
      · refine DrawAt.upd (D4.mono ?_) na nc
        rw [Nat.add_mul, Nat.one_mul]
        omega
      · intro b o eb nb
        rw [upd_ne (ne_of_none (B2 b o (B1 b o eb nb) nb) nD)]
        exact B4 b o (B3 b o eb nb) nb
    · rintro H3 ⟨vs, ds, eD, hds, hl, hg, D3, B3⟩
      have hm : r2.toNat * takes e ≤ 3 * takes e := Nat.mul_le_mul_right _ (by omega)
      walk_at "sx"
      refine ⟨vs, .inl ⟨SqL.of eD, fun l nl => q (.tuple ds) _ _ (.tup e ds (by omega) hg) (.tup (SqT.of upd_same) (To.monoAll (.of (same_upd nl)) (fun d hd => (hg d hd).to) hds)) ((D3.same (same_upd nl)).mono (by omega)) (But.new B3 nl)⟩⟩
  · rintro σ H' ⟨rfl, rfl⟩
    walk_at "sx"
    refine ite2 (fun c0 => ?_) (fun c0 => ?_)
    · refine ⟨a, c, 4, n + 1, rfl, D1, by decide, by decide, by omega, fun r2 H2 r20 r21 D2 B2 => ⟨_, rfl, ite2 (fun c1 => ?_) (fun c1 => ?_)⟩⟩
      · refine ⟨a, c, 3, n + 2, rfl, D2, by decide, by decide, by omega, fun r3 H3 r30 r31 D3 B3 => ⟨_, rfl, _, rfl, by decide, ?_⟩⟩
        refine q (.str _) _ _ (.word _ _ ?_) (.str _) (D3.mono (by omega)) (B1.trans (B2.trans B3))
        have : r3 = 0 ∨ r3 = 1 ∨ r3 = 2 := by omega
        rcases this with rfl | rfl | rfl <;> decide +kernel
      · exact q (.str _) _ _ (.word _ _ (by decide +kernel)) (.str _) (D2.mono (by omega)) (B1.trans B2)
    · refine ⟨⟨by decide, by decide, by decide⟩, ⟨by decide, by decide, by decide⟩, by decide, fun p np => ?_⟩
      obtain ⟨na, nc⟩ := D1.off np
      refine ⟨a, c, 9, n + 1, rfl, D1.same (same_upd np), by decide, by decide, by omega, fun r2 H2 r20 r21 D2 B2 => ?_⟩
      have hp := B2 p _ upd_same na
      have D3 : DrawAt H2 a c (n + takes deep) := D2.mono (by omega)
      have B3 : But a H H2 := (But.new B1 np).trans B2
      have : r2 = 0 ∨ r2 = 1 ∨ r2 = 2 ∨ r2 = 3 ∨ r2 = 4 ∨ r2 = 5 ∨ r2 = 6 ∨ r2 = 7 ∨ r2 = 8 := by omega
      rcases this with rfl | rfl | rfl | rfl | rfl | rfl | rfl | rfl | rfl
      all_goals
        first
          | exact ixl hp rfl (q (.int _) _ _ (.int _ _ (by decide)) (.int _) D3 B3)
          | exact ixl hp rfl (q (.bool _) _ _ (.bl _ _) (.bl _) D3 B3)
          | exact ixl hp rfl (q (.str _) _ _ (.emp _) (.str _) D3 B3)
theorem ok__law_data {f : Addr} {fd : FuncData} (F : Fun K "_law_data" "_law_data" s__law_data f fd) (c__law_take : Cl P w K mg base 1 "_law_take" spTake) (hm : mg "_law_data" = some (.ref f)) (hb : Binds K fd ["draw", "deep"] [])
    (b_tuple : mg "tuple" = none) (b_range : mg "range" = none) : ∀ k : Nat, FnOk P w K mg base CX0 (k + 1) f fd ["draw", "deep"] (spData K k)
  | 0 => fn_false fun vs H Q E h => by
    obtain ⟨a, c, deep, n, _, h, _⟩ := h
    omega
  | k + 1 => step__law_data F c__law_take ⟨f, fd, _, ok__law_data F c__law_take hm hb b_tuple b_range k, hm, F.kp, hb⟩ b_tuple b_range
end

end Z

set_option Elab.async false
set_option linter.all false
set_option maxRecDepth 100000
set_option maxHeartbeats 4000000
namespace Z
open PySem PySem.Spec PyProof.Rows L2 Z.R
local macro_rules | `(tactic| walk_at "sx") => `(tactic| try simp only [and_assoc, cxOf_K, cxOf_Kn, C8.tCut, rEq, rNe, sc_ii, sc_ss, sc_bb, sc_is, sc_si, sc_bs, sc_sb, tSeq, tAsg, tC, gName, gNil, gCons, gTup, gSub, rSetL, L2.start, tVar, tOp, tUn, rI0, rI, rU, tTest, tChain, tOrV, tAndV, tNotV, tCB, tCons, tNil, tLst, tTup, tIfS, tNext, tRet, tRetN, tDrop, tAnd, tOr, tNot, tB, tIf, tSl, tNoPart, tPart, rSlL, tBM, tBM0, rAppend, rPop, tCall, tMeth, List.map_cons, List.map_nil, List.replicate, List.length_cons, List.length_nil, List.append, List.cons_append, List.nil_append, List.append_nil, List.getElem?_cons_zero, List.getElem?_cons_succ, List.set_cons_zero, List.set_cons_succ, Option.some.injEq, exists_eq_left', exists_eq_left, exists_eq, exists_and_left, exists_const, wipe, tYes, upd_same, ↓reduceIte, decide_false, decide_true, Bool.not_true, Bool.not_false, Bool.false_eq_true, V.int.injEq, HO.lst.injEq, HO.tup.injEq, V.ref.injEq, V.str.injEq, one_inj, le_a, le_z, le_0, le_9, mem_let, mem_dig, V.bl.injEq, List.cons.injEq, and_true, true_and, reduceCtorEq, false_and, exists_false, or_false, false_or])
section
variable {P : Program} {w : World} {K : PySem.W.Frag} {mg : Str → Option Value} {base : Heap}
theorem sc_is_word : FnScope ["value", "sign"] ["value"] (defScope s_is_word) := ⟨rfl, rfl, rfl, by decide +kernel, rfl, by decide +kernel, by decide +kernel⟩
theorem ok_is_word {f : Addr} {fd : FuncData} (F : Fun K "is_word" "is_word" s_is_word f fd) (b_isinstance : mg "isinstance" = none) (b_str : mg "str" = none) (b_len : mg "len" = none) (b_all : mg "all" = none)
    (g_MOST_WORD : GV mg "MOST_WORD" (.int 12)) (g_LETTERS : GV mg "LETTERS" (.str "abcdefghijklmnopqrstuvwxyz")) (g_DIGITS : GV mg "DIGITS" (.str "0123456789")) : FnOk P w K mg base CX0 1 f fd ["value"] (spWord K) := by
  have nd := sc_is_word.nd
  refine F.ok sc_is_word (fun vs H Q E h => ?_) (fun cdv A outer s H vs Q E hr h => ?_)
  · obtain ⟨v, d, rfl, _⟩ := h
    rfl
  obtain ⟨v, d, rfl, hv, hl, q⟩ := h
  refine ⟨_, (pss_cons (ps_if (PW.pt (pw_or (pt_not (pt_val (pe_callB call_isi (by rfl) b_isinstance (by decide +kernel) (pa_cons (pv 0) (pa_cons (pe_bltn (v := .ty "str") (by rfl) b_str (by decide +kernel) rfl) pa_nil))))) (pw_or (pt_not (pt_chain op_le op_le pe_int (pe_callB call_len (by rfl) b_len (by decide +kernel) (pa_cons (pv 0) pa_nil)) (pe_gv g_MOST_WORD))) (pw_or1 (pt_cmpR op_notIn_sign (pe_ix ix_str (pv 0) pe_int (fun _ _ => rfl)) (pe_gv g_LETTERS) (by rfl)))))) (pss_one (ps_ret pe_bl)) pss_nil)
  (pss_one (ps_ret (pe_callB (cr_all rfl) (by rfl) b_all (by decide +kernel) (pa_cons (pe_lc (own := [("sign", 1)]) rfl nd (pi_str (pv 0)) (blkOk_by (N := ["value", "sign"]) (sc := defScope s_is_word) (by decide +kernel)) (fun _ _ _ _ _ => (pg_name (i := 1) nd rfl (.inl rfl))) (fun _ _ _ _ _ => pts_nil) (fun _ _ _ _ _ => (pe_or (pe_cmpR op_in_sign (pv 1) (pe_gv g_LETTERS) (by rfl)) (pe_one (pe_cmpR op_in_sign (pv 1) (pe_gv g_DIGITS) (by rfl)))))) pa_nil))))), ?_⟩
  walk_at "sx"
  refine isi_str hv ⟨_, rfl, ?_⟩
  cases d with
  | str x =>
    cases hv
    have hx := hl x rfl
    refine iteF ⟨_, len_s hx rfl, ?_⟩
    walk_at "sx"
    have ew : wordD (.str x) = isWd x.cps.toList := rfl
    have el := tl_len x
    have no : ¬ (1 ≤ x.cps.toList.length ∧ x.cps.toList.length ≤ 12) → isWd x.cps.toList = false := fun h => by rw [isWd_eq, decide_eq_false h]; rfl
    refine ite2 (fun c1 => ite2 (fun c2 => ?_) (fun c2 => ?_)) (fun c1 => ?_)
    · have := q H (.refl H)
      rw [ew, no] at this
      · exact this
      · simp only [Bool.not_eq_true', decide_eq_false_iff_not] at c2
        omega
    · simp only [decide_eq_true_eq] at c1
      simp only [Bool.not_eq_true, Bool.not_eq_false', decide_eq_true_eq] at c2
      cases hh : x.cps.toList.head? with
      | none =>
        have := List.head?_eq_none_iff.mp hh
        rw [this] at el
        simp only [List.length_nil] at el
        omega
      | some c =>
        refine ixs (K := K) hx (head_at x c hh) ⟨c, rfl, ?_⟩
        try rw [mem_let]
        have e1 : isWd x.cps.toList = (isLet c && x.cps.toList.all fun c => isLet c || isDig c) := by
          rw [isWd_eq, hh, decide_eq_true (by omega)]
          rfl
        refine ite2 (fun c3 => ?_) (fun c3 => ?_)
        · have := q H (.refl H)
          rw [ew, e1] at this
          simp only [Bool.not_eq_true'] at c3
          rw [c3] at this
          exact this
        · simp only [Bool.not_eq_true, Bool.not_eq_false'] at c3
          refine ⟨_, rfl, x, rfl, fun D nD => lc_map (walk_sgs x) (f := fun v => match v with | .str ⟨#[c]⟩ => .bl (isLet c || isDig c) | _ => .non) (by rw [sgs_len]; exact hx) (fun _ => trivial) ?_ ?_⟩
          · intro y hy acc R hR
            obtain ⟨c, _, rfl⟩ := List.mem_map.mp hy
            have hR : R (.bl (isLet c || isDig c)) _ := hR
            simp only [sg]
            walk_at "sx"
            try rw [mem_let, mem_dig]
            refine ite2 (fun h => ?_) (fun h => ?_)
            · rw [h] at hR
              exact hR
            · rw [Bool.not_eq_true] at h
              rw [h] at hR
              exact hR
          · refine all_of (all_sgs x (fun c => isLet c || isDig c) _ fun c => rfl) ?_
            have := q _ (same_upd (o := .lst ((sgs x).map (fun v => match v with | .str ⟨#[c]⟩ => .bl (isLet c || isDig c) | _ => .non))) nD)
            rw [ew, e1, c3] at this
            exact this
    · have := q H (.refl H)
      rw [ew, no] at this
      · exact this
      · simp only [decide_eq_true_eq] at c1
        omega
  | _ => exact q H (.refl H)
end

end Z

set_option Elab.async false
set_option linter.all false
set_option maxRecDepth 100000
set_option maxHeartbeats 4000000
namespace Z
open PySem PySem.Spec PyProof.Rows L2 Z.R
local macro_rules | `(tactic| walk_at "sx") => `(tactic| try simp only [and_assoc, cxOf_K, cxOf_Kn, C8.tCut, rEq, rNe, sc_ii, sc_ss, sc_bb, sc_is, sc_si, sc_bs, sc_sb, tSeq, tAsg, tC, gName, gNil, gCons, gTup, gSub, rSetL, L2.start, tVar, tOp, tUn, rI0, rI, rU, tTest, tChain, tOrV, tAndV, tNotV, tCB, tCons, tNil, tLst, tTup, tIfS, tNext, tRet, tRetN, tDrop, tAnd, tOr, tNot, tB, tIf, tSl, tNoPart, tPart, rSlL, tBM, tBM0, rAppend, rPop, tCall, tMeth, List.map_cons, List.map_nil, List.replicate, List.length_cons, List.length_nil, List.append, List.cons_append, List.nil_append, List.append_nil, List.getElem?_cons_zero, List.getElem?_cons_succ, List.set_cons_zero, List.set_cons_succ, Option.some.injEq, exists_eq_left', exists_eq_left, exists_eq, exists_and_left, exists_const, wipe, tYes, upd_same, ↓reduceIte, decide_false, decide_true, Bool.not_true, Bool.not_false, Bool.false_eq_true, V.int.injEq, HO.lst.injEq, HO.tup.injEq, V.ref.injEq, V.str.injEq, one_inj, le_a, le_z, le_0, le_9, mem_let, mem_dig, V.bl.injEq, List.cons.injEq, and_true, true_and, reduceCtorEq, false_and, exists_false, or_false, false_or])
section
variable {P : Program} {w : World} {K : PySem.W.Frag} {mg : Str → Option Value} {base : Heap}
theorem sc__law_word : FnScope ["value", "sign"] ["value"] (defScope s__law_word) := ⟨rfl, rfl, rfl, by decide +kernel, rfl, by decide +kernel, by decide +kernel⟩
theorem ok__law_word {f : Addr} {fd : FuncData} (F : Fun K "_law_word" "_law_word" s__law_word f fd) (b_isinstance : mg "isinstance" = none) (b_str : mg "str" = none) (b_len : mg "len" = none) (b_all : mg "all" = none) : FnOk P w K mg base CX0 1 f fd ["value"] (spWord K) := by
  have nd := sc__law_word.nd
  refine F.ok sc__law_word (fun vs H Q E h => ?_) (fun cdv A outer s H vs Q E hr h => ?_)
  · obtain ⟨v, d, rfl, _⟩ := h
    rfl
  obtain ⟨v, d, rfl, hv, hl, q⟩ := h
  refine ⟨_, (pss_cons (ps_if (PW.pt (pw_or (pt_not (pt_val (pe_callB call_isi (by rfl) b_isinstance (by decide +kernel) (pa_cons (pv 0) (pa_cons (pe_bltn (v := .ty "str") (by rfl) b_str (by decide +kernel) rfl) pa_nil))))) (pw_or (pt_not (pt_chain op_le op_le pe_int (pe_callB call_len (by rfl) b_len (by decide +kernel) (pa_cons (pv 0) pa_nil)) pe_int)) (pw_or1 (pt_not (pt_chain op_le_str op_le_str pe_str (pe_ix ix_str (pv 0) pe_int (fun _ _ => rfl)) pe_str)))))) (pss_one (ps_ret pe_bl)) pss_nil)
  (pss_one (ps_ret (pe_callB (cr_all rfl) (by rfl) b_all (by decide +kernel) (pa_cons (pe_lc (own := [("sign", 1)]) rfl nd (pi_str (pv 0)) (blkOk_by (N := ["value", "sign"]) (sc := defScope s__law_word) (by decide +kernel)) (fun _ _ _ _ _ => (pg_name (i := 1) nd rfl (.inl rfl))) (fun _ _ _ _ _ => pts_nil) (fun _ _ _ _ _ => (pe_or (pe_chain op_le_str op_le_str pe_str (pv 1) pe_str) (pe_one (pe_chain op_le_str op_le_str pe_str (pv 1) pe_str))))) pa_nil))))), ?_⟩
  walk_at "sx"
  refine isi_str hv ⟨_, rfl, ?_⟩
  cases d with
  | str x =>
    cases hv
    have hx := hl x rfl
    refine iteF ⟨_, len_s hx rfl, ?_⟩
    walk_at "sx"
    have ew : wordD (.str x) = isWd x.cps.toList := rfl
    have el := tl_len x
    have no : ¬ (1 ≤ x.cps.toList.length ∧ x.cps.toList.length ≤ 12) → isWd x.cps.toList = false := fun h => by rw [isWd_eq, decide_eq_false h]; rfl
    refine ite2 (fun c1 => ite2 (fun c2 => ?_) (fun c2 => ?_)) (fun c1 => ?_)
    · have := q H (.refl H)
      rw [ew, no] at this
      · exact this
      · simp only [Bool.not_eq_true', decide_eq_false_iff_not] at c2
        omega
    · simp only [decide_eq_true_eq] at c1
      simp only [Bool.not_eq_true, Bool.not_eq_false', decide_eq_true_eq] at c2
      cases hh : x.cps.toList.head? with
      | none =>
        have := List.head?_eq_none_iff.mp hh
        rw [this] at el
        simp only [List.length_nil] at el
        omega
      | some c =>
        refine ixs (K := K) hx (head_at x c hh) ?_
        walk_at "sx"
        have e1 : isWd x.cps.toList = (isLet c && x.cps.toList.all fun c => isLet c || isDig c) := by
          rw [isWd_eq, hh, decide_eq_true (by omega)]
          rfl
        have body : isLet c = true → tLc (iStr (tVar 0)) (gName 1) tYes
              (tOrV (tChain (fun x y H Q => ∃ i j, x = V.str i ∧ y = V.str j ∧ Q (V.bl !decide (j.cps.toList < i.cps.toList)) H) (fun x y H Q => ∃ i j, x = V.str i ∧ y = V.str j ∧ Q (V.bl !decide (j.cps.toList < i.cps.toList)) H) (tC (V.str (Str.ofString "a"))) (tVar 1) (tC (V.str (Str.ofString "z"))))
                (tChain (fun x y H Q => ∃ i j, x = V.str i ∧ y = V.str j ∧ Q (V.bl !decide (j.cps.toList < i.cps.toList)) H) (fun x y H Q => ∃ i j, x = V.str i ∧ y = V.str j ∧ Q (V.bl !decide (j.cps.toList < i.cps.toList)) H) (tC (V.str (Str.ofString "0"))) (tVar 1) (tC (V.str (Str.ofString "9")))))
              [1] [some (V.str x), none] H fun x H1 => rAll K [x] H1 Q := fun c3 => by
          refine ⟨_, rfl, x, rfl, fun D nD => lc_map (walk_sgs x) (f := fun v => match v with | .str ⟨#[c]⟩ => .bl (isLet c || isDig c) | _ => .non) (by rw [sgs_len]; exact hx) (fun _ => trivial) ?_ ?_⟩
          · intro y hy acc R hR
            obtain ⟨c, _, rfl⟩ := List.mem_map.mp hy
            have hR : R (.bl (isLet c || isDig c)) _ := hR
            simp only [sg]
            walk_at "sx"
            have g1 : R (.bl true) (upd H D (.lst acc)) ↔ (isLet c || isDig c) = true ∨ R (.bl true) (upd H D (.lst acc)) := ⟨.inr, fun h => h.elim (fun e => by rw [e] at hR; exact hR) id⟩
            simp only [isLet, isDig] at hR g1
            refine ite2 (fun h1 => ite2 (fun h2 => ?_) (fun h2 => ite2 (fun h3 => ?_) (fun h3 => ?_))) (fun h1 => ite2 (fun h3 => ?_) (fun h3 => ?_))
            all_goals
              (try rw [Bool.not_eq_true] at h1)
              (try rw [Bool.not_eq_true] at h2)
              (try rw [Bool.not_eq_true] at h3)
              (try rw [h1] at hR)
              (try rw [h2] at hR)
              (try rw [h3] at hR)
              exact hR
          · refine all_of (all_sgs x (fun c => isLet c || isDig c) _ fun c => rfl) ?_
            have := q _ (same_upd (o := .lst ((sgs x).map (fun v => match v with | .str ⟨#[c]⟩ => .bl (isLet c || isDig c) | _ => .non))) nD)
            rw [ew, e1, c3] at this
            exact this
        have fin : isLet c = false → Q (.bl false) H := fun c3 => by
          have := q H (.refl H)
          rw [ew, e1, c3] at this
          exact this
        simp only [exists_and_left] at body
        refine ite2 (fun h1 => ite2 (fun h2 => fin ?_) (fun h2 => body ?_)) (fun h1 => fin ?_)
        · rw [Bool.not_eq_true'] at h2
          rw [isLet, h2, Bool.and_false]
        · rw [Bool.not_eq_true, Bool.not_eq_false'] at h2
          rw [isLet, h1, h2]
          rfl
        · rw [Bool.not_eq_true] at h1
          rw [isLet, h1]
          rfl
    · have := q H (.refl H)
      rw [ew, no] at this
      · exact this
      · simp only [decide_eq_true_eq] at c1
        omega
  | _ => exact q H (.refl H)
end

end Z

set_option Elab.async false
set_option linter.all false
set_option maxRecDepth 100000
set_option maxHeartbeats 4000000
namespace Z
open PySem PySem.Spec PyProof.Rows L2 Z.R
local macro_rules | `(tactic| walk_at "sx") => `(tactic| try simp only [and_assoc, cxOf_K, cxOf_Kn, C8.tCut, rEq, rNe, sc_ii, sc_ss, sc_bb, sc_is, sc_si, sc_bs, sc_sb, tSeq, tAsg, tC, gName, gNil, gCons, gTup, gSub, rSetL, L2.start, tVar, tOp, tUn, rI0, rI, rU, tTest, tChain, tOrV, tAndV, tNotV, tCB, tCons, tNil, tLst, tTup, tIfS, tNext, tRet, tRetN, tDrop, tAnd, tOr, tNot, tB, tIf, tSl, tNoPart, tPart, rSlL, tBM, tBM0, rAppend, rPop, tCall, tMeth, List.map_cons, List.map_nil, List.replicate, List.length_cons, List.length_nil, List.append, List.cons_append, List.nil_append, List.append_nil, List.getElem?_cons_zero, List.getElem?_cons_succ, List.set_cons_zero, List.set_cons_succ, Option.some.injEq, exists_eq_left', exists_eq_left, exists_eq, exists_and_left, exists_const, wipe, tYes, upd_same, ↓reduceIte, decide_false, decide_true, Bool.not_true, Bool.not_false, Bool.false_eq_true, V.int.injEq, HO.lst.injEq, HO.tup.injEq, V.ref.injEq, V.str.injEq, one_inj, le_a, le_z, le_0, le_9, mem_let, mem_dig, V.bl.injEq, List.cons.injEq, and_true, true_and, reduceCtorEq, false_and, exists_false, or_false, false_or])
theorem pw_lt {T a : Nat} (h : T ≤ 2 ^ a) (k : Nat) : T ^ k < 2 ^ (a * k + 1) := by
  have h1 : T ^ k ≤ (2 ^ a) ^ k := Nat.pow_le_pow_left h _
  rw [← Nat.pow_mul] at h1
  exact Nat.lt_of_le_of_lt h1 (Nat.pow_lt_pow_right (by decide) (Nat.lt_succ_self _))
section
variable {P : Program} {w : World} {K : PySem.W.Frag} {mg : Str → Option Value} {base : Heap}
theorem sc_is_whole : FnScope ["value"] ["value"] (defScope s_is_whole) := ⟨rfl, rfl, rfl, by decide +kernel, rfl, by decide +kernel, by decide +kernel⟩
theorem ok_is_whole {f : Addr} {fd : FuncData} (F : Fun K "is_whole" "is_whole" s_is_whole f fd) (b_isinstance : mg "isinstance" = none) (b_int : mg "int" = none) (b_bool : mg "bool" = none) : FnOk P w K mg base CX0 1 f fd ["value"] (spWhole K) := by
  have nd := sc_is_whole.nd
  refine F.ok sc_is_whole (fun vs H Q E h => ?_) (fun cdv A outer s H vs Q E hr h => ?_)
  · obtain ⟨v, d, rfl, _⟩ := h
    rfl
  obtain ⟨v, d, rfl, hv, q⟩ := h
  refine ⟨_, (pss_one (ps_ret (pe_and (pe_callB call_isi (by rfl) b_isinstance (by decide +kernel) (pa_cons (pv 0) (pa_cons (pe_bltn (v := .ty "int") (by rfl) b_int (by decide +kernel) rfl) pa_nil))) (pe_one (pe_not (pe_callB call_isi (by rfl) b_isinstance (by decide +kernel) (pa_cons (pv 0) (pa_cons (pe_bltn (v := .ty "bool") (by rfl) b_bool (by decide +kernel) rfl) pa_nil)))))))), ?_⟩
  walk_at "sx"
  refine isi_int hv ⟨_, rfl, ?_⟩
  refine ite2 (fun c => isi_bool hv ⟨_, rfl, ?_⟩) (fun c => ?_)
  · cases d <;> first | exact q | (exact absurd c Bool.false_ne_true)
  · cases d <;> first | exact q | (exact absurd rfl c)
theorem sc_is_short : FnScope ["value", "most", "_"] ["value"] (defScope s_is_short) := ⟨rfl, rfl, rfl, by decide +kernel, rfl, by decide +kernel, by decide +kernel⟩
theorem ok_is_short {f : Addr} {fd : FuncData} (F : Fun K "is_short" "is_short" s_is_short f fd) (c_is_whole : Cl P w K mg base 1 "is_whole" (spWhole K)) (b_range : mg "range" = none) (g_MOST_DIGITS : GV mg "MOST_DIGITS" (.int 4000)) : FnOk P w K mg base CX0 2 f fd ["value"] (spShort K) := by
  have nd := sc_is_short.nd
  refine F.ok sc_is_short (fun vs H Q E h => ?_) (fun cdv A outer s H vs Q E hr h => ?_)
  · obtain ⟨v, d, rfl, _⟩ := h
    rfl
  obtain ⟨v, d, rfl, hv, q⟩ := h
  refine ⟨_, (pss_cons (ps_if (pt_not (pt_val (pcl c_is_whole hr (by omega) (pa_cons (pv 0) pa_nil)))) (pss_one (ps_ret pe_bl)) pss_nil)
  (pss_cons (ps_set (i := 1) nd rfl (.inl rfl) (pe_op op_pow pe_int pe_int))
  (C8.pss_cut (ps_if (pt_chain op_lt op_lt (pe_un un_neg (pv 1)) (pv 0) (pv 1)) (pss_one (ps_ret pe_bl)) pss_nil)
  (pss_cons (ps_for PassesOwn.never rfl (pi_range1 (by rfl) b_range (pa_cons (pe_op op_sub (pe_op op_fdivN (pe_gv g_MOST_DIGITS) pe_int) pe_int) pa_nil)) (pg_name (i := 2) nd rfl (.inl rfl))
    (pss_one (ps_aug (i := 1) nd rfl (.inl rfl) (pe_op op_pow pe_int pe_int) iop_mulW)))
  (pss_one (ps_ret (pe_chain op_lt op_lt (pe_un un_neg (pv 1)) (pv 0) (pv 1)))))))), ?_⟩
  walk_at "sx"
  refine ⟨v, d, rfl, hv, _, rfl, ?_⟩
  refine ite2 (fun c => ?_) (fun c => ?_)
  · cases d <;> first | exact q | (exact absurd c Bool.false_ne_true)
  · obtain ⟨z, rfl⟩ : ∃ z, d = .int z := by
      cases d <;> first | exact ⟨_, rfl⟩ | (exact absurd rfl c)
    cases hv
    have e32 : (10 : Int) ^ Int.toNat 32 = ((10 ^ 32 : Nat) : Int) := by decide
    have b0 : big = (10 ^ 32) ^ 125 := by decide +kernel
    have m0 : (10 ^ 32 : Nat) ≤ big := by
      rw [b0]
      exact Nat.le_self_pow (by decide) _
    rw [e32]
    have t107 : (10 ^ 32 : Nat) ≤ 2 ^ 107 := by decide +kernel
    have tpos : 1 ≤ (10 ^ 32 : Nat) := by decide +kernel
    generalize hT : (10 ^ 32 : Nat) = T at b0 m0 t107 tpos e32 ⊢
    refine ⟨⟨by decide, by decide, by decide⟩, fun σ H' => σ = [some (.int z), some (.int (T : Int)), none] ∧ H' = H, ?_, ?_⟩
    · walk_at "sx"
      refine ite2 (fun h1 => ite2 (fun h2 => ?_) (fun _ => trivial)) (fun _ => trivial)
      have h1 := of_decide_eq_true h1
      have h2 := of_decide_eq_true h2
      have e : shortD (.int z) = true := decide_eq_true (by omega)
      rw [e] at q
      exact q
    · rintro σ H' ⟨rfl, rfl⟩
      walk_at "sx"
      refine ⟨_, _, rfl, rfl, ⟨by decide, by decide⟩, _, _, rfl, rfl, 124, by decide, by decide, by decide, for_range (lo := 0) (n := 124) (fun i σ H2 => H2 = H' ∧ ∃ c, σ = [some (.int z), some (.int ((T ^ (i + 1) : Nat) : Int)), c]) ⟨rfl, none, by rw [Nat.zero_add, Nat.pow_one]⟩ ?_ ?_⟩
      · rintro i σ H2 hi ⟨rfl, c, rfl⟩
        refine ⟨_, rfl, _, _, rfl, rfl, ⟨by decide, by decide, by decide⟩, _, _, rfl, rfl, ?_, ?_⟩
        · rw [e32]
          exact wide_mul (a := 107 * (i + 1) + 1) (b := 108) (by rw [Int.natAbs_natCast]; exact pw_lt t107 _) (by rw [Int.natAbs_natCast]; exact Nat.lt_of_le_of_lt t107 (by decide)) (by omega) (by decide) (by omega)
        · refine ⟨rfl, some (.int (0 + (i : Nat))), ?_⟩
          have em : ((T ^ (i + 1) : Nat) : Int) * (T : Int) = ((T ^ (i + 1 + 1) : Nat) : Int) := by rw [← Int.natCast_mul, ← Nat.pow_succ]
          rw [e32]
          show [some (V.int z), some (V.int (((T ^ (i + 1) : Nat) : Int) * (T : Int))), some (V.int (0 + (i : Nat)))] = _
          rw [em]
      · rintro σ H2 ⟨rfl, c, rfl⟩
        walk_at "sx"
        rw [← b0]
        refine ite2 (fun h1 => ?_) (fun h1 => ?_)
        · have e : shortD (.int z) = decide (z < (big : Int)) := by
            have := of_decide_eq_true h1
            show decide (z.natAbs < big) = decide (z < (big : Int))
            rw [Bool.eq_iff_iff, decide_eq_true_eq, decide_eq_true_eq]
            omega
          rw [e] at q
          exact q
        · have e : shortD (.int z) = false := by
            have := of_decide_eq_false (Bool.eq_false_iff.mpr h1)
            exact decide_eq_false (by omega)
          rw [e] at q
          exact q
end

end Z

set_option Elab.async false
set_option linter.all false
set_option maxRecDepth 100000
set_option maxHeartbeats 4000000
namespace Z
open PySem PySem.Spec PyProof.Rows L2 Z.R
local macro_rules | `(tactic| walk_at "sx") => `(tactic| try simp only [and_assoc, cxOf_K, cxOf_Kn, C8.tCut, rEq, rNe, sc_ii, sc_ss, sc_bb, sc_is, sc_si, sc_bs, sc_sb, tSeq, tAsg, tC, gName, gNil, gCons, gTup, gSub, rSetL, L2.start, tVar, tOp, tUn, rI0, rI, rU, tTest, tChain, tOrV, tAndV, tNotV, tCB, tCons, tNil, tLst, tTup, tIfS, tNext, tRet, tRetN, tDrop, tAnd, tOr, tNot, tB, tIf, tSl, tNoPart, tPart, rSlL, tBM, tBM0, rAppend, rPop, tCall, tMeth, List.map_cons, List.map_nil, List.replicate, List.length_cons, List.length_nil, List.append, List.cons_append, List.nil_append, List.append_nil, List.getElem?_cons_zero, List.getElem?_cons_succ, List.set_cons_zero, List.set_cons_succ, Option.some.injEq, exists_eq_left', exists_eq_left, exists_eq, exists_and_left, exists_const, wipe, tYes, upd_same, ↓reduceIte, decide_false, decide_true, Bool.not_true, Bool.not_false, Bool.false_eq_true, V.int.injEq, HO.lst.injEq, HO.tup.injEq, V.ref.injEq, V.str.injEq, one_inj, le_a, le_z, le_0, le_9, mem_let, mem_dig, V.bl.injEq, List.cons.injEq, and_true, true_and, reduceCtorEq, false_and, exists_false, or_false, false_or])
section
variable {P : Program} {w : World} {K : PySem.W.Frag} {mg : Str → Option Value} {base : Heap}
theorem sc_atom_text : FnScope ["value"] ["value"] (defScope s_atom_text) := ⟨rfl, rfl, rfl, by decide +kernel, rfl, by decide +kernel, by decide +kernel⟩
theorem ok_atom_text {C f : Addr} {fd : FuncData} (F : Fun K "atom_text" "atom_text" s_atom_text f fd) (c_is_word : Cl P w K mg base 1 "is_word" (spWord K)) (c_is_short : Cl P w K mg base 2 "is_short" (spShort K)) (T_Malformed : XC K mg "Malformed" C) (ndg : base.NoDigits)
    (b_isinstance : mg "isinstance" = none) (b_str : mg "str" = none) (b_bool : mg "bool" = none) : FnOk P w K mg base (L2.CX P w) 3 f fd ["value"] (spAtom K C) := by
  have nd := sc_atom_text.nd
  refine F.okX sc_atom_text (fun vs H Q E h => ?_) (fun cdv A outer s H vs Q E hr h => ?_)
  · obtain ⟨v, d, rfl, _⟩ := h
    rfl
  obtain ⟨v, d, rfl, hv, hl, q, e⟩ := h
  refine ⟨_, (pss_cons (ps_if (pt_val (pe_callB call_isi (by rfl) b_isinstance (by decide +kernel) (pa_cons (pv 0) (pa_cons (pe_bltn (v := .ty "bool") (by rfl) b_bool (by decide +kernel) rfl) pa_nil)))) (pss_one (ps_ret (pe_ifExp (pt_val (pv 0)) pe_str pe_str))) pss_nil)
  (pss_cons (ps_if (PW.pt (pw_and (pt_not (pt_val (pcl c_is_word hr (by omega) (pa_cons (pv 0) pa_nil)))) (pw_and (pt_not (pt_val (pcl c_is_short hr (by omega) (pa_cons (pv 0) pa_nil)))) (pw_and1 (pt_not (PW.pt (pw_and (pt_val (pe_callB call_isi (by rfl) b_isinstance (by decide +kernel) (pa_cons (pv 0) (pa_cons (pe_bltn (v := .ty "str") (by rfl) b_str (by decide +kernel) rfl) pa_nil)))) (pw_and1 (pt_cmpR op_eq (pv 0) pe_str (nomark _)))))))))) (pss_one (ps_rz T_Malformed rfl (takes_of rfl rfl rfl rfl))) pss_nil)
  (pss_one (ps_ret (pe_ifExp (pt_cmpR op_ne (pv 0) pe_str (nomark _)) (pe_callTy (call_str_any ndg rfl) (by rfl) b_str (by decide +kernel) (pa_cons (pv 0) pa_nil)) pe_str))))), ?_⟩
  walk_at "sx"
  refine isi_bool hv ⟨_, rfl, ?_⟩
  have no : ∀ {d : PyData} (b : Bool), (!b) = true → b = false := fun b h => by simpa using h
  have b43 : big ≤ 10 ^ 4300 := Nat.pow_le_pow_right (by decide) (by decide)
  have w0 : isWd (Str.ofString "").cps.toList = false := by decide +kernel
  cases d with
  | bool b =>
    cases hv
    refine iteT ⟨_, rfl, ?_⟩
    cases b
    · exact q _ _ rfl (.refl H)
    · exact q _ _ rfl (.refl H)
  | str x =>
    cases hv
    refine iteF ⟨_, _, rfl, .str x, hl, fun H1 s1 => ⟨_, rfl, ?_⟩⟩
    have ew : wordD (.str x) = isWd x.cps.toList := rfl
    rw [ew]
    refine ite2 (fun c1 => ?_) (fun c1 => ?_)
    · rw [Bool.not_eq_true'] at c1
      refine ⟨_, _, rfl, .str x, _, rfl, iteT (isi_str (.str x) ⟨_, rfl, iteT ?_⟩)⟩
      walk_at "sx"
      refine ite2 (fun c2 => ?_) (fun c2 => ?_)
      · rw [Bool.not_eq_true', decide_eq_false_iff_not] at c2
        exact e _ (by rw [atomT_str, c1, if_neg Bool.false_ne_true, if_neg c2]) s1
      · rw [Bool.not_eq_true, Bool.not_eq_false', decide_eq_true_eq] at c2
        subst c2
        rw [decide_eq_true rfl]
        refine iteF (q _ _ ?_ s1)
        rw [atomT_str, w0, if_neg Bool.false_ne_true, if_pos rfl]
    · rw [Bool.not_eq_true, Bool.not_eq_false'] at c1
      have ne : ¬ x = Str.ofString "" := fun z => by
        rw [z, w0] at c1
        cases c1
      walk_at "sx"
      rw [decide_eq_false ne]
      refine iteT (q _ _ ?_ s1)
      rw [atomT_str, c1, if_pos rfl]
  | int i =>
    cases hv
    refine iteF ⟨_, _, rfl, .int i, hl, fun H1 s1 => ⟨_, rfl, iteT ⟨_, _, rfl, .int i, _, rfl, ?_⟩⟩⟩
    refine ite2 (fun c1 => ?_) (fun c1 => ?_)
    · refine isi_str (.int i) ⟨_, rfl, iteF (e _ ?_ s1)⟩
      have : ¬ i.natAbs < big := by simpa [shortD] using c1
      rw [atomT_int, if_neg this]
    · have c2 : i.natAbs < big := by simpa [shortD] using c1
      walk_at "sx"
      refine ⟨Nat.lt_of_lt_of_le c2 b43, q _ _ ?_ s1⟩
      rw [atomT_int, if_pos c2]
  | none =>
    cases hv
    exact iteF ⟨_, _, rfl, .non, hl, fun H1 s1 => ⟨_, rfl, iteT ⟨_, _, rfl, .non, _, rfl, iteT (isi_str .non ⟨_, rfl, iteF (e _ rfl s1)⟩)⟩⟩⟩
  | list xs =>
    exact iteF ⟨_, _, rfl, hv, hl, fun H1 s1 => ⟨_, rfl, iteT ⟨_, _, rfl, hv.same s1, _, rfl, iteT (isi_str (hv.same s1) ⟨_, rfl, iteF (e _ rfl s1)⟩)⟩⟩⟩
  | tuple xs =>
    exact iteF ⟨_, _, rfl, hv, hl, fun H1 s1 => ⟨_, rfl, iteT ⟨_, _, rfl, hv.same s1, _, rfl, iteT (isi_str (hv.same s1) ⟨_, rfl, iteF (e _ rfl s1)⟩)⟩⟩⟩
  | dict xs => cases hv
end

end Z

set_option Elab.async false
set_option linter.all false
set_option maxRecDepth 100000
set_option maxHeartbeats 4000000
namespace Z
open PySem PySem.Spec PyProof.Rows L2 Z.R
local macro_rules | `(tactic| walk_at "sx") => `(tactic| try simp only [and_assoc, cxOf_K, cxOf_Kn, C8.tCut, rEq, rNe, sc_ii, sc_ss, sc_bb, sc_is, sc_si, sc_bs, sc_sb, tSeq, tAsg, tPar, tPar3, tC, gName, gNil, gCons, gTup, gSub, rSetL, L2.start, tVar, tOp, tUn, rI0, rI, rU, tTest, tChain, tOrV, tAndV, tNotV, tCB, tCons, tNil, tLst, tTup, tIfS, tNext, tRet, tRetN, tDrop, tAnd, tOr, tNot, tB, tIf, tSl, tNoPart, tPart, rSlL, tBM, tBM0, rAppend, rPop, rExtend, tCall, tMeth, List.map_cons, List.map_nil, List.replicate, List.length_cons, List.length_nil, List.append, List.cons_append, List.nil_append, List.append_nil, List.getElem?_cons_zero, List.getElem?_cons_succ, List.set_cons_zero, List.set_cons_succ, Option.some.injEq, exists_eq_left', exists_eq_left, exists_eq, exists_and_left, exists_const, wipe, tYes, upd_same, ↓reduceIte, decide_false, decide_true, Bool.not_true, Bool.not_false, Bool.false_eq_true, V.int.injEq, HO.lst.injEq, HO.tup.injEq, V.ref.injEq, V.str.injEq, one_inj, le_a, le_z, le_0, le_9, mem_let, mem_dig, V.bl.injEq, List.cons.injEq, and_true, true_and, reduceCtorEq, false_and, exists_false, or_false, false_or])
section
variable {P : Program} {w : World} {K : PySem.W.Frag} {mg : Str → Option Value} {base : Heap}
theorem sc_write_data : FnScope ["data", "waiting", "found", "one", "depth", "k"] ["data"] (defScope s_write_data) := ⟨rfl, rfl, rfl, by decide +kernel, rfl, by decide +kernel, by decide +kernel⟩
theorem bdl {xs : List V} {ds : List PyData} (lx : xs.length = ds.length) (h : pcAll ds ≤ 4000) : (xs.length : Int) - 1 < 2 ^ 62 := by
  have := pcAll_len ds
  omega
theorem ok_write_data {C f : Addr} {fd : FuncData} (F : Fun K "write_data" "write_data" s_write_data f fd) (c_atom_text : ClX P w K mg base 3 "atom_text" (spAtom K C))
    (b_isinstance : mg "isinstance" = none) (b_tuple : mg "tuple" = none) (b_len : mg "len" = none) (b_range : mg "range" = none) (g_MOST_DEPTH : GV mg "MOST_DEPTH" (.int 1000)) : FnOk P w K mg base (L2.CX P w) 4 f fd ["data"] (spWrite K C) := by
  have nd := sc_write_data.nd
  refine F.okX sc_write_data (fun vs H Q E h => ?_) (fun cdv A outer s H vs Q E hr h => ?_)
  · obtain ⟨v, d, rfl, _⟩ := h
    rfl
  obtain ⟨v, d, rfl, hv, sm, hpc, q, e⟩ := h
  refine ⟨_, (pss_cons (ps_par (i := 1) (j := 2) rfl nd rfl rfl (by decide) rfl rfl (pa_cons (pe_lst (pa_cons (pe_tup (pa_cons (pv 0) (pa_cons pe_int pa_nil))) pa_nil)) (pa_cons (pe_lst pa_nil) pa_nil)) (by rfl))
  (pss_cons (ps_while (passes_of rfl) (pt_cmpR op_gt (pe_callB call_len (by rfl) b_len (by decide +kernel) (pa_cons (pv 1) pa_nil)) pe_int (nomark _))
    (pss_cons (ps_asg (pe_bm0 PySem.F.plainAttrs_list PySem.F.slot_list_pop PySem.F.type_list_pop mt_pop (pv 1)) (pg_tup (n := 2) (by rfl) (pgs_cons (pg_name (i := 3) nd rfl (.inl rfl)) (pgs_cons (pg_name (i := 4) nd rfl (.inl rfl)) pgs_nil))))
  (pss_one (ps_if (pt_cmpR op_eq (pv 4) pe_int (nomark _)) (pss_one (ps_expr (pe_bm PySem.F.plainAttrs_list PySem.F.slot_list_append PySem.F.type_list_append mt_append (pv 2) (pa_cons (pv 3) pa_nil)))) (pss_one (ps_if (PW.pt (pw_and (pt_val (pe_callB call_isi (by rfl) b_isinstance (by decide +kernel) (pa_cons (pv 3) (pa_cons (pe_bltn (v := .ty "tuple") (by rfl) b_tuple (by decide +kernel) rfl) pa_nil)))) (pw_and1 (pt_cmpR op_le (pv 4) (pe_gv g_MOST_DEPTH) (nomark _))))) (pss_cons (ps_expr (pe_bm PySem.F.plainAttrs_list PySem.F.slot_list_append PySem.F.type_list_append mt_append (pv 2) (pa_cons pe_str pa_nil)))
  (pss_cons (ps_expr (pe_bm PySem.F.plainAttrs_list PySem.F.slot_list_append PySem.F.type_list_append mt_append (pv 1) (pa_cons (pe_tup (pa_cons pe_str (pa_cons pe_int pa_nil))) pa_nil)))
  (pss_one (ps_for (passes_of rfl) rfl (pi_range3 (by rfl) b_range (pa_cons (pe_op op_sub (pe_callB call_len (by rfl) b_len (by decide +kernel) (pa_cons (pv 3) pa_nil)) pe_int) (pa_cons (pe_un un_neg pe_int) (pa_cons (pe_un un_neg pe_int) pa_nil)))) (pg_name (i := 5) nd rfl (.inl rfl))
    (pss_cons (ps_expr (pe_bm PySem.F.plainAttrs_list PySem.F.slot_list_append PySem.F.type_list_append mt_append (pv 1) (pa_cons (pe_tup (pa_cons (pe_ix ix_tup (pv 3) (pv 5) (fun _ _ => rfl)) (pa_cons (pe_op op_add (pv 4) pe_int) pa_nil))) pa_nil)))
  (pss_one (ps_if (pt_cmpR op_gt (pv 5) pe_int (nomark _)) (pss_one (ps_expr (pe_bm PySem.F.plainAttrs_list PySem.F.slot_list_append PySem.F.type_list_append mt_append (pv 1) (pa_cons (pe_tup (pa_cons pe_str (pa_cons pe_int pa_nil))) pa_nil)))) pss_nil))))))) (pss_one (ps_expr (pe_bm PySem.F.plainAttrs_list PySem.F.slot_list_append PySem.F.type_list_append mt_append (pv 2) (pa_cons (pclX c_atom_text hr (by omega) (passes_call (takes_of rfl rfl rfl rfl) (fun _ _ _ _ h => h)) (pa_cons (pv 3) pa_nil)) pa_nil))))))))))
  (pss_one (ps_ret (pe_join pe_str (pv 2)))))), ?_⟩
  walk_at "sx"
  refine ⟨by decide, fun p np => ⟨by decide, fun w nw => ⟨by decide, fun f nf => ?_⟩⟩⟩
  have Hw : H w = none := (same_upd np).free nw
  have Hf : H f = none := (same_upd np).free ((same_upd nw).free nf)
  have nwf : w ≠ f := ne_of_none upd_same nf
  have npw : p ≠ w := ne_of_none upd_same nw
  have npf : p ≠ f := fun z => by
    rw [z, upd_ne nwf.symm, upd_same] at nf
    cases nf
  refine ⟨WInv K H v d w f, ⟨_, [.dat d 1], [.ref p], [], none, none, none, rfl, by rw [upd_ne nwf, upd_same], by rw [upd_same]; rfl, .cons ⟨p, v, 1, rfl, SqT.of (by rw [upd_ne npf, upd_ne npw, upd_same]; rfl), hv, rfl⟩ .nil,
    fun y hy => by rw [List.mem_singleton.mp hy]; exact ⟨sm, Nat.le_refl _⟩, Same.off (Same.off (same_upd np) Hw) Hf, rfl, ?_, fun _ h => (by cases h), ?_⟩, ?_⟩
  · show 0 + (pc d + 0) ≤ 4000
    omega
  · have : outs [.dat d 1] = wp 1 d := by
      show (some []).bind (fun a => (wp 1 d).map fun b => a ++ b) = wp 1 d
      cases wp 1 d <;> rfl
    rw [this]
    cases wp 1 d <;> rfl
  rintro m σ H1 ⟨its, ws, fnd, one, depth, k, rfl, hw, hf, hws, hok, sm1, rfl, hsz, hst, hout⟩
  have lw := WtAll.len hws
  walk_at "sx"
  refine ⟨_, len_l hw rfl, ite2 (fun c => ?_) (fun c => ?_)⟩
  · -- the last one is taken
    have c := of_decide_eq_true c
    obtain ⟨its', y, rfl⟩ : ∃ l y, its = l ++ [y] := by
      have : its ≠ [] := fun z => by
        subst z
        rw [lw] at c
        exact absurd c (by decide)
      exact ⟨its.dropLast, its.getLast this, (List.dropLast_concat_getLast this).symm⟩
    obtain ⟨us, u, rfl, hus, hu⟩ := WtAll.back hws
    obtain ⟨p1, u1, k1, rfl, hp1, hy⟩ := hu
    rw [szs_snoc] at hsz
    rw [outs_snoc] at hout
    have hlen := szs_len (its := its')
    have lu := WtAll.len hus
    have t1 : Tp H1 (upd H1 w (.lst us)) := Tp.upd (.refl _) hw
    refine ⟨fun σ' H' => ∃ m', m' < szs (its' ++ [y]) ∧ WInv K H v d w f m' σ' H', fun _ _ h => h, ?_⟩
    refine ⟨tyl hw, _, hw, _, by rw [List.length_append, List.length_singleton, Nat.add_sub_cancel, List.getElem?_append_right (Nat.le_refl _), Nat.sub_self]; rfl, ?_⟩
    simp only [List.dropLast_concat]
    have hf1 : upd H1 w (.lst us) f = some (.lst (fnd.map V.str)) := by rw [upd_ne nwf.symm]; exact hf
    have s1 : Same H (upd H1 w (.lst us)) := Same.off sm1 Hw
    have hus1 : WtAll K H (upd H1 w (.lst us)) us its' := hus.mono t1
    have okr : ∀ y' ∈ its', y'.ok := fun y' h => hok y' (List.mem_append_left _ h)
    have oky := hok y (List.mem_append_right _ (List.mem_singleton_self y))
    refine ⟨p1, rfl, _, t1.sqt hp1, rfl, _, _, rfl, _, _, rfl, rfl, ?_⟩
    walk_at "sx"
    cases y with
    | txt z =>
      obtain ⟨rfl, rfl⟩ := hy
      refine ⟨tyl hf1, _, hf1, ?_, szs its', by rw [szs_snoc]; exact Nat.lt_succ_self _, its', us, fnd ++ [z], _, _, _, rfl, by rw [upd_ne nwf, upd_same], by rw [upd_same, List.map_append]; rfl, hus1.mono (Tp.upd (.refl _) hf1), okr, Same.off s1 Hf, rfl, ?_, ?_, ?_⟩
      · rw [List.length_map]
        exact small4 (by omega)
      · rw [List.length_append, List.length_singleton]
        have : Wt.sz (.txt z) = 1 := rfl
        omega
      · intro t ht
        rcases List.mem_append.mp ht with h | h
        · exact hst t h
        · rw [List.mem_singleton.mp h]
          exact Nat.le_trans oky (by decide)
      · rw [← hout]
        show _ = ((some [z]).bind fun a => (outs its').map fun b => a ++ b).map fun l => fnd ++ l
        cases outs its' with
        | none => rfl
        | some a => simp
    | dat d1 j =>
      obtain ⟨hd1, rfl⟩ := hy
      obtain ⟨smd, k1p⟩ := oky
      have hd1' : Dp K (upd H1 w (.lst us)) u1 d1 := hd1.same s1
      have hout : ((wp k1 d1).bind fun a => (outs its').map fun b => a ++ b).map (fun l => fnd ++ l) = wp 1 d := hout
      have hsz : fnd.length + (szs its' + pc d1) ≤ 4000 := hsz
      rw [decide_eq_false (by omega)]
      refine iteF (isi_tup hd1' ⟨_, rfl, ?_⟩)
      have atom : wp k1 d1 = (atomT d1).map (fun t => [t]) →
          tyV K "list" (V.ref f) (upd H1 w (.lst us)) ∧ spAtom K C [u1] (upd H1 w (.lst us)) (fun x H2 => ∃ xs, H2 f = some (.lst xs) ∧ xs.length < sizeLine ∧ ∃ m', m' < szs (its' ++ [Wt.dat d1 k1]) ∧ WInv K H v d w f m' [some v, some (V.ref w), some (V.ref f), some u1, some (V.int k1), k] (upd H2 f (.lst (xs ++ [x])))) E := by
        intro ew
        refine ⟨tyl hf1, u1, d1, rfl, hd1', smd.str_le, fun t H2 ht s2 => ?_, fun H2 hn s2 => e _ ?_ (s1.trans s2)⟩
        · have hw2 : H2 w = some (.lst us) := s2 _ _ upd_same
          have hf2 : H2 f = some (.lst (fnd.map V.str)) := s2 _ _ hf1
          have p1d := pc_pos d1
          refine ⟨_, hf2, by rw [List.length_map]; exact small4 (by omega), szs its', by rw [szs_snoc]; show szs its' < szs its' + pc d1; omega, its', us, fnd ++ [t], _, _, _, rfl, by rw [upd_ne nwf]; exact hw2, by rw [upd_same, List.map_append]; rfl,
            (hus1.mono (Tp.of s2)).mono (Tp.upd (.refl _) hf2), okr, Same.off (s1.trans s2) Hf, rfl, ?_, ?_, ?_⟩
          · rw [List.length_append, List.length_singleton]
            omega
          · intro t' ht'
            rcases List.mem_append.mp ht' with h | h
            · exact hst t' h
            · rw [List.mem_singleton.mp h]
              exact atomT_len ht
          · rw [← hout, ew, ht]
            cases outs its' with
            | none => rfl
            | some a => simp
        · rw [← hout, ew, hn]
          rfl
      refine ite2 (fun ct => ite2 (fun ck => ?_) (fun ck => ?_)) (fun ct => ?_)
      · -- a tuple, not too deep
        have ck : k1 ≤ 1000 := by
          have := of_decide_eq_true ck
          omega
        obtain ⟨ds, rfl⟩ : ∃ ds, d1 = .tuple ds := by
          cases d1 <;> first | exact ⟨_, rfl⟩ | cases ct
        cases hd1 with
        | @tup a xs _ hs ha =>
        have lx := DpAll.length ha
        have pcs : pc (.tuple ds) = 2 + pcAll ds := by simp only [pc]
        refine ⟨tyl hf1, _, hf1, by rw [List.length_map]; exact small4 (by omega), ?_⟩
        have hwA : upd (upd H1 w (.lst us)) f (.lst (fnd.map V.str ++ [V.str (Str.ofString "[")])) w = some (.lst us) := by rw [upd_ne nwf, upd_same]
        refine ⟨tyl hwA, by decide, fun p2 np2 => ⟨_, by rw [upd_ne (ne_of_none hwA np2)]; exact hwA, small4 (by omega), ?_⟩⟩
        have sA : Same H (upd (upd H1 w (.lst us)) f (.lst (fnd.map V.str ++ [V.str (Str.ofString "[")]))) := Same.off s1 Hf
        have usA : WtAll K H (upd (upd H1 w (.lst us)) f (.lst (fnd.map V.str ++ [V.str (Str.ofString "[")]))) us its' := hus1.mono (Tp.upd (.refl _) hf1)
        have nfp2 : f ≠ p2 := ne_of_none upd_same np2
        have nwp2 : w ≠ p2 := ne_of_none hwA np2
        generalize hA : upd (upd H1 w (.lst us)) f (.lst (fnd.map V.str ++ [V.str (Str.ofString "[")])) = HA at hwA np2 sA usA ⊢
        have hfA : HA f = some (.lst ((fnd ++ [Str.ofString "["]).map V.str)) := by
          rw [← hA, upd_same, List.map_append]
          rfl
        have sB : Same H (upd HA p2 (.tup [V.str (Str.ofString "]"), V.int 0])) := fun b o eb => by
          rw [upd_ne (ne_of_none (sA b o eb) np2)]
          exact sA b o eb
        have hsB : SqT K (upd (upd HA p2 (.tup [V.str (Str.ofString "]"), V.int 0])) w (.lst (us ++ [V.ref p2]))) a xs := (Tp.of (Same.off sB Hw)).sqt hs
        have hsz' : pcAll ds ≤ 4000 := by omega
        have rg : RgC ((xs.length : Int) - 1) (-1) (-1) ds.length := by
          have := RgC.neg (i := (xs.length : Int) - 1) (j := -1) (by omega) (bdl lx hsz' ) (by decide) (by decide)
          rw [show ((xs.length : Int) - 1 - -1).toNat = ds.length by omega] at this
          exact this
        refine ⟨_, rfl, _, rfl, _, len_t hsB rfl, _, _, rfl, rfl, _, rfl, _, rfl, _, _, _, _, rfl, rg, for_rangeC (lo := (xs.length : Int) - 1) (c := -1) (n := ds.length)
          (fun i σ H' => ∃ (us' : List V) (kk : Option V), σ = [some v, some (.ref w), some (.ref f), some (.ref a), some (.int (k1 : Nat)), kk] ∧ H' w = some (.lst us') ∧ H' f = some (.lst ((fnd ++ [Str.ofString "["]).map V.str)) ∧
            WtAll K H H' us' (its' ++ [.txt (Str.ofString "]")] ++ if i < ds.length then segs (k1 + 1) (ds.drop (ds.length - i)) else segAll (k1 + 1) ds) ∧ Same H H') ?_ ?_ ?_⟩
        · refine ⟨us ++ [.ref p2], k, rfl, upd_same, ?_, ?_, Same.off sB Hw⟩
          · rw [upd_ne nwf.symm, upd_ne nfp2]
            exact hfA
          · have e0 : (if 0 < ds.length then segs (k1 + 1) (ds.drop (ds.length - 0)) else segAll (k1 + 1) ds) = [] := by
              cases ds with
              | nil => rfl
              | cons x r =>
                rw [if_pos (by simp), Nat.sub_zero, List.drop_length]
                rfl
            rw [e0, List.append_nil]
            have tB : Tp HA (upd (upd HA p2 (.tup [V.str (Str.ofString "]"), V.int 0])) w (.lst (us ++ [V.ref p2]))) := Tp.upd (Tp.new (.refl _) np2) (by rw [upd_ne nwp2]; exact hwA)
            exact WtAll.snoc (usA.mono tB) ⟨p2, _, 0, rfl, SqT.of (by rw [upd_ne nwp2.symm, upd_same]; rfl), rfl, rfl⟩
        · rintro i σ H2 hi ⟨us2, kk, rfl, hw2, hf2, hus2, s2⟩
          rw [if_pos hi] at hus2
          have hl2 := WtAll.len hus2
          simp only [List.length_append, List.length_singleton, segs_len, List.length_drop] at hl2
          have hle := pcAll_len ds
          have hl3 : us2.length ≤ 19000 := by omega
          obtain ⟨j, hj⟩ : ∃ j, j + (i + 1) = ds.length := ⟨ds.length - (i + 1), by omega⟩
          have ej : (xs.length : Int) - 1 + (i : Nat) * -1 = ((j : Nat) : Int) := by omega
          obtain ⟨vj, hvj⟩ : ∃ vj, xs[j]? = some vj := ⟨xs[j]'(by omega), List.getElem?_eq_getElem _⟩
          obtain ⟨dj, hdj, dpj⟩ := DpAll.at ha hvj
          rw [ej, show ds.length - (i + 1) = j by omega]
          rw [show ds.length - i = j + 1 by omega] at hus2
          have hs2 : SqT K H2 a xs := (Tp.of s2).sqt hs
          walk_at "sx"
          refine ⟨tyl hw2, ⟨a, xs, _, _, rfl, rfl, hs2, atI_nat hvj, ?_⟩⟩
          walk_at "sx"
          refine ⟨by decide, fun p3 np3 => ?_⟩
          have nw3 : w ≠ p3 := ne_of_none hw2 np3
          have gd := push_at (y := .dat dj (k1 + 1)) (u := vj) (k := k1 + 1) Hw nwf hw2 hf2 hus2 s2 np3 ⟨dpj, rfl⟩
          rw [Int.natCast_add] at gd
          obtain ⟨g1, g2, g3⟩ := gd
          refine ⟨us2, by rw [upd_ne nw3]; exact hw2, small5 (by omega), ite2 (fun cj => ?_) (fun cj => ?_)⟩
          · have cj := of_decide_eq_true cj
            refine ⟨tyl upd_same, by decide, fun p4 np4 => ⟨_, by rw [upd_ne (ne_of_none upd_same np4)]; exact upd_same, by rw [List.length_append, List.length_singleton]; exact small5 (by omega), ?_⟩⟩
            obtain ⟨g4, g5, g6⟩ := push_at (y := .txt (Str.ofString ",")) (u := .str (Str.ofString ",")) (k := 0) Hw nwf upd_same g1 g2 g3 np4 ⟨rfl, rfl⟩
            refine ⟨g4, ?_, g6⟩
            rw [if_pos (by omega), segs_drop (k1 + 1) hdj, ← List.append_assoc, ← List.append_assoc]
            exact g5
          · have cj : j = 0 := by simpa using cj
            subst cj
            refine ⟨g1, ?_, g3⟩
            rw [if_neg (by omega), segAll_drop (k1 + 1) hdj, ← List.append_assoc]
            exact g2
        · rintro σ H2 ⟨us2, kk, rfl, hw2, hf2, hus2, s2⟩
          rw [if_neg (Nat.lt_irrefl _)] at hus2
          have ez := szs_segAll (k1 + 1) ds
          have esz : szs (its' ++ [Wt.txt (Str.ofString "]")] ++ segAll (k1 + 1) ds) = szs its' + 1 + szs (segAll (k1 + 1) ds) := by
            simp only [szs, List.map_append, List.sum_append]
            rfl
          refine ⟨_, ?_, its' ++ [.txt (Str.ofString "]")] ++ segAll (k1 + 1) ds, us2, fnd ++ [Str.ofString "["], _, _, _, rfl, hw2, hf2, hus2, ?_, s2, rfl, ?_, ?_, ?_⟩
          · rw [esz, szs_snoc]
            show _ < _ + pc (.tuple ds)
            omega
          · intro y' hy'
            rcases List.mem_append.mp hy' with h | h
            · rcases List.mem_append.mp h with h | h
              · exact okr y' h
              · rw [List.mem_singleton.mp h]
                exact (by decide : (Str.ofString "]").length ≤ 1)
            · cases smd with
              | tup _ smds => exact segAll_ok (by omega) smds y' h
          · rw [esz, List.length_append, List.length_singleton]
            omega
          · intro t' ht'
            rcases List.mem_append.mp ht' with h | h
            · exact hst t' h
            · rw [List.mem_singleton.mp h]
              decide
          · rw [← hout, outs_app, outs_segAll, outs_snoc, wp_tup ck, ← out_tup fnd []]
            rfl
      · have ck : ¬ k1 ≤ 1000 := fun z => ck (decide_eq_true (by omega))
        exact atom (wp_deep ck)
      · exact atom (wp_atom (by simpa using ct))
  · -- nothing waits
    have c : its = [] := by
      have c : ¬ 0 < ws.length := fun z => c (decide_eq_true (by omega))
      exact List.eq_nil_of_length_eq_zero (by omega)
    subst c
    have hout : wp 1 d = some fnd := by
      rw [← hout]
      show ((some []).map fun l => fnd ++ l) = _
      simp
    have hsum : ∀ l : List Str, (∀ s ∈ l, s.length ≤ 4001) → (l.map (·.length)).sum ≤ l.length * 4001 := by
      intro l
      induction l with
      | nil => intro _; exact Nat.le_refl _
      | cons x r ih =>
        intro h
        have h1 := h x (List.mem_cons_self ..)
        have h2 := ih fun s hs => h s (List.mem_cons_of_mem _ hs)
        simp only [List.map_cons, List.sum_cons, List.length_cons]
        omega
    have h1 := hsum fnd hst
    have h2 : (Str.ofString "").length = 0 := by decide
    have h3 : szs [] = 0 := rfl
    have h4 : (fnd.map (fun x => x.length)).sum + fnd.length * (Str.ofString "").length ≤ 16777216 := by
      have h0 : fnd.length ≤ 4000 := by omega
      rw [h2, Nat.mul_zero, Nat.add_zero]
      exact Nat.le_trans h1 (Nat.le_trans (Nat.mul_le_mul_right _ h0) (by decide))
    exact ⟨⟨_, rfl⟩, _, rfl, _, rfl, _, rfl, fnd, .inl (SqL.of hf), h4, q _ _ hout sm1⟩
end

end Z

set_option Elab.async false
set_option linter.all false
set_option maxRecDepth 100000
set_option maxHeartbeats 4000000
namespace Z
open PySem PySem.Spec PyProof.Rows L2 Z.R
local macro_rules | `(tactic| walk_at "sx") => `(tactic| try simp only [and_assoc, cxOf_K, cxOf_Kn, C8.tCut, rEq, rNe, sc_ii, sc_ss, sc_bb, sc_is, sc_si, sc_bs, sc_sb, tSeq, tAsg, tPar, tPar3, tC, gName, gNil, gCons, gTup, gSub, rSetL, L2.start, tVar, tOp, tUn, rI0, rI, rU, tTest, tChain, tOrV, tAndV, tNotV, tCB, tCons, tNil, tLst, tTup, tIfS, tNext, tRet, tRetN, tDrop, tAnd, tOr, tNot, tB, tIf, tSl, tNoPart, tPart, rSlL, tBM, tBM0, rAppend, rPop, rExtend, tCall, tMeth, List.map_cons, List.map_nil, List.replicate, List.length_cons, List.length_nil, List.append, List.cons_append, List.nil_append, List.append_nil, List.getElem?_cons_zero, List.getElem?_cons_succ, List.set_cons_zero, List.set_cons_succ, Option.some.injEq, exists_eq_left', exists_eq_left, exists_eq, exists_and_left, exists_const, wipe, tYes, upd_same, ↓reduceIte, decide_false, decide_true, Bool.not_true, Bool.not_false, Bool.false_eq_true, V.int.injEq, HO.lst.injEq, HO.tup.injEq, V.ref.injEq, V.str.injEq, one_inj, le_a, le_z, le_0, le_9, mem_let, mem_dig, V.bl.injEq, List.cons.injEq, and_true, true_and, reduceCtorEq, false_and, exists_false, or_false, false_or])
open SX (S)
theorem cut1 (t : List Nat) : cutS (S t) none (some 1) = S (t.take 1) := by rw [C8.cutS_slice, SX.slice_to (by decide)]; rfl
theorem cutd (t : List Nat) : cutS (S t) (some 1) none = S (t.drop 1) := by rw [C8.cutS_slice, SX.slice_from (by decide)]; rfl
theorem minus_iff (t : List Nat) : (S (t.take 1) = Str.ofString "-") ↔ t.head? = some 45 := by
  rw [show Str.ofString "-" = S [45] from rfl]
  cases t with
  | nil => exact ⟨fun h => absurd (SX.S_inj h) (by simp), fun h => by cases h⟩
  | cons c r =>
    constructor
    · intro h
      have := SX.S_inj h
      simp only [List.take_succ_cons, List.take_zero] at this
      rw [(List.cons.inj this).1]
      rfl
    · intro h
      obtain rfl := Option.some.inj h
      rfl
theorem body_eq (t : List Nat) : (if t.head? = some 45 then S (t.drop 1) else S t) = S (bodyOf t) := by
  unfold bodyOf
  by_cases h : t.head? = some 45
  · rw [if_pos h, if_pos h, List.drop_one]
  · rw [if_neg h, if_neg h]
theorem body_len (t : List Nat) : (bodyOf t).length ≤ t.length := by
  unfold bodyOf
  by_cases h : t.head? = some 45
  · rw [if_pos h, List.length_tail]
    omega
  · rw [if_neg h]
    exact Nat.le_refl _
theorem numText {t : List Nat} (h : numOk t = true) (hl : t.length ≤ 4300) : intText? (S t) = some (numV t) := by
  obtain ⟨h1, h2, h3⟩ := numOk_iff h
  unfold numV
  by_cases hm : t.head? = some 45
  · rw [if_pos hm]
    obtain ⟨r, rfl⟩ : ∃ r, t = 45 :: r := by
      cases t with
      | nil => cases hm
      | cons c r =>
        obtain rfl := Option.some.inj hm
        exact ⟨r, rfl⟩
    have e : bodyOf (45 :: r) = r := by simp [bodyOf]
    rw [e] at h1 h2
    exact intText_neg (x := S (45 :: r)) rfl h2 h1 (by rw [SX.S_len]; exact hl)
  · rw [if_neg hm]
    have e : bodyOf t = t := by simp [bodyOf, hm]
    rw [e] at h1 h2
    exact intText_digits (x := S t) h2 h1 (by rw [SX.S_len]; exact hl)
def spRWhole (C : Addr) : Sp := fun vs H Q E => ∃ (t : List Nat), vs = [.str (S t)] ∧ t.length ≤ 1000000 ∧ (∀ H', numOk t = true → (bodyOf t).length ≤ 4000 → Same H H' → Q (.int (numV t)) H') ∧ (∀ H', ¬ (numOk t = true ∧ (bodyOf t).length ≤ 4000) → Same H H' → E (.ref C) none H')
def spNumber : Sp := fun vs H Q _ => ∃ (t : List Nat), vs = [.str (S t)] ∧ t.length ≤ 4000 ∧ ∀ H', Same H H' → Q (if numOk t = true then .int (numV t) else .non) H'
section
variable {P : Program} {w : World} {K : PySem.W.Frag} {mg : Str → Option Value} {base : Heap}
theorem sc_read_whole : FnScope ["text", "body", "sign"] ["text"] (defScope s_read_whole) := ⟨rfl, rfl, rfl, by decide +kernel, rfl, by decide +kernel, by decide +kernel⟩
theorem ok_read_whole {C f : Addr} {fd : FuncData} (F : Fun K "read_whole" "read_whole" s_read_whole f fd) (T_Malformed : XC K mg "Malformed" C) (ndg : base.NoDigits)
    (b_int : mg "int" = none) (b_len : mg "len" = none) (b_all : mg "all" = none) (g_MOST_DIGITS : GV mg "MOST_DIGITS" (.int 4000)) (g_DIGITS : GV mg "DIGITS" (.str "0123456789")) : FnOk P w K mg base (L2.CX P w) 1 f fd ["text"] (spRWhole C) := by
  have nd := sc_read_whole.nd
  refine F.okX sc_read_whole (fun vs H Q E h => ?_) (fun cdv A outer s H vs Q E hr h => ?_)
  · obtain ⟨t, rfl, _⟩ := h
    rfl
  obtain ⟨t, rfl, hl, q, e⟩ := h
  refine ⟨_, (C8.pss_cut (ps_set (i := 1) nd rfl (.inl rfl) (pe_ifExp (pt_cmpR op_eq (pe_slice sl_str (pv 0) po_none (po_some pe_int)) pe_str (nomark _)) (pe_slice sl_str (pv 0) (po_some pe_int) po_none) (pv 0)))
  (C8.pss_cut (ps_if (PW.pt (pw_or (pt_not (pt_chain op_le op_le pe_int (pe_callB call_len (by rfl) b_len (by decide +kernel) (pa_cons (pv 1) pa_nil)) (pe_gv g_MOST_DIGITS))) (pw_or1 (pt_not (pt_val (pe_callB (cr_all rfl) (by rfl) b_all (by decide +kernel) (pa_cons (pe_lc (own := [("sign", 2)]) rfl nd (pi_str (pv 1)) (blkOk_by (N := ["text", "body", "sign"]) (sc := defScope s_read_whole) (by decide +kernel)) (fun _ _ _ _ _ => (pg_name (i := 2) nd rfl (.inl rfl))) (fun _ _ _ _ _ => pts_nil) (fun _ _ _ _ _ => (pe_cmpR op_in_sign (pv 2) (pe_gv g_DIGITS) (by rfl)))) pa_nil))))))) (pss_one (ps_rz T_Malformed rfl (takes_of rfl rfl rfl rfl))) pss_nil)
  (pss_cons (ps_if (PW.pt (pw_and (pt_cmpR op_eq (pe_ix ix_str (pv 1) pe_int (fun _ _ => rfl)) pe_str (nomark _)) (pw_and1 (pt_cmpR op_ne (pv 0) pe_str (nomark _))))) (pss_one (ps_rz T_Malformed rfl (takes_of rfl rfl rfl rfl))) pss_nil)
  (pss_one (ps_ret (pe_callTy (call_int_any ndg) (by rfl) b_int (by decide +kernel) (pa_cons (pv 0) pa_nil))))))), ?_⟩
  walk_at "sx"
  have hs : (S t).length ≤ sizeLine := by
    rw [SX.S_len]
    exact Nat.le_trans hl (by decide)
  have hb := body_len t
  have hbs : (S (bodyOf t)).length ≤ sizeLine := by
    rw [SX.S_len]
    exact Nat.le_trans (Nat.le_trans hb hl) (by decide)
  have lenb : ((S (bodyOf t)).length : Int) = ((bodyOf t).length : Int) := by rw [SX.S_len]
  refine ⟨fun σ H' => σ = [some (.str (S t)), some (.str (S (bodyOf t))), none] ∧ H' = H, ⟨S t, rfl, hs, ?_⟩, ?_⟩
  · rw [cut1]
    walk_at "sx"
    have e0 := body_eq t
    refine ite2 (fun c => ?_) (fun c => ?_)
    · have c := (minus_iff t).mp (of_decide_eq_true c)
      rw [if_pos c] at e0
      refine ⟨S t, rfl, hs, ?_⟩
      rw [cutd, e0]
      exact ⟨rfl, rfl⟩
    · have c : ¬ t.head? = some 45 := fun z => c (decide_eq_true ((minus_iff t).mpr z))
      rw [if_neg c] at e0
      rw [e0]
  · rintro σ H1 ⟨rfl, rfl⟩
    refine ⟨fun σ H' => σ = [some (.str (S t)), some (.str (S (bodyOf t))), none] ∧ Same H1 H' ∧ (bodyOf t).all isDig = true ∧ bodyOf t ≠ [] ∧ (bodyOf t).length ≤ 4000, ?_, ?_⟩
    · walk_at "sx"
      refine ⟨_, len_s hbs rfl, ?_⟩
      rw [lenb]
      refine ite2 (fun c1 => ite2 (fun c2 => ?_) (fun c2 => ?_)) (fun c1 => ?_)
      · refine e _ (fun z => ?_) (.refl _)
        simp only [Bool.not_eq_true', decide_eq_false_iff_not] at c2
        have := z.2
        omega
      · simp only [Bool.not_eq_true, Bool.not_eq_false', decide_eq_true_eq] at c2
        simp only [decide_eq_true_eq] at c1
        have hne : bodyOf t ≠ [] := fun z => by
          rw [z] at c1
          exact absurd c1 (by decide)
        refine ⟨_, rfl, S (bodyOf t), rfl, fun D nD => lc_map (walk_sgs (S (bodyOf t))) (f := fun v => match v with | .str ⟨#[c]⟩ => .bl (isDig c) | _ => .non) (by rw [sgs_len]; exact hbs) (fun _ => trivial) ?_ ?_⟩
        · intro y hy acc R hR
          obtain ⟨c, _, rfl⟩ := List.mem_map.mp hy
          have hR : R (.bl (isDig c)) _ := hR
          simp only [sg]
          walk_at "sx"
          try rw [mem_dig]
          exact hR
        · refine all_of (all_sgs (S (bodyOf t)) isDig _ fun c => rfl) ?_
          refine ⟨_, rfl, ?_⟩
          refine ite2 (fun c3 => ?_) (fun c3 => ?_)
          · refine e _ (fun z => ?_) (same_upd nD)
            have := (numOk_iff z.1).2.1
            rw [Bool.not_eq_true'] at c3
            have h4 : (bodyOf t).all isDig = false := c3
            rw [digs_of this] at h4
            cases h4
          · rw [Bool.not_eq_true, Bool.not_eq_false'] at c3
            exact ⟨same_upd nD, c3, hne, by omega⟩
      · simp only [decide_eq_true_eq] at c1
        refine e _ (fun z => ?_) (.refl _)
        have := (numOk_iff z.1).1
        have : 0 < (bodyOf t).length := List.length_pos_iff.mpr this
        omega
    · rintro σ H2 ⟨rfl, s1, hd, hne, h4⟩
      walk_at "sx"
      obtain ⟨c, hc⟩ : ∃ c, (bodyOf t).head? = some c := by
        cases e : bodyOf t with
        | nil => exact absurd e hne
        | cons c r => exact ⟨c, rfl⟩
      refine ixs (K := K) hbs (head_at (S (bodyOf t)) c hc) ⟨rfl, ?_⟩
      walk_at "sx"
      have ok0 : numOk t = !(decide ((bodyOf t).head? = some 48) && decide (t ≠ [48])) := by
        unfold numOk
        rw [decide_eq_true hne, hd]
        rfl
      have e48 : (⟨#[c]⟩ : Str) = Str.ofString "0" ↔ (bodyOf t).head? = some 48 := by
        rw [hc, show (⟨#[c]⟩ : Str) = S [c] from rfl, show Str.ofString "0" = S [48] from rfl]
        exact ⟨fun z => by rw [(List.cons.inj (SX.S_inj z)).1], fun z => by rw [Option.some.inj z]⟩
      have e1 : S t = Str.ofString "0" ↔ t = [48] := ⟨fun z => SX.S_inj z, fun z => by rw [z]; rfl⟩
      have fin : numOk t = true → ∃ x, intText? (S t) = some x ∧ (S t).length ≤ sizeLine ∧ Q (V.int x) H2 := fun z => by
        refine ⟨_, numText z ?_, hs, q _ z h4 s1⟩
        have : t.length ≤ (bodyOf t).length + 1 := by
          unfold bodyOf
          by_cases h : t.head? = some 45
          · rw [if_pos h, List.length_tail]
            omega
          · rw [if_neg h]
            omega
        omega
      refine ite2 (fun c1 => ite2 (fun c2 => ?_) (fun c2 => ?_)) (fun c1 => ?_)
      · refine e _ (fun z => ?_) s1
        have z := z.1
        rw [ok0] at z
        have c1 := e48.mp (of_decide_eq_true c1)
        rw [Bool.not_eq_true', decide_eq_false_iff_not, e1] at c2
        rw [decide_eq_true c1, decide_eq_true c2] at z
        cases z
      · have c2 : t = [48] := by
          rw [Bool.not_eq_true, Bool.not_eq_false', decide_eq_true_eq, e1] at c2
          exact c2
        exact fin (by rw [ok0, decide_eq_false (Classical.not_not.mpr c2), Bool.and_false]; rfl)
      · have c1 : ¬ (bodyOf t).head? = some 48 := fun z => c1 (decide_eq_true (e48.mpr z))
        exact fin (by rw [ok0, decide_eq_false c1]; rfl)
end

end Z

set_option Elab.async false
set_option linter.all false
set_option maxRecDepth 100000
set_option maxHeartbeats 4000000
namespace Z
open PySem PySem.Spec PyProof.Rows L2 Z.R
local macro_rules | `(tactic| walk_at "sx") => `(tactic| try simp only [and_assoc, cxOf_K, cxOf_Kn, C8.tCut, rEq, rNe, sc_ii, sc_ss, sc_bb, sc_is, sc_si, sc_bs, sc_sb, tSeq, tAsg, tPar, tPar3, tC, gName, gNil, gCons, gTup, gSub, rSetL, L2.start, tVar, tOp, tUn, rI0, rI, rU, tTest, tChain, tOrV, tAndV, tNotV, tCB, tCons, tNil, tLst, tTup, tIfS, tNext, tRet, tRetN, tDrop, tAnd, tOr, tNot, tB, tIf, tSl, tNoPart, tPart, rSlL, tBM, tBM0, rAppend, rPop, rExtend, tCall, tMeth, List.map_cons, List.map_nil, List.replicate, List.length_cons, List.length_nil, List.append, List.cons_append, List.nil_append, List.append_nil, List.getElem?_cons_zero, List.getElem?_cons_succ, List.set_cons_zero, List.set_cons_succ, Option.some.injEq, exists_eq_left', exists_eq_left, exists_eq, exists_and_left, exists_const, wipe, tYes, upd_same, ↓reduceIte, decide_false, decide_true, Bool.not_true, Bool.not_false, Bool.false_eq_true, V.int.injEq, HO.lst.injEq, HO.tup.injEq, V.ref.injEq, V.str.injEq, one_inj, le_a, le_z, le_0, le_9, mem_let, mem_dig, V.bl.injEq, List.cons.injEq, and_true, true_and, reduceCtorEq, false_and, exists_false, or_false, false_or])
open SX (S)
theorem any_of {K : PySem.W.Frag} {H : Hp} {D : Addr} {l : List Nat} {p : Nat → Bool} {xs : List V} {Q : VK} (e : xs = (l.map p).map V.bl) (q : Q (.bl (l.any p)) (upd H D (.lst xs))) : rAny K [.ref D] (upd H D (.lst xs)) Q := by
  subst e
  refine ⟨D, l.map p, rfl, SqL.of upd_same, ?_⟩
  rw [List.any_map]
  exact q
section
variable {P : Program} {w : World} {K : PySem.W.Frag} {mg : Str → Option Value} {base : Heap}
theorem sc__law_number : FnScope ["text", "body", "sign"] ["text"] (defScope s__law_number) := ⟨rfl, rfl, rfl, by decide +kernel, rfl, by decide +kernel, by decide +kernel⟩
theorem ok_law_number {f : Addr} {fd : FuncData} (F : Fun K "_law_number" "_law_number" s__law_number f fd) (ndg : base.NoDigits)
    (b_int : mg "int" = none) (b_any : mg "any" = none) : FnOk P w K mg base CX0 1 f fd ["text"] spNumber := by
  have nd := sc__law_number.nd
  refine F.ok sc__law_number (fun vs H Q E h => ?_) (fun cdv A outer s H vs Q E hr h => ?_)
  · obtain ⟨t, rfl, _⟩ := h
    rfl
  obtain ⟨t, rfl, hl, q⟩ := h
  refine ⟨_, (C8.pss_cut (ps_set (i := 1) nd rfl (.inl rfl) (pe_ifExp (pt_cmpR op_eq (pe_slice sl_str (pv 0) po_none (po_some pe_int)) pe_str (nomark _)) (pe_slice sl_str (pv 0) (po_some pe_int) po_none) (pv 0)))
  (pss_cons (ps_if (PW.pt (pw_or (pt_cmpR op_eq (pv 1) pe_str (nomark _)) (pw_or (pt_val (pe_callB (cr_any rfl) (by rfl) b_any (by decide +kernel) (pa_cons (pe_lc (own := [("sign", 2)]) rfl nd (pi_str (pv 1)) (blkOk_by (N := ["text", "body", "sign"]) (sc := defScope s__law_number) (by decide +kernel)) (fun _ _ _ _ _ => (pg_name (i := 2) nd rfl (.inl rfl))) (fun _ _ _ _ _ => pts_nil) (fun _ _ _ _ _ => (pe_cmpR op_notIn_sign (pv 2) pe_str (by rfl)))) pa_nil))) (pw_or1 (PW.pt (pw_and (pt_cmpR op_eq (pe_ix ix_str (pv 1) pe_int (fun _ _ => rfl)) pe_str (nomark _)) (pw_and1 (pt_cmpR op_ne (pv 0) pe_str (nomark _))))))))) (pss_one (ps_ret pe_non)) pss_nil)
  (pss_one (ps_ret (pe_callTy (call_int_any ndg) (by rfl) b_int (by decide +kernel) (pa_cons (pv 0) pa_nil)))))), ?_⟩
  walk_at "sx"
  have hs : (S t).length ≤ sizeLine := by
    rw [SX.S_len]
    exact Nat.le_trans hl (by decide)
  have hb := body_len t
  have hbs : (S (bodyOf t)).length ≤ sizeLine := by
    rw [SX.S_len]
    exact Nat.le_trans (Nat.le_trans hb hl) (by decide)
  have no : numOk t = false → ∀ H', Same H H' → Q .non H' := fun z H' s' => by
    have := q H' s'
    rw [z, if_neg Bool.false_ne_true] at this
    exact this
  refine ⟨fun σ H' => σ = [some (.str (S t)), some (.str (S (bodyOf t))), none] ∧ H' = H, ⟨S t, rfl, hs, ?_⟩, ?_⟩
  · rw [cut1]
    walk_at "sx"
    have e0 := body_eq t
    refine ite2 (fun c => ?_) (fun c => ?_)
    · have c := (minus_iff t).mp (of_decide_eq_true c)
      rw [if_pos c] at e0
      refine ⟨S t, rfl, hs, ?_⟩
      rw [cutd, e0]
      exact ⟨rfl, rfl⟩
    · have c : ¬ t.head? = some 45 := fun z => c (decide_eq_true ((minus_iff t).mpr z))
      rw [if_neg c] at e0
      rw [e0]
  · rintro σ H1 ⟨rfl, rfl⟩
    walk_at "sx"
    refine ite2 (fun c => ?_) (fun c => ?_)
    · have c : bodyOf t = [] := SX.S_inj (of_decide_eq_true c)
      refine no ?_ _ (.refl _)
      unfold numOk
      rw [decide_eq_false (Classical.not_not.mpr c)]
      rfl
    have hne : bodyOf t ≠ [] := fun z => c (decide_eq_true (by rw [z]; rfl))
    refine ⟨_, rfl, S (bodyOf t), rfl, fun D nD => lc_map (walk_sgs (S (bodyOf t))) (f := fun v => match v with | .str ⟨#[c]⟩ => .bl (!isDig c) | _ => .non) (by rw [sgs_len]; exact hbs) (fun _ => trivial) ?_ ?_⟩
    · intro y hy acc R hR
      obtain ⟨c, _, rfl⟩ := List.mem_map.mp hy
      have hR : R (.bl (!isDig c)) _ := hR
      simp only [sg]
      walk_at "sx"
      try rw [mem_dig]
      exact hR
    · refine any_of (all_sgs (S (bodyOf t)) (fun c => !isDig c) _ fun c => rfl) ?_
      have s1 := same_upd (o := .lst ((sgs (S (bodyOf t))).map (fun v => match v with | .str ⟨#[c]⟩ => .bl (!isDig c) | _ => .non))) nD
      generalize L2.upd _ D _ = H2 at s1 ⊢
      have ea : (bodyOf t).any (fun c => !isDig c) = !(bodyOf t).all isDig := by
        rw [List.all_eq_not_any_not, Bool.not_not]
      refine ⟨_, rfl, ?_⟩
      refine ite2 (fun c3 => ?_) (fun c3 => ?_)
      · have c3 : (bodyOf t).any (fun c => !isDig c) = true := c3
        rw [ea, Bool.not_eq_true'] at c3
        refine no ?_ _ s1
        unfold numOk
        rw [c3, Bool.and_false]
        rfl
      · have hd : (bodyOf t).all isDig = true := by
          have c3 : ¬ (bodyOf t).any (fun c => !isDig c) = true := c3
          rw [ea, Bool.not_eq_true, Bool.not_eq_false'] at c3
          exact c3
        walk_at "sx"
        obtain ⟨c, hc⟩ : ∃ c, (bodyOf t).head? = some c := by
          cases e : bodyOf t with
          | nil => exact absurd e hne
          | cons c r => exact ⟨c, rfl⟩
        refine ixs (K := K) hbs (head_at (S (bodyOf t)) c hc) ⟨rfl, ?_⟩
        walk_at "sx"
        have ok0 : numOk t = !(decide ((bodyOf t).head? = some 48) && decide (t ≠ [48])) := by
          unfold numOk
          rw [decide_eq_true hne, hd]
          rfl
        have e48 : (⟨#[c]⟩ : Str) = Str.ofString "0" ↔ (bodyOf t).head? = some 48 := by
          rw [hc, show (⟨#[c]⟩ : Str) = S [c] from rfl, show Str.ofString "0" = S [48] from rfl]
          exact ⟨fun z => by rw [(List.cons.inj (SX.S_inj z)).1], fun z => by rw [Option.some.inj z]⟩
        have e1 : S t = Str.ofString "0" ↔ t = [48] := ⟨fun z => SX.S_inj z, fun z => by rw [z]; rfl⟩
        have fin : numOk t = true → ∃ x, intText? (S t) = some x ∧ (S t).length ≤ sizeLine ∧ Q (V.int x) H2 := fun z => by
          refine ⟨_, numText z (by omega), hs, ?_⟩
          have := q H2 s1
          rw [z, if_pos rfl] at this
          exact this
        refine ite2 (fun c1 => ite2 (fun c2 => ?_) (fun c2 => ?_)) (fun c1 => ?_)
        · refine no ?_ _ s1
          rw [ok0]
          have c1 := e48.mp (of_decide_eq_true c1)
          rw [Bool.not_eq_true', decide_eq_false_iff_not, e1] at c2
          rw [decide_eq_true c1, decide_eq_true c2]
          rfl
        · have c2 : t = [48] := by
            rw [Bool.not_eq_true, Bool.not_eq_false', decide_eq_true_eq, e1] at c2
            exact c2
          exact fin (by rw [ok0, decide_eq_false (Classical.not_not.mpr c2), Bool.and_false]; rfl)
        · have c1 : ¬ (bodyOf t).head? = some 48 := fun z => c1 (decide_eq_true (e48.mpr z))
          exact fin (by rw [ok0, decide_eq_false c1]; rfl)
end

end Z

set_option Elab.async false
set_option linter.all false
set_option maxRecDepth 100000
set_option maxHeartbeats 4000000

namespace Z
open PySem PySem.Spec PyProof.Rows L2 Z.R
local macro_rules | `(tactic| walk_at "sx") => `(tactic| try simp only [and_assoc, cxOf_K, cxOf_Kn, C8.tCut, rEq, rNe, sc_ii, sc_ss, sc_bb, sc_is, sc_si, sc_bs, sc_sb, tSeq, tAsg, tPar, tPar3, tC, gName, gNil, gCons, gTup, gSub, rSetL, L2.start, tVar, tOp, tUn, rI0, rI, rU, tTest, tChain, tOrV, tAndV, tNotV, tCB, tCons, tNil, tLst, tTup, tIfS, tNext, tRet, tRetN, tDrop, tAnd, tOr, tNot, tB, tIf, tSl, tFld, sFld, putF, tNoPart, tPart, rSlL, tBM, tBM0, rAppend, rPop, rExtend, tCall, tMeth, List.map_cons, List.map_nil, List.replicate, List.length_cons, List.length_nil, List.append, List.cons_append, List.nil_append, List.append_nil, List.getElem?_cons_zero, List.getElem?_cons_succ, List.set_cons_zero, List.set_cons_succ, Option.some.injEq, exists_eq_left', exists_eq_left, exists_eq, exists_and_left, exists_const, wipe, tYes, upd_same, ↓reduceIte, decide_false, decide_true, Bool.not_true, Bool.not_false, Bool.false_eq_true, V.int.injEq, HO.lst.injEq, HO.tup.injEq, V.ref.injEq, V.str.injEq, one_inj, le_a, le_z, le_0, le_9, mem_let, mem_dig, V.bl.injEq, List.cons.injEq, and_true, true_and, reduceCtorEq, false_and, exists_false, or_false, false_or])
open SX (S)
/-- the dict of the signs that are atoms -/
structure Signs (K : PySem.W.Frag) (w : World) (d : Addr) : Prop where
  kd : ∃ es n, KDict K w d es n
  at_ : ∀ z : Str, ∃ t : Tok, PySem.W.nsIn K d z = some (if z = Str.ofString "+" then some (.bool true) else if z = Str.ofString "-" then some (.bool false) else if z = Str.ofString "." then some (.str (S []) t) else none)
def spRAtom (K : PySem.W.Frag) (C : Addr) : Sp := fun vs H Q E => ∃ (t : List Nat), vs = [.str (S t)] ∧ t.length ≤ 1000000 ∧ (∀ d v H', atomR t = some d → Dp K H' v d → Same H H' → Q v H') ∧ (∀ H', atomR t = none → Same H H' → E (.ref C) none H')
section
variable {P : Program} {w : World} {K : PySem.W.Frag} {mg : Str → Option Value} {base : Heap}
theorem sc_read_atom : FnScope ["piece"] ["piece"] (defScope s_read_atom) := ⟨rfl, rfl, rfl, by decide +kernel, rfl, by decide +kernel, by decide +kernel⟩
theorem ok_read_atom {C f d : Addr} {fd : FuncData} (F : Fun K "read_atom" "read_atom" s_read_atom f fd) (c_read_whole : ClX P w K mg base 1 "read_whole" (spRWhole C)) (c_is_word : Cl P w K mg base 1 "is_word" (spWord K))
    (S_d : Signs K w d) (g_SIGNS : GV mg "SIGNS" (.ref d)) : FnOk P w K mg base (L2.CX P w) 2 f fd ["piece"] (spRAtom K C) := by
  have nd := sc_read_atom.nd
  refine F.okX sc_read_atom (fun vs H Q E h => ?_) (fun cdv A outer s H vs Q E hr h => ?_)
  · obtain ⟨t, rfl, _⟩ := h
    rfl
  obtain ⟨t, rfl, hl, q, e⟩ := h
  obtain ⟨es, n, D⟩ := S_d.kd
  obtain ⟨tk, hz⟩ := S_d.at_ (S t)
  refine ⟨_, (pss_cons (ps_if (pt_cmpR (op_in_kd D) (pv 0) (pe_gv g_SIGNS) (by rfl)) (pss_one (ps_ret (pe_ix ix_kdict (pe_gv g_SIGNS) (pv 0) (fun _ _ => rfl)))) pss_nil)
  (pss_one (ps_ret (pe_ifExp (pt_val (pcl c_is_word hr (by omega) (pa_cons (pv 0) pa_nil))) (pv 0) (pclX c_read_whole hr (by omega) (passes_call (takes_of rfl rfl rfl rfl) (fun _ _ _ _ h => h)) (pa_cons (pv 0) pa_nil)))))), ?_⟩
  walk_at "sx"
  have e1 : S t = Str.ofString "+" ↔ t = [43] := ⟨fun z => SX.S_inj z, fun z => by rw [z]; rfl⟩
  have e2 : S t = Str.ofString "-" ↔ t = [45] := ⟨fun z => SX.S_inj z, fun z => by rw [z]; rfl⟩
  have e3 : S t = Str.ofString "." ↔ t = [46] := ⟨fun z => SX.S_inj z, fun z => by rw [z]; rfl⟩
  simp only [e1, e2, e3] at hz
  have hs : (S t).length ≤ sizeLine := by
    rw [SX.S_len]
    exact Nat.le_trans hl (by decide)
  have sign : ∀ (dd : PyData) (v : V) (u : Value), PySem.W.nsIn K d (S t) = some (some u) → L2.RelV v u → atomR t = some dd → (∀ H', Dp K H' v dd) → rIxD K w (V.ref d) (V.str (S t)) H Q := fun dd v u hu ru ha hd =>
    ⟨d, S t, v, rfl, rfl, ⟨es, n, u, D.at_, D.lit, hu, ru⟩, q dd v _ ha (hd _) (.refl _)⟩
  refine ⟨_, hz, ?_⟩
  by_cases c1 : t = [43]
  · rw [if_pos c1] at hz ⊢
    exact sign (.bool true) (.bl true) _ hz rfl (by unfold atomR; rw [if_pos c1]) fun _ => .bl _
  rw [if_neg c1] at hz ⊢
  by_cases c2 : t = [45]
  · rw [if_pos c2] at hz ⊢
    exact sign (.bool false) (.bl false) _ hz rfl (by unfold atomR; rw [if_neg c1, if_pos c2]) fun _ => .bl _
  rw [if_neg c2] at hz ⊢
  by_cases c3 : t = [46]
  · rw [if_pos c3] at hz ⊢
    exact sign (.str (S [])) (.str (S [])) _ hz ⟨_, rfl⟩ (by unfold atomR; rw [if_neg c1, if_neg c2, if_pos c3]) fun _ => .str _
  rw [if_neg c3] at hz ⊢
  have ea : atomR t = if isWd t = true then some (.str (S t)) else if numOk t = true ∧ (bodyOf t).length ≤ 4000 then some (.int (numV t)) else none := by
    unfold atomR
    rw [if_neg c1, if_neg c2, if_neg c3]
  refine iteF ⟨_, .str (S t), rfl, .str _, fun x e => by cases e; exact hs, fun H1 s1 => ⟨_, rfl, ?_⟩⟩
  have ew : wordD (.str (S t)) = isWd t := rfl
  rw [ew]
  refine ite2 (fun c4 => ?_) (fun c4 => ?_)
  · exact q _ _ _ (by rw [ea, if_pos c4]) (.str _) s1
  · refine ⟨t, rfl, hl, fun H2 h1 h2 s2 => q _ _ _ (by rw [ea, if_neg c4, if_pos ⟨h1, h2⟩]) (.int _) (s1.trans s2), fun H2 hn s2 => e _ (by rw [ea, if_neg c4, if_neg hn]) (s1.trans s2)⟩
end
theorem signs_mk {K : PySem.W.Frag} {w : World} {d : Addr} {n : Nat} {h1 h2 h3 : Int} {t1 t2 t3 t4 : Tok} (l : K.lookup d = some ⟨.type "dict", none, .dict #[⟨h1, .str "+" t1, .bool true⟩, ⟨h2, .str "-" t2, .bool false⟩, ⟨h3, .str "." t3, .str "" t4⟩] n, #[]⟩)
    (e1 : h1 = PyData.keyHash w.params "+") (e2 : h2 = PyData.keyHash w.params "-") (e3 : h3 = PyData.keyHash w.params ".") (lo : (d == sysModules) = false) : Signs K w d := by
  refine ⟨⟨_, _, ⟨l, ⟨⟨_, _, rfl, e1⟩, ⟨_, _, rfl, e2⟩, ⟨_, _, rfl, e3⟩, trivial⟩, lo⟩⟩, fun z => ⟨t4, ?_⟩⟩
  have b : ∀ x : Str, (x == z) = decide (z = x) := fun x => by
    rw [Bool.eq_iff_iff, beq_iff_eq, decide_eq_true_eq]
    exact eq_comm
  unfold PySem.W.nsIn
  rw [l]
  simp only [List.find?_cons, List.find?_nil, Value.isStr, b]
  by_cases c1 : z = Str.ofString "+"
  · simp only [decide_eq_true c1, if_pos c1]
  rw [if_neg c1]
  simp only [decide_eq_false c1]
  by_cases c2 : z = Str.ofString "-"
  · simp only [decide_eq_true c2, if_pos c2]
  rw [if_neg c2]
  simp only [decide_eq_false c2]
  by_cases c3 : z = Str.ofString "."
  · simp only [decide_eq_true c3, if_pos c3]
    rfl
  rw [if_neg c3]
  simp only [decide_eq_false c3]
  rfl

end Z

set_option Elab.async false
set_option linter.all false
set_option maxRecDepth 100000
set_option maxHeartbeats 4000000
namespace Z
open PySem PySem.Spec PyProof.Rows L2 Z.R
local macro_rules | `(tactic| walk_at "sx") => `(tactic| try simp only [and_assoc, cxOf_K, cxOf_Kn, C8.tCut, rEq, rNe, sc_ii, sc_ss, sc_bb, sc_is, sc_si, sc_bs, sc_sb, tSeq, tAsg, tPar, tPar3, tC, gName, gNil, gCons, gTup, gSub, rSetL, L2.start, tVar, tOp, tUn, rI0, rI, rU, tTest, tChain, tOrV, tAndV, tNotV, tCB, tCons, tNil, tLst, tTup, tIfS, tNext, tRet, tRetN, tDrop, tAnd, tOr, tNot, tB, tIf, tSl, tFld, sFld, putF, tNoPart, tPart, rSlL, tBM, tBM0, rAppend, rPop, rExtend, tCall, tMeth, List.map_cons, List.map_nil, List.replicate, List.length_cons, List.length_nil, List.append, List.cons_append, List.nil_append, List.append_nil, List.getElem?_cons_zero, List.getElem?_cons_succ, List.set_cons_zero, List.set_cons_succ, Option.some.injEq, exists_eq_left', exists_eq_left, exists_eq, exists_and_left, exists_const, wipe, tYes, upd_same, ↓reduceIte, decide_false, decide_true, Bool.not_true, Bool.not_false, Bool.false_eq_true, V.int.injEq, HO.lst.injEq, HO.tup.injEq, V.ref.injEq, V.str.injEq, one_inj, le_a, le_z, le_0, le_9, mem_let, mem_dig, V.bl.injEq, List.cons.injEq, and_true, true_and, reduceCtorEq, false_and, exists_false, or_false, false_or])
open SX (S)
theorem mem_delim (c : Nat) : decide (c ∈ (Str.ofString "[],").cps.toList) = delim c := by
  have e : (Str.ofString "[],").cps.toList = [91, 93, 44] := by decide +kernel
  rw [e, delim, Bool.eq_iff_iff]
  simp only [decide_eq_true_eq, List.mem_cons, List.not_mem_nil, or_false, Bool.or_eq_true, beq_iff_eq, or_assoc]
theorem cut_mid (t : List Nat) {i j : Nat} (h1 : i ≤ j) (h2 : j ≤ t.length) : cutS (S t) (some (i : Nat)) (some (j : Nat)) = S ((t.drop i).take (j - i)) := by
  unfold cutS
  rw [HT.sIx_nat, HT.sIx_nat, SX.S_len, Nat.min_eq_left h2, Nat.min_eq_left (Nat.le_trans h1 h2)]
theorem cut_from (t : List Nat) {i : Nat} (h1 : i ≤ t.length) : cutS (S t) (some (i : Nat)) none = S (t.drop i) := by
  unfold cutS
  rw [HT.sIx_nat, HT.sIx_none, SX.S_len, Nat.min_eq_left h1]
  show S ((t.drop i).take (t.length - i)) = _
  rw [List.take_of_length_le (by rw [List.length_drop]; exact Nat.le_refl _)]
def spPieces : Sp := fun vs H Q _ => ∃ (t : List Nat), vs = [.str (S t)] ∧ t.length ≤ 1000000 ∧ ∀ p H', H p = none → H' p = some (.lst ((pcs [] t).map fun x => .str (S x))) → Same H H' → Q (.ref p) H'
section
variable {P : Program} {w : World} {K : PySem.W.Frag} {mg : Str → Option Value} {base : Heap}
theorem sc_pieces_of : FnScope ["text", "found", "start", "place", "sign"] ["text"] (defScope s_pieces_of) := ⟨rfl, rfl, rfl, by decide +kernel, rfl, by decide +kernel, by decide +kernel⟩
theorem ok_pieces_of {f : Addr} {fd : FuncData} (F : Fun K "pieces_of" "pieces_of" s_pieces_of f fd) (b_enumerate : mg "enumerate" = none) (b_len : mg "len" = none) : FnOk P w K mg base CX0 1 f fd ["text"] spPieces := by
  have nd := sc_pieces_of.nd
  refine F.ok sc_pieces_of (fun vs H Q E h => ?_) (fun cdv A outer s H vs Q E hr h => ?_)
  · obtain ⟨t, rfl, _⟩ := h
    rfl
  obtain ⟨t, rfl, hl, q⟩ := h
  refine ⟨_, (pss_cons (ps_par (i := 1) (j := 2) rfl nd rfl rfl (by decide) rfl rfl (pa_cons (pe_lst pa_nil) (pa_cons pe_int pa_nil)) (by rfl))
  (C8.pss_cut (ps_for PassesOwn.never rfl (pi_enumS (by rfl) b_enumerate (pa_cons (pv 0) pa_nil)) (pg_tup (n := 2) (by rfl) (pgs_cons (pg_name (i := 3) nd rfl (.inl rfl)) (pgs_cons (pg_name (i := 4) nd rfl (.inl rfl)) pgs_nil)))
    (pss_one (ps_if (pt_cmpR op_in_sign (pv 4) pe_str (by rfl)) (pss_cons (ps_if (pt_cmpR op_lt (pv 2) (pv 3) (nomark _)) (pss_one (ps_expr (pe_bm PySem.F.plainAttrs_list PySem.F.slot_list_append PySem.F.type_list_append mt_append (pv 1) (pa_cons (pe_slice sl_str (pv 0) (po_some (pv 2)) (po_some (pv 3))) pa_nil)))) pss_nil)
  (pss_cons (ps_expr (pe_bm PySem.F.plainAttrs_list PySem.F.slot_list_append PySem.F.type_list_append mt_append (pv 1) (pa_cons (pv 4) pa_nil)))
  (pss_one (ps_set (i := 2) nd rfl (.inl rfl) (pe_op op_add (pv 3) pe_int))))) pss_nil)))
  (pss_one (ps_ret (pe_op op_cat (pv 1) (pe_ifExp (pt_cmpR op_lt (pv 2) (pe_callB call_len (by rfl) b_len (by decide +kernel) (pa_cons (pv 0) pa_nil)) (nomark _)) (pe_lst (pa_cons (pe_slice sl_str (pv 0) (po_some (pv 2)) po_none) pa_nil)) (pe_lst pa_nil))))))), ?_⟩
  have hs : (S t).length ≤ sizeLine := by
    rw [SX.S_len]
    exact Nat.le_trans hl (by decide)
  walk_at "sx"
  refine ⟨by decide, fun p np => ?_⟩
  refine ⟨fun σ H' => ∃ (fnd : List (List Nat)) (st : Nat) (pl sg : Option V), σ = [some (.str (S t)), some (.ref p), some (.int (st : Nat)), pl, sg] ∧ H' p = some (.lst (fnd.map fun x => .str (S x))) ∧ Same H H' ∧ st ≤ t.length ∧ fnd.length ≤ 2 * t.length ∧
      fnd ++ (if t.drop st = [] then [] else [t.drop st]) = pcs [] t, ?_, ?_⟩
  · refine ⟨_, rfl, S t, rfl, for_it (walk_enumS (S t)) (fun i σ H' => ∃ (fnd : List (List Nat)) (st : Nat) (pl sg : Option V), σ = [some (.str (S t)), some (.ref p), some (.int (st : Nat)), pl, sg] ∧ H' p = some (.lst (fnd.map fun x => .str (S x))) ∧ Same H H' ∧
        st ≤ i ∧ i ≤ t.length ∧ fnd.length ≤ 2 * i ∧ fnd ++ pcs ((t.drop st).take (i - st)) (t.drop i) = pcs [] t) ?_ (fun _ _ _ _ _ => trivial) ?_ ?_⟩
    · exact ⟨[], 0, none, none, rfl, upd_same, same_upd np, Nat.le_refl _, Nat.zero_le _, Nat.zero_le _, by simp⟩
    · rintro i x σ H1 H2 hi ⟨fnd, st, pl, sg, rfl, hf, s1, h1, h2, h3, h4⟩ ⟨T, c, rfl, nT, rfl, hc⟩
      have hpT : p ≠ T := ne_of_none hf nT
      have hi : i < t.length := by simpa [S] using hi
      have hc : t[i]? = some c := by simpa [S] using hc
      walk_at "sx"
      refine ⟨_, SqT.of upd_same, rfl, ?_⟩
      walk_at "sx"
      have hd : t.drop i = c :: t.drop (i + 1) := by
        rw [List.drop_eq_getElem_cons hi]
        congr 1
        exact (List.getElem?_eq_some_iff.mp hc).2
      have htk : (t.drop st).take (i + 1 - st) = (t.drop st).take (i - st) ++ [c] := by
        rw [show i + 1 - st = (i - st) + 1 by omega, List.take_add_one, List.getElem?_drop, show st + (i - st) = i by omega, hc]
        rfl
      have hlt : ((t.drop st).take (i - st)).length = i - st := by
        rw [List.length_take, List.length_drop]
        omega
      have hfT : upd H1 T (.tup [V.int (i : Nat), V.str ⟨#[c]⟩]) p = some (.lst (fnd.map fun x => .str (S x))) := by
        rw [upd_ne hpT]
        exact hf
      have sT : Same H (upd H1 T (.tup [V.int (i : Nat), V.str ⟨#[c]⟩])) := s1.trans (same_upd nT)
      have lfn : (fnd.map fun x => V.str (S x)).length = fnd.length := List.length_map _
      rw [mem_delim]
      rw [hd] at h4
      simp only [pcs] at h4
      refine ite2 (fun cd => ?_) (fun cd => ?_)
      · rw [if_pos cd] at h4
        have nil : (t.drop (i + 1)).take (i + 1 - (i + 1)) = [] := by rw [Nat.sub_self, List.take_zero]
        have e0 : pcs ((t.drop (i + 1)).take (i + 1 - (i + 1))) (t.drop (i + 1)) = pcs [] (t.drop (i + 1)) := by rw [nil]
        refine ite2 (fun cs => ?_) (fun cs => ?_)
        · have cs : st < i := by
            have := of_decide_eq_true cs
            omega
          have hne : (t.drop st).take (i - st) ≠ [] := fun z => by
            rw [z] at hlt
            simp only [List.length_nil] at hlt
            omega
          rw [if_neg hne] at h4
          refine ⟨tyl hfT, S t, rfl, hs, ?_⟩
          rw [cut_mid t (Nat.le_of_lt cs) (Nat.le_of_lt hi)]
          refine ⟨_, hfT, by rw [lfn]; exact Nat.lt_of_le_of_lt (by omega : fnd.length ≤ 2000000) (by decide), tyl upd_same, by rw [List.length_append, lfn, List.length_singleton]; exact Nat.lt_of_le_of_lt (by omega : fnd.length + 1 ≤ 2000001) (by decide),
            fnd ++ [(t.drop st).take (i - st), [c]], i + 1, by omega, by simp [S], ?_, Nat.le_refl _, hi, by rw [List.length_append]; simp only [List.length_cons, List.length_nil]; omega, ?_⟩
          · exact Same.off (Same.off sT np) np
          · rw [e0, ← h4]
            simp
        · have cs : st = i := by
            have : ¬ st < i := fun z => cs (decide_eq_true (by omega))
            omega
          have he : (t.drop st).take (i - st) = [] := by rw [cs, Nat.sub_self, List.take_zero]
          rw [if_pos he] at h4
          refine ⟨tyl hfT, _, hfT, by rw [lfn]; exact Nat.lt_of_le_of_lt (by omega : fnd.length ≤ 2000000) (by decide), fnd ++ [[c]], i + 1, by omega, by simp [S], Same.off sT np, Nat.le_refl _, hi, by rw [List.length_append]; simp only [List.length_cons, List.length_nil]; omega, ?_⟩
          rw [e0, ← h4]
          simp
      · rw [if_neg cd] at h4
        exact ⟨fnd, st, rfl, hfT, sT, by omega, hi, by omega, by rw [htk]; exact h4⟩
    · rintro σ H1 ⟨fnd, st, pl, sg, rfl, hf, s1, h1, h2, h3, h4⟩
      have e0 : (S t).cps.size = t.length := by simp [S]
      rw [e0] at h1 h3 h4
      refine ⟨fnd, st, pl, sg, rfl, hf, s1, h1, h3, ?_⟩
      rw [← h4, List.drop_length, List.take_of_length_le (by rw [List.length_drop]; exact Nat.le_refl _)]
      simp only [pcs]
  · rintro σ H1 ⟨fnd, st, pl, sg, rfl, hf, s1, h1, h2, h3⟩
    walk_at "sx"
    have lfn : (fnd.map fun x => V.str (S x)).length = fnd.length := List.length_map _
    refine ⟨_, len_s hs rfl, ?_⟩
    rw [SX.S_len]
    refine ite2 (fun cs => ?_) (fun cs => ?_)
    · have cs : st < t.length := by
        have := of_decide_eq_true cs
        omega
      have hne : t.drop st ≠ [] := fun z => by
        have := congrArg List.length z
        simp only [List.length_drop, List.length_nil] at this
        omega
      rw [if_neg hne] at h3
      refine ⟨S t, rfl, hs, ?_⟩
      rw [cut_from t h1]
      refine ⟨by decide, fun p2 np2 => ?_⟩
      have hp2 : upd H1 p2 (.lst [V.str (S (t.drop st))]) p = some (.lst (fnd.map fun x => V.str (S x))) := by
        rw [upd_ne (ne_of_none hf np2)]
        exact hf
      refine ⟨p, p2, _, _, rfl, rfl, hp2, upd_same, ?_, fun p3 np3 => q _ _ ((s1.trans (same_upd np2)).free np3) ?_ ?_⟩
      · rw [lfn]
        exact Nat.le_of_lt (Nat.lt_of_le_of_lt (by simp only [List.length_cons, List.length_nil]; omega : _ ≤ 2000001) (by decide))
      · rw [upd_same, ← h3, List.map_append]
        rfl
      · exact (s1.trans (same_upd np2)).trans (same_upd np3)
    · have cs : ¬ st < t.length := fun z => cs (decide_eq_true (by omega))
      have he : t.drop st = [] := List.drop_eq_nil_of_le (by omega)
      rw [if_pos he, List.append_nil] at h3
      refine ⟨by decide, fun p2 np2 => ?_⟩
      have hp2 : upd H1 p2 (.lst []) p = some (.lst (fnd.map fun x => V.str (S x))) := by
        rw [upd_ne (ne_of_none hf np2)]
        exact hf
      refine ⟨p, p2, _, _, rfl, rfl, hp2, upd_same, ?_, fun p3 np3 => q _ _ ((s1.trans (same_upd np2)).free np3) ?_ ?_⟩
      · rw [lfn]
        exact Nat.le_of_lt (Nat.lt_of_le_of_lt (by simp only [List.length_nil]; omega : _ ≤ 2000001) (by decide))
      · rw [upd_same, ← h3, List.append_nil]
      · exact (s1.trans (same_upd np2)).trans (same_upd np3)
end

end Z

set_option Elab.async false
set_option linter.all false
set_option maxRecDepth 100000
set_option maxHeartbeats 4000000

namespace Z
open PySem PySem.Spec PyProof.Rows L2 Z.R
local macro_rules | `(tactic| walk_at "sx") => `(tactic| try simp only [and_assoc, cxOf_K, cxOf_Kn, C8.tCut, rEq, rNe, sc_ii, sc_ss, sc_bb, sc_is, sc_si, sc_bs, sc_sb, tSeq, tAsg, tPar, tPar3, tC, gName, gNil, gCons, gTup, gSub, rSetL, L2.start, tVar, tOp, tUn, rI0, rI, rU, tTest, tChain, tOrV, tAndV, tNotV, tCB, tCons, tNil, tLst, tTup, tIfS, tNext, tRet, tRetN, tDrop, tAnd, tOr, tNot, tB, tIf, tSl, tFld, sFld, putF, tNoPart, tPart, rSlL, tBM, tBM0, rAppend, rPop, rExtend, tCall, tMeth, List.map_cons, List.map_nil, List.replicate, List.length_cons, List.length_nil, List.append, List.cons_append, List.nil_append, List.append_nil, List.getElem?_cons_zero, List.getElem?_cons_succ, List.set_cons_zero, List.set_cons_succ, Option.some.injEq, exists_eq_left', exists_eq_left, exists_eq, exists_and_left, exists_const, wipe, tYes, upd_same, ↓reduceIte, decide_false, decide_true, Bool.not_true, Bool.not_false, Bool.false_eq_true, V.int.injEq, HO.lst.injEq, HO.tup.injEq, V.ref.injEq, V.str.injEq, one_inj, le_a, le_z, le_0, le_9, mem_let, mem_dig, V.bl.injEq, List.cons.injEq, and_true, true_and, reduceCtorEq, false_and, exists_false, or_false, false_or])
open SX (S)
/-! ### the reader's lists -/
inductive RowsAt (K : PySem.W.Frag) (H : Hp) : List Addr → List (List PyData) → Prop
  | nil : RowsAt K H [] []
  | cons {a : Addr} {as : List Addr} {vs : List V} {ds : List PyData} {rows : List (List PyData)} : H a = some (.lst vs) → DpAll K H vs ds → (∀ d ∈ ds, To d) → a ∉ as → RowsAt K H as rows → RowsAt K H (a :: as) (ds :: rows)
section
variable {K : PySem.W.Frag} {H H' : Hp}
theorem RowsAt.len : ∀ {as : List Addr} {rows : List (List PyData)}, RowsAt K H as rows → as.length = rows.length
  | _, _, .nil => rfl
  | _, _, .cons _ _ _ _ t => congrArg (· + 1) (RowsAt.len t)
theorem RowsAt.lst : ∀ {as : List Addr} {rows : List (List PyData)}, RowsAt K H as rows → ∀ a ∈ as, ∃ xs, H a = some (.lst xs)
  | _, _, .cons h _ _ _ t, a, ha => by
    rcases List.mem_cons.mp ha with rfl | ha
    · exact ⟨_, h⟩
    · exact RowsAt.lst t a ha
theorem RowsAt.mono (t : Tp H H') : ∀ {as : List Addr} {rows : List (List PyData)}, RowsAt K H as rows → (∀ a ∈ as, ∀ xs, H a = some (.lst xs) → H' a = some (.lst xs)) → RowsAt K H' as rows
  | _, _, .nil, _ => .nil
  | _, _, .cons h d o n r, f => .cons (f _ (List.mem_cons_self ..) _ h) (To.monoAll t o d) o n (RowsAt.mono t r fun a ha => f a (List.mem_cons_of_mem _ ha))
end
def rowsC (s : MS) : List (List PyData) := match s.cur, s.rows with
  | some x, row :: r => (row ++ [x]) :: r
  | _, rs => rs
def toldC (s : MS) : List PyData := match s.rows, s.cur with
  | [], some x => [x]
  | _, _ => []
def rdF (T L : Addr) (b : Bool) : List (Str × V) := [("tuples", .ref T), ("ready", .bl b), ("told", .ref L)]
structure RdAt (K : PySem.W.Frag) (Cd : Addr) (H0 H : Hp) (r : Addr) (s : MS) (n : Nat) : Prop where
  ex : ∃ (T L dx : Addr) (as : List Addr) (vs : List V), H r = some (.ins Cd dx (rdF T L s.cur.isNone)) ∧ H T = some (.lst (as.map V.ref).reverse) ∧ H L = some (.lst vs) ∧ RowsAt K H as (rowsC s) ∧ DpAll K H vs (toldC s) ∧ (∀ d ∈ toldC s, To d) ∧
    T ∉ as ∧ L ∉ as ∧ T ≠ L ∧ H0 r = none ∧ H0 T = none ∧ H0 L = none ∧ (∀ a ∈ as, H0 a = none) ∧ Same H0 H ∧ (∀ row ∈ rowsC s, row.length ≤ n)
def itemM (x : PyData) (s : MS) : Option MS := match s.cur with
  | none => some ⟨s.rows, some x⟩
  | some _ => none
def spRd (K : PySem.W.Frag) (Cd C : Addr) (op : MS → Option MS) : Sp := fun vs H Q E => ∃ (r : Addr) (H0 : Hp) (s : MS) (n : Nat), vs = [.ref r] ∧ RdAt K Cd H0 H r s n ∧ n ≤ 3000000 ∧
  (∀ s' H', op s = some s' → RdAt K Cd H0 H' r s' (n + 1) → Q .non H') ∧ (∀ H', op s = none → Same H0 H' → E (.ref C) none H')
def spItem (K : PySem.W.Frag) (Cd C : Addr) : Sp := fun vs H Q E => ∃ (r : Addr) (v : V) (x : PyData) (H0 : Hp) (s : MS) (n : Nat), vs = [.ref r, v] ∧ RdAt K Cd H0 H r s n ∧ n ≤ 3000000 ∧ Dp K H v x ∧ To x ∧
  (∀ s' H', itemM x s = some s' → RdAt K Cd H0 H' r s' (n + 1) → Q .non H') ∧ (∀ H', itemM x s = none → Same H0 H' → E (.ref C) none H')
def spTakeP (K : PySem.W.Frag) (Cd C : Addr) : Sp := fun vs H Q E => ∃ (r : Addr) (p : List Nat) (H0 : Hp) (s : MS) (n : Nat), vs = [.ref r, .str (S p)] ∧ p.length ≤ 1000000 ∧ RdAt K Cd H0 H r s n ∧ n ≤ 3000000 ∧
  (∀ s' H', stepM s p = some s' → RdAt K Cd H0 H' r s' (n + 1) → Q .non H') ∧ (∀ H', stepM s p = none → Same H0 H' → E (.ref C) none H')
theorem off_upd {H0 H' : Hp} {a : Addr} {o : HO} (f : Same H0 H') (h : H0 a = none) : Same H0 (upd H' a o) := Same.off f h
theorem rev_snoc (a : Addr) (as : List Addr) : ((a :: as).map V.ref).reverse = (as.map V.ref).reverse ++ [V.ref a] := by simp
theorem putF_ready (T L : Addr) (b c : Bool) : putF "ready" (.bl c) (rdF T L b) = rdF T L c := by
  simp only [putF, rdF]
  rw [if_neg (by decide), if_pos (by decide)]
theorem Tp.updI {a : Addr} {H H1 : Hp} {Cd dx : Addr} {fs : List (Str × V)} {o : HO} (f : Tp H H1) (h : H1 a = some (.ins Cd dx fs)) : Tp H (L2.upd H1 a o) :=
  ⟨fun b ys e => by
    have q := f.tup b ys e
    rw [upd_ne (ne_of q h (fun z => by cases z))]
    exact q, fun b u y e => by
    have q := f.frz b u y e
    rw [upd_ne (ne_of q h (fun z => by cases z))]
    exact q⟩
theorem DpAll.snoc {K : PySem.W.Frag} {H : Hp} {vs : List V} {ds : List PyData} {v : V} {d : PyData} (h : DpAll K H vs ds) (hd : Dp K H v d) : DpAll K H (vs ++ [v]) (ds ++ [d]) := DpAll.append h (.cons hd .nil)
theorem smallM {n : Nat} (h : n ≤ 3000001) : n < sizeLine := Nat.lt_of_le_of_lt h (by decide)
theorem RdAt.rebase {K : PySem.W.Frag} {Cd r : Addr} {H0 H H2 : Hp} {s : MS} {n : Nat} (h : RdAt K Cd H0 H r s n) (f : Same H H2) : ∃ H0', Same H0 H0' ∧ RdAt K Cd H0' H2 r s n ∧ ∀ p o, H2 p = some o → H p = none → H0' p = some o := by
  obtain ⟨T, L, dx, as, vs, hr1, hT, hL, rw1, tw1, tto, nTa, nLa, nTL, fr, fT, fL, fa, sm, rl⟩ := h
  refine ⟨fun b => if b = r ∨ b = T ∨ b = L ∨ b ∈ as then none else H2 b, fun b o e => ?_, ⟨T, L, dx, as, vs, f _ _ hr1, f _ _ hT, f _ _ hL, RowsAt.mono (.of f) rw1 (fun _ _ _ e => f _ _ e), DpAll.same f tw1, tto, nTa, nLa, nTL, if_pos (.inl rfl), if_pos (.inr (.inl rfl)), if_pos (.inr (.inr (.inl rfl))), fun a ha => if_pos (.inr (.inr (.inr ha))), fun b o e => ?_, rl⟩, fun p o e hn => ?_⟩
  · have : ¬ (b = r ∨ b = T ∨ b = L ∨ b ∈ as) := by
      rintro (rfl | rfl | rfl | hb)
      · rw [fr] at e
        cases e
      · rw [fT] at e
        cases e
      · rw [fL] at e
        cases e
      · rw [fa b hb] at e
        cases e
    show (if b = r ∨ b = T ∨ b = L ∨ b ∈ as then none else H2 b) = some o
    rw [if_neg this]
    exact f _ _ (sm _ _ e)
  · have e : (if b = r ∨ b = T ∨ b = L ∨ b ∈ as then none else H2 b) = some o := e
    by_cases c : b = r ∨ b = T ∨ b = L ∨ b ∈ as
    · rw [if_pos c] at e
      cases e
    · rw [if_neg c] at e
      exact e
  · have : ¬ (p = r ∨ p = T ∨ p = L ∨ p ∈ as) := by
      rintro (rfl | rfl | rfl | hb)
      · rw [hr1] at hn
        cases hn
      · rw [hT] at hn
        cases hn
      · rw [hL] at hn
        cases hn
      · obtain ⟨xs, hx⟩ := RowsAt.lst rw1 p hb
        rw [hx] at hn
        cases hn
    show (if p = r ∨ p = T ∨ p = L ∨ p ∈ as then none else H2 p) = some o
    rw [if_neg this]
    exact e

end Z

set_option Elab.async false
set_option linter.all false
set_option maxRecDepth 100000
set_option maxHeartbeats 4000000

namespace Z
open PySem PySem.Spec PyProof.Rows L2 Z.R
local macro_rules | `(tactic| walk_at "sx") => `(tactic| try simp only [and_assoc, cxOf_K, cxOf_Kn, C8.tCut, rEq, rNe, sc_ii, sc_ss, sc_bb, sc_is, sc_si, sc_bs, sc_sb, tSeq, tAsg, tPar, tPar3, tC, gName, gNil, gCons, gTup, gSub, rSetL, L2.start, tVar, tOp, tUn, rI0, rI, rU, tTest, tChain, tOrV, tAndV, tNotV, tCB, tCons, tNil, tLst, tTup, tIfS, tNext, tRet, tRetN, tDrop, tAnd, tOr, tNot, tB, tIf, tSl, tFld, sFld, putF, tNoPart, tPart, rSlL, tBM, tBM0, rAppend, rPop, rExtend, tCall, tMeth, List.map_cons, List.map_nil, List.replicate, List.length_cons, List.length_nil, List.append, List.cons_append, List.nil_append, List.append_nil, List.getElem?_cons_zero, List.getElem?_cons_succ, List.set_cons_zero, List.set_cons_succ, Option.some.injEq, exists_eq_left', exists_eq_left, exists_eq, exists_and_left, exists_const, wipe, tYes, upd_same, ↓reduceIte, decide_false, decide_true, Bool.not_true, Bool.not_false, Bool.false_eq_true, V.int.injEq, HO.lst.injEq, HO.tup.injEq, V.ref.injEq, V.str.injEq, one_inj, le_a, le_z, le_0, le_9, mem_let, mem_dig, V.bl.injEq, List.cons.injEq, and_true, true_and, reduceCtorEq, false_and, exists_false, or_false, false_or])
open SX (S)
section
variable {P : Program} {w : World} {K : PySem.W.Frag} {mg : Str → Option Value} {base : Heap}
theorem sc_DataReader_item : FnScope ["self", "value"] ["self", "value"] (defScope s_DataReader_item) := ⟨rfl, rfl, rfl, by decide +kernel, rfl, by decide +kernel, by decide +kernel⟩
theorem ok_item {C Cd f : Addr} {fd : FuncData} (F : Fun K "item" "DataReader.item" s_DataReader_item f fd) (hC : Cls K Cd) (n_tuples : NoAttr K Cd "tuples") (n_ready : NoAttr K Cd "ready") (n_told : NoAttr K Cd "told") (T_Malformed : XC K mg "Malformed" C)
    (b_len : mg "len" = none) : FnOk P w K mg base (L2.CX P w) 1 f fd ["self", "value"] (spItem K Cd C) := by
  have nd := sc_DataReader_item.nd
  refine F.okX sc_DataReader_item (fun vs H Q E h => ?_) (fun cdv A outer s H vs Q E hr h => ?_)
  · obtain ⟨r, v, x, H0, s, n, rfl, _⟩ := h
    rfl
  obtain ⟨r, v, x, H0, s, n, rfl, hR, hn, hv, hx, q, e⟩ := h
  obtain ⟨T, L, dx, as, vs, hr1, hT, hL, rw1, tw1, tto, nTa, nLa, nTL, fr, fT, fL, fa, sm, rl⟩ := hR
  refine ⟨_, (pss_cons (ps_if (pt_not (pt_val (pe_fld (pv 0) rfl))) (pss_one (ps_rz T_Malformed rfl (takes_of rfl rfl rfl rfl))) pss_nil)
  (pss_cons (ps_if (pt_cmpR op_gt (pe_callB call_len (by rfl) b_len (by decide +kernel) (pa_cons (pe_fld (pv 0) rfl) pa_nil)) pe_int (nomark _)) (pss_one (ps_expr (pe_bm PySem.F.plainAttrs_list PySem.F.slot_list_append PySem.F.type_list_append mt_append (pe_ix ix_list (pe_fld (pv 0) rfl) (pe_un un_neg pe_int) (fun _ _ => rfl)) (pa_cons (pv 1) pa_nil)))) (pss_one (ps_expr (pe_bm PySem.F.plainAttrs_list PySem.F.slot_list_append PySem.F.type_list_append mt_append (pe_fld (pv 0) rfl) (pa_cons (pv 1) pa_nil)))))
  (pss_one (ps_fld (pv 0) pe_bl rfl)))), ?_⟩
  walk_at "sx"
  refine ⟨Cd, dx, _, hr1, hC, n_ready, _, rfl, _, rfl, ?_⟩
  obtain ⟨rows, cur⟩ := s
  cases cur with
  | some y => exact iteT (e _ rfl sm)
  | none =>
    have el := RowsAt.len rw1
    refine iteF ⟨Cd, dx, _, hr1, hC, n_tuples, _, rfl, _, len_l hT rfl, ?_⟩
    rw [List.length_reverse, List.length_map, el]
    cases rows with
    | nil =>
      cases rw1
      cases tw1
      refine iteF ⟨Cd, dx, _, hr1, hC, n_told, _, rfl, tyl hL, _, rfl, _, hL, by decide, ?_⟩
      have nrL : r ≠ L := ne_of hr1 hL (fun z => by cases z)
      have nrT : r ≠ T := ne_of hr1 hT (fun z => by cases z)
      have hr2 : upd H L (.lst ([] ++ [v])) r = some (.ins Cd dx (rdF T L true)) := by rw [upd_ne nrL]; exact hr1
      refine ⟨Cd, dx, _, hr2, hC, n_ready, (by decide : 3 < 1000), q ⟨[], some x⟩ _ rfl ?_⟩
      rw [putF_ready]
      have tp : Tp H (upd (upd H L (.lst ([] ++ [v]))) r (.ins Cd dx (rdF T L false))) := Tp.updI (Tp.upd (.refl _) hL) hr2
      exact ⟨T, L, dx, [], [v], upd_same, by rw [upd_ne nrT.symm, upd_ne nTL]; exact hT, by rw [upd_ne nrL.symm, upd_same]; rfl, .nil, .cons (hx.mono tp v hv) .nil, fun d hd => by rw [List.mem_singleton.mp hd]; exact hx,
        nTa, nLa, nTL, fr, fT, fL, fa, Same.off (Same.off sm fL) fr, fun row hr => by cases hr⟩
    | cons row rest =>
      cases rw1 with
      | @cons a as' us _ _ ha hd ho hna hrest =>
      rw [rev_snoc] at hT
      have hc : (rowsC ⟨row :: rest, none⟩).length = rest.length + 1 := rfl
      refine ite2 (fun _ => ?_) (fun z => absurd (decide_eq_true (by rw [hc]; omega)) z)
      refine ⟨Cd, dx, _, hr1, hC, n_tuples, _, rfl, ?_⟩
      refine ixl hT (atI_last _ _) ⟨tyl ha, _, rfl, _, ha, ?_⟩
      have nra : r ≠ a := ne_of hr1 ha (fun z => by cases z)
      have nrT : r ≠ T := ne_of hr1 hT (fun z => by cases z)
      have nrL : r ≠ L := ne_of hr1 hL (fun z => by cases z)
      have nTa' : T ≠ a := fun z => nTa (by rw [z]; exact List.mem_cons_self ..)
      have nLa' : L ≠ a := fun z => nLa (by rw [z]; exact List.mem_cons_self ..)
      have lu := DpAll.length hd
      have rl0 := rl row (List.mem_cons_self ..)
      have hr2 : upd H a (.lst (us ++ [v])) r = some (.ins Cd dx (rdF T L true)) := by rw [upd_ne nra]; exact hr1
      refine ⟨smallM (by omega), Cd, dx, _, hr2, hC, n_ready, (by decide : 3 < 1000), q ⟨row :: rest, some x⟩ _ rfl ?_⟩
      rw [putF_ready]
      have tp : Tp H (upd (upd H a (.lst (us ++ [v]))) r (.ins Cd dx (rdF T L false))) := Tp.updI (Tp.upd (.refl _) ha) hr2
      refine ⟨T, L, dx, a :: as', vs, upd_same, ?_, ?_, .cons (vs := us ++ [v]) ?_ ?_ ?_ hna (RowsAt.mono tp hrest ?_), To.monoAll tp tto tw1, tto, nTa, nLa, nTL, fr, fT, fL, fa, Same.off (Same.off sm (fa a (List.mem_cons_self ..))) fr, ?_⟩
      · rw [rev_snoc, upd_ne nrT.symm, upd_ne nTa']
        exact hT
      · rw [upd_ne nrL.symm, upd_ne nLa']
        exact hL
      · rw [upd_ne nra.symm, upd_same]
      · exact DpAll.snoc (To.monoAll tp ho hd) (hx.mono tp v hv)
      · intro d hd
        rcases List.mem_append.mp hd with h | h
        · exact ho d h
        · rw [List.mem_singleton.mp h]
          exact hx
      · intro b hb xs e
        rw [upd_ne (ne_of e hr1 (fun z => by cases z)), upd_ne (fun z => hna (by rw [← z]; exact hb))]
        exact e
      · intro row' hr
        rcases List.mem_cons.mp (show row' ∈ (row ++ [x]) :: rest from hr) with rfl | hr
        · rw [List.length_append, List.length_singleton]
          omega
        · have := rl row' (List.mem_cons_of_mem _ hr)
          omega
end

end Z

set_option Elab.async false
set_option linter.all false
set_option maxRecDepth 100000
set_option maxHeartbeats 4000000

namespace Z
open PySem PySem.Spec PyProof.Rows L2 Z.R
local macro_rules | `(tactic| walk_at "sx") => `(tactic| try simp only [and_assoc, cxOf_K, cxOf_Kn, C8.tCut, rEq, rNe, sc_ii, sc_ss, sc_bb, sc_is, sc_si, sc_bs, sc_sb, tSeq, tAsg, tPar, tPar3, tC, gName, gNil, gCons, gTup, gSub, rSetL, L2.start, tVar, tOp, tUn, rI0, rI, rU, tTest, tChain, tOrV, tAndV, tNotV, tCB, tCons, tNil, tLst, tTup, tIfS, tNext, tRet, tRetN, tDrop, tAnd, tOr, tNot, tB, tIf, tSl, tFld, sFld, putF, tNoPart, tPart, rSlL, tBM, tBM0, rAppend, rPop, rExtend, tCall, tMeth, List.map_cons, List.map_nil, List.replicate, List.length_cons, List.length_nil, List.append, List.cons_append, List.nil_append, List.append_nil, List.getElem?_cons_zero, List.getElem?_cons_succ, List.set_cons_zero, List.set_cons_succ, Option.some.injEq, exists_eq_left', exists_eq_left, exists_eq, exists_and_left, exists_const, wipe, tYes, upd_same, ↓reduceIte, decide_false, decide_true, Bool.not_true, Bool.not_false, Bool.false_eq_true, V.int.injEq, HO.lst.injEq, HO.tup.injEq, V.ref.injEq, V.str.injEq, one_inj, le_a, le_z, le_0, le_9, mem_let, mem_dig, V.bl.injEq, List.cons.injEq, and_true, true_and, reduceCtorEq, false_and, exists_false, or_false, false_or])
open SX (S)
section
variable {P : Program} {w : World} {K : PySem.W.Frag} {mg : Str → Option Value} {base : Heap}
theorem sc_DataReader_open_one : FnScope ["self"] ["self"] (defScope s_DataReader_open_one) := ⟨rfl, rfl, rfl, by decide +kernel, rfl, by decide +kernel, by decide +kernel⟩
theorem ok_open_one {C Cd f : Addr} {fd : FuncData} (F : Fun K "open_one" "DataReader.open_one" s_DataReader_open_one f fd) (hC : Cls K Cd) (n_tuples : NoAttr K Cd "tuples") (n_ready : NoAttr K Cd "ready") (T_Malformed : XC K mg "Malformed" C)
    (b_len : mg "len" = none) (g_MOST_DEPTH : GV mg "MOST_DEPTH" (.int 1000)) : FnOk P w K mg base (L2.CX P w) 1 f fd ["self"] (spRd K Cd C fun s => stepM s [91]) := by
  have nd := sc_DataReader_open_one.nd
  refine F.okX sc_DataReader_open_one (fun vs H Q E h => ?_) (fun cdv A outer s H vs Q E hr h => ?_)
  · obtain ⟨r, H0, s, n, rfl, _⟩ := h
    rfl
  obtain ⟨r, H0, s, n, rfl, hR, hn, q, e⟩ := h
  obtain ⟨T, L, dx, as, vs, hr1, hT, hL, rw1, tw1, tto, nTa, nLa, nTL, fr, fT, fL, fa, sm, rl⟩ := hR
  refine ⟨_, (pss_cons (ps_if (PW.pt (pw_or (pt_not (pt_val (pe_fld (pv 0) rfl))) (pw_or1 (pt_cmpR op_ge (pe_callB call_len (by rfl) b_len (by decide +kernel) (pa_cons (pe_fld (pv 0) rfl) pa_nil)) (pe_gv g_MOST_DEPTH) (nomark _))))) (pss_one (ps_rz T_Malformed rfl (takes_of rfl rfl rfl rfl))) pss_nil)
  (pss_one (ps_expr (pe_bm PySem.F.plainAttrs_list PySem.F.slot_list_append PySem.F.type_list_append mt_append (pe_fld (pv 0) rfl) (pa_cons (pe_lst pa_nil) pa_nil))))), ?_⟩
  walk_at "sx"
  refine ⟨Cd, dx, _, hr1, hC, n_ready, _, rfl, _, rfl, ?_⟩
  obtain ⟨rows, cur⟩ := s
  cases cur with
  | some y => exact iteT (e _ rfl sm)
  | none =>
    have el := RowsAt.len rw1
    have e2 : (rowsC ⟨rows, none⟩) = rows := by cases rows <;> rfl
    rw [e2] at el rw1 rl
    refine iteF ⟨Cd, dx, _, hr1, hC, n_tuples, _, rfl, _, len_l hT rfl, ?_⟩
    rw [List.length_reverse, List.length_map, el]
    refine ite2 (fun c => ?_) (fun c => ?_)
    · have c : ¬ rows.length < 1000 := by
        have := of_decide_eq_true c
        omega
      refine e _ ?_ sm
      show stepM ⟨rows, none⟩ [91] = none
      unfold stepM
      rw [if_pos rfl]
      show (if rows.length < 1000 then _ else _) = _
      rw [if_neg c]
    · have c : rows.length < 1000 := by
        have : ¬ ((1000 : Int) ≤ (rows.length : Int)) := fun z => c (decide_eq_true z)
        omega
      have hstep : stepM ⟨rows, none⟩ [91] = some ⟨[] :: rows, none⟩ := by
        unfold stepM
        rw [if_pos rfl]
        show (if rows.length < 1000 then _ else _) = _
        rw [if_pos c]
      refine ⟨Cd, dx, _, hr1, hC, n_tuples, _, rfl, tyl hT, by decide, fun a na => ?_⟩
      have nTna : T ≠ a := ne_of_none hT na
      refine ⟨_, rfl, _, by rw [upd_ne nTna]; exact hT, ?_, q _ _ hstep ?_⟩
      · rw [List.length_reverse, List.length_map, el]
        exact smallM (by omega)
      have nra : r ≠ a := ne_of_none hr1 na
      have nLa2 : L ≠ a := ne_of_none hL na
      have nrT : r ≠ T := ne_of hr1 hT (fun z => by cases z)
      have naas : a ∉ as := fun z => by
        obtain ⟨xs, hx⟩ := RowsAt.lst rw1 a z
        rw [na] at hx
        cases hx
      have H0a : H0 a = none := by
        cases z : H0 a with
        | none => rfl
        | some o =>
          have := sm a o z
          rw [na] at this
          cases this
      have hTa : upd H a (.lst []) T = some (.lst (as.map V.ref).reverse) := by rw [upd_ne nTna]; exact hT
      have tp : Tp H (upd (upd H a (.lst [])) T (.lst ((as.map V.ref).reverse ++ [.ref a]))) := Tp.upd (Tp.new (.refl _) na) hTa
      have te : toldC ⟨[] :: rows, none⟩ = toldC ⟨rows, none⟩ := by cases rows <;> rfl
      refine ⟨T, L, dx, a :: as, vs, ?_, by rw [rev_snoc, upd_same], ?_, .cons (vs := []) ?_ .nil (fun d hd => by cases hd) naas (RowsAt.mono tp rw1 ?_), ?_, ?_, ?_, ?_, nTL, fr, fT, fL, ?_, Same.off (Same.off sm H0a) fT, ?_⟩
      · rw [upd_ne nrT, upd_ne nra]
        exact hr1
      · rw [upd_ne nTL.symm, upd_ne nLa2]
        exact hL
      · rw [upd_ne nTna.symm, upd_same]
      · intro b hb xs e
        rw [upd_ne (fun z => nTa (by rw [← z]; exact hb)), upd_ne (ne_of_none e na)]
        exact e
      · rw [te]
        exact To.monoAll tp tto tw1
      · rw [te]
        exact tto
      · intro z
        rcases List.mem_cons.mp z with z | z
        · exact nTna z
        · exact nTa z
      · intro z
        rcases List.mem_cons.mp z with z | z
        · exact nLa2 z
        · exact nLa z
      · intro b hb
        rcases List.mem_cons.mp hb with rfl | hb
        · exact H0a
        · exact fa b hb
      · intro row hr
        rcases List.mem_cons.mp (show row ∈ [] :: rows from hr) with rfl | hr
        · exact Nat.zero_le _
        · have := rl row hr
          omega
end

end Z

set_option Elab.async false
set_option linter.all false
set_option maxRecDepth 100000
set_option maxHeartbeats 4000000

namespace Z
open PySem PySem.Spec PyProof.Rows L2 Z.R
local macro_rules | `(tactic| walk_at "sx") => `(tactic| try simp only [and_assoc, cxOf_K, cxOf_Kn, C8.tCut, rEq, rNe, sc_ii, sc_ss, sc_bb, sc_is, sc_si, sc_bs, sc_sb, tSeq, tAsg, tPar, tPar3, tC, gName, gNil, gCons, gTup, gSub, rSetL, L2.start, tVar, tOp, tUn, rI0, rI, rU, tTest, tChain, tOrV, tAndV, tNotV, tCB, tCons, tNil, tLst, tTup, tIfS, tNext, tRet, tRetN, tDrop, tAnd, tOr, tNot, tB, tIf, tSl, tFld, sFld, putF, tNoPart, tPart, rSlL, tBM, tBM0, rAppend, rPop, rExtend, tCall, tMeth, List.map_cons, List.map_nil, List.replicate, List.length_cons, List.length_nil, List.append, List.cons_append, List.nil_append, List.append_nil, List.getElem?_cons_zero, List.getElem?_cons_succ, List.set_cons_zero, List.set_cons_succ, Option.some.injEq, exists_eq_left', exists_eq_left, exists_eq, exists_and_left, exists_const, wipe, tYes, upd_same, ↓reduceIte, decide_false, decide_true, Bool.not_true, Bool.not_false, Bool.false_eq_true, V.int.injEq, HO.lst.injEq, HO.tup.injEq, V.ref.injEq, V.str.injEq, one_inj, le_a, le_z, le_0, le_9, mem_let, mem_dig, V.bl.injEq, List.cons.injEq, and_true, true_and, reduceCtorEq, false_and, exists_false, or_false, false_or])
open SX (S)
section
variable {P : Program} {w : World} {K : PySem.W.Frag} {mg : Str → Option Value} {base : Heap}
theorem sc_DataReader_comma : FnScope ["self"] ["self"] (defScope s_DataReader_comma) := ⟨rfl, rfl, rfl, by decide +kernel, rfl, by decide +kernel, by decide +kernel⟩
theorem ok_comma {C Cd f : Addr} {fd : FuncData} (F : Fun K "comma" "DataReader.comma" s_DataReader_comma f fd) (hC : Cls K Cd) (n_tuples : NoAttr K Cd "tuples") (n_ready : NoAttr K Cd "ready") (T_Malformed : XC K mg "Malformed" C)
    (b_len : mg "len" = none) : FnOk P w K mg base (L2.CX P w) 1 f fd ["self"] (spRd K Cd C fun s => stepM s [44]) := by
  have nd := sc_DataReader_comma.nd
  refine F.okX sc_DataReader_comma (fun vs H Q E h => ?_) (fun cdv A outer s H vs Q E hr h => ?_)
  · obtain ⟨r, H0, s, n, rfl, _⟩ := h
    rfl
  obtain ⟨r, H0, s, n, rfl, hR, hn, q, e⟩ := h
  obtain ⟨T, L, dx, as, vs, hr1, hT, hL, rw1, tw1, tto, nTa, nLa, nTL, fr, fT, fL, fa, sm, rl⟩ := hR
  refine ⟨_, (pss_cons (ps_if (PW.pt (pw_or (pt_val (pe_fld (pv 0) rfl)) (pw_or1 (pt_cmpR op_eq (pe_callB call_len (by rfl) b_len (by decide +kernel) (pa_cons (pe_fld (pv 0) rfl) pa_nil)) pe_int (nomark _))))) (pss_one (ps_rz T_Malformed rfl (takes_of rfl rfl rfl rfl))) pss_nil)
  (pss_one (ps_fld (pv 0) pe_bl rfl))), ?_⟩
  walk_at "sx"
  refine ⟨Cd, dx, _, hr1, hC, n_ready, _, rfl, _, rfl, ?_⟩
  obtain ⟨rows, cur⟩ := s
  have el := RowsAt.len rw1
  cases cur with
  | none => exact iteT (e _ (by cases rows <;> rfl) sm)
  | some x =>
    refine iteF ⟨Cd, dx, _, hr1, hC, n_tuples, _, rfl, _, len_l hT rfl, ?_⟩
    walk_at "sx"
    rw [List.length_reverse, List.length_map, el]
    cases rows with
    | nil => exact iteT (e _ rfl sm)
    | cons row rest =>
      refine ite2 (fun z => ?_) (fun _ => ?_)
      · have := of_decide_eq_true z
        exact absurd this (by show ¬ ((rest.length + 1 : Nat) : Int) = 0; omega)
      · refine ⟨Cd, dx, _, hr1, hC, n_ready, (by decide : 3 < 1000), q ⟨(row ++ [x]) :: rest, none⟩ _ rfl ?_⟩
        rw [putF_ready]
        have nrT : r ≠ T := ne_of hr1 hT (fun z => by cases z)
        have nrL : r ≠ L := ne_of hr1 hL (fun z => by cases z)
        have tp : Tp H (upd H r (.ins Cd dx (rdF T L true))) := Tp.updI (.refl _) hr1
        refine ⟨T, L, dx, as, vs, upd_same, ?_, ?_, RowsAt.mono tp rw1 ?_, To.monoAll tp tto tw1, tto, nTa, nLa, nTL, fr, fT, fL, fa, Same.off sm fr, ?_⟩
        · rw [upd_ne nrT.symm]
          exact hT
        · rw [upd_ne nrL.symm]
          exact hL
        · intro b hb xs e
          rw [upd_ne (ne_of e hr1 (fun z => by cases z))]
          exact e
        · intro row' hr
          have := rl row' hr
          omega
end

end Z

set_option Elab.async false
set_option linter.all false
set_option maxRecDepth 100000
set_option maxHeartbeats 4000000

namespace Z
open PySem PySem.Spec PyProof.Rows L2 Z.R
local macro_rules | `(tactic| walk_at "sx") => `(tactic| try simp only [and_assoc, cxOf_K, cxOf_Kn, C8.tCut, rEq, rNe, sc_ii, sc_ss, sc_bb, sc_is, sc_si, sc_bs, sc_sb, tSeq, tAsg, tPar, tPar3, tC, gName, gNil, gCons, gTup, gSub, rSetL, L2.start, tVar, tOp, tUn, rI0, rI, rU, tTest, tChain, tOrV, tAndV, tNotV, tCB, tCons, tNil, tLst, tTup, tIfS, tNext, tRet, tRetN, tDrop, tAnd, tOr, tNot, tB, tIf, tSl, tFld, sFld, putF, tNoPart, tPart, rSlL, tBM, tBM0, rAppend, rPop, rExtend, tCall, tMeth, List.map_cons, List.map_nil, List.replicate, List.length_cons, List.length_nil, List.append, List.cons_append, List.nil_append, List.append_nil, List.getElem?_cons_zero, List.getElem?_cons_succ, List.set_cons_zero, List.set_cons_succ, Option.some.injEq, exists_eq_left', exists_eq_left, exists_eq, exists_and_left, exists_const, wipe, tYes, upd_same, ↓reduceIte, decide_false, decide_true, Bool.not_true, Bool.not_false, Bool.false_eq_true, V.int.injEq, HO.lst.injEq, HO.tup.injEq, V.ref.injEq, V.str.injEq, one_inj, le_a, le_z, le_0, le_9, mem_let, mem_dig, V.bl.injEq, List.cons.injEq, and_true, true_and, reduceCtorEq, false_and, exists_false, or_false, false_or])
open SX (S)
section
variable {P : Program} {w : World} {K : PySem.W.Frag} {mg : Str → Option Value} {base : Heap}
theorem sc_DataReader_close_one : FnScope ["self", "found"] ["self"] (defScope s_DataReader_close_one) := ⟨rfl, rfl, rfl, by decide +kernel, rfl, by decide +kernel, by decide +kernel⟩
theorem ok_close_one {C Cd f : Addr} {fd : FuncData} (F : Fun K "close_one" "DataReader.close_one" s_DataReader_close_one f fd) (hC : Cls K Cd) (n_tuples : NoAttr K Cd "tuples") (n_ready : NoAttr K Cd "ready") (T_Malformed : XC K mg "Malformed" C)
    (b_len : mg "len" = none) (b_tuple : mg "tuple" = none) (m_item : MtX P w K mg base 1 Cd "item" (spItem K Cd C)) : FnOk P w K mg base (L2.CX P w) 2 f fd ["self"] (spRd K Cd C fun s => stepM s [93]) := by
  have nd := sc_DataReader_close_one.nd
  refine F.okX sc_DataReader_close_one (fun vs H Q E h => ?_) (fun cdv A outer s H vs Q E hr h => ?_)
  · obtain ⟨r, H0, s, n, rfl, _⟩ := h
    rfl
  obtain ⟨r, H0, s, n, rfl, hR, hn, q, e⟩ := h
  obtain ⟨T, L, dx, as, vs, hr1, hT, hL, rw1, tw1, tto, nTa, nLa, nTL, fr, fT, fL, fa, sm, rl⟩ := hR
  refine ⟨_, (C8.pss_cut (ps_if (PW.pt (pw_or (pt_cmpR op_eq (pe_callB call_len (by rfl) b_len (by decide +kernel) (pa_cons (pe_fld (pv 0) rfl) pa_nil)) pe_int (nomark _)) (pw_or1 (PW.pt (pw_and (pt_val (pe_fld (pv 0) rfl)) (pw_and1 (pt_cmpR op_gt (pe_callB call_len (by rfl) b_len (by decide +kernel) (pa_cons (pe_ix ix_list (pe_fld (pv 0) rfl) (pe_un un_neg pe_int) (fun _ _ => rfl)) pa_nil)) pe_int (nomark _)))))))) (pss_one (ps_rz T_Malformed rfl (takes_of rfl rfl rfl rfl))) pss_nil)
  (pss_cons (ps_set (i := 1) nd rfl (.inl rfl) (pe_callTy call_tuple_of (by rfl) b_tuple (by decide +kernel) (pa_cons (pe_bm0 PySem.F.plainAttrs_list PySem.F.slot_list_pop PySem.F.type_list_pop mt_pop (pe_fld (pv 0) rfl)) pa_nil)))
  (pss_cons (ps_fld (pv 0) pe_bl rfl)
  (pss_one (ps_expr (pmtX m_item hr (by omega) (passes_call (takes_of rfl rfl rfl rfl) (fun _ _ _ _ h => h)) (pv 0) (pa_cons (pv 1) pa_nil))))))), ?_⟩
  walk_at "sx"
  have el := RowsAt.len rw1
  refine ⟨fun σ H' => σ = [some (.ref r), none] ∧ H' = H ∧ ∃ row rest, s.rows = row :: rest ∧ (s.cur = none → row = []), ⟨Cd, dx, _, hr1, hC, n_tuples, _, rfl, _, len_l hT rfl, ?_⟩, ?_⟩
  · walk_at "sx"
    rw [List.length_reverse, List.length_map, el]
    obtain ⟨rows, cur⟩ := s
    cases rows with
    | nil =>
      have hc : (rowsC ⟨[], cur⟩).length = 0 := by cases cur <;> rfl
      refine ite2 (fun _ => e _ ?_ sm) (fun z => absurd (decide_eq_true (by rw [hc]; rfl)) z)
      show stepM ⟨[], cur⟩ [93] = none
      cases cur <;> rfl
    | cons row rest =>
      have hc : (rowsC ⟨row :: rest, cur⟩).length = rest.length + 1 := by cases cur <;> rfl
      refine ite2 (fun z => ?_) (fun _ => ?_)
      · have := of_decide_eq_true z
        rw [hc] at this
        omega
      · refine ⟨Cd, dx, _, hr1, hC, n_ready, _, rfl, _, rfl, ?_⟩
        cases cur with
        | some x => exact iteF ⟨row, rest, rfl, fun z => by cases z⟩
        | none =>
          refine iteT ⟨Cd, dx, _, hr1, hC, n_tuples, _, rfl, ?_⟩
          cases rw1 with
          | @cons a as' us _ _ ha hd ho hna hrest =>
          rw [rev_snoc] at hT
          refine ixl hT (atI_last _ _) ⟨_, len_l ha rfl, ?_⟩
          have lu := DpAll.length hd
          refine ite2 (fun z => ?_) (fun z => ?_)
          · refine e _ ?_ sm
            show stepM ⟨row :: rest, none⟩ [93] = none
            have z := of_decide_eq_true z
            have hne : row ≠ [] := fun y => by
              rw [y] at lu
              simp only [List.length_nil] at lu
              omega
            unfold stepM
            rw [if_neg (by decide), if_pos rfl]
            show (if row = [] then _ else _) = _
            rw [if_neg hne]
          · refine ⟨rfl, row, rest, rfl, fun _ => ?_⟩
            have : ¬ 0 < (us.length : Int) := fun y => z (decide_eq_true y)
            exact List.eq_nil_of_length_eq_zero (by omega)
  · rintro σ H1 ⟨rfl, rfl, row, rest, es, ec⟩
    walk_at "sx"
    obtain ⟨rows, cur⟩ := s
    obtain rfl : rows = row :: rest := es
    obtain ⟨full, hfull, hstep⟩ : ∃ full, rowsC ⟨row :: rest, cur⟩ = full :: rest ∧ stepM ⟨row :: rest, cur⟩ [93] = some ⟨rest, some (.tuple full)⟩ := by
      cases cur with
      | some x => exact ⟨row ++ [x], rfl, rfl⟩
      | none =>
        obtain rfl := ec rfl
        exact ⟨[], rfl, rfl⟩
    have et : toldC ⟨row :: rest, cur⟩ = [] := by cases cur <;> rfl
    rw [hfull] at rw1 rl
    rw [et] at tw1 tto
    cases tw1
    cases rw1 with
    | @cons a as' us _ _ ha hd ho hna hrest =>
    rw [rev_snoc] at hT
    have nrT : r ≠ T := ne_of hr1 hT (fun z => by cases z)
    have nrL : r ≠ L := ne_of hr1 hL (fun z => by cases z)
    have nTa' : a ≠ T := fun z => nTa (by rw [z]; exact List.mem_cons_self ..)
    have ha2 : upd H1 T (.lst (as'.map V.ref).reverse) a = some (.lst us) := by rw [upd_ne nTa']; exact ha
    have ed : ((as'.map V.ref).reverse ++ [V.ref a]).dropLast = (as'.map V.ref).reverse := List.dropLast_concat ..
    refine ⟨Cd, dx, _, hr1, hC, n_tuples, _, rfl, tyl hT, _, rfl, _, hT, _, by rw [List.length_append, List.length_singleton, Nat.add_sub_cancel, List.getElem?_append_right (Nat.le_refl _), Nat.sub_self]; rfl, a, rfl, us, .inl ⟨by rw [ed]; exact SqL.of ha2, fun l nl => ?_⟩⟩
    rw [ed] at nl ⊢
    have hT2 : upd H1 T (.lst (as'.map V.ref).reverse) T = some (.lst (as'.map V.ref).reverse) := upd_same
    have hr2 : upd H1 T (.lst (as'.map V.ref).reverse) r = some (.ins Cd dx (rdF T L cur.isNone)) := by rw [upd_ne nrT]; exact hr1
    have nrl : r ≠ l := ne_of_none hr2 nl
    have nTl : T ≠ l := ne_of_none hT2 nl
    have nal : a ≠ l := ne_of_none ha2 nl
    have hL2 : upd H1 T (.lst (as'.map V.ref).reverse) L = some (.lst []) := by rw [upd_ne nTL.symm]; exact hL
    have nLl : L ≠ l := ne_of_none hL2 nl
    have hr3 : upd (upd H1 T (.lst (as'.map V.ref).reverse)) l (.tup us) r = some (.ins Cd dx (rdF T L cur.isNone)) := by rw [upd_ne nrl]; exact hr2
    refine ⟨Cd, dx, _, hr3, hC, n_ready, (by decide : 3 < 1000), dx, rdF T L true, by rw [putF_ready], rfl, ?_⟩
    rw [putF_ready]
    have tp : Tp H1 (upd (upd (upd H1 T (.lst (as'.map V.ref).reverse)) l (.tup us)) r (.ins Cd dx (rdF T L true))) := Tp.updI (Tp.new (Tp.upd (.refl _) hT) nl) hr3
    have H0l : H0 l = none := by
      cases z : H0 l with
      | none => rfl
      | some o =>
        have := Same.off (o := .lst (as'.map V.ref).reverse) sm fT l o z
        rw [nl] at this
        cases this
    refine ⟨r, .ref l, .tuple full, H0, ⟨rest, none⟩, n, rfl, ⟨T, L, dx, as', [], upd_same, ?_, ?_, ?_, ?_, ?_, fun z => nTa (List.mem_cons_of_mem _ z), fun z => nLa (List.mem_cons_of_mem _ z), nTL, fr, fT, fL, fun b hb => fa b (List.mem_cons_of_mem _ hb), Same.off (Same.off (Same.off sm fT) H0l) fr, ?_⟩, hn, ?_, .tup _ ho, fun s' H' hs hR => ?_, fun H' hs s' => ?_⟩
    · rw [upd_ne nrT.symm, upd_ne nTl]
      exact hT2
    · rw [upd_ne nrL.symm, upd_ne nLl]
      exact hL2
    · have e3 : rowsC ⟨rest, none⟩ = rest := by cases rest <;> rfl
      rw [e3]
      refine RowsAt.mono tp hrest fun b hb xs e => ?_
      have hbT : b ≠ T := fun z => nTa (List.mem_cons_of_mem _ (by rw [← z]; exact hb))
      have : upd H1 T (.lst (as'.map V.ref).reverse) b = some (.lst xs) := by rw [upd_ne hbT]; exact e
      rw [upd_ne (ne_of e hr1 (fun z => by cases z)), upd_ne (ne_of_none this nl)]
      exact this
    · have e3 : toldC ⟨rest, none⟩ = [] := by cases rest <;> rfl
      rw [e3]
      exact .nil
    · have e3 : toldC ⟨rest, none⟩ = [] := by cases rest <;> rfl
      rw [e3]
      exact fun d hd => by cases hd
    · have e3 : rowsC ⟨rest, none⟩ = rest := by cases rest <;> rfl
      rw [e3]
      exact fun row hr => rl row (List.mem_cons_of_mem _ hr)
    · exact .tup (SqT.of (by rw [upd_ne nrl.symm, upd_same])) (To.monoAll tp ho hd)
    · have hs : (⟨rest, some (.tuple full)⟩ : MS) = s' := Option.some.inj hs
      subst hs
      exact q _ _ hstep hR
    · cases hs
end

end Z

set_option Elab.async false
set_option linter.all false
set_option maxRecDepth 100000
set_option maxHeartbeats 4000000

namespace Z
open PySem PySem.Spec PyProof.Rows L2 Z.R
local macro_rules | `(tactic| walk_at "sx") => `(tactic| try simp only [and_assoc, cxOf_K, cxOf_Kn, C8.tCut, rEq, rNe, sc_ii, sc_ss, sc_bb, sc_is, sc_si, sc_bs, sc_sb, tSeq, tAsg, tPar, tPar3, tC, gName, gNil, gCons, gTup, gSub, rSetL, L2.start, tVar, tOp, tUn, rI0, rI, rU, tTest, tChain, tOrV, tAndV, tNotV, tCB, tCons, tNil, tLst, tTup, tIfS, tNext, tRet, tRetN, tDrop, tAnd, tOr, tNot, tB, tIf, tSl, tFld, sFld, putF, tNoPart, tPart, rSlL, tBM, tBM0, rAppend, rPop, rExtend, tCall, tMeth, List.map_cons, List.map_nil, List.replicate, List.length_cons, List.length_nil, List.append, List.cons_append, List.nil_append, List.append_nil, List.getElem?_cons_zero, List.getElem?_cons_succ, List.set_cons_zero, List.set_cons_succ, Option.some.injEq, exists_eq_left', exists_eq_left, exists_eq, exists_and_left, exists_const, wipe, tYes, upd_same, ↓reduceIte, decide_false, decide_true, Bool.not_true, Bool.not_false, Bool.false_eq_true, V.int.injEq, HO.lst.injEq, HO.tup.injEq, V.ref.injEq, V.str.injEq, one_inj, le_a, le_z, le_0, le_9, mem_let, mem_dig, V.bl.injEq, List.cons.injEq, and_true, true_and, reduceCtorEq, false_and, exists_false, or_false, false_or])
open SX (S)
section
variable {P : Program} {w : World} {K : PySem.W.Frag} {mg : Str → Option Value} {base : Heap}
theorem sc_DataReader_take : FnScope ["self", "piece"] ["self", "piece"] (defScope s_DataReader_take) := ⟨rfl, rfl, rfl, by decide +kernel, rfl, by decide +kernel, by decide +kernel⟩
theorem ok_take {C Cd f : Addr} {fd : FuncData} (F : Fun K "take" "DataReader.take" s_DataReader_take f fd) (m_item : MtX P w K mg base 1 Cd "item" (spItem K Cd C)) (m_open_one : MtX P w K mg base 1 Cd "open_one" (spRd K Cd C fun s => stepM s [91]))
    (m_close_one : MtX P w K mg base 2 Cd "close_one" (spRd K Cd C fun s => stepM s [93])) (m_comma : MtX P w K mg base 1 Cd "comma" (spRd K Cd C fun s => stepM s [44])) (c_read_atom : ClX P w K mg base 2 "read_atom" (spRAtom K C)) : FnOk P w K mg base (L2.CX P w) 3 f fd ["self", "piece"] (spTakeP K Cd C) := by
  have nd := sc_DataReader_take.nd
  refine F.okX sc_DataReader_take (fun vs H Q E h => ?_) (fun cdv A outer s H vs Q E hr h => ?_)
  · obtain ⟨r, p, H0, s, n, rfl, _⟩ := h
    rfl
  obtain ⟨r, p, H0, s, n, rfl, hp, hR, hn, q, e⟩ := h
  refine ⟨_, (pss_one (ps_if (pt_cmpR op_eq (pv 1) pe_str (nomark _)) (pss_one (ps_expr (pmtX0 m_open_one hr (by omega) (passes_call (takes_of rfl rfl rfl rfl) (fun _ _ _ _ h => h)) (pv 0)))) (pss_one (ps_if (pt_cmpR op_eq (pv 1) pe_str (nomark _)) (pss_one (ps_expr (pmtX0 m_close_one hr (by omega) (passes_call (takes_of rfl rfl rfl rfl) (fun _ _ _ _ h => h)) (pv 0)))) (pss_one (ps_if (pt_cmpR op_eq (pv 1) pe_str (nomark _)) (pss_one (ps_expr (pmtX0 m_comma hr (by omega) (passes_call (takes_of rfl rfl rfl rfl) (fun _ _ _ _ h => h)) (pv 0)))) (pss_one (ps_expr (pmtX m_item hr (by omega) (passes_call (takes_of rfl rfl rfl rfl) (fun _ _ _ _ h => h)) (pv 0) (pa_cons (pclX c_read_atom hr (by omega) (passes_call (takes_of rfl rfl rfl rfl) (fun _ _ _ _ h => h)) (pa_cons (pv 1) pa_nil)) pa_nil)))))))))), ?_⟩
  walk_at "sx"
  have hR' := hR
  obtain ⟨T, L, dx, as, vs, hr1, hT, hL, rw1, tw1, tto, nTa, nLa, nTL, fr, fT, fL, fa, sm, rl⟩ := hR
  have e1 : S p = Str.ofString "[" ↔ p = [91] := ⟨fun z => SX.S_inj z, fun z => by rw [z]; rfl⟩
  have e2 : S p = Str.ofString "]" ↔ p = [93] := ⟨fun z => SX.S_inj z, fun z => by rw [z]; rfl⟩
  have e3 : S p = Str.ofString "," ↔ p = [44] := ⟨fun z => SX.S_inj z, fun z => by rw [z]; rfl⟩
  simp only [e1, e2, e3]
  refine ite2 (fun c => ?_) (fun c1 => ite2 (fun c => ?_) (fun c2 => ite2 (fun c => ?_) (fun c3 => ?_)))
  · have c := of_decide_eq_true c
    subst c
    exact ⟨dx, _, hr1, rfl, r, H0, s, n, rfl, hR', hn, q, e⟩
  · have c := of_decide_eq_true c
    subst c
    exact ⟨dx, _, hr1, rfl, r, H0, s, n, rfl, hR', hn, q, e⟩
  · have c := of_decide_eq_true c
    subst c
    exact ⟨dx, _, hr1, rfl, r, H0, s, n, rfl, hR', hn, q, e⟩
  · have c1 : ¬ p = [91] := fun z => c1 (decide_eq_true z)
    have c2 : ¬ p = [93] := fun z => c2 (decide_eq_true z)
    have c3 : ¬ p = [44] := fun z => c3 (decide_eq_true z)
    have es : stepM s p = match s.cur with
        | none => (atomR p).map fun x => ⟨s.rows, some x⟩
        | some _ => none := by
      unfold stepM
      rw [if_neg c1, if_neg c2, if_neg c3]
      all_goals (cases s.cur <;> rfl)
    refine ⟨dx, _, hr1, rfl, p, rfl, hp, fun d v H1 ha hd s1 => ?_, fun H1 hn s1 => e _ ?_ (sm.trans s1)⟩
    · have hd0 := hd
      refine ⟨r, v, d, H0, s, n, rfl, ⟨T, L, dx, as, vs, s1 _ _ hr1, s1 _ _ hT, s1 _ _ hL, RowsAt.mono (.of s1) rw1 (fun _ _ _ e => s1 _ _ e), DpAll.same s1 tw1, tto, nTa, nLa, nTL, fr, fT, fL, fa, sm.trans s1, rl⟩, hn, hd, (atomR_wr ha).1.to, fun s' H' hs => q s' H' ?_, fun H' hs => e H' ?_⟩
      · rw [es]
        unfold itemM at hs
        cases hc : s.cur with
        | none =>
          rw [hc] at hs
          rw [ha]
          exact hs
        | some y =>
          rw [hc] at hs
          cases hs
      · rw [es]
        unfold itemM at hs
        cases hc : s.cur with
        | none =>
          rw [hc] at hs
          cases hs
        | some y => rfl
    · rw [es, hn]
      all_goals (cases s.cur <;> rfl)
end

end Z

set_option Elab.async false
set_option linter.all false
set_option maxRecDepth 100000
set_option maxHeartbeats 4000000

namespace Z
open PySem PySem.Spec PyProof.Rows L2 Z.R
local macro_rules | `(tactic| walk_at "sx") => `(tactic| try simp only [and_assoc, cxOf_K, cxOf_Kn, C8.tCut, rEq, rNe, sc_ii, sc_ss, sc_bb, sc_is, sc_si, sc_bs, sc_sb, tSeq, tAsg, tPar, tPar3, tC, gName, gNil, gCons, gTup, gSub, rSetL, L2.start, tVar, tOp, tUn, rI0, rI, rU, tTest, tChain, tOrV, tAndV, tNotV, tCB, tCons, tNil, tLst, tTup, tIfS, tNext, tRet, tRetN, tDrop, tAnd, tOr, tNot, tB, tIf, tSl, tFld, sFld, putF, tNoPart, tPart, rSlL, tBM, tBM0, rAppend, rPop, rExtend, tCall, tMeth, List.map_cons, List.map_nil, List.replicate, List.length_cons, List.length_nil, List.append, List.cons_append, List.nil_append, List.append_nil, List.getElem?_cons_zero, List.getElem?_cons_succ, List.set_cons_zero, List.set_cons_succ, Option.some.injEq, exists_eq_left', exists_eq_left, exists_eq, exists_and_left, exists_const, wipe, tYes, upd_same, ↓reduceIte, decide_false, decide_true, Bool.not_true, Bool.not_false, Bool.false_eq_true, V.int.injEq, HO.lst.injEq, HO.tup.injEq, V.ref.injEq, V.str.injEq, one_inj, le_a, le_z, le_0, le_9, mem_let, mem_dig, V.bl.injEq, List.cons.injEq, and_true, true_and, reduceCtorEq, false_and, exists_false, or_false, false_or])
open SX (S)
def spInit (K : PySem.W.Frag) (Cd : Addr) : Sp := fun vs H Q _ => ∃ (r dx : Addr) (H0 : Hp), vs = [.ref r] ∧ H r = some (.ins Cd dx []) ∧ Same H0 H ∧ H0 r = none ∧ ∀ H', RdAt K Cd H0 H' r ⟨[], none⟩ 0 → Q .non H'
section
variable {P : Program} {w : World} {K : PySem.W.Frag} {mg : Str → Option Value} {base : Heap}
theorem sc_DataReader___init__ : FnScope ["self"] ["self"] (defScope s_DataReader___init__) := ⟨rfl, rfl, rfl, by decide +kernel, rfl, by decide +kernel, by decide +kernel⟩
theorem ok_init {Cd f : Addr} {fd : FuncData} (F : Fun K "__init__" "DataReader.__init__" s_DataReader___init__ f fd) (hC : Cls K Cd) (n_tuples : NoAttr K Cd "tuples") (n_ready : NoAttr K Cd "ready") (n_told : NoAttr K Cd "told") : FnOk P w K mg base CX0 1 f fd ["self"] (spInit K Cd) := by
  have nd := sc_DataReader___init__.nd
  refine F.ok sc_DataReader___init__ (fun vs H Q E h => ?_) (fun cdv A outer s H vs Q E hr h => ?_)
  · obtain ⟨r, dx, H0, rfl, _⟩ := h
    rfl
  obtain ⟨r, dx, H0, rfl, hr1, sm, fr, q⟩ := h
  refine ⟨_, (pss_cons (ps_fld (pv 0) (pe_lst pa_nil) rfl)
  (pss_cons (ps_fld (pv 0) pe_bl rfl)
  (pss_one (ps_fld (pv 0) (pe_lst pa_nil) rfl)))), ?_⟩
  walk_at "sx"
  refine ⟨by decide, fun T nT => ?_⟩
  have nrT : r ≠ T := ne_of_none hr1 nT
  have hr2 : upd H T (.lst []) r = some (.ins Cd dx []) := by rw [upd_ne nrT]; exact hr1
  refine ⟨Cd, dx, _, hr2, hC, n_tuples, (by decide : 0 < 1000), Cd, dx, _, rfl, hC, n_ready, (by decide : 1 < 1000), by decide, fun L nL => ?_⟩
  have e1 : putF (Str.ofString "ready") (V.bl true) (putF (Str.ofString "tuples") (V.ref T) []) = ([("tuples", V.ref T), ("ready", V.bl true)] : List (Str × V)) := by
    simp only [putF]
    rw [if_neg (by decide)]
  have e2 : putF (Str.ofString "told") (V.ref L) ([("tuples", V.ref T), ("ready", V.bl true)] : List (Str × V)) = rdF T L true := by
    simp only [putF, rdF]
    rw [if_neg (by decide), if_neg (by decide)]
  rw [e1] at nL ⊢
  have nrL : r ≠ L := ne_of_none upd_same nL
  have hT3 : upd (upd (upd H T (.lst [])) r (.ins Cd dx (putF (Str.ofString "tuples") (V.ref T) []))) r (.ins Cd dx ([("tuples", V.ref T), ("ready", V.bl true)] : List (Str × V))) T = some (.lst []) := by
    rw [upd_ne nrT.symm, upd_ne nrT.symm, upd_same]
  have nTL : T ≠ L := ne_of_none hT3 nL
  refine ⟨Cd, dx, ([("tuples", V.ref T), ("ready", V.bl true)] : List (Str × V)), by rw [upd_ne nrL, upd_same], hC, n_told, (by decide : 2 < 1000), q _ ?_⟩
  rw [e2]
  have H0T : H0 T = none := by
    cases z : H0 T with
    | none => rfl
    | some o =>
      have := sm T o z
      rw [nT] at this
      cases this
  have sm1 : Same H0 (upd (upd (upd H T (.lst [])) r (.ins Cd dx (putF (Str.ofString "tuples") (V.ref T) []))) r (.ins Cd dx ([("tuples", V.ref T), ("ready", V.bl true)] : List (Str × V)))) := Same.off (Same.off (Same.off sm H0T) fr) fr
  have H0L : H0 L = none := by
    cases z : H0 L with
    | none => rfl
    | some o =>
      have := sm1 L o z
      rw [nL] at this
      cases this
  exact ⟨T, L, dx, [], [], upd_same, by rw [upd_ne nrT.symm, upd_ne nTL]; exact hT3, by rw [upd_ne nrL.symm, upd_same], .nil, .nil, (fun d hd => by cases hd), (fun z => by cases z), (fun z => by cases z), nTL, fr, H0T, H0L, (fun a ha => by cases ha), Same.off (Same.off sm1 H0L) fr, fun row hr => by cases hr⟩
end

end Z

set_option Elab.async false
set_option linter.all false
set_option maxRecDepth 100000
set_option maxHeartbeats 4000000

namespace Z
open PySem PySem.Spec PyProof.Rows L2 Z.R
local macro_rules | `(tactic| walk_at "sx") => `(tactic| try simp only [and_assoc, cxOf_K, cxOf_Kn, C8.tCut, rEq, rNe, sc_ii, sc_ss, sc_bb, sc_is, sc_si, sc_bs, sc_sb, tSeq, tAsg, tPar, tPar3, tC, gName, gNil, gCons, gTup, gSub, rSetL, L2.start, tVar, tOp, tUn, rI0, rI, rU, tTest, tChain, tOrV, tAndV, tNotV, tCB, tCons, tNil, tLst, tTup, tIfS, tNext, tRet, tRetN, tDrop, tAnd, tOr, tNot, tB, tIf, tSl, tFld, sFld, putF, tNoPart, tPart, rSlL, tBM, tBM0, rAppend, rPop, rExtend, tCall, tMeth, List.map_cons, List.map_nil, List.replicate, List.length_cons, List.length_nil, List.append, List.cons_append, List.nil_append, List.append_nil, List.getElem?_cons_zero, List.getElem?_cons_succ, List.set_cons_zero, List.set_cons_succ, Option.some.injEq, exists_eq_left', exists_eq_left, exists_eq, exists_and_left, exists_const, wipe, tYes, upd_same, ↓reduceIte, decide_false, decide_true, Bool.not_true, Bool.not_false, Bool.false_eq_true, V.int.injEq, HO.lst.injEq, HO.tup.injEq, V.ref.injEq, V.str.injEq, one_inj, le_a, le_z, le_0, le_9, mem_let, mem_dig, V.bl.injEq, List.cons.injEq, and_true, true_and, reduceCtorEq, false_and, exists_false, or_false, false_or])
open SX (S)
def spRead (K : PySem.W.Frag) (C : Addr) : Sp := fun vs H Q E => ∃ (v : V) (d : PyData), vs = [v] ∧ Dp K H v d ∧ (∀ x, d = .str x → x.length ≤ 1000000) ∧
  (∀ x y u H', d = .str x → ans x.cps.toList = some y → Dp K H' u y → Same H H' → Q u H') ∧ (∀ H', (∀ x, d = .str x → ans x.cps.toList = none) → Same H H' → E (.ref C) none H')
theorem pcs_count : ∀ (t tok : List Nat), (pcs tok t).length ≤ 2 * t.length + 1
  | [], tok => by
    simp only [pcs]
    by_cases h : tok = []
    · rw [if_pos h]
      simp
    · rw [if_neg h]
      simp
  | c :: r, tok => by
    simp only [pcs]
    by_cases hc : delim c = true
    · rw [if_pos hc]
      have := pcs_count r []
      by_cases h : tok = []
      · rw [if_pos h]
        simp only [List.nil_append, List.length_cons]
        omega
      · rw [if_neg h]
        simp only [List.length_append, List.length_cons, List.length_nil]
        omega
    · rw [if_neg hc]
      have := pcs_count r (tok ++ [c])
      simp only [List.length_cons]
      omega
theorem pcs_short {t p : List Nat} (h : p ∈ pcs [] t) : p.length ≤ t.length := by
  have := (List.sublist_flatten_of_mem h).length_le
  rw [pcs_flat] at this
  exact this
theorem runM_take {ps : List (List Nat)} {i : Nat} {p : List Nat} {s s0 : MS} (hp : ps[i]? = some p) (hr : runM s0 (ps.take i) = some s) : runM s0 (ps.take (i + 1)) = stepM s p := by
  rw [List.take_add_one, hp, runM_app, hr]
  show (stepM s p).bind some = _
  cases stepM s p <;> rfl
theorem runM_stop {ps : List (List Nat)} {i : Nat} {s0 : MS} (h : runM s0 (ps.take i) = none) : runM s0 ps = none := by
  rw [← List.take_append_drop i ps, runM_app, h]
  rfl
section
variable {P : Program} {w : World} {K : PySem.W.Frag} {mg : Str → Option Value} {base : Heap}
theorem sc_read_data : FnScope ["text", "reader", "piece"] ["text"] (defScope s_read_data) := ⟨rfl, rfl, rfl, by decide +kernel, rfl, by decide +kernel, by decide +kernel⟩
theorem ok_read_data {C Cd f fi : Addr} {fd fdi : FuncData} (F : Fun K "read_data" "read_data" s_read_data f fd) (hC : Cls K Cd) (n_tuples : NoAttr K Cd "tuples") (n_told : NoAttr K Cd "told") (T_Malformed : XC K mg "Malformed" C)
    (M_DataReader : Mk K Cd fi) (G_DataReader : FnOk P w K mg base CX0 1 fi fdi ["self"] (spInit K Cd)) (gC_DataReader : mg "DataReader" = some (.ref Cd)) (bI_DataReader : Binds K fdi ["self"] [])
    (m_take : MtX P w K mg base 3 Cd "take" (spTakeP K Cd C)) (c_pieces_of : Cl P w K mg base 1 "pieces_of" spPieces)
    (b_isinstance : mg "isinstance" = none) (b_str : mg "str" = none) (b_len : mg "len" = none) : FnOk P w K mg base (L2.CX P w) 4 f fd ["text"] (spRead K C) := by
  have nd := sc_read_data.nd
  refine F.okX sc_read_data (fun vs H Q E h => ?_) (fun cdv A outer s H vs Q E hr h => ?_)
  · obtain ⟨v, d, rfl, _⟩ := h
    rfl
  obtain ⟨v, d, rfl, hv, hl, q, e⟩ := h
  refine ⟨_, (pss_cons (ps_if (pt_not (pt_val (pe_callB call_isi (by rfl) b_isinstance (by decide +kernel) (pa_cons (pv 0) (pa_cons (pe_bltn (v := .ty "str") (by rfl) b_str (by decide +kernel) rfl) pa_nil))))) (pss_one (ps_rz T_Malformed rfl (takes_of rfl rfl rfl rfl))) pss_nil)
  (pss_cons (ps_set (i := 1) nd rfl (.inl rfl) (pe_make0 M_DataReader G_DataReader (hr.mono (by omega)) (by rfl) gC_DataReader bI_DataReader .nil pass0))
  (pss_cons (ps_for (passes_of rfl) rfl (pi_list (pcl c_pieces_of hr (by omega) (pa_cons (pv 0) pa_nil))) (pg_name (i := 2) nd rfl (.inl rfl))
    (pss_one (ps_expr (pmtX m_take hr (by omega) (passes_call (takes_of rfl rfl rfl rfl) (fun _ _ _ _ h => h)) (pv 1) (pa_cons (pv 2) pa_nil)))))
  (pss_cons (ps_if (PW.pt (pw_or (pt_cmpR op_gt (pe_callB call_len (by rfl) b_len (by decide +kernel) (pa_cons (pe_fld (pv 1) rfl) pa_nil)) pe_int (nomark _)) (pw_or1 (pt_cmpR op_ne (pe_callB call_len (by rfl) b_len (by decide +kernel) (pa_cons (pe_fld (pv 1) rfl) pa_nil)) pe_int (nomark _))))) (pss_one (ps_rz T_Malformed rfl (takes_of rfl rfl rfl rfl))) pss_nil)
  (pss_one (ps_ret (pe_ix ix_list (pe_fld (pv 1) rfl) pe_int (fun _ _ => rfl)))))))), ?_⟩
  walk_at "sx"
  refine isi_str hv ⟨_, rfl, ?_⟩
  cases d with
  | str x =>
    cases hv
    refine iteF fun r dx nr ndx nrd => ⟨r, dx, H, rfl, upd_same, (same_upd ndx).trans (same_upd (by rw [upd_ne nrd.symm]; exact nr)), nr, fun H1 hR => ⟨rfl, ?_⟩⟩
    have hx := hl x rfl
    have ex : S x.cps.toList = x := SX.S_tl x
    have R0 := hR
    obtain ⟨T, L, ddx, as, vs, hr1, hT, hL, rw1, tw1, tto, nTa, nLa, nTL, fr, fT, fL, fa, sm, rl⟩ := hR
    refine ⟨_, rfl, x.cps.toList, by rw [ex]; rfl, by rw [tl_len]; exact hx, fun p H2 np hp s2 => ?_⟩
    obtain ⟨H0', sb, R1, keep⟩ := R0.rebase s2
    have hp0 := keep p _ hp np
    have hpl : (pcs [] x.cps.toList).length ≤ 2000001 := by
      have := pcs_count x.cps.toList []
      rw [tl_len] at this
      omega
    refine ⟨p, rfl, ⟨_, SqL.of hp⟩, for_list (K := K) (a := p) (xs := (pcs [] x.cps.toList).map fun y => .str (S y)) (fun i σ H' => ∃ (s : MS) (pc : Option V), σ = [some (.str x), some (.ref r), pc] ∧ runM ⟨[], none⟩ ((pcs [] x.cps.toList).take i) = some s ∧ RdAt K Cd H0' H' r s i)
      ⟨_, _, rfl, rfl, R1⟩ ?_ ?_ ?_⟩
    · rintro i σ H3 hi ⟨s, pc, rfl, hrun, R⟩
      have : Same H0' H3 := by
        obtain ⟨_, _, _, _, _, _, _, _, _, _, _, _, _, _, _, _, _, _, z, _⟩ := R
        exact z
      exact SqL.of (this _ _ hp0)
    · rintro i y σ H3 hi ⟨s, pc, rfl, hrun, R⟩
      walk_at "sx"
      have hi2 : i < (pcs [] x.cps.toList).length := by
        have := (List.getElem?_eq_some_iff.mp hi).1
        rwa [List.length_map] at this
      rw [List.getElem?_map, List.getElem?_eq_getElem hi2] at hi
      obtain rfl := Option.some.inj hi
      have hp2 : (pcs [] x.cps.toList)[i]? = some (pcs [] x.cps.toList)[i] := List.getElem?_eq_getElem hi2
      have hps := pcs_short (List.mem_of_getElem? hp2)
      rw [tl_len] at hps
      have hstep := runM_take hp2 hrun
      obtain ⟨T', L', dx', as', vs', hr1', _⟩ := R.ex
      refine ⟨dx', _, hr1', rfl, r, _, H0', s, i, rfl, by omega, R, by omega, fun s' H' hs R' => ⟨s', by rw [hstep]; exact hs, R'⟩, fun H' hs sm' => e _ (fun y ey => ?_) (sb.trans sm')⟩
      cases ey
      rw [hs] at hstep
      unfold ans
      rw [runM_stop hstep]
      rfl
    · rintro σ H3 ⟨s, pc, rfl, hrun, R⟩
      rw [List.length_map, List.take_of_length_le (Nat.le_refl _)] at hrun
      walk_at "sx"
      obtain ⟨T', L', dx', as', vs', hr1', hT', hL', rw1', tw1', tto', nTa', nLa', nTL', fr', fT', fL', fa', sm', rl'⟩ := R
      have ea : ans x.cps.toList = finM s := by
        unfold ans
        rw [hrun]
        rfl
      have no : finM s = none → E (Value.ref C) none H3 := fun z => e _ (fun y ey => by cases ey; rw [ea, z]) (sb.trans sm')
      have el := RowsAt.len rw1'
      refine ⟨Cd, dx', _, hr1', hC, n_tuples, _, rfl, _, len_l hT' rfl, ?_⟩
      rw [List.length_reverse, List.length_map, el]
      obtain ⟨rows, cur⟩ := s
      cases rows with
      | cons row rest =>
        have hc : (rowsC ⟨row :: rest, cur⟩).length = rest.length + 1 := by cases cur <;> rfl
        refine ite2 (fun _ => no ?_) (fun z => absurd (decide_eq_true (by rw [hc]; omega)) z)
        unfold finM
        rw [if_neg (by simp)]
      | nil =>
        have hc : (rowsC ⟨[], cur⟩).length = 0 := by cases cur <;> rfl
        refine ite2 (fun z => ?_) (fun _ => ?_)
        · have := of_decide_eq_true z
          rw [hc] at this
          omega
        · refine ⟨Cd, dx', _, hr1', hC, n_told, _, rfl, _, len_l hL' rfl, ?_⟩
          cases cur with
          | none =>
            cases tw1'
            exact iteT (no rfl)
          | some y =>
            cases tw1' with
            | @cons u us _ _ hu hus =>
            cases hus
            refine iteF ⟨Cd, dx', _, hr1', hC, n_told, _, rfl, ixl hL' rfl (q x y u _ rfl ?_ hu (sb.trans sm'))⟩
            rw [ea]
            rfl
  | _ => exact iteT (e _ (fun x z => by cases z) (.refl _))
end

end Z

set_option Elab.async false
set_option linter.all false
set_option maxRecDepth 100000
set_option maxHeartbeats 4000000
namespace Z
open PySem PySem.Spec PyProof.Rows L2 Z.R
local macro_rules | `(tactic| walk_at "sx") => `(tactic| try simp only [and_assoc, cxOf_K, cxOf_Kn, C8.tCut, rEq, rNe, sc_ii, sc_ss, sc_bb, sc_is, sc_si, sc_bs, sc_sb, tSeq, tAsg, tPar, tPar3, tC, gName, gNil, gCons, gTup, gSub, rSetL, L2.start, tVar, tOp, tUn, rI0, rI, rU, tTest, tChain, tOrV, tAndV, tNotV, tCB, tCons, tNil, tLst, tTup, tIfS, tNext, tRet, tRetN, tDrop, tAnd, tOr, tNot, tB, tIf, tSl, tFld, sFld, putF, tNoPart, tPart, rSlL, tBM, tBM0, rAppend, rPop, rExtend, tCall, tMeth, List.map_cons, List.map_nil, List.replicate, List.length_cons, List.length_nil, List.append, List.cons_append, List.nil_append, List.append_nil, List.getElem?_cons_zero, List.getElem?_cons_succ, List.set_cons_zero, List.set_cons_succ, Option.some.injEq, exists_eq_left', exists_eq_left, exists_eq, exists_and_left, exists_const, wipe, tYes, upd_same, ↓reduceIte, decide_false, decide_true, Bool.not_true, Bool.not_false, Bool.false_eq_true, V.int.injEq, HO.lst.injEq, HO.tup.injEq, V.ref.injEq, V.str.injEq, one_inj, le_a, le_z, le_0, le_9, mem_let, mem_dig, V.bl.injEq, List.cons.injEq, and_true, true_and, reduceCtorEq, false_and, exists_false, or_false, false_or])
open SX (S)
def spWritten (K : PySem.W.Frag) (k : Nat) : Sp := fun vs H Q _ => ∃ (v : V) (d : PyData), vs = [v] ∧ Dp K H v d ∧ Gr d ∧ d.depth < k ∧ (wr d).length ≤ 1000000 ∧ ∀ H', Same H H' → Q (.str (S (wr d))) H'
theorem smallN {n : Nat} (h : n ≤ 3000001) : n < sizeLine := Nat.lt_of_le_of_lt h (by decide)
theorem joinL_comma : ∀ ds : List PyData, TL.joinL [44] (ds.map wr) = wrAll ds := by
  have tail : ∀ (ds : List PyData) (d : PyData), TL.joinL [44] ((d :: ds).map wr) = wr d ++ wrTail ds := by
    intro ds
    induction ds with
    | nil =>
      intro d
      simp [TL.joinL, wrTail]
    | cons e es ih =>
      intro d
      show wr d ++ ([44] ++ TL.joinL [44] ((e :: es).map wr)) = _
      rw [ih e]
      simp [wrTail]
  intro ds
  cases ds with
  | nil => simp [TL.joinL, wrAll]
  | cons d ds => rw [tail, wrAll]
theorem wrAll_sum : ∀ ds : List PyData, (ds.map fun d => (wr d).length).sum + ds.length ≤ (wrAll ds).length + 1 := by
  have tail : ∀ ds : List PyData, (ds.map fun d => (wr d).length).sum + ds.length = (wrTail ds).length := by
    intro ds
    induction ds with
    | nil => simp [wrTail]
    | cons d ds ih =>
      simp only [wrTail, List.map_cons, List.sum_cons, List.length_cons, List.length_append]
      omega
  intro ds
  cases ds with
  | nil => simp [wrAll]
  | cons d ds =>
    have := tail ds
    simp only [wrAll, List.map_cons, List.sum_cons, List.length_cons, List.length_append]
    omega
theorem mem_len : ∀ {ds : List PyData} {d : PyData}, d ∈ ds → (wr d).length ≤ (ds.map fun d => (wr d).length).sum
  | e :: ds, d, h => by
    simp only [List.map_cons, List.sum_cons]
    rcases List.mem_cons.mp h with rfl | h
    · omega
    · have := mem_len h
      omega
theorem depth_mem : ∀ {ds : List PyData} {d : PyData}, d ∈ ds → d.depth ≤ PyData.depthAll ds
  | e :: ds, d, h => by
    simp only [PyData.depthAll]
    rcases List.mem_cons.mp h with rfl | h
    · omega
    · have := depth_mem h
      omega
/-- what the signs of truths and of the empty text are written as -/
theorem dsp {H : Hp} {R : Hp → Prop} {x z : Str} {Q : VK} (k : ∀ p : Addr, valV (mergeK [] [(.inr (Str.ofString "True"), V.str (Str.ofString "+")), (.inr (Str.ofString "False"), V.str (Str.ofString "-")), (.inr (Str.ofString ""), V.str (Str.ofString "."))]) (.inr x) = some (.str z)) (q : ∀ H', Same H H' → Q (.str z) H') {ty : TE} {σ : L2.St} (hy : ∀ H' (R : VK), R (.str x) H' → ty σ H' R) :
    tDGet (tDisp [(tC (V.str (Str.ofString "True")), tC (V.str (Str.ofString "+"))), (tC (V.str (Str.ofString "False")), tC (V.str (Str.ofString "-"))), (tC (V.str (Str.ofString "")), tC (V.str (Str.ofString ".")))]) ty σ H Q :=
  fun p np => ⟨upd_same, [(.inr (Str.ofString "True"), V.str (Str.ofString "+")), (.inr (Str.ofString "False"), V.str (Str.ofString "-")), (.inr (Str.ofString ""), V.str (Str.ofString "."))], rfl, (by decide : 3 ≤ 15), hy _ _ ⟨p, .str z, rfl, .inl ⟨_, .inr x, .inl upd_same, rfl, (k p).symm⟩, q _ (Same.off (Same.off (.refl _) np) np)⟩⟩
section
variable {P : Program} {w : World} {K : PySem.W.Frag} {mg : Str → Option Value} {base : Heap}
theorem sc__law_written : FnScope ["data", "parts", "item"] ["data"] (defScope s__law_written) := ⟨rfl, rfl, rfl, by decide +kernel, rfl, by decide +kernel, by decide +kernel⟩
theorem step__law_written {f : Addr} {fd : FuncData} {k : Nat} (F : Fun K "_law_written" "_law_written" s__law_written f fd) (c__law_word : Cl P w K mg base 1 "_law_word" (spWord K)) (c__law_written : Cl P w K mg base (k + 1) "_law_written" (spWritten K k)) (ndg : base.NoDigits)
    (b_tuple : mg "tuple" = none) (b_isinstance : mg "isinstance" = none) (b_bool : mg "bool" = none) (b_str : mg "str" = none) (b_int : mg "int" = none) : FnOk P w K mg base CX0 (k + 2) f fd ["data"] (spWritten K (k + 1)) := by
  have nd := sc__law_written.nd
  refine F.ok sc__law_written (fun vs H Q E h => ?_) (fun cdv A outer s H vs Q E hr h => ?_)
  · obtain ⟨v, d, rfl, _⟩ := h
    rfl
  obtain ⟨v, d, rfl, hv, g, hd, hl, q⟩ := h
  refine ⟨_, (pss_cons (ps_if (pt_val (pe_callB call_isi (by rfl) b_isinstance (by decide +kernel) (pa_cons (pv 0) (pa_cons (pe_bltn (v := .ty "tuple") (by rfl) b_tuple (by decide +kernel) rfl) pa_nil)))) (pss_cons (ps_setLc (i := 1) (own := [("item", 2)]) rfl nd rfl rfl (sw_true rfl rfl rfl (by decide +kernel)) (pi_tup (pv 0)) (blkOk_by (N := ["data", "parts", "item"]) (sc := defScope s__law_written) (by decide +kernel)) (fun _ _ _ _ _ => (pg_name (i := 2) nd rfl (.inl rfl))) (fun _ _ _ _ _ => pts_nil) (fun _ _ _ _ _ => (pcl c__law_written hr (by omega) (pa_cons (pv 2) pa_nil))))
  (pss_one (ps_ret (pe_ifExp (pt_cmpR op_in_seq pe_non (pv 1) (by rfl)) pe_non (pe_op op_add_str (pe_op op_add_str pe_str (pe_join pe_str (pv 1))) pe_str))))) pss_nil)
  (pss_cons (ps_if (pt_val (pcl c__law_word hr (by omega) (pa_cons (pv 0) pa_nil))) (pss_one (ps_ret (pv 0))) pss_nil)
  (pss_cons (ps_if (PW.pt (pw_or (pt_val (pe_callB call_isi (by rfl) b_isinstance (by decide +kernel) (pa_cons (pv 0) (pa_cons (pe_bltn (v := .ty "bool") (by rfl) b_bool (by decide +kernel) rfl) pa_nil)))) (pw_or1 (PW.pt (pw_and (pt_val (pe_callB call_isi (by rfl) b_isinstance (by decide +kernel) (pa_cons (pv 0) (pa_cons (pe_bltn (v := .ty "str") (by rfl) b_str (by decide +kernel) rfl) pa_nil)))) (pw_and1 (pt_cmpR op_eq (pv 0) pe_str (nomark _)))))))) (pss_one (ps_ret (pe_dget (hu_of hr) (pe_disp (pps_cons pe_str pe_str (pps_cons pe_str pe_str (pps_cons pe_str pe_str pps_nil))) rfl rfl (List.cons_ne_nil _ _) (by decide)) (pe_callTy (call_str_any ndg rfl) (by rfl) b_str (by decide +kernel) (pa_cons (pv 0) pa_nil)) (fun _ _ => rfl)))) pss_nil)
  (pss_one (ps_ret (pe_ifExp (pt_val (pe_callB call_isi (by rfl) b_isinstance (by decide +kernel) (pa_cons (pv 0) (pa_cons (pe_bltn (v := .ty "int") (by rfl) b_int (by decide +kernel) rfl) pa_nil)))) (pe_callTy (call_str_any ndg rfl) (by rfl) b_str (by decide +kernel) (pa_cons (pv 0) pa_nil)) pe_non)))))), ?_⟩
  walk_at "sx"
  refine isi_tup hv ⟨_, rfl, ?_⟩
  have lt43 : ∀ i : Int, i.natAbs < big → i.natAbs < 10 ^ 4300 := fun i h => Nat.lt_of_lt_of_le h (Nat.pow_le_pow_right (by decide) (by decide))
  cases g with
  | bl b =>
    cases hv
    refine iteF ⟨_, _, rfl, .bl b, fun x e => (by cases e), fun H1 s1 => ⟨_, rfl, iteF (isi_bool (.bl b) ⟨_, rfl, iteT ?_⟩)⟩⟩
    cases b
    · refine dsp (R := fun _ => True) (x := Str.ofString "False") (z := Str.ofString "-") (fun _ => by decide +kernel) (fun H2 s2 => ?_) fun H' R hR => ⟨_, rfl, .inr (.inr ⟨false, rfl, hR⟩)⟩
      have := q H2 (s1.trans s2)
      simp only [wr] at this
      exact this
    · refine dsp (R := fun _ => True) (x := Str.ofString "True") (z := Str.ofString "+") (fun _ => by decide +kernel) (fun H2 s2 => ?_) fun H' R hR => ⟨_, rfl, .inr (.inr ⟨true, rfl, hR⟩)⟩
      have := q H2 (s1.trans s2)
      simp only [wr] at this
      exact this
  | emp =>
    cases hv
    refine iteF ⟨_, _, rfl, .str _, fun x e => (by cases e; decide), fun H1 s1 => ⟨_, rfl, iteF (isi_bool (.str _) ⟨_, rfl, iteF (isi_str (.str _) ⟨_, rfl, iteT ⟨rfl, iteT ?_⟩⟩)⟩)⟩⟩
    refine dsp (R := fun _ => True) (x := Str.ofString "") (z := Str.ofString ".") (fun _ => by decide +kernel) (fun H2 s2 => ?_) fun H' R hR => ⟨_, rfl, .inr (.inl ⟨_, rfl, hR⟩)⟩
    have := q H2 (s1.trans s2)
    simp only [wr] at this
    exact this
  | word x h =>
    cases hv
    refine iteF ⟨_, _, rfl, .str x, fun y e => ?_, fun H1 s1 => ⟨_, rfl, ?_⟩⟩
    · cases e
      have := isWd_len h
      rw [tl_len] at this
      exact Nat.le_trans this (by decide)
    · have ew : wordD (.str x) = true := h
      rw [ew]
      refine iteT ?_
      have := q H1 s1
      rw [wr_str h, SX.S_tl] at this
      exact this
  | int i h =>
    cases hv
    refine iteF ⟨_, _, rfl, .int i, fun x e => (by cases e), fun H1 s1 => ⟨_, rfl, iteF (isi_bool (.int _) ⟨_, rfl, iteF (isi_str (.int _) ⟨_, rfl, iteF (isi_int (.int _) ⟨_, rfl, iteT (.inl ⟨i, rfl, lt43 i h, ?_⟩)⟩)⟩)⟩)⟩⟩
    have := q H1 s1
    simp only [wr] at this
    rw [intL_eq]
    exact this
  | tup ds g =>
    cases hv with
    | @tup a xs _ hs ha =>
    have lx := DpAll.length ha
    have hd : PyData.depthAll ds + 1 < k + 1 := by simpa only [PyData.depth] using hd
    have hl : (wrAll ds).length + 2 ≤ 1000000 := by
      have := hl
      simp only [wr, List.length_cons, List.length_append, List.length_nil] at this
      omega
    have hsum := wrAll_sum ds
    refine iteT ⟨_, rfl, a, rfl, ⟨xs, hs⟩, fun D nD => lc_it walk_tup (fun i H' => Same H H' ∧ H' D = some (.lst ((ds.take i).map fun d => V.str (S (wr d))))) ⟨same_upd nD, upd_same⟩ (fun i H' _ h => (Tp.of h.1).sqt hs) ?_ ?_⟩
    · rintro i x H1 H2 hi ⟨s1, hD⟩ ⟨rfl, hx⟩
      obtain ⟨d, hdi, hdp⟩ := DpAll.at ha hx
      have hm := List.mem_of_getElem? hdi
      have h1 := mem_len hm
      have h2 := depth_mem hm
      walk_at "sx"
      refine ⟨x, d, rfl, hdp.same s1, g d hm, by omega, by omega, fun H3 s3 => ⟨_, s3 _ _ hD, ?_, Same.off (s1.trans s3) nD, ?_⟩⟩
      · rw [List.length_map, List.length_take]
        exact smallN (by omega)
      · rw [List.take_add_one, hdi, List.map_append]
        rfl
    · rintro H1 ⟨s1, hD⟩
      rw [lx, List.take_length] at hD
      have fl : ((ds.map fun d => V.str (S (wr d))).all flatV) = true := by
        rw [List.all_eq_true]
        intro y hy
        obtain ⟨d, _, rfl⟩ := List.mem_map.mp hy
        rfl
      have ni : inV .non (ds.map fun d => V.str (S (wr d))) = false := by
        unfold inV
        rw [List.any_eq_false]
        intro y hy
        obtain ⟨d, _, rfl⟩ := List.mem_map.mp hy
        simp [eqV]
      refine ⟨D, _, rfl, .inl (SqL.of hD), rfl, fl, _, rfl, ?_⟩
      rw [ni]
      have e1 : Txt.join (Str.ofString ",") (ds.map fun d => S (wr d)) = S (wrAll ds) := by
        rw [show Str.ofString "," = S [44] from rfl, show (ds.map fun d => S (wr d)) = (ds.map wr).map S by rw [List.map_map]; rfl, SX.join_S, joinL_comma]
      refine iteF ⟨⟨_, rfl⟩, _, rfl, _, rfl, _, rfl, ds.map fun d => S (wr d), .inl (SqL.of (by rw [hD, List.map_map]; rfl)), ?_, _, rfl, ?_, ?_, ?_⟩
      · rw [List.map_map, List.length_map, show (Str.ofString ",").length = 1 from rfl]
        have : (ds.map ((fun x : Str => x.length) ∘ fun d => S (wr d))) = ds.map fun d => (wr d).length := List.map_congr_left fun d _ => SX.S_len _
        rw [this]
        omega
      · rw [e1]
        have h0 : (Str.ofString "[").length = 1 := rfl
        have h1 : (S (wrAll ds)).length = (wrAll ds).length := SX.S_len _
        exact Nat.le_of_lt (smallN (by omega))
      · rw [e1, show Str.ofString "[" = S [91] from rfl, SX.S_cat]
        have h0 : (Str.ofString "]").length = 1 := rfl
        have h1 : (S ([91] ++ wrAll ds)).length = ([91] ++ wrAll ds).length := SX.S_len _
        rw [List.length_append, List.length_singleton] at h1
        exact Nat.le_of_lt (smallN (by omega))
      · have := q H1 s1
        simp only [wr] at this
        rw [e1, show Str.ofString "[" = S [91] from rfl, show Str.ofString "]" = S [93] from rfl, SX.S_cat, SX.S_cat]
        exact this
theorem ok__law_written {f : Addr} {fd : FuncData} (F : Fun K "_law_written" "_law_written" s__law_written f fd) (hg : mg "_law_written" = some (.ref f)) (hk : PySem.W.keepIn K (.ref f) = true) (bi : Binds K fd ["data"] []) (c__law_word : Cl P w K mg base 1 "_law_word" (spWord K)) (ndg : base.NoDigits)
    (b_tuple : mg "tuple" = none) (b_isinstance : mg "isinstance" = none) (b_bool : mg "bool" = none) (b_str : mg "str" = none) (b_int : mg "int" = none) : ∀ k, Cl P w K mg base (k + 1) "_law_written" (spWritten K k)
  | 0 => ⟨f, fd, ["data"], fn_false fun vs H Q E h => by
      obtain ⟨v, d, _, _, _, h, _⟩ := h
      exact absurd h (Nat.not_lt_zero _), hg, hk, bi⟩
  | k + 1 => ⟨f, fd, ["data"], step__law_written F c__law_word (ok__law_written F hg hk bi c__law_word ndg b_tuple b_isinstance b_bool b_str b_int k) ndg b_tuple b_isinstance b_bool b_str b_int, hg, hk, bi⟩
end

end Z

set_option Elab.async false
set_option linter.all false
set_option maxRecDepth 100000
set_option maxHeartbeats 4000000

namespace Z
open PySem PySem.Spec PyProof.Rows L2 Z.R
local macro_rules | `(tactic| walk_at "sx") => `(tactic| try simp only [and_assoc, cxOf_K, cxOf_Kn, C8.tCut, rEq, rNe, sc_ii, sc_ss, sc_bb, sc_is, sc_si, sc_bs, sc_sb, tSeq, tAsg, tPar, tPar3, tC, gName, gNil, gCons, gTup, gSub, rSetL, L2.start, tVar, tOp, tUn, rI0, rI, rU, tTest, tChain, tOrV, tAndV, tNotV, tCB, tCons, tNil, tLst, tTup, tIfS, tNext, tRet, tRetN, tDrop, tAnd, tOr, tNot, tB, tIf, tSl, tFld, sFld, putF, tNoPart, tPart, rSlL, tBM, tBM0, rAppend, rPop, rExtend, tCall, tMeth, List.map_cons, List.map_nil, List.replicate, List.length_cons, List.length_nil, List.append, List.cons_append, List.nil_append, List.append_nil, List.getElem?_cons_zero, List.getElem?_cons_succ, List.set_cons_zero, List.set_cons_succ, Option.some.injEq, exists_eq_left', exists_eq_left, exists_eq, exists_and_left, exists_const, wipe, tYes, upd_same, ↓reduceIte, decide_false, decide_true, Bool.not_true, Bool.not_false, Bool.false_eq_true, V.int.injEq, HO.lst.injEq, HO.tup.injEq, V.ref.injEq, V.str.injEq, one_inj, le_a, le_z, le_0, le_9, mem_let, mem_dig, V.bl.injEq, List.cons.injEq, and_true, true_and, reduceCtorEq, false_and, exists_false, or_false, false_or])
open SX (S)
def rEqNil (K : PySem.W.Frag) (neg : Bool) : R2 := fun x y H Q => ∃ (a b : Addr) (xs : List V), x = .ref a ∧ y = .ref b ∧ SqL K H a xs ∧ SqL K H b [] ∧ Q (.bl (if neg then !decide (xs = []) else decide (xs = []))) H
section
variable {X : Cx}
theorem op_eqNil (hu : X.A.units < cLine) : OpR X (compareOp .Eq) (rEqNil X.K false) := by
  intro pins s σ H x y v u Q I rx ry h
  obtain ⟨a, b, xs, rfl, rfl, ha, hb, q⟩ := h
  cases rx
  cases ry
  obtain ⟨us, r1, p1, _⟩ := I.list ha
  obtain ⟨ws, r2, p2, _⟩ := I.list hb
  cases r2
  have l1 := r1.length
  by_cases c : xs = []
  · subst c
    cases r1
    exact SeqAt.RcAt.lists (e := fun _ => true) p1.isList p2.isList rfl hu (fun j h1 => absurd h1 (Nat.not_lt_zero j)) _ _ _ _ ⟨.bl true, H, I, rfl, by simpa using q⟩
  · refine SeqAt.RcAt.lists_lengths p1.isList p2.isList ?_ hu _ _ _ _ ⟨.bl false, H, I, rfl, by simpa [c] using q⟩
    rw [List.size_toArray, ← l1]
    cases xs with
    | nil => exact absurd rfl c
    | cons z r => simp
theorem op_neNil (hu : X.A.units < cLine) : OpR X (compareOp .NotEq) (rEqNil X.K true) := by
  intro pins s σ H x y v u Q I rx ry h
  obtain ⟨a, b, xs, rfl, rfl, ha, hb, q⟩ := h
  cases rx
  cases ry
  obtain ⟨us, r1, p1, _⟩ := I.list ha
  obtain ⟨ws, r2, p2, _⟩ := I.list hb
  cases r2
  have l1 := r1.length
  by_cases c : xs = []
  · subst c
    cases r1
    exact SeqAt.RcNeAt.lists (e := fun _ => true) p1.isList p2.isList rfl hu (fun j h1 => absurd h1 (Nat.not_lt_zero j)) _ _ _ _ ⟨.bl false, H, I, rfl, by simpa using q⟩
  · refine SeqAt.RcNeAt.lists_lengths p1.isList p2.isList ?_ hu _ _ _ _ ⟨.bl true, H, I, rfl, by simpa [c] using q⟩
    rw [List.size_toArray, ← l1]
    cases xs with
    | nil => exact absurd rfl c
    | cons z r => simp
end
def spLRead (K : PySem.W.Frag) : Sp := fun vs H Q _ => ∃ (t : List Nat), vs = [.str (S t)] ∧ t.length ≤ 1000000 ∧ 59 ∉ t ∧ Runs 4000 t ∧ Hgt 1000 t ∧
  (∀ H', ans t = none → Same H H' → Q .non H') ∧ (∀ (p : Addr) (v : V) (d : PyData) (H' : Hp), ans t = some d → H' p = some (.lst [v]) → Dp K H' v d → Same H H' → Q (.ref p) H')
theorem mem_delim2 (c : Nat) : decide (c ∈ (Str.ofString "[],;").cps.toList) = (delim c || c == 59) := by
  have e : (Str.ofString "[],;").cps.toList = [91, 93, 44, 59] := by decide +kernel
  rw [e, delim, Bool.eq_iff_iff]
  simp only [decide_eq_true_eq, List.mem_cons, List.not_mem_nil, or_false, Bool.or_eq_true, beq_iff_eq, or_assoc]
structure LrAt (K : PySem.W.Frag) (H0 H : Hp) (R Dn : Addr) (s : MS) (n : Nat) : Prop where
  ex : ∃ as : List Addr, H R = some (.lst (as.map V.ref).reverse) ∧ RowsAt K H as s.rows ∧ R ∉ as ∧ H0 R = none ∧ (∀ a ∈ as, H0 a = none) ∧ Same H0 H ∧ (∀ row ∈ s.rows, row.length ≤ n) ∧
    ∀ x, s.cur = some x → ∃ v, H Dn = some (.lst [v]) ∧ Dp K H v x ∧ To x ∧ Dn ≠ R ∧ Dn ∉ as
/-- what was begun is read -/
def flush (tok : List Nat) (s : MS) : Option MS := if tok = [] then some s else match s.cur with
  | none => (atomR tok).map fun x => ⟨s.rows, some x⟩
  | some _ => none
theorem flush_run {tok : List Nat} {s : MS} (hf : ∀ c ∈ tok, delim c = false) (ps : List (List Nat)) : runM s ((if tok = [] then [] else [tok]) ++ ps) = (flush tok s).bind fun s1 => runM s1 ps := by
  unfold flush
  by_cases h : tok = []
  · rw [if_pos h, if_pos h]
    rfl
  · rw [if_neg h, if_neg h]
    show (stepM s tok).bind _ = _
    have e : stepM s tok = match s.cur with
        | none => (atomR tok).map fun x => ⟨s.rows, some x⟩
        | some _ => none := by
      have ne : ∀ c, delim c = true → ¬ tok = [c] := fun c hc z => by
        rw [hf c (by rw [z]; exact List.mem_singleton_self c)] at hc
        cases hc
      unfold stepM
      rw [if_neg (ne 91 rfl), if_neg (ne 93 rfl), if_neg (ne 44 rfl)]
      all_goals (cases s.cur <;> rfl)
    rw [e]
    rfl
/-- what remains to be done at the i-th sign -/
def togo (t : List Nat) (i : Nat) (tok : List Nat) (s : MS) : Option MS := if i ≤ t.length then runM s (pcs tok (t.drop i)) else some s
theorem LrAt.rows {K : PySem.W.Frag} {H0 H : Hp} {R Dn : Addr} {s : MS} {n : Nat} (L : LrAt K H0 H R Dn s n) : ∃ xs : List V, H R = some (.lst xs) ∧ xs.length = s.rows.length := by
  obtain ⟨as, hR, rw1, _⟩ := L
  exact ⟨_, hR, by rw [List.length_reverse, List.length_map, RowsAt.len rw1]⟩
theorem LrAt.sm {K : PySem.W.Frag} {H0 H : Hp} {R Dn : Addr} {s : MS} {n : Nat} (L : LrAt K H0 H R Dn s n) : Same H0 H := by
  obtain ⟨as, hR, rw1, _, _, _, z, _⟩ := L
  exact z
theorem LrAt.le {K : PySem.W.Frag} {H0 H : Hp} {R Dn : Addr} {s : MS} {n m : Nat} (L : LrAt K H0 H R Dn s n) (h : n ≤ m) : LrAt K H0 H R Dn s m := by
  obtain ⟨as, hR, rw1, nR, fR, fa, sm, rl, cu⟩ := L
  exact ⟨as, hR, rw1, nR, fR, fa, sm, fun row hr => Nat.le_trans (rl row hr) h, cu⟩
theorem LrAt.same {K : PySem.W.Frag} {H0 H H' : Hp} {R Dn : Addr} {s : MS} {n : Nat} (L : LrAt K H0 H R Dn s n) (f : Same H H') : LrAt K H0 H' R Dn s n := by
  obtain ⟨as, hR, rw1, nR, fR, fa, sm, rl, cu⟩ := L
  refine ⟨as, f _ _ hR, RowsAt.mono (.of f) rw1 (fun _ _ _ e => f _ _ e), nR, fR, fa, sm.trans f, rl, fun x e => ?_⟩
  obtain ⟨v, h1, h2, h3, h4⟩ := cu x e
  exact ⟨v, f _ _ h1, h2.same f, h3, h4⟩
/-- a new one is at hand -/
theorem LrAt.got {K : PySem.W.Frag} {H0 H : Hp} {R Dn p : Addr} {s : MS} {n : Nat} {v : V} {x : PyData} (L : LrAt K H0 H R Dn s n) (np : H p = none) (hv : Dp K H v x) (hx : To x) : LrAt K H0 (upd H p (.lst [v])) R p ⟨s.rows, some x⟩ n := by
  have f : Same H (upd H p (.lst [v])) := same_upd np
  obtain ⟨as, hR, rw1, nR, fR, fa, sm, rl, cu⟩ := L
  refine ⟨as, f _ _ hR, RowsAt.mono (.of f) rw1 (fun _ _ _ e => f _ _ e), nR, fR, fa, sm.trans f, rl, fun y e => ?_⟩
  obtain rfl := Option.some.inj e
  refine ⟨v, upd_same, hv.same f, hx, (ne_of_none hR np).symm, fun z => ?_⟩
  obtain ⟨xs, hp⟩ := RowsAt.lst rw1 p z
  rw [np] at hp
  cases hp
theorem LrAt.opn {K : PySem.W.Frag} {H0 H : Hp} {R Dn : Addr} {s : MS} {n : Nat} (L : LrAt K H0 H R Dn s n) : ∃ xs : List V, H R = some (.lst xs) ∧ xs.length = s.rows.length ∧ ∀ p, H p = none → LrAt K H0 (upd (upd H p (.lst [])) R (.lst (xs ++ [.ref p]))) R Dn ⟨[] :: s.rows, none⟩ n := by
  obtain ⟨as, hR, rw1, nR, fR, fa, sm, rl, cu⟩ := L
  refine ⟨_, hR, by rw [List.length_reverse, List.length_map, RowsAt.len rw1], fun p np => ?_⟩
  have f := same_upd (o := .lst []) np
  have nRp : R ≠ p := ne_of_none hR np
  have H0p : H0 p = none := sm.free np
  have tp : Tp H (upd (upd H p (.lst [])) R (.lst ((as.map V.ref).reverse ++ [.ref p]))) := Tp.upd (Tp.new (.refl _) np) (by rw [upd_ne nRp]; exact hR)
  refine ⟨p :: as, by rw [rev_snoc, upd_same], .cons (vs := []) (by rw [upd_ne nRp.symm, upd_same]) .nil (fun d hd => by cases hd) (fun z => ?_) (RowsAt.mono tp rw1 fun b hb xs e => ?_), fun z => ?_, fR, fun a ha => ?_, Same.off (sm.trans f) fR, fun row hr => ?_, fun x e => by cases e⟩
  · obtain ⟨xs, hp⟩ := RowsAt.lst rw1 p z
    rw [np] at hp
    cases hp
  · rw [upd_ne (fun z => nR (by rw [← z]; exact hb)), upd_ne (ne_of_none e np)]
    exact e
  · rcases List.mem_cons.mp z with z | z
    · exact nRp z
    · exact nR z
  · rcases List.mem_cons.mp ha with rfl | ha
    · exact H0p
    · exact fa a ha
  · rcases List.mem_cons.mp (show row ∈ [] :: s.rows from hr) with rfl | hr
    · exact Nat.zero_le _
    · exact rl row hr
theorem LrAt.com {K : PySem.W.Frag} {H0 H : Hp} {R Dn : Addr} {row : List PyData} {r : List (List PyData)} {x : PyData} {n : Nat} (L : LrAt K H0 H R Dn ⟨row :: r, some x⟩ n) : ∃ (xs : List V) (a : Addr) (us : List V) (v : V), H R = some (.lst (xs ++ [.ref a])) ∧ H a = some (.lst us) ∧ us.length = row.length ∧ row.length ≤ n ∧ H Dn = some (.lst [v]) ∧
    LrAt K H0 (upd H a (.lst (us ++ [v]))) R Dn ⟨(row ++ [x]) :: r, none⟩ (n + 1) := by
  obtain ⟨as, hR, rw1, nR, fR, fa, sm, rl, cu⟩ := L
  obtain ⟨v, h1, h2, h3, h4, h5⟩ := cu x rfl
  cases rw1 with
  | @cons a as' us _ _ ha hd ho hna hrest =>
  rw [rev_snoc] at hR
  have hc := rl row (List.mem_cons_self ..)
  have tp : Tp H (upd H a (.lst (us ++ [v]))) := Tp.upd (.refl _) ha
  have nRa : R ≠ a := fun z => nR (by rw [z]; exact List.mem_cons_self ..)
  refine ⟨_, a, us, v, hR, ha, DpAll.length hd, hc, h1, a :: as', by rw [rev_snoc, upd_ne nRa]; exact hR, .cons upd_same (DpAll.snoc (To.monoAll tp ho hd) (h3.mono tp v h2)) (fun d hd => ?_) hna (RowsAt.mono tp hrest fun b hb xs e => ?_), nR, fR, fa, Same.off sm (fa a (List.mem_cons_self ..)), fun row' hr => ?_, fun y e => by cases e⟩
  · rcases List.mem_append.mp hd with h | h
    · exact ho d h
    · rw [List.mem_singleton.mp h]
      exact h3
  · rw [upd_ne (fun z => hna (by rw [← z]; exact hb))]
    exact e
  · rcases List.mem_cons.mp (show row' ∈ (row ++ [x]) :: r from hr) with rfl | hr
    · rw [List.length_append, List.length_singleton]
      omega
    · have := rl row' (List.mem_cons_of_mem _ hr)
      omega
theorem LrAt.cls {K : PySem.W.Frag} {H0 H : Hp} {R Dn : Addr} {row : List PyData} {r : List (List PyData)} {cur : Option PyData} {n : Nat} (L : LrAt K H0 H R Dn ⟨row :: r, cur⟩ n) : ∃ (xs : List V) (a : Addr) (us : List V), H R = some (.lst (xs ++ [.ref a])) ∧ H a = some (.lst us) ∧ a ≠ R ∧ us.length = row.length ∧ row.length ≤ n ∧ (∀ d ∈ row, To d) ∧
    upd H R (.lst xs) a = some (.lst us) ∧ DpAll K (upd H R (.lst xs)) us row ∧ LrAt K H0 (upd H R (.lst xs)) R Dn ⟨r, cur⟩ n := by
  obtain ⟨as, hR, rw1, nR, fR, fa, sm, rl, cu⟩ := L
  cases rw1 with
  | @cons a as' us _ _ ha hd ho hna hrest =>
  rw [rev_snoc] at hR
  have hc := rl row (List.mem_cons_self ..)
  have nRa : R ≠ a := fun z => nR (by rw [z]; exact List.mem_cons_self ..)
  have tp : Tp H (upd H R (.lst (as'.map V.ref).reverse)) := Tp.upd (.refl _) hR
  refine ⟨_, a, us, hR, ha, nRa.symm, DpAll.length hd, hc, ho, by rw [upd_ne nRa.symm]; exact ha, To.monoAll tp ho hd, as', upd_same, RowsAt.mono tp hrest fun b hb xs e => ?_, fun z => nR (List.mem_cons_of_mem _ z), fR, fun b hb => fa b (List.mem_cons_of_mem _ hb), Same.off sm fR, fun row' hr => rl row' (List.mem_cons_of_mem _ hr), fun x e => ?_⟩
  · rw [upd_ne (fun z => nR (by rw [← z]; exact List.mem_cons_of_mem _ hb))]
    exact e
  · obtain ⟨v, h1, h2, h3, h4, h5⟩ := cu x e
    exact ⟨v, by rw [upd_ne h4]; exact h1, h3.mono tp v h2, h3, h4, fun z => h5 (List.mem_cons_of_mem _ z)⟩
def sgD : List (Key × V) := [(.inr (Str.ofString "+"), V.bl true), (.inr (Str.ofString "-"), V.bl false), (.inr (Str.ofString "."), V.str (Str.ofString ""))]
theorem sgD_val (tok : List Nat) : valV (mergeK [] sgD) (.inr (S tok)) = if tok = [43] then some (.bl true) else if tok = [45] then some (.bl false) else if tok = [46] then some (.str (S [])) else none := by
  have e : mergeK [] sgD = sgD := by
    unfold mergeK sgD
    simp only [List.foldl_cons, List.foldl_nil]
    rw [show putK ([] : List (Key × V)) (.inr (Str.ofString "+")) (V.bl true) = [(.inr (Str.ofString "+"), V.bl true)] from rfl]
    rw [show putK [((.inr (Str.ofString "+") : Key), V.bl true)] (.inr (Str.ofString "-")) (V.bl false) = [(.inr (Str.ofString "+"), V.bl true), (.inr (Str.ofString "-"), V.bl false)] by unfold putK; rw [if_neg (by decide +kernel)]; rfl]
    unfold putK
    rw [if_neg (by decide +kernel)]
    rfl
  rw [e]
  have k : ∀ l : List Nat, ((.inr (S l) : Key) = .inr (S tok)) ↔ tok = l := fun l => ⟨fun z => (SX.S_inj (Sum.inr.inj z)).symm, fun z => by rw [z]⟩
  unfold sgD
  by_cases c1 : tok = [43]
  · rw [if_pos c1, valV_pos ((k [43]).mpr c1)]
  rw [if_neg c1, valV_neg (fun z => c1 ((k [43]).mp z))]
  by_cases c2 : tok = [45]
  · rw [if_pos c2, valV_pos ((k [45]).mpr c2)]
  rw [if_neg c2, valV_neg (fun z => c2 ((k [45]).mp z))]
  by_cases c3 : tok = [46]
  · rw [if_pos c3, valV_pos ((k [46]).mpr c3)]
    rfl
  rw [if_neg c3, valV_neg (fun z => c3 ((k [46]).mp z))]
  rfl
theorem atom_val {K : PySem.W.Frag} (tok : List Nat) (z : V) (hl : tok.length ≤ 4000) (hz : z = if isWd tok = true then .str (S tok) else if numOk tok = true then .int (numV tok) else .non) :
    (atomR tok = none ∧ (valV (mergeK [] sgD) (.inr (S tok))).getD z = .non) ∨ ∃ x, atomR tok = some x ∧ (valV (mergeK [] sgD) (.inr (S tok))).getD z ≠ .non ∧ ∀ H, Dp K H ((valV (mergeK [] sgD) (.inr (S tok))).getD z) x := by
  rw [sgD_val]
  unfold atomR
  by_cases c1 : tok = [43]
  · rw [if_pos c1, if_pos c1]
    exact .inr ⟨_, rfl, (by intro h; cases h), fun H => .bl _⟩
  rw [if_neg c1, if_neg c1]
  by_cases c2 : tok = [45]
  · rw [if_pos c2, if_pos c2]
    exact .inr ⟨_, rfl, (by intro h; cases h), fun H => .bl _⟩
  rw [if_neg c2, if_neg c2]
  by_cases c3 : tok = [46]
  · rw [if_pos c3, if_pos c3]
    exact .inr ⟨_, rfl, (by intro h; cases h), fun H => .str _⟩
  rw [if_neg c3, if_neg c3, hz]
  by_cases c4 : isWd tok = true
  · rw [if_pos c4, if_pos c4]
    exact .inr ⟨_, rfl, (by intro h; cases h), fun H => .str _⟩
  rw [if_neg c4, if_neg c4]
  have hb : (bodyOf tok).length ≤ 4000 := Nat.le_trans (body_len tok) hl
  by_cases c5 : numOk tok = true
  · rw [if_pos c5, if_pos ⟨c5, hb⟩]
    exact .inr ⟨_, rfl, (by intro h; cases h), fun H => .int _⟩
  · rw [if_neg c5, if_neg (fun h => c5 h.1)]
    exact .inl ⟨rfl, rfl⟩
theorem LrAt.shut {K : PySem.W.Frag} {H0 H : Hp} {R Dn l p : Addr} {r : List (List PyData)} {cur : Option PyData} {n : Nat} {us : List V} {full : List PyData} (L : LrAt K H0 H R Dn ⟨r, cur⟩ n) (nl : H l = none) (hd : DpAll K H us full) (ho : ∀ d ∈ full, To d) (np : upd H l (.tup us) p = none) :
    LrAt K H0 (upd (upd H l (.tup us)) p (.lst [.ref l])) R p ⟨r, some (.tuple full)⟩ n :=
  (L.same (same_upd nl)).got np (.tup (SqT.of upd_same) (DpAll.same (same_upd nl) hd)) (.tup _ ho)
theorem LrAt.hand {K : PySem.W.Frag} {H0 H : Hp} {R Dn : Addr} {rows : List (List PyData)} {x : PyData} {n : Nat} (L : LrAt K H0 H R Dn ⟨rows, some x⟩ n) : ∃ v, H Dn = some (.lst [v]) ∧ Dp K H v x ∧ To x := by
  obtain ⟨as, hR, rw1, nR, fR, fa, sm, rl, cu⟩ := L
  obtain ⟨v, h1, h2, h3, _⟩ := cu x rfl
  exact ⟨v, h1, h2, h3⟩
theorem last_snoc {α : Type} (xs : List α) (x : α) : (xs ++ [x])[(xs ++ [x]).length - 1]? = some x := by
  rw [List.length_append, List.length_singleton, Nat.add_sub_cancel, List.getElem?_append_right (Nat.le_refl _), Nat.sub_self]
  rfl
theorem sgn_eq (c k : Nat) (s : Str) (e : s = ⟨#[k]⟩) : decide ((⟨#[c]⟩ : Str) = s) = decide (c = k) := by
  subst e
  simp only [one_inj]
structure LInv (K : PySem.W.Frag) (H0 : Hp) (R : Addr) (t : List Nat) (i : Nat) (σ : L2.St) (H : Hp) : Prop where
  ex : ∃ (s : MS) (Dn : Addr) (tok pre : List Nat) (c5 c6 c7 : Option V), σ = [some (.str (S t)), some (.ref R), some (.ref Dn), some (.str (S tok)), some (.bl s.cur.isNone), c5, c6, c7] ∧ LrAt K H0 H R Dn s i ∧
    runM ⟨[], none⟩ (pcs [] t) = togo t i tok s ∧ (∀ c ∈ tok, delim c = false) ∧ (i ≤ t.length → t = pre ++ tok ++ t.drop i ∧ s.rows.length + cn 93 pre = cn 91 pre) ∧ (t.length < i → tok = [])
structure LMid (K : PySem.W.Frag) (H0 : Hp) (R : Addr) (t : List Nat) (i c : Nat) (tok : List Nat) (s : MS) (σ : L2.St) (H : Hp) : Prop where
  ex : ∃ (s1 : MS) (D1 : Addr) (c6 c7 : Option V), σ = [some (.str (S t)), some (.ref R), some (.ref D1), some (.str (S [])), some (.bl s1.cur.isNone), some (.str ⟨#[c]⟩), c6, c7] ∧ LrAt K H0 H R D1 s1 i ∧ flush tok s = some s1
section
variable {P : Program} {w : World} {K : PySem.W.Frag} {mg : Str → Option Value} {base : Heap}
theorem sc__law_read : FnScope ["text", "rows", "done", "token", "ahead", "sign", "atom", "row"] ["text"] (defScope s__law_read) := ⟨rfl, rfl, rfl, by decide +kernel, rfl, by decide +kernel, by decide +kernel⟩
theorem ok__law_read {f : Addr} {fd : FuncData} (F : Fun K "_law_read" "_law_read" s__law_read f fd) (c__law_word : Cl P w K mg base 1 "_law_word" (spWord K)) (c__law_number : Cl P w K mg base 1 "_law_number" spNumber) (b_tuple : mg "tuple" = none) : FnOk P w K mg base CX0 2 f fd ["text"] (spLRead K) := by
  have nd := sc__law_read.nd
  refine F.ok sc__law_read (fun vs H Q E h => ?_) (fun cdv A outer s H vs Q E hr h => ?_)
  · obtain ⟨t, rfl, _⟩ := h
    rfl
  obtain ⟨t, rfl, hl, hsemi, hruns, hhgt, qn, qs⟩ := h
  refine ⟨_, (pss_cons (ps_asg (pe_tup (pa_cons (pe_lst pa_nil) (pa_cons (pe_lst pa_nil) (pa_cons pe_str (pa_cons pe_bl pa_nil))))) (pg_tup (n := 4) (by rfl) (pgs_cons (pg_name (i := 1) nd rfl (.inl rfl)) (pgs_cons (pg_name (i := 2) nd rfl (.inl rfl)) (pgs_cons (pg_name (i := 3) nd rfl (.inl rfl)) (pgs_cons (pg_name (i := 4) nd rfl (.inl rfl)) pgs_nil))))))
  (C8.pss_cut (ps_for PassesOwn.never rfl (pi_str (pe_op op_add_str (pv 0) pe_str)) (pg_name (i := 5) nd rfl (.inl rfl))
    (pss_one (ps_if (pt_cmpR op_in_sign (pv 5) pe_str (by rfl)) (C8.pss_cut (ps_if (pt_cmpR op_ne (pv 3) pe_str (nomark _)) (pss_cons (ps_set (i := 6) nd rfl (.inl rfl) (pe_dget2 (hu_of hr) (pe_disp (pps_cons pe_str pe_bl (pps_cons pe_str pe_bl (pps_cons pe_str pe_str pps_nil))) rfl rfl (List.cons_ne_nil _ _) (by decide)) (pv 3) (pe_ifExp (pt_val (pcl c__law_word hr (by omega) (pa_cons (pv 3) pa_nil))) (pv 3) (pcl c__law_number hr (by omega) (pa_cons (pv 3) pa_nil))) ⟨rfl, rfl, rfl, rfl⟩))
  (pss_cons (ps_if (PW.pt (pw_or (pt_cmpR op_isN (pv 6) pe_non (nomark _)) (pw_or1 (pt_not (pt_val (pv 4)))))) (pss_one (ps_ret pe_non)) pss_nil)
  (pss_one (ps_par3 (i := 2) (j := 4) (l := 3) rfl nd rfl rfl rfl (by decide) (by decide) (by decide) rfl rfl rfl (pa_cons (pe_lst (pa_cons (pv 6) pa_nil)) (pa_cons pe_bl (pa_cons pe_str pa_nil))) (by rfl))))) pss_nil)
  (pss_one (ps_if (pt_cmpR op_eq (pv 5) pe_str (nomark _)) (pss_cons (ps_if (pt_not (pt_val (pv 4))) (pss_one (ps_ret pe_non)) pss_nil)
  (pss_one (ps_expr (pe_bm PySem.F.plainAttrs_list PySem.F.slot_list_append PySem.F.type_list_append mt_append (pv 1) (pa_cons (pe_lst pa_nil) pa_nil))))) (pss_one (ps_if (pt_cmpR op_eq (pv 5) pe_str (nomark _)) (pss_cons (ps_if (PW.pt (pw_or (pt_val (pv 4)) (pw_or1 (pt_cmpR (op_eqNil hr.units0) (pv 1) (pe_lst pa_nil) (nomark _))))) (pss_one (ps_ret pe_non)) pss_nil)
  (pss_cons (ps_expr (pe_bm PySem.F.plainAttrs_list PySem.F.slot_list_append PySem.F.type_list_append mt_append (pe_ix ix_list (pv 1) (pe_un un_neg pe_int) (fun _ _ => rfl)) (pa_cons (pe_ix ix_list (pv 2) pe_int (fun _ _ => rfl)) pa_nil)))
  (pss_one (ps_set (i := 4) nd rfl (.inl rfl) pe_bl)))) (pss_one (ps_if (pt_cmpR op_eq (pv 5) pe_str (nomark _)) (pss_cons (ps_if (PW.pt (pw_or (pt_cmpR (op_eqNil hr.units0) (pv 1) (pe_lst pa_nil) (nomark _)) (pw_or1 (PW.pt (pw_and (pt_val (pv 4)) (pw_and1 (pt_cmpR (op_neNil hr.units0) (pe_ix ix_list (pv 1) (pe_un un_neg pe_int) (fun _ _ => rfl)) (pe_lst pa_nil) (nomark _)))))))) (pss_one (ps_ret pe_non)) pss_nil)
  (pss_cons (ps_set (i := 7) nd rfl (.inl rfl) (pe_bm0 PySem.F.plainAttrs_list PySem.F.slot_list_pop PySem.F.type_list_pop mt_pop (pv 1)))
  (pss_one (ps_par (i := 2) (j := 4) rfl nd rfl rfl (by decide) rfl rfl (pa_cons (pe_lst (pa_cons (pe_callTy call_tuple_of (by rfl) b_tuple (by decide +kernel) (pa_cons (pe_op op_cat (pv 7) (pe_ifExp (pt_val (pv 4)) (pe_lst pa_nil) (pe_lst (pa_cons (pe_ix ix_list (pv 2) pe_int (fun _ _ => rfl)) pa_nil)))) pa_nil)) pa_nil)) (pa_cons pe_bl pa_nil)) (by rfl))))) pss_nil))))))) (pss_one (ps_set (i := 3) nd rfl (.inl rfl) (pe_op op_add_str (pv 3) (pv 5)))))))
  (pss_one (ps_ret (pe_ifExp (PW.pt (pw_and (pt_cmpR (op_eqNil hr.units0) (pv 1) (pe_lst pa_nil) (nomark _)) (pw_and (pt_not (pt_val (pv 4))) (pw_and1 (pt_cmpR op_notIn_sign pe_str (pv 0) (by rfl)))))) (pv 2) pe_non))))), ?_⟩
  walk_at "sx"
  have hS : (S t).length = t.length := SX.S_len t
  refine ⟨by decide, fun R nR => ⟨by decide, fun D0 nD0 => ⟨by decide, fun T nT => ⟨_, SqT.of upd_same, rfl, _, _, rfl, _, _, rfl, _, _, rfl, _, _, rfl, rfl, fun σ H' => LInv K H R t (t.length + 1) σ H', ?_, ?_⟩⟩⟩⟩
  · have nRD : R ≠ D0 := ne_of_none upd_same nD0
    have hR1 : upd (upd H R (.lst [])) D0 (.lst []) R = some (.lst []) := by rw [upd_ne nRD, upd_same]
    have nRT : R ≠ T := ne_of_none hR1 nT
    have s0 : Same H (upd (upd (upd H R (.lst [])) D0 (.lst [])) T (.tup [V.ref R, V.ref D0, V.str (Str.ofString ""), V.bl true])) := ((same_upd nR).trans (same_upd nD0)).trans (same_upd nT)
    have hz : S t ++ Str.ofString ";" = S (t ++ [59]) := by rw [show Str.ofString ";" = S [59] from rfl, SX.S_cat]
    refine ⟨_, rfl, _, rfl, _, rfl, ?_, _, rfl, ?_⟩
    · rw [hS]
      exact Nat.le_of_lt (smallM (by show _ + 1 ≤ _; omega))
    rw [hz]
    have hsz : (S (t ++ [59])).cps.size = t.length + 1 := by simp [S]
    refine for_it (walk_str (z := S (t ++ [59]))) (fun i σ H' => LInv K H R t i σ H') ?_ (fun _ _ _ _ _ => trivial) ?_ ?_
    · exact ⟨⟨[], none⟩, D0, [], [], none, none, none, rfl, ⟨[], by rw [upd_ne nRT]; exact hR1, .nil, (fun z => by cases z), nR, (fun a ha => by cases ha), s0, (fun row hr => by cases hr), (fun x e => by cases e)⟩, by unfold togo; rw [if_pos (Nat.zero_le _)]; rfl, (fun c hc => by cases hc), fun _ => ⟨by simp, rfl⟩, fun z => by omega⟩
    · rintro i x σ H1 H2 hi ⟨s, Dn, tok, pre, c5, c6, c7, rfl, L, hrun, hfree, hpre, htok⟩ ⟨rfl, c, hc, rfl⟩
      rw [hsz] at hi
      have hc : (t ++ [59])[i]? = some c := by simpa [S] using hc
      walk_at "sx"
      rw [mem_delim2]
      have hit : i ≤ t.length := by omega
      obtain ⟨htd, hcnt⟩ := hpre hit
      have n91 : cn 91 tok = 0 := cn_of hfree rfl
      have n93 : cn 93 tok = 0 := cn_of hfree rfl
      have htl : tok.length ≤ 4000 := hruns pre tok (t.drop i) htd hfree
      have sm := L.sm
      -- which sign it is
      have hcs : (i < t.length ∧ t.drop i = c :: t.drop (i + 1) ∧ c ≠ 59) ∨ (i = t.length ∧ c = 59 ∧ t.drop i = []) := by
        by_cases h : i < t.length
        · rw [List.getElem?_append_left h] at hc
          refine .inl ⟨h, ?_, fun z => hsemi (by rw [← z]; exact List.mem_of_getElem? hc)⟩
          rw [List.drop_eq_getElem_cons h]
          congr 1
          exact (List.getElem?_eq_some_iff.mp hc).2
        · have e : i = t.length := by omega
          subst e
          rw [List.getElem?_append_right (Nat.le_refl _), Nat.sub_self] at hc
          exact .inr ⟨rfl, (Option.some.inj hc).symm, List.drop_length⟩
      refine ite2 (fun cd => ?_) (fun cd => ?_)
      · have hfl : runM ⟨[], none⟩ (pcs [] t) = (flush tok s).bind fun s1 => if c = 59 then some s1 else (stepM s1 [c]).bind fun s2 => togo t (i + 1) [] s2 := by
          rw [hrun]
          unfold togo
          rw [if_pos hit]
          rcases hcs with ⟨h1, h2, h3⟩ | ⟨h1, h2, h3⟩
          · have hd : delim c = true := by
              rcases Bool.or_eq_true _ _ |>.mp cd with h | h
              · exact h
              · exact absurd (beq_iff_eq.mp h) h3
            rw [h2]
            simp only [pcs]
            rw [if_pos hd, flush_run hfree]
            congr 1
            funext s1
            rw [if_neg h3]
            show (stepM s1 [c]).bind _ = _
            congr 1
            funext s2
            rw [if_pos (by omega)]
          · rw [h3]
            simp only [pcs]
            have := flush_run (s := s) hfree []
            rw [List.append_nil] at this
            rw [this]
            congr 1
            funext s1
            rw [if_pos h2]
            rfl
        have fail : ∀ H', Same H H' → flush tok s = none → Q .non H' := fun H' s' h => qn H' (by unfold ans; rw [hfl, h]; rfl) s'
        refine ⟨LMid K H R t i c tok s, ?_, ?_⟩
        · -- what was begun
          have e0 : S tok = Str.ofString "" ↔ tok = [] := ⟨fun z => SX.S_inj z, fun z => by rw [z]; rfl⟩
          refine ite2 (fun c0 => ?_) (fun c0 => ?_)
          · have hne : tok ≠ [] := by
              rw [Bool.not_eq_true', decide_eq_false_iff_not, e0] at c0
              exact c0
            have cont : ∀ (v : V) (H1 : Hp), Same H2 H1 → ((atomR tok = none ∧ v = .non) ∨ ∃ x, atomR tok = some x ∧ v ≠ .non ∧ ∀ H, Dp K H v x) →
                (if decide (v = V.non) = true then Q V.non H1 else if (!s.cur.isNone) = true then Q V.non H1 else 0 + 1 ≤ sizeLine ∧ ∀ (p : Addr), H1 p = none →
                  LMid K H R t i c tok s [some (V.str (S t)), some (V.ref R), some (V.ref p), some (V.str (Str.ofString "")), some (V.bl false), some (V.str ⟨#[c]⟩), some v, c7] (upd H1 p (.lst [v]))) := by
              intro v H1 s1 hv
              have hfs : flush tok s = match s.cur with
                  | none => (atomR tok).map fun x => ⟨s.rows, some x⟩
                  | some _ => none := by
                unfold flush
                rw [if_neg hne]
              rcases hv with ⟨h1, h2⟩ | ⟨x, h1, h2, h3⟩
              · subst h2
                refine iteT (fail _ (sm.trans s1) ?_)
                rw [hfs, h1]
                cases s.cur <;> rfl
              · rw [decide_eq_false h2]
                refine iteF ?_
                cases hcur : s.cur with
                | some y =>
                  refine iteT (fail _ (sm.trans s1) (by rw [hfs, hcur]))
                | none =>
                  refine iteF ⟨by decide, fun p np => ⟨⟨s.rows, some x⟩, p, some v, c7, rfl, (L.same s1).got np (h3 _) (atomR_wr h1).1.to, ?_⟩⟩
                  rw [hfs, hcur, h1]
                  rfl
            refine fun p np => ⟨upd_same, sgD, rfl, (by decide : 3 ≤ 15), p, rfl, .inl ⟨_, .inl upd_same⟩, _, rfl, ?_⟩
            rw [upd_upd]
            have sp := same_upd (o := .dK (mergeK [] sgD)) np
            have hp : upd H2 p (.dK (mergeK [] sgD)) p = some (.dK (mergeK [] sgD)) := upd_same
            generalize upd H2 p (.dK (mergeK [] sgD)) = H3 at sp hp ⊢
            walk_at "sx"
            refine ⟨_, .str (S tok), rfl, .str _, fun y e => (by cases e; rw [SX.S_len]; exact Nat.le_of_lt (smallM (by omega))), fun H4 s4 => ⟨_, rfl, ?_⟩⟩
            rw [show wordD (.str (S tok)) = isWd tok from rfl]
            refine ite2 (fun c4 => ?_) (fun c4 => ?_)
            · exact ⟨_, .inl ⟨_, .inr (S tok), .inl (s4 _ _ hp), rfl, rfl⟩, cont _ _ (sp.trans s4) (atom_val tok _ htl (by rw [if_pos c4]))⟩
            · exact ⟨tok, rfl, htl, fun H5 s5 => ⟨_, .inl ⟨_, .inr (S tok), .inl (s5 _ _ (s4 _ _ hp)), rfl, rfl⟩, cont _ _ ((sp.trans s4).trans s5) (atom_val tok _ htl (by rw [if_neg c4]))⟩⟩
          · have he : tok = [] := by
              rw [Bool.not_eq_true, Bool.not_eq_false', decide_eq_true_eq, e0] at c0
              exact c0
            subst he
            exact ⟨s, Dn, c6, c7, rfl, L, rfl⟩
        · -- the sign
          rintro σ' H' ⟨s1, D1, c6, c7, rfl, L1, hs1⟩
          have hrows : s1.rows = s.rows := by
            unfold flush at hs1
            by_cases h : tok = []
            · rw [if_pos h] at hs1
              rw [Option.some.inj hs1]
            · rw [if_neg h] at hs1
              cases hcur : s.cur with
              | some y =>
                rw [hcur] at hs1
                cases hs1
              | none =>
                rw [hcur] at hs1
                cases ha : atomR tok with
                | none =>
                  rw [ha] at hs1
                  cases hs1
                | some x =>
                  rw [ha] at hs1
                  obtain rfl := Option.some.inj hs1
                  rfl
          rw [hs1] at hfl
          have hfl : runM ⟨[], none⟩ (pcs [] t) = if c = 59 then some s1 else (stepM s1 [c]).bind fun s2 => togo t (i + 1) [] s2 := hfl
          walk_at "sx"
          simp only [sgn_eq _ 91 (Str.ofString "[") rfl, sgn_eq _ 44 (Str.ofString ",") rfl, sgn_eq _ 93 (Str.ofString "]") rfl, one_inj]
          have sm1 := L1.sm
          have fail2 : ∀ H3, Same H H3 → c ≠ 59 → stepM s1 [c] = none → Q .non H3 := fun H3 s3 h1 h2 => qn H3 (by unfold ans; rw [hfl, if_neg h1, h2]; rfl) s3
          have fin : ∀ (s2 : MS) (D2 : Addr) (c6 c7 : Option V) (H3 : Hp), c ≠ 59 → stepM s1 [c] = some s2 → s2.rows.length + cn 93 [c] = s.rows.length + cn 91 [c] → LrAt K H H3 R D2 s2 (i + 1) →
              LInv K H R t (i + 1) [some (.str (S t)), some (.ref R), some (.ref D2), some (.str (S [])), some (.bl s2.cur.isNone), some (.str ⟨#[c]⟩), c6, c7] H3 := by
            intro s2 D2 c6 c7 H3 h1 h2 h3 L3
            refine ⟨s2, D2, [], pre ++ tok ++ [c], _, _, _, rfl, L3, ?_, (fun d hd => by cases hd), fun h => ⟨?_, ?_⟩, fun _ => rfl⟩
            · rw [hfl, if_neg h1, h2]
              rfl
            · rcases hcs with ⟨g1, g2, g3⟩ | ⟨g1, g2, g3⟩
              · conv => lhs; rw [htd, g2]
                simp
              · exact absurd g2 h1
            · simp only [cn_app]
              omega
          obtain ⟨rows, cur⟩ := s1
          have hrw : rows = s.rows := hrows
          refine ite2 (fun c1 => ?_) (fun c1 => ite2 (fun c2 => ?_) (fun c2 => ite2 (fun c3 => ?_) (fun c3 => ?_)))
          · have c1 := of_decide_eq_true c1
            subst c1
            cases cur with
            | some x => exact iteT (fail2 _ sm1 (by decide) rfl)
            | none =>
              obtain ⟨xs, hR1, hxl, hop⟩ := L1.opn
              have hlt : rows.length < 1000 := by
                rcases hcs with ⟨g1, g2, g3⟩ | ⟨g1, g2, g3⟩
                · have := hhgt (pre ++ tok ++ [91]) (t.drop (i + 1)) (by conv => lhs; rw [htd, g2]
                                                                         simp)
                  simp only [cn_app] at this
                  have k1 : cn 91 [91] = 1 := rfl
                  have k2 : cn 93 [91] = 0 := rfl
                  rw [hrw]
                  omega
                · exact absurd g2 (by decide)
              have hst : stepM ⟨rows, none⟩ [91] = some ⟨[] :: rows, none⟩ := by
                unfold stepM
                rw [if_pos rfl]
                show (if rows.length < 1000 then _ else _) = _
                rw [if_pos hlt]
              have hxl : xs.length = rows.length := hxl
              refine iteF ⟨tyl hR1, by decide, fun p np => ⟨xs, by rw [upd_ne (ne_of_none hR1 np)]; exact hR1, smallM (by omega), fin ⟨[] :: rows, none⟩ D1 c6 c7 _ (by decide) hst ?_ ((hop p np).le (Nat.le_succ _))⟩⟩
              have k1 : cn 91 [91] = 1 := rfl
              have k2 : cn 93 [91] = 0 := rfl
              rw [k1, k2]
              show rows.length + 1 + 0 = _
              rw [hrw]
          · have c2 := of_decide_eq_true c2
            subst c2
            cases cur with
            | none => exact iteT (fail2 _ sm1 (by decide) (by cases rows <;> rfl))
            | some x =>
              obtain ⟨xs, hR1, hxl⟩ := L1.rows
              have hxl : xs.length = rows.length := hxl
              refine iteF ⟨by decide, fun p np => ⟨R, p, xs, rfl, rfl, SqL.of (by rw [upd_ne (ne_of_none hR1 np)]; exact hR1), SqL.of upd_same, _, rfl, ?_⟩⟩
              have L2' := L1.same (same_upd (o := .lst []) np)
              have s2 : Same H (upd H' p (.lst [])) := sm1.trans (same_upd np)
              generalize upd H' p (.lst []) = H3 at L2' s2 ⊢
              cases rows with
              | nil =>
                have : xs = [] := List.eq_nil_of_length_eq_zero hxl
                exact ite2 (fun _ => fail2 _ s2 (by decide) rfl) (fun z => absurd (decide_eq_true this) z)
              | cons row r =>
                refine ite2 (fun z => ?_) (fun _ => ?_)
                · have : xs = [] := of_decide_eq_true z
                  rw [this] at hxl
                  cases hxl
                · obtain ⟨ys, a, us, v, hRa, ha, hul, hrl, hD, L3⟩ := L2'.com
                  refine ixl hRa (atI_last _ _) ⟨tyl ha, ixl hD rfl ⟨a, rfl, us, ha, smallM (by omega), fin ⟨(row ++ [x]) :: r, none⟩ D1 c6 c7 _ (by decide) rfl ?_ L3⟩⟩
                  have k1 : cn 91 [44] = 0 := rfl
                  have k2 : cn 93 [44] = 0 := rfl
                  rw [k1, k2, ← hrw]
                  rfl
          · have c3 := of_decide_eq_true c3
            subst c3
            obtain ⟨xs, hR1, hxl⟩ := L1.rows
            have hxl : xs.length = rows.length := hxl
            refine ⟨by decide, fun p np => ⟨R, p, xs, rfl, rfl, SqL.of (by rw [upd_ne (ne_of_none hR1 np)]; exact hR1), SqL.of upd_same, _, rfl, ?_⟩⟩
            have L2' := L1.same (same_upd (o := .lst []) np)
            have s2 : Same H (upd H' p (.lst [])) := sm1.trans (same_upd np)
            generalize upd H' p (.lst []) = H3 at L2' s2 ⊢
            have k1 : cn 91 [93] = 0 := rfl
            have k2 : cn 93 [93] = 1 := rfl
            cases rows with
            | nil =>
              have : xs = [] := List.eq_nil_of_length_eq_zero hxl
              exact ite2 (fun _ => fail2 _ s2 (by decide) (by cases cur <;> rfl)) (fun z => absurd (decide_eq_true this) z)
            | cons row r =>
              have hcount : ∀ x : Option PyData, (⟨r, x⟩ : MS).rows.length + cn 93 [93] = s.rows.length + cn 91 [93] := fun x => by
                rw [k1, k2, ← hrw]
                show r.length + 1 = r.length + 1 + 0
                omega
              refine ite2 (fun z => ?_) (fun _ => ?_)
              · have : xs = [] := of_decide_eq_true z
                rw [this] at hxl
                cases hxl
              · cases cur with
                | some x =>
                  refine iteF ?_
                  obtain ⟨v0, hv0, _, _⟩ := L2'.hand
                  obtain ⟨ys, a, us, hRa, ha, naR, hul, hrl, hro, ha2, hdp, L3⟩ := L2'.cls
                  obtain ⟨v, hv1, hv2, hv3⟩ := L3.hand
                  refine ⟨tyl hRa, _, hRa, _, last_snoc _ _, iteF ?_⟩
                  rw [List.dropLast_concat]
                  generalize upd H3 R (.lst ys) = H4 at ha2 hdp L3 hv1 hv2 ⊢
                  refine ixl hv1 rfl ⟨by decide, fun p2 np2 => ⟨a, p2, us, [v], rfl, rfl, by rw [upd_ne (ne_of_none ha2 np2)]; exact ha2, upd_same, Nat.le_of_lt (smallM (by rw [List.length_singleton]; omega)), fun p3 np3 => ⟨p3, rfl, us ++ [v], .inl ⟨SqL.of upd_same, fun l nl => ⟨by decide, fun p4 np4 => ?_⟩⟩⟩⟩⟩
                  have f3 := (same_upd (o := .lst [v]) np2).trans (same_upd (o := .lst (us ++ [v])) np3)
                  exact fin ⟨r, some (.tuple (row ++ [x]))⟩ p4 c6 _ _ (by decide) rfl (hcount _) (((L3.same f3).shut nl (DpAll.same f3 (DpAll.snoc hdp hv2)) (fun d hd => by
                    rcases List.mem_append.mp hd with h | h
                    · exact hro d h
                    · rw [List.mem_singleton.mp h]; exact hv3) np4).le (Nat.le_succ _))
                | none =>
                  refine iteT ?_
                  obtain ⟨ys0, a0, us0, hRa0, ha0, _, hul0, _⟩ := L2'.cls
                  refine ixl hRa0 (atI_last _ _) ⟨by decide, fun p2 np2 => ⟨a0, p2, us0, rfl, rfl, SqL.of (by rw [upd_ne (ne_of_none ha0 np2)]; exact ha0), SqL.of upd_same, _, rfl, ?_⟩⟩
                  have L4 := L2'.same (same_upd (o := .lst []) np2)
                  have s4 := s2.trans (same_upd (o := .lst []) np2)
                  generalize upd H3 p2 (.lst []) = H5 at L4 s4 ⊢
                  refine ite2 (fun z => ?_) (fun z => ?_)
                  · refine fail2 _ s4 (by decide) ?_
                    have hne : row ≠ [] := fun y => by
                      rw [y] at hul0
                      have : us0 = [] := List.eq_nil_of_length_eq_zero hul0
                      rw [this] at z
                      exact absurd z (by decide)
                    unfold stepM
                    rw [if_neg (by decide), if_pos rfl]
                    show (if row = [] then _ else _) = _
                    rw [if_neg hne]
                  · have he : row = [] := by
                      have : us0 = [] := by
                        have : (!decide (us0 = [])) = false := by rw [Bool.not_eq_true] at z; exact z
                        simpa using this
                      rw [this] at hul0
                      exact List.eq_nil_of_length_eq_zero hul0.symm
                    subst he
                    obtain ⟨ys, a, us, hRa, ha, naR, hul, hrl, hro, ha2, hdp, L3⟩ := L4.cls
                    refine ⟨tyl hRa, _, hRa, _, last_snoc _ _, iteT ?_⟩
                    rw [List.dropLast_concat]
                    generalize upd H5 R (.lst ys) = H6 at ha2 hdp L3 ⊢
                    refine ⟨by decide, fun p3 np3 => ⟨a, p3, us, [], rfl, rfl, by rw [upd_ne (ne_of_none ha2 np3)]; exact ha2, upd_same, Nat.le_of_lt (smallM (by rw [List.length_nil]; omega)), fun p4 np4 => ⟨p4, rfl, us ++ [], .inl ⟨SqL.of upd_same, fun l nl => ⟨by decide, fun p5 np5 => ?_⟩⟩⟩⟩⟩
                    have f3 := (same_upd (o := .lst []) np3).trans (same_upd (o := .lst (us ++ [])) np4)
                    exact fin ⟨r, some (.tuple [])⟩ p5 c6 _ _ (by decide) rfl (hcount _) (((L3.same f3).shut nl (DpAll.append (DpAll.same f3 hdp) .nil) (fun d hd => by cases hd) np5).le (Nat.le_succ _))
          · -- the end
            have c59 : c = 59 := by
              have c1 : ¬ c = 91 := fun z => c1 (decide_eq_true z)
              have c2 : ¬ c = 44 := fun z => c2 (decide_eq_true z)
              have c3 : ¬ c = 93 := fun z => c3 (decide_eq_true z)
              simp only [delim, Bool.or_eq_true, beq_iff_eq] at cd
              omega
            rcases hcs with ⟨g1, g2, g3⟩ | ⟨g1, g2, g3⟩
            · exact absurd c59 g3
            refine ⟨⟨rows, cur⟩, D1, [], [], _, _, _, rfl, L1.le (Nat.le_succ _), ?_, (fun d hd => by cases hd), fun h => by omega, fun _ => rfl⟩
            rw [hfl, if_pos c59]
            unfold togo
            rw [if_neg (by omega)]
      · have hd : delim c = false := by
          rw [Bool.not_eq_true, Bool.or_eq_false_iff] at cd
          exact cd.1
        rcases hcs with ⟨h1, h2, h3⟩ | ⟨h1, h2, h3⟩
        · have hsl : (S tok).length = tok.length := SX.S_len _
          refine ⟨Nat.le_of_lt (smallM (by show _ + 1 ≤ _; omega)), s, Dn, tok ++ [c], pre, some (.str ⟨#[c]⟩), c6, c7, ?_, L.le (Nat.le_succ _), ?_, ?_, ?_, ?_⟩
          · rw [show (⟨#[c]⟩ : Str) = S [c] from rfl, SX.S_cat]
          · rw [hrun]
            unfold togo
            rw [if_pos hit, if_pos (by omega), h2]
            simp only [pcs]
            rw [if_neg (by rw [hd]; exact Bool.false_ne_true)]
          · intro d hd'
            rcases List.mem_append.mp hd' with h | h
            · exact hfree d h
            · rw [List.mem_singleton.mp h]
              exact hd
          · intro _
            refine ⟨?_, hcnt⟩
            conv => lhs; rw [htd, h2]
            simp
          · intro z
            omega
        · rw [h2] at cd
          exact absurd rfl cd
    · intro σ H1 h
      rw [hsz] at h
      exact h
  · rintro σ H1 ⟨s, Dn, tok, pre, c5, c6, c7, rfl, L, hrun, hfree, hpre, htok⟩
    walk_at "sx"
    have ea : ans t = finM s := by
      unfold ans
      rw [hrun]
      unfold togo
      rw [if_neg (by omega)]
      rfl
    obtain ⟨xs, hR1, hxl⟩ := L.rows
    refine ⟨by decide, fun p np => ⟨R, p, xs, rfl, rfl, SqL.of (by rw [upd_ne (ne_of_none hR1 np)]; exact hR1), SqL.of upd_same, _, rfl, ?_⟩⟩
    have L2' := L.same (same_upd (o := .lst []) np)
    have s2 := L2'.sm
    generalize upd H1 p (.lst []) = H3 at L2' s2 ⊢
    obtain ⟨rows, cur⟩ := s
    cases rows with
    | cons row r =>
      refine ite2 (fun z => ?_) (fun _ => qn _ ?_ s2)
      · have : xs = [] := of_decide_eq_true z
        rw [this] at hxl
        cases hxl
      · rw [ea]
        unfold finM
        rw [if_neg (by simp)]
    | nil =>
      have hx0 : xs = [] := List.eq_nil_of_length_eq_zero hxl
      refine ite2 (fun _ => ?_) (fun z => absurd (decide_eq_true hx0) z)
      cases cur with
      | none => exact iteF (qn _ (by rw [ea]; rfl) s2)
      | some x =>
        obtain ⟨v, hv1, hv2, _⟩ := L2'.hand
        refine iteT ⟨59, rfl, ?_⟩
        rw [decide_eq_false hsemi]
        exact iteT (qs Dn v x _ (by rw [ea]; rfl) hv1 hv2 s2)
end

end Z

set_option Elab.async false
set_option linter.all false
set_option maxRecDepth 100000
set_option maxHeartbeats 4000000

namespace Z
open PySem PySem.Spec PyProof.Rows L2 Z.R
local macro_rules | `(tactic| walk_at "sx") => `(tactic| try simp only [and_assoc, cxOf_K, cxOf_Kn, C8.tCut, rEq, rNe, sc_ii, sc_ss, sc_bb, sc_is, sc_si, sc_bs, sc_sb, tSeq, tAsg, tPar, tPar3, tC, gName, gNil, gCons, gTup, gSub, rSetL, L2.start, tVar, tOp, tUn, rI0, rI, rU, tTest, tChain, tOrV, tAndV, tNotV, tCB, tCons, tNil, tLst, tTup, tIfS, tNext, tRet, tRetN, tDrop, tAnd, tOr, tNot, tB, tIf, tSl, tFld, sFld, putF, tNoPart, tPart, rSlL, tBM, tBM0, rAppend, rPop, rExtend, tCall, tMeth, List.map_cons, List.map_nil, List.replicate, List.length_cons, List.length_nil, List.append, List.cons_append, List.nil_append, List.append_nil, List.getElem?_cons_zero, List.getElem?_cons_succ, List.set_cons_zero, List.set_cons_succ, Option.some.injEq, exists_eq_left', exists_eq_left, exists_eq, exists_and_left, exists_const, wipe, tYes, upd_same, ↓reduceIte, decide_false, decide_true, Bool.not_true, Bool.not_false, Bool.false_eq_true, V.int.injEq, HO.lst.injEq, HO.tup.injEq, V.ref.injEq, V.str.injEq, one_inj, le_a, le_z, le_0, le_9, mem_let, mem_dig, V.bl.injEq, List.cons.injEq, and_true, true_and, reduceCtorEq, false_and, exists_false, or_false, false_or])
open SX (S)
/-- data as written or read, or none -/
def spTold (K : PySem.W.Frag) : Sp := fun vs H Q _ => ∃ (w : Nat) (v : V) (d : PyData), vs = [.int (w : Nat), v] ∧ Dp K H v d ∧
  ((w = 0 ∧ Sm d ∧ pc d ≤ 4000 ∧ (∀ H', wp 1 d = none → Same H H' → Q .non H') ∧ (∀ l p H', wp 1 d = some l → H' p = some (.lst [.str (Txt.join (Str.ofString "") l)]) → Same H H' → Q (.ref p) H')) ∨
   (w = 1 ∧ (∀ x, d = .str x → x.length ≤ 1000000) ∧ (∀ H', (∀ x, d = .str x → ans x.cps.toList = none) → Same H H' → Q .non H') ∧
      (∀ x y u p H', d = .str x → ans x.cps.toList = some y → H' p = some (.lst [u]) → Dp K H' u y → Same H H' → Q (.ref p) H')))
section
variable {P : Program} {w : World} {K : PySem.W.Frag} {mg : Str → Option Value} {base : Heap}
theorem sc__law_told : FnScope ["which", "value"] ["which", "value"] (defScope s__law_told) := ⟨rfl, rfl, rfl, by decide +kernel, rfl, by decide +kernel, by decide +kernel⟩
theorem ok__law_told {C f : Addr} {fd : FuncData} (F : Fun K "_law_told" "_law_told" s__law_told f fd) (T_Malformed : XC K mg "Malformed" C) (c_write_data : ClX P w K mg base 4 "write_data" (spWrite K C)) (c_read_data : ClX P w K mg base 4 "read_data" (spRead K C)) : FnOk P w K mg base CX0 5 f fd ["which", "value"] (spTold K) := by
  have nd := sc__law_told.nd
  refine F.ok sc__law_told (fun vs H Q E h => ?_) (fun cdv A outer s H vs Q E hr h => ?_)
  · obtain ⟨w, v, d, rfl, _⟩ := h
    rfl
  obtain ⟨w, v, d, rfl, hv, h⟩ := h
  refine ⟨_, (pss_one (ps_try_only (tb := fun W => _) rfl rfl ⟨rfl, by decide, .inl T_Malformed.g⟩ takes0 (fun W pn xe tk po => (pss_one (ps_ret (pe_ifExp (pt_cmpR op_eq (pv 0) pe_int (nomark _)) (pe_lst (pa_cons (pclS c_write_data hr (by omega) (fun σ => passAt tk σ) (pa_cons (pv 1) pa_nil)) pa_nil)) (pe_lst (pa_cons (pclS c_read_data hr (by omega) (fun σ => passAt tk σ) (pa_cons (pv 1) pa_nil)) pa_nil))))))
  (fun a oe cls d pn _ _ => (pss_one (ps_ret pe_non))))), ?_⟩
  walk_at "sx"
  have err : ∀ (H' : Hp) (σ : L2.St), Q .non H' → WE (wOnly K (Value.ref C) (fun a cls d => tRet (tC V.non)) (fun _ _ _ _ => False) { nx := fun x H' => Q V.non H', rt := Q }) σ (Value.ref C) none H' := fun H' σ q =>
    ⟨true, T_Malformed.e, fun _ a na => q, fun z => by cases z⟩
  rcases h with ⟨rfl, sm, hp, q0, q1⟩ | ⟨rfl, hx, q0, q1⟩
  · refine iteT ⟨_, rfl, v, d, rfl, hv, sm, hp, fun l H' hw s1 => ⟨by decide, fun p np => q1 l p _ hw upd_same (s1.trans (same_upd np))⟩, fun H' hw s1 => err H' _ (q0 H' hw s1)⟩
  · refine iteF ⟨_, rfl, v, d, rfl, hv, hx, fun x y u H' ex ha hu s1 => ⟨by decide, fun p np => q1 x y u p _ ex ha upd_same (hu.same (same_upd np)) (s1.trans (same_upd np))⟩, fun H' hn s1 => err H' _ (q0 H' hn s1)⟩
end

end Z

set_option Elab.async false
set_option linter.all false
set_option maxRecDepth 100000
set_option maxHeartbeats 4000000

namespace Z
open PySem PySem.Spec PyProof.Rows L2 Z.R
local macro_rules | `(tactic| walk_at "sx") => `(tactic| try simp only [and_assoc, cxOf_K, cxOf_Kn, C8.tCut, rEq, rNe, sc_ii, sc_ss, sc_bb, sc_is, sc_si, sc_bs, sc_sb, tSeq, tAsg, tPar, tPar3, tC, gName, gNil, gCons, gTup, gSub, rSetL, L2.start, tVar, tOp, tUn, rI0, rI, rU, tTest, tChain, tOrV, tAndV, tNotV, tCB, tCons, tNil, tLst, tTup, tIfS, tNext, tRet, tRetN, tDrop, tAnd, tOr, tNot, tB, tIf, tSl, tFld, sFld, putF, tNoPart, tPart, rSlL, tBM, tBM0, rAppend, rPop, rExtend, tCall, tMeth, List.map_cons, List.map_nil, List.replicate, List.length_cons, List.length_nil, List.append, List.cons_append, List.nil_append, List.append_nil, List.getElem?_cons_zero, List.getElem?_cons_succ, List.set_cons_zero, List.set_cons_succ, Option.some.injEq, exists_eq_left', exists_eq_left, exists_eq, exists_and_left, exists_const, wipe, tYes, upd_same, ↓reduceIte, decide_false, decide_true, Bool.not_true, Bool.not_false, Bool.false_eq_true, V.int.injEq, HO.lst.injEq, HO.tup.injEq, V.ref.injEq, V.str.injEq, one_inj, le_a, le_z, le_0, le_9, mem_let, mem_dig, V.bl.injEq, List.cons.injEq, and_true, true_and, reduceCtorEq, false_and, exists_false, or_false, false_or])
open SX (S)
theorem for_lst {K : PySem.W.Frag} {tl : TE} {g : TG} {tb : TS} {D : Ends} {σ : L2.St} {H : Hp} (h : tl σ H fun x H1 => ∃ a, x = .ref a ∧ (∃ xs, SqL K H1 a xs) ∧ tFor (fun σ H R => R (Itl K a) H) g tb D σ H1) : tFor (iList K tl) g tb D σ H := h
theorem lc_lst {K : PySem.W.Frag} {tl : TE} {g : TG} {tt : TT} {te : TE} {vs : List Nat} {σ : L2.St} {H : Hp} {Q : VK} (h : tl σ H fun x H1 => ∃ a, x = .ref a ∧ (∃ xs, SqL K H1 a xs) ∧ tLc (fun σ H R => R (Itl K a) H) g tt te vs σ H1 Q) : tLc (iList K tl) g tt te vs σ H Q := h
section
variable {K : PySem.W.Frag} {H : Hp} {v : V} {d : PyData} {Q : VK} {E : XK} {t : List Nat}
theorem told0_none (hv : Dp K H v d) (sm : Sm d) (hp : pc d ≤ 4000) (hn : wp 1 d = none) (q : ∀ H', Same H H' → Q .non H') : spTold K [.int 0, v] H Q E :=
  ⟨0, v, d, rfl, hv, .inl ⟨rfl, sm, hp, fun H' _ s => q H' s, fun l p H' hw => by rw [hn] at hw; cases hw⟩⟩
theorem told0_text (hv : Dp K H v d) (g : Gr d) (hp : pc d ≤ 4000) (hd : d.depth ≤ 1000) (q : ∀ p H', H' p = some (.lst [.str (S (wr d))]) → Same H H' → Q (.ref p) H') : spTold K [.int 0, v] H Q E := by
  obtain ⟨l0, hw0, hj0⟩ := write_ok g hd
  refine ⟨0, v, d, rfl, hv, .inl ⟨rfl, g.sm, hp, fun H' hn s => (by rw [hw0] at hn; cases hn), fun l p H' hw h s => q p H' ?_ s⟩⟩
  rw [hw0] at hw
  obtain rfl := Option.some.inj hw
  rw [hj0] at h
  exact h
theorem told1_none (hl : t.length ≤ 1000000) (hn : ans t = none) (q : ∀ H', Same H H' → Q .non H') : spTold K [.int 1, .str (S t)] H Q E :=
  ⟨1, _, .str (S t), rfl, .str _, .inr ⟨rfl, fun x ex => (by cases ex; rw [SX.S_len]; exact hl), fun H' _ s => q H' s, fun x y u p H' ex ha => by
    cases ex
    rw [show (S t).cps.toList = t from rfl, hn] at ha
    cases ha⟩⟩
theorem told1_some (hl : t.length ≤ 1000000) (hn : ans t = some d) (q : ∀ p H', Same H H' → Q (.ref p) H') : spTold K [.int 1, .str (S t)] H Q E :=
  ⟨1, _, .str (S t), rfl, .str _, .inr ⟨rfl, fun x ex => (by cases ex; rw [SX.S_len]; exact hl), fun H' h s => (by
    have := h _ rfl
    rw [show (S t).cps.toList = t from rfl, hn] at this
    cases this), fun x y u p H' ex ha hp hu s => q p H' s⟩⟩
theorem told1_other (hv : Dp K H v d) (hs : isStr d = false) (q : ∀ H', Same H H' → Q .non H') : spTold K [.int 1, v] H Q E :=
  ⟨1, v, d, rfl, hv, .inr ⟨rfl, fun x ex => (by subst ex; cases hs), fun H' _ s => q H' s, fun x y u p H' ex ha => by
    subst ex
    cases hs⟩⟩
end
section
variable {P : Program} {w : World} {K : PySem.W.Frag} {mg : Str → Option Value} {base : Heap}
theorem sc_law : FnScope ["script", "draw", "turn", "data", "text", "again", "i", "sign", "other", "due", "bad", "long", "deep", "value"] ["script"] (defScope s_law) := ⟨rfl, rfl, rfl, by decide +kernel, rfl, by decide +kernel, by decide +kernel⟩
theorem ok_law {f : Addr} {fd : FuncData} (F : Fun K "law" "law" s_law f fd) (ndg : base.NoDigits) (c__law_draw : Cl P w K mg base 1 "_law_draw" (spDraw K)) (c__law_take : Cl P w K mg base 1 "_law_take" spTake) (c__law_data : Cl P w K mg base 7 "_law_data" (spData K 6))
    (c__law_written : Cl P w K mg base 21 "_law_written" (spWritten K 20)) (c__law_read : Cl P w K mg base 2 "_law_read" (spLRead K)) (c__law_told : Cl P w K mg base 5 "_law_told" (spTold K))
    (b_range : mg "range" = none) (b_repr : mg "repr" = none) (b_len : mg "len" = none) (b_int : mg "int" = none) : LawRun P w K mg base f fd "script" (spLaw K) := by
  have nd := sc_law.nd
  refine lawRun F sc_law fun cdv A s H v Q E hA h => ?_
  obtain ⟨a, ns, e, hS, hn, q⟩ := h
  obtain rfl : v = .ref a := by
    have := List.cons.inj e
    exact this.1
  subst hA
  have hr : Room 30 (callerA.deeper (envOfC (Str.ofString "law") (defScope s_law) s.heap.objs.size f cdv)) := ⟨rfl, (by decide : callerA.depth + 1 + 3 * 30 + 5 < recursionLimit), (by decide : callerA.units + 3 + 16 * 30 + 200 < cLine)⟩
  have hgd : (callerA.deeper (envOfC (Str.ofString "law") (defScope s_law) s.heap.objs.size f cdv)).guards = some [] := rfl
  refine ⟨_, (C8.pss_cut (ps_set (i := 1) nd rfl (.inl rfl) (pcl c__law_draw hr (by omega) (pa_cons (pv 0) pa_nil)))
  (C8.pss_cut (ps_for PassesOwn.never rfl (pi_range1 (by rfl) b_range (pa_cons pe_int pa_nil)) (pg_name (i := 2) nd rfl (.inl rfl))
    (C8.pss_cut (ps_set (i := 3) nd rfl (.inl rfl) (pcl c__law_data hr (by omega) (pa_cons (pv 1) (pa_cons pe_int pa_nil))))
  (C8.pss_cut (ps_set (i := 4) nd rfl (.inl rfl) (pcl c__law_written hr (by omega) (pa_cons (pv 3) pa_nil)))
  (C8.pss_cut (ps_if (PW.pt (pw_or (pt_cmpR (op_neD hr.units) (pcl c__law_told hr (by omega) (pa_cons pe_int (pa_cons (pv 3) pa_nil))) (pe_lst (pa_cons (pv 4) pa_nil)) (nomark _)) (pw_or1 (pt_cmpR op_ne (pe_callB (call_repr_any hgd hr.units) (by rfl) b_repr (by decide +kernel) (pa_cons (pcl c__law_told hr (by omega) (pa_cons pe_int (pa_cons (pv 4) pa_nil))) pa_nil)) (pe_callB (call_repr_any hgd hr.units) (by rfl) b_repr (by decide +kernel) (pa_cons (pe_lst (pa_cons (pv 3) pa_nil)) pa_nil)) (nomark _))))) (pss_one (ps_ret pe_bl)) pss_nil)
  (pss_one (ps_for PassesOwn.never rfl (pi_range1 (by rfl) b_range (pa_cons pe_int pa_nil)) (pg_name (i := 5) nd rfl (.inl rfl))
    (C8.pss_cut (ps_par (i := 6) (j := 7) rfl nd rfl rfl (by decide) rfl rfl (pa_cons (pcl c__law_take hr (by omega) (pa_cons (pv 1) (pa_cons (pe_op op_add (pe_callB call_len (by rfl) b_len (by decide +kernel) (pa_cons (pv 4) pa_nil)) pe_int) pa_nil))) (pa_cons (pe_ix ix_str pe_str (pcl c__law_take hr (by omega) (pa_cons (pv 1) (pa_cons pe_int pa_nil))) (fun _ _ => rfl)) pa_nil)) (by rfl))
  (pss_one (ps_for PassesOwn.never rfl (pi_list (pe_lst (pa_cons (pe_op op_add_str (pe_op op_add_str (pe_slice sl_str (pv 4) po_none (po_some (pv 6))) (pv 7)) (pe_slice sl_str (pv 4) (po_some (pv 6)) po_none)) (pa_cons (pe_op op_add_str (pe_slice sl_str (pv 4) po_none (po_some (pv 6))) (pe_slice sl_str (pv 4) (po_some (pe_op op_add (pv 6) pe_int)) po_none)) (pa_cons (pe_op op_add_str (pe_op op_add_str (pe_slice sl_str (pv 4) po_none (po_some (pv 6))) (pv 7)) (pe_slice sl_str (pv 4) (po_some (pe_op op_add (pv 6) pe_int)) po_none)) pa_nil))))) (pg_name (i := 8) nd rfl (.inl rfl))
    (C8.pss_cut (ps_set (i := 9) nd rfl (.inl rfl) (pcl c__law_read hr (by omega) (pa_cons (pv 8) pa_nil)))
  (pss_one (ps_if (pt_cmpR op_ne (pe_callB (call_repr_any hgd hr.units) (by rfl) b_repr (by decide +kernel) (pa_cons (pcl c__law_told hr (by omega) (pa_cons pe_int (pa_cons (pv 8) pa_nil))) pa_nil)) (pe_callB (call_repr_any hgd hr.units) (by rfl) b_repr (by decide +kernel) (pa_cons (pe_ifExp (PW.pt (pw_and (pt_cmpR op_notN (pv 9) pe_non (nomark _)) (pw_and1 (pt_cmpR op_eq (pcl c__law_written hr (by omega) (pa_cons (pe_ix ix_list (pv 9) pe_int (fun _ _ => rfl)) pa_nil)) (pv 8) (nomark _))))) (pv 9) pe_non) pa_nil)) (nomark _)) (pss_one (ps_ret pe_bl)) pss_nil))))))))))))
  (C8.pss_cut (ps_for PassesOwn.never rfl (pi_list (pe_lst (pa_cons pe_non (pa_cons pe_str (pa_cons pe_str (pa_cons pe_str (pa_cons pe_str (pa_cons pe_str (pa_cons (pe_lst (pa_cons pe_int pa_nil)) (pa_cons (pe_tup (pa_cons pe_int (pa_cons pe_non pa_nil))) (pa_cons (pe_tup (pa_cons (pe_tup (pa_cons pe_non pa_nil)) pa_nil)) (pa_cons (pe_lst (pa_cons pe_str pa_nil)) (pa_cons (pe_tup (pa_cons pe_str (pa_cons (pe_lst pa_nil) pa_nil))) (pa_cons pe_str (pa_cons (pe_tup (pa_cons pe_str pa_nil)) pa_nil))))))))))))))) (pg_name (i := 10) nd rfl (.inl rfl))
    (pss_one (ps_if (pt_cmpR op_notN (pcl c__law_told hr (by omega) (pa_cons pe_int (pa_cons (pv 10) pa_nil))) pe_non (nomark _)) (pss_one (ps_ret pe_bl)) pss_nil)))
  (C8.pss_cut (ps_set (i := 11) nd rfl (.inl rfl) (pe_op op_mul_str pe_str pe_int))
  (C8.pss_cut (ps_if (PW.pt (pw_or (pt_cmpR (op_neD hr.units) (pcl c__law_told hr (by omega) (pa_cons pe_int (pa_cons (pe_callTy (call_int_any ndg) (by rfl) b_int (by decide +kernel) (pa_cons (pv 11) pa_nil)) pa_nil))) (pe_lst (pa_cons (pv 11) pa_nil)) (nomark _)) (pw_or (pt_cmpR op_isN (pcl c__law_told hr (by omega) (pa_cons pe_int (pa_cons (pe_op op_add_str pe_str (pv 11)) pa_nil))) pe_non (nomark _)) (pw_or (pt_cmpR op_notN (pcl c__law_told hr (by omega) (pa_cons pe_int (pa_cons (pe_op op_add_str (pv 11) pe_str) pa_nil))) pe_non (nomark _)) (pw_or1 (pt_cmpR op_notN (pcl c__law_told hr (by omega) (pa_cons pe_int (pa_cons (pe_op op_add (pe_callTy (call_int_any ndg) (by rfl) b_int (by decide +kernel) (pa_cons (pv 11) pa_nil)) pe_int) pa_nil))) pe_non (nomark _))))))) (pss_one (ps_ret pe_bl)) pss_nil)
  (pss_cons (ps_set (i := 12) nd rfl (.inl rfl) (pe_tup pa_nil))
  (C8.pss_cut (ps_for PassesOwn.never rfl (pi_range1 (by rfl) b_range (pa_cons pe_int pa_nil)) (pg_name (i := 2) nd rfl (.inl rfl))
    (pss_one (ps_set (i := 12) nd rfl (.inl rfl) (pe_tup (pa_cons (pv 12) pa_nil)))))
  (C8.pss_cut (ps_if (PW.pt (pw_or (pt_cmpR (op_neD hr.units) (pcl c__law_told hr (by omega) (pa_cons pe_int (pa_cons (pv 12) pa_nil))) (pe_lst (pa_cons (pe_op op_add_str (pe_op op_mul_str pe_str pe_int) (pe_op op_mul_str pe_str pe_int)) pa_nil)) (nomark _)) (pw_or (pt_cmpR op_notN (pcl c__law_told hr (by omega) (pa_cons pe_int (pa_cons (pe_tup (pa_cons (pv 12) pa_nil)) pa_nil))) pe_non (nomark _)) (pw_or1 (pt_cmpR op_notN (pcl c__law_told hr (by omega) (pa_cons pe_int (pa_cons (pe_op op_add_str (pe_op op_mul_str pe_str pe_int) (pe_op op_mul_str pe_str pe_int)) pa_nil))) pe_non (nomark _)))))) (pss_one (ps_ret pe_bl)) pss_nil)
  (pss_one (ps_ret (pe_and (pe_cmpR op_notN (pcl c__law_told hr (by omega) (pa_cons pe_int (pa_cons (pe_op op_add_str (pe_op op_mul_str pe_str pe_int) (pe_op op_mul_str pe_str pe_int)) pa_nil))) pe_non (nomark _)) (pe_one (pe_cmpR (op_eqD hr.units) (pe_lc (own := [("value", 13)]) rfl nd (pi_list (pe_lst (pa_cons pe_non (pa_cons pe_int (pa_cons (pe_tup (pa_cons pe_int pa_nil)) (pa_cons pe_str (pa_cons pe_str (pa_cons pe_str (pa_cons pe_str pa_nil))))))))) (blkOk_by (N := ["script", "draw", "turn", "data", "text", "again", "i", "sign", "other", "due", "bad", "long", "deep", "value"]) (sc := defScope s_law) (by decide +kernel)) (fun _ _ _ _ _ => (pg_name (i := 13) nd rfl (.inl rfl))) (fun _ _ _ _ _ => pts_nil) (fun _ _ _ _ _ => (pcl c__law_told hr (by omega) (pa_cons pe_int (pa_cons (pv 13) pa_nil))))) (pe_op op_rep (pe_lst (pa_cons pe_non pa_nil)) pe_int) (nomark _)))))))))))))), ?_⟩
  walk_at "sx"
  refine ⟨fun σ H' => ∃ d c, σ = [some (.ref a), some (.ref d), none, none, none, none, none, none, none, none, none, none, none, none] ∧ DrawAt H' d c 0, ⟨a, ns, rfl, hS, hn, fun p c H' _ _ _ D => ⟨p, c, rfl, D⟩⟩, ?_⟩
  rintro σ H1 ⟨d, c, rfl, D1⟩
  refine ⟨fun σ H' => ∃ c2 c3 c4 c5 c6 c7 c8 c9 : Option V, σ = [some (.ref a), some (.ref d), c2, c3, c4, c5, c6, c7, c8, c9, none, none, none, none], ⟨4, rfl, by decide, by decide, for_range (lo := 0) (n := 4)
    (fun i σ H' => ∃ c2 c3 c4 c5 c6 c7 c8 c9 : Option V, σ = [some (.ref a), some (.ref d), c2, c3, c4, c5, c6, c7, c8, c9, none, none, none, none] ∧ DrawAt H' d c (i * 1200)) ⟨none, none, none, none, none, none, none, none, rfl, D1⟩ ?_ ?_⟩, ?_⟩
  · rintro i σ H2 hi ⟨c2, c3, c4, c5, c6, c7, c8, c9, rfl, D2⟩
    walk_at "sx"
    -- the data
    refine ⟨fun σ H' => ∃ (dt : PyData) (v : V), σ = [some (.ref a), some (.ref d), some (.int (0 + (i : Int))), some v, c4, c5, c6, c7, c8, c9, none, none, none, none] ∧ Gd 5 dt ∧ Dp K H' v dt ∧ DrawAt H' d c (i * 1200 + 1092),
      ⟨d, c, 5, i * 1200, rfl, by decide, D2, by (have : takes 5 = 1092 := rfl); omega, fun dt v H' g hv D _ => ⟨dt, v, rfl, g, hv, D⟩⟩, ?_⟩
    rintro σ H3 ⟨dt, v, rfl, g, hv, D3⟩
    have tx := g.tx
    have gr := g.gr
    have hdep := g.depth
    have hlen := tx.len
    -- its text
    refine ⟨fun σ H' => σ = [some (.ref a), some (.ref d), some (.int (0 + (i : Int))), some v, some (.str (S (wr dt))), c5, c6, c7, c8, c9, none, none, none, none] ∧ Dp K H' v dt ∧ DrawAt H' d c (i * 1200 + 1092), ?_, ?_⟩
    · walk_at "sx"
      exact ⟨v, dt, rfl, hv, gr, by omega, by omega, fun H' s1 => ⟨rfl, hv.same s1, D3.same s1⟩⟩
    rintro σ H4 ⟨rfl, hv4, D4⟩
    -- written and read
    refine ⟨fun σ H' => σ = [some (.ref a), some (.ref d), some (.int (0 + (i : Int))), some v, some (.str (S (wr dt))), c5, c6, c7, c8, c9, none, none, none, none] ∧ Dp K H' v dt ∧ DrawAt H' d c (i * 1200 + 1092), ?_, ?_⟩
    · walk_at "sx"
      have hpc : pc dt ≤ 4000 := Nat.le_trans g.pc_le (by decide)
      obtain ⟨l0, hw0, hj0⟩ := write_ok gr (by omega)
      have sh := shaped_text gr.low
      obtain ⟨q1, q2, q3, q4⟩ := gr.shows1 tx (by decide) (by decide) (by decide)
      have hst : (S (wr dt)).length ≤ 1000000 := by
        rw [SX.S_len]
        omega
      refine ⟨0, v, dt, rfl, hv4, .inl ⟨rfl, gr.sm, hpc, fun H' hn s1 => (by rw [hw0] at hn; cases hn), fun l p H' hw hp s1 => ⟨by decide, fun p2 np2 => ?_⟩⟩⟩
      rw [hw0] at hw
      obtain rfl := Option.some.inj hw
      rw [hj0] at hp
      refine ⟨.list [.str (S (wr dt))], .list [.str (S (wr dt))], .lst (SqL.of (by rw [upd_ne (ne_of_none hp np2)]; exact hp)) (.cons (.str _) .nil), .lst (SqL.of upd_same) (.cons (.str _) .nil), sh, sh, _, rfl, ?_⟩
      rw [eqv_text]
      have s2 := s1.trans (same_upd (o := .lst [V.str (S (wr dt))]) np2)
      refine iteF ⟨1, _, .str (S (wr dt)), rfl, .str _, .inr ⟨rfl, fun x ex => (by cases ex; exact hst), fun H' hn s3 => ?_, fun x y u p3 H' ex ha hp3 hu s3 => .inr ⟨p3, rfl, .list [dt], ?_, q1, q2, q3, q4, by decide, fun p4 np4 => ⟨.list [dt], ?_, q1, q2, q3, q4, ?_⟩⟩⟩⟩
      · have := hn _ rfl
        rw [show (S (wr dt)).cps.toList = wr dt from rfl, ans_back gr (by omega)] at this
        cases this
      · cases ex
        rw [show (S (wr dt)).cps.toList = wr dt from rfl, ans_back gr (by omega)] at ha
        obtain rfl := Option.some.inj ha
        exact .lst (SqL.of hp3) (.cons hu .nil)
      · exact .lst (SqL.of upd_same) (.cons (((hv4.same s2).same s3).same (same_upd np4)) .nil)
      · rw [decide_eq_true rfl]
        have s4 := (s2.trans s3).trans (same_upd (o := .lst [v]) np4)
        exact iteF ⟨hv4.same s4, D4.same s4⟩
    rintro σ H5 ⟨rfl, hv5, D5⟩
    -- the bent texts
    refine ⟨8, rfl, by decide, by decide, for_range (lo := 0) (n := 8)
      (fun j σ H' => ∃ c5 c6 c7 c8 c9 : Option V, σ = [some (.ref a), some (.ref d), some (.int (0 + (i : Int))), some v, some (.str (S (wr dt))), c5, c6, c7, c8, c9, none, none, none, none] ∧ Dp K H' v dt ∧ DrawAt H' d c (i * 1200 + 1092 + j * 2)) ⟨_, _, _, _, _, rfl, hv5, D5⟩ ?_ ?_⟩
    · rintro j σ H6 hj ⟨c5, c6, c7, c8, c9, rfl, hv6, D6⟩
      walk_at "sx"
      have hst : (S (wr dt)).length = (wr dt).length := SX.S_len _
      refine ⟨fun σ H' => ∃ (k c0 : Nat), σ = [some (.ref a), some (.ref d), some (.int (0 + (i : Int))), some v, some (.str (S (wr dt))), some (.int (0 + (j : Int))), some (.int (k : Nat)), some (.str ⟨#[c0]⟩), c8, c9, none, none, none, none] ∧ c0 ≠ 59 ∧ Dp K H' v dt ∧ DrawAt H' d c (i * 1200 + 1092 + j * 2 + 2), ?_, ?_⟩
      · refine ⟨_, len_s (Nat.le_of_lt (smallM (by omega))) rfl, d, c, _, _, rfl, D6, by omega, by omega, by omega, fun r1 H7 r10 r11 D7 B7 => ⟨d, c, 11, _, rfl, D7, by decide, by decide, by omega, fun r2 H8 r20 r21 D8 B8 => ?_⟩⟩
        obtain ⟨k, rfl⟩ : ∃ k : Nat, r1 = (k : Nat) := ⟨r1.toNat, by omega⟩
        have hv8 : Dp K H8 v dt := (gr.to.mono (D7.tp B8)) v ((gr.to.mono (D6.tp B7)) v hv6)
        have : r2 = 0 ∨ r2 = 1 ∨ r2 = 2 ∨ r2 = 3 ∨ r2 = 4 ∨ r2 = 5 ∨ r2 = 6 ∨ r2 = 7 ∨ r2 = 8 ∨ r2 = 9 ∨ r2 = 10 := by omega
        rcases this with rfl | rfl | rfl | rfl | rfl | rfl | rfl | rfl | rfl | rfl | rfl
        all_goals exact ixs (K := K) (by decide) rfl ⟨k, _, rfl, by decide, hv8, D8⟩
      rintro σ H7 ⟨k, c0, rfl, hc0, hv7, D7⟩
      have cf : ∀ n : Nat, cutS (S (wr dt)) (some (n : Int)) none = S ((wr dt).drop n) := fun n => by
        rw [C8.cutS_slice, SX.slice_from (by omega)]
        rfl
      have ct : ∀ n : Nat, cutS (S (wr dt)) none (some (n : Int)) = S ((wr dt).take n) := fun n => by
        rw [C8.cutS_slice, SX.slice_to (by omega)]
        rfl
      refine for_lst ?_
      walk_at "sx"
      have hz : (S (wr dt)).length ≤ sizeLine := Nat.le_of_lt (smallM (by omega))
      have lA : ((wr dt).take k).length ≤ 20000 := by
        rw [List.length_take]
        omega
      have lB : ∀ n, ((wr dt).drop n).length ≤ 20000 := fun n => by
        rw [List.length_drop]
        omega
      have lS : ∀ x : List Nat, (S x).length = x.length := SX.S_len
      have e1 : (S ((wr dt).take k)).length + (⟨#[c0]⟩ : Str).length ≤ sizeLine := Nat.le_of_lt (smallM (by rw [lS]; show _ + 1 ≤ _; omega))
      have ec : S ((wr dt).take k) ++ (⟨#[c0]⟩ : Str) = S ((wr dt).take k ++ [c0]) := SX.S_cat _ [c0]
      have e2 : ∀ n, (S ((wr dt).take k ++ [c0])).length + (S ((wr dt).drop n)).length ≤ sizeLine := fun n => Nat.le_of_lt (smallM (by have := lB n; rw [lS, lS, List.length_append, List.length_singleton]; omega))
      have e3 : ∀ n, (S ((wr dt).take k)).length + (S ((wr dt).drop n)).length ≤ sizeLine := fun n => Nat.le_of_lt (smallM (by have := lB n; rw [lS, lS]; omega))
      have ek : ((k : Int) + 1) = ((k + 1 : Nat) : Int) := rfl
      rw [ek]
      refine ⟨S (wr dt), rfl, hz, ?_⟩
      rw [ct]
      refine ⟨_, rfl, e1, S (wr dt), rfl, hz, ?_⟩
      rw [cf, ec]
      refine ⟨_, rfl, e2 k, S (wr dt), rfl, hz, ?_⟩
      rw [ct]
      refine ⟨S (wr dt), rfl, hz, ?_⟩
      rw [cf]
      refine ⟨_, rfl, _, rfl, e3 (k + 1), S (wr dt), rfl, hz, ?_⟩
      rw [ct]
      refine ⟨_, rfl, e1, S (wr dt), rfl, hz, ?_⟩
      rw [cf, ec]
      refine ⟨_, rfl, e2 (k + 1), by decide, fun l nl => ⟨⟨_, SqL.of upd_same⟩, ?_⟩⟩
      rw [SX.S_cat, SX.S_cat, SX.S_cat]
      have hsplit : wr dt = (wr dt).take k ++ ((wr dt).drop k).take 1 ++ (wr dt).drop (k + 1) := by
        rw [List.append_assoc, ← List.drop_drop, List.take_append_drop, List.take_append_drop]
      have h1 : (((wr dt).drop k).take 1).length ≤ 1 := by
        rw [List.length_take]
        omega
      have s59 : 59 ∉ [c0] := fun z => hc0 (List.mem_singleton.mp z).symm
      have t0 : Tx 42 5 20000 ((wr dt).take k ++ [] ++ (wr dt).drop k) := by
        rw [List.append_nil, List.take_append_drop]
        exact tx
      have t1 : Tx 42 5 20000 ((wr dt).take k ++ ((wr dt).drop k).take 1 ++ (wr dt).drop (k + 1)) := by
        rw [← hsplit]
        exact tx
      have l1 : [c0].length ≤ 1 := Nat.le_refl 1
      have b1 : Tx 85 7 20001 ((wr dt).take k ++ [c0] ++ (wr dt).drop k) := bent t0 (by decide) l1 s59
      have b2 : Tx 85 7 20001 ((wr dt).take k ++ (wr dt).drop (k + 1)) := by
        have := bent (x := []) t1 h1 (by decide) (by simp)
        rwa [List.append_nil] at this
      have b3 : Tx 85 7 20001 ((wr dt).take k ++ [c0] ++ (wr dt).drop (k + 1)) := bent t1 h1 l1 s59
      have ball : ∀ x ∈ [V.str (S ((wr dt).take k ++ [c0] ++ (wr dt).drop k)), V.str (S ((wr dt).take k ++ (wr dt).drop (k + 1))), V.str (S ((wr dt).take k ++ [c0] ++ (wr dt).drop (k + 1)))], ∃ t', x = .str (S t') ∧ Tx 85 7 20001 t' := by
        intro x hx
        simp only [List.mem_cons, List.not_mem_nil, or_false] at hx
        rcases hx with rfl | rfl | rfl
        · exact ⟨_, rfl, b1⟩
        · exact ⟨_, rfl, b2⟩
        · exact ⟨_, rfl, b3⟩
      generalize [V.str (S ((wr dt).take k ++ [c0] ++ (wr dt).drop k)), V.str (S ((wr dt).take k ++ (wr dt).drop (k + 1))), V.str (S ((wr dt).take k ++ [c0] ++ (wr dt).drop (k + 1)))] = xs at ball ⊢
      have hx8 : upd H7 l (.lst xs) l = some (.lst xs) := upd_same
      have s8 := same_upd (o := .lst xs) nl
      generalize upd H7 l (.lst xs) = H8 at hx8 s8 ⊢
      refine for_list (K := K) (a := l) (xs := xs) (fun _ σ H' => ∃ c8 c9 : Option V, σ = [some (.ref a), some (.ref d), some (.int (0 + (i : Int))), some v, some (.str (S (wr dt))), some (.int (0 + (j : Int))), some (.int (k : Nat)), some (.str ⟨#[c0]⟩), c8, c9, none, none, none, none] ∧ Same H8 H') ⟨_, _, rfl, .refl _⟩ ?_ ?_ ?_
      · rintro _ σ H9 _ ⟨c8, c9, rfl, s9⟩
        exact SqL.of (s9 _ _ hx8)
      · rintro n x σ H9 hx ⟨c8, c9, rfl, s9⟩
        obtain ⟨t', rfl, tx'⟩ := ball x (List.mem_of_getElem? hx)
        walk_at "sx"
        have hl' := tx'.len
        have hst' : (S t').length ≤ 1000000 := by
          rw [SX.S_len]
          omega
        refine ⟨fun σ H' => ∃ y9 : V, σ = [some (.ref a), some (.ref d), some (.int (0 + (i : Int))), some v, some (.str (S (wr dt))), some (.int (0 + (j : Int))), some (.int (k : Nat)), some (.str ⟨#[c0]⟩), some (.str (S t')), some y9, none, none, none, none] ∧ Same H8 H' ∧
          ((ans t' = none ∧ y9 = .non) ∨ ∃ (p : Addr) (u : V) (d' : PyData), ans t' = some d' ∧ y9 = .ref p ∧ H' p = some (.lst [u]) ∧ Dp K H' u d'), ?_, ?_⟩
        · walk_at "sx"
          exact ⟨t', rfl, by omega, tx'.semi, tx'.runs.mono (by decide), tx'.hgt.mono (by decide), fun H' hn s1 => ⟨s9.trans s1, .inl ⟨hn, rfl⟩⟩, fun p u d' H' ha hp hu s1 => ⟨s9.trans s1, .inr ⟨p, u, d', ha, rfl, hp, hu⟩⟩⟩
        · rintro σ H10 ⟨y9, rfl, s10, hy⟩
          walk_at "sx"
          have es : (S t').cps.toList = t' := rfl
          rcases hy with ⟨hn, rfl⟩ | ⟨p, u, d', ha, rfl, hp, hu⟩
          · refine ⟨1, _, .str (S t'), rfl, .str _, .inr ⟨rfl, fun x ex => (by cases ex; exact hst'), fun H' _ s1 => .inl ⟨rfl, ?_⟩, fun x y u p H' ex ha hp hu s1 => ?_⟩⟩
            · rw [decide_eq_true rfl]
              exact iteF (s10.trans s1)
            · cases ex
              rw [es, hn] at ha
              cases ha
          · obtain ⟨gr', ew⟩ := ans_wr ha
            have tx2 := tx'
            rw [← ew] at tx2
            obtain ⟨q1, q2, q3, q4⟩ := gr'.shows1 tx2 (by decide) (by decide) (by decide)
            have hd' := depth_of gr' tx2.hgt
            refine ⟨1, _, .str (S t'), rfl, .str _, .inr ⟨rfl, fun x ex => (by cases ex; exact hst'), fun H' hn s1 => ?_, fun x y u2 p2 H' ex ha2 hp2 hu2 s1 => .inr ⟨p2, rfl, .list [d'], ?_, q1, q2, q3, q4, ?_⟩⟩⟩
            · have := hn _ rfl
              rw [es, ha] at this
              cases this
            · cases ex
              rw [es, ha] at ha2
              obtain rfl := Option.some.inj ha2
              exact .lst (SqL.of hp2) (.cons hu2 .nil)
            · rw [decide_eq_false (by intro z; cases z)]
              refine iteT (ixl (s1 _ _ hp) rfl ⟨u, d', rfl, hu.same s1, gr', by omega, by rw [ew]; omega, fun H11 s2 => ⟨rfl, ?_⟩⟩)
              rw [ew, decide_eq_true rfl]
              refine iteT (.inr ⟨p, rfl, .list [d'], .lst (SqL.of (s2 _ _ (s1 _ _ hp))) (.cons ((hu.same s1).same s2) .nil), q1, q2, q3, q4, ?_⟩)
              rw [decide_eq_true rfl]
              exact iteF ((s10.trans s1).trans s2)
      · rintro σ H9 ⟨c8, c9, rfl, s9⟩
        exact ⟨_, _, _, _, _, rfl, hv7.same (s8.trans s9), (D7.same (s8.trans s9)).mono (by omega)⟩
    · rintro σ H6 ⟨c5, c6, c7, c8, c9, rfl, hv6, D6⟩
      exact ⟨_, _, _, _, _, _, _, _, rfl, D6.mono (by omega)⟩
  · rintro σ H2 ⟨c2, c3, c4, c5, c6, c7, c8, c9, rfl, D2⟩
    exact ⟨_, _, _, _, _, _, _, _, rfl⟩
  rintro σ H2 ⟨c2, c3, c4, c5, c6, c7, c8, c9, rfl⟩
  refine ⟨fun σ H' => σ.length = 14, ?_, ?_⟩
  · refine for_lst ?_
    walk_at "sx"
    refine ⟨by decide, fun p1 n1 => ?_⟩
    have f1 : upd H2 p1 (.lst [.int 1]) p1 = some (.lst [V.int 1]) := upd_same
    generalize upd H2 p1 (.lst [.int 1]) = G1 at f1 ⊢
    refine ⟨by decide, fun p2 n2 => ?_⟩
    have f2 : upd G1 p2 (.tup [.int 1, .non]) p2 = some (.tup [V.int 1, V.non]) := upd_same
    have s2 := same_upd (o := .tup [.int 1, .non]) n2
    generalize upd G1 p2 (.tup [.int 1, .non]) = G2 at f2 s2 ⊢
    refine ⟨by decide, fun p3 n3 => ?_⟩
    have f3 : upd G2 p3 (.tup [.non]) p3 = some (.tup [V.non]) := upd_same
    have s3 := same_upd (o := .tup [.non]) n3
    generalize upd G2 p3 (.tup [.non]) = G3 at f3 s3 ⊢
    refine ⟨by decide, fun p4 n4 => ?_⟩
    have f4 : upd G3 p4 (.tup [.ref p3]) p4 = some (.tup [V.ref p3]) := upd_same
    have s4 := same_upd (o := .tup [.ref p3]) n4
    generalize upd G3 p4 (.tup [.ref p3]) = G4 at f4 s4 ⊢
    refine ⟨by decide, fun p5 n5 => ?_⟩
    have f5 : upd G4 p5 (.lst [.str (Str.ofString "a")]) p5 = some (.lst [V.str (Str.ofString "a")]) := upd_same
    have s5 := same_upd (o := .lst [.str (Str.ofString "a")]) n5
    generalize upd G4 p5 (.lst [.str (Str.ofString "a")]) = G5 at f5 s5 ⊢
    refine ⟨by decide, fun p6 n6 => ?_⟩
    have f6 : upd G5 p6 (.lst []) p6 = some (.lst []) := upd_same
    have s6 := same_upd (o := .lst []) n6
    generalize upd G5 p6 (.lst []) = G6 at f6 s6 ⊢
    refine ⟨by decide, fun p7 n7 => ?_⟩
    have f7 : upd G6 p7 (.tup [.str (Str.ofString "a"), .ref p6]) p7 = some (.tup [V.str (Str.ofString "a"), V.ref p6]) := upd_same
    have s7 := same_upd (o := .tup [.str (Str.ofString "a"), .ref p6]) n7
    generalize upd G6 p7 (.tup [.str (Str.ofString "a"), .ref p6]) = G7 at f7 s7 ⊢
    refine ⟨by decide, fun p8 n8 => ?_⟩
    have f8 : upd G7 p8 (.tup [.str (Str.ofString "]")]) p8 = some (.tup [V.str (Str.ofString "]")]) := upd_same
    have s8 := same_upd (o := .tup [.str (Str.ofString "]")]) n8
    generalize upd G7 p8 (.tup [.str (Str.ofString "]")]) = G8 at f8 s8 ⊢
    refine ⟨by decide, fun p9 n9 => ⟨⟨_, SqL.of upd_same⟩, ?_⟩⟩
    have s9 : ∀ o, Same G8 (upd G8 p9 o) := fun o => same_upd n9
    have all : ∀ x ∈ [V.non, V.str (Str.ofString "A"), V.str (Str.ofString "+"), V.str (Str.ofString "a b"), V.str (Str.ofString "9a"), V.str (Str.ofString "abcdefghijklm"), V.ref p1, V.ref p2, V.ref p4, V.ref p5, V.ref p7, V.str (Str.ofString "]"), V.ref p8],
        ∃ d, Dp K G8 x d ∧ Sm d ∧ pc d ≤ 4000 ∧ wp 1 d = none := by
      have w : ∀ d : PyData, (wp 1 d).isNone = true → wp 1 d = none := fun d h => by simpa using h
      have g2 : G8 p2 = _ := s8 _ _ (s7 _ _ (s6 _ _ (s5 _ _ (s4 _ _ (s3 _ _ f2)))))
      have g3 : G8 p3 = _ := s8 _ _ (s7 _ _ (s6 _ _ (s5 _ _ (s4 _ _ f3))))
      have g4 : G8 p4 = _ := s8 _ _ (s7 _ _ (s6 _ _ (s5 _ _ f4)))
      have g5 : G8 p5 = _ := s8 _ _ (s7 _ _ (s6 _ _ f5))
      have g6 : G8 p6 = _ := s8 _ _ (s7 _ _ f6)
      have g7 : G8 p7 = _ := s8 _ _ f7
      have g1 : G8 p1 = _ := s8 _ _ (s7 _ _ (s6 _ _ (s5 _ _ (s4 _ _ (s3 _ _ (s2 _ _ f1))))))
      have st : ∀ x : Str, x.length ≤ 1000000 → (atomT (.str x)).isNone = true → ∃ d, Dp K G8 (.str x) d ∧ Sm d ∧ pc d ≤ 4000 ∧ wp 1 d = none := fun x h1 h2 =>
        ⟨.str x, .str x, .str x h1, by simp only [pc]; omega, by rw [wp_atom rfl]; simpa using h2⟩
      intro x hx
      simp only [List.mem_cons, List.not_mem_nil, or_false] at hx
      rcases hx with rfl | rfl | rfl | rfl | rfl | rfl | rfl | rfl | rfl | rfl | rfl | rfl | rfl
      · exact ⟨.none, .non, .non, by decide, rfl⟩
      · exact st _ (by decide) (by decide +kernel)
      · exact st _ (by decide) (by decide +kernel)
      · exact st _ (by decide) (by decide +kernel)
      · exact st _ (by decide) (by decide +kernel)
      · exact st _ (by decide) (by decide +kernel)
      · exact ⟨.list [.int 1], .lst (SqL.of g1) (.cons (.int _) .nil), .lst _, by decide, rfl⟩
      · exact ⟨.tuple [.int 1, .none], .tup (SqT.of g2) (.cons (.int _) (.cons .non .nil)), .tup _ (fun d hd => by
          simp only [List.mem_cons, List.not_mem_nil, or_false] at hd
          rcases hd with rfl | rfl
          · exact .int _
          · exact .non), by decide, w _ (by decide +kernel)⟩
      · exact ⟨.tuple [.tuple [.none]], .tup (SqT.of g4) (.cons (.tup (SqT.of g3) (.cons .non .nil)) .nil), .tup _ (fun d hd => by
          rw [List.mem_singleton.mp hd]
          exact .tup _ fun d hd => by
            rw [List.mem_singleton.mp hd]
            exact .non), by decide, w _ (by decide +kernel)⟩
      · exact ⟨.list [.str (Str.ofString "a")], .lst (SqL.of g5) (.cons (.str _) .nil), .lst _, by decide, rfl⟩
      · exact ⟨.tuple [.str (Str.ofString "a"), .list []], .tup (SqT.of g7) (.cons (.str _) (.cons (.lst (SqL.of g6) .nil) .nil)), .tup _ (fun d hd => by
          simp only [List.mem_cons, List.not_mem_nil, or_false] at hd
          rcases hd with rfl | rfl
          · exact .str _ (by decide)
          · exact .lst _), by decide, w _ (by decide +kernel)⟩
      · exact st _ (by decide) (by decide +kernel)
      · exact ⟨.tuple [.str (Str.ofString "]")], .tup (SqT.of f8) (.cons (.str _) .nil), .tup _ (fun d hd => by
          rw [List.mem_singleton.mp hd]
          exact .str _ (by decide)), by decide, w _ (by decide +kernel)⟩
    generalize [V.non, V.str (Str.ofString "A"), V.str (Str.ofString "+"), V.str (Str.ofString "a b"), V.str (Str.ofString "9a"), V.str (Str.ofString "abcdefghijklm"), V.ref p1, V.ref p2, V.ref p4, V.ref p5, V.ref p7, V.str (Str.ofString "]"), V.ref p8] = xs at all ⊢
    have hx9 : upd G8 p9 (.lst xs) p9 = some (.lst xs) := upd_same
    have s9' := s9 (.lst xs)
    generalize upd G8 p9 (.lst xs) = G9 at hx9 s9' ⊢
    refine for_list (K := K) (a := p9) (xs := xs) (fun _ σ H' => ∃ c10 : Option V, σ = [some (.ref a), some (.ref d), c2, c3, c4, c5, c6, c7, c8, c9, c10, none, none, none] ∧ Same G9 H') ⟨_, rfl, .refl _⟩ ?_ ?_ ?_
    · rintro _ σ H' _ ⟨c10, rfl, s'⟩
      exact SqL.of (s' _ _ hx9)
    · rintro n x σ H' hx ⟨c10, rfl, s'⟩
      obtain ⟨dd, h1, h2, h3, h4⟩ := all x (List.mem_of_getElem? hx)
      walk_at "sx"
      refine told0_none ((h1.same s9').same s') h2 h3 h4 fun H'' s'' => ?_
      rw [decide_eq_true rfl]
      exact iteF (s'.trans s'')
    · rintro σ H' ⟨c10, rfl, s'⟩
      rfl
  intro σ H3 h14
  obtain ⟨k0, k1, k2, k3, k4, k5, k6, k7, k8, k9, k10, k11, k12, k13, rfl⟩ : ∃ k0 k1 k2 k3 k4 k5 k6 k7 k8 k9 k10 k11 k12 k13 : Option V, σ = [k0, k1, k2, k3, k4, k5, k6, k7, k8, k9, k10, k11, k12, k13] := by
    match σ, h14 with
    | [k0, k1, k2, k3, k4, k5, k6, k7, k8, k9, k10, k11, k12, k13], _ => exact ⟨_, _, _, _, _, _, _, _, _, _, _, _, _, _, rfl⟩
  walk_at "sx"
  refine ⟨fun σ H' => σ = [k0, k1, k2, k3, k4, k5, k6, k7, k8, k9, k10, some (.str (S nines)), k12, k13], ⟨4000, rfl, by decide, by decide, by decide, ?_⟩, ?_⟩
  · rw [show (Str.ofString "9").cps = (⟨#[57]⟩ : Str).cps from rfl, rep_text]
    rfl
  rintro σ H4 rfl
  refine ⟨fun σ H' => σ = [k0, k1, k2, k3, k4, k5, k6, k7, k8, k9, k10, some (.str (S nines)), k12, k13], ?_, ?_⟩
  · walk_at "sx"
    have hln : (S nines).length = 4000 := by rw [SX.S_len]; exact nines_len
    have hsz : (S nines).length ≤ sizeLine := Nat.le_of_lt (smallM (by omega))
    have hit := numText nines_ok (by rw [nines_len]; decide)
    have em : Str.ofString "-" ++ S nines = S (45 :: nines) := by rw [show Str.ofString "-" = S [45] from rfl, SX.S_cat]; rfl
    have e0 : S nines ++ Str.ofString "0" = S (nines ++ [48]) := by rw [show Str.ofString "0" = S [48] from rfl, SX.S_cat]
    refine ⟨_, hit, hsz, told0_text (.int _) nines_gr (by decide) (by decide) fun p H' hp s1 => ⟨by decide, fun p2 np2 => ?_⟩⟩
    rw [nines_wr] at hp
    have low : ∀ c ∈ nines, c < 128 := by
      rw [← nines_wr]
      exact nines_gr.low
    refine ⟨.list [.str (S nines)], .list [.str (S nines)], .lst (SqL.of (by rw [upd_ne (ne_of_none hp np2)]; exact hp)) (.cons (.str _) .nil), .lst (SqL.of upd_same) (.cons (.str _) .nil), shaped_text low, shaped_text low, _, rfl, ?_⟩
    rw [eqv_text, em, e0]
    have lm : (45 :: nines).length ≤ 1000000 := by rw [List.length_cons, nines_len]; decide
    have l0 : (nines ++ [48]).length ≤ 1000000 := by rw [List.length_append, nines_len]; decide
    refine iteF ⟨Nat.le_of_lt (smallM (by rw [hln]; decide)), told1_some lm minus_ans fun p3 H3 s3 => ?_⟩
    rw [decide_eq_false (by intro z; cases z)]
    refine iteF ⟨Nat.le_of_lt (smallM (by rw [hln]; decide)), told1_none l0 longer_ans fun H4 s4 => ?_⟩
    rw [decide_eq_true rfl]
    refine iteF ⟨_, hit, hsz, told0_none (.int _) (.int _) (by simp only [pc]; omega) over_wp fun H5 s5 => ?_⟩
    rw [decide_eq_true rfl]
    exact iteF trivial
  rintro σ H5 rfl
  walk_at "sx"
  refine ⟨by decide, fun p0 np0 => ⟨fun σ H' => ∃ c2 v, σ = [k0, k1, c2, k3, k4, k5, k6, k7, k8, k9, k10, some (.str (S nines)), some v, k13] ∧ Dp K H' v (deepN 999), ?_, ?_⟩⟩
  · refine ⟨999, rfl, by decide, by decide, for_range (lo := 0) (n := 999) (fun i σ H' => ∃ c2 v, σ = [k0, k1, c2, k3, k4, k5, k6, k7, k8, k9, k10, some (.str (S nines)), some v, k13] ∧ Dp K H' v (deepN i)) ⟨_, _, rfl, .tup (SqT.of upd_same) .nil⟩ ?_ ?_⟩
    · rintro i σ H6 hi ⟨c2, v, rfl, hv⟩
      walk_at "sx"
      refine ⟨by decide, fun p np => ?_⟩
      exact .tup (SqT.of upd_same) (.cons (hv.same (same_upd np)) .nil)
    · rintro σ H6 ⟨c2, v, rfl, hv⟩
      exact ⟨_, _, rfl, hv⟩
  rintro σ H6 ⟨c2, v, rfl, hv⟩
  have eb : ∀ n, (⟨List.foldl (fun x1 x2 => x1 ++ x2) #[] (List.replicate n (Str.ofString "[").cps)⟩ : Str) = S (List.replicate n 91) := fun n => rep_text n 91
  have ee : ∀ n, (⟨List.foldl (fun x1 x2 => x1 ++ x2) #[] (List.replicate n (Str.ofString "]").cps)⟩ : Str) = S (List.replicate n 93) := fun n => rep_text n 93
  have lr : ∀ n k : Nat, (S (List.replicate n k)).length = n := fun n k => by rw [SX.S_len, List.length_replicate]
  have wd : wr (deepN 999) = List.replicate 1000 91 ++ List.replicate 1000 93 := deepN_wr 999
  have gd := deepN_gr 999
  have dd : (deepN 999).depth ≤ 1000 := by rw [deepN_depth]; decide
  have pd : pc (deepN 999) ≤ 4000 := by rw [deepN_pc]; decide
  have lt : ∀ n, n ≤ 1001 → (List.replicate n 91 ++ List.replicate n 93).length ≤ 1000000 := fun n h => by
    rw [List.length_append, List.length_replicate, List.length_replicate]
    omega
  have ls : ∀ n, n ≤ 1001 → (S (List.replicate n 91)).length + (S (List.replicate n 93)).length ≤ sizeLine := fun n h => Nat.le_of_lt (smallM (by rw [lr, lr]; omega))
  refine ⟨fun σ H' => σ.length = 14, ?_, ?_⟩
  · walk_at "sx"
    refine told0_text hv gd pd dd fun p H7 hp s1 => ⟨1000, rfl, by decide, by decide, by decide, 1000, rfl, by decide, by decide, by decide, ?_⟩
    rw [eb, ee, SX.S_cat]
    rw [wd] at hp
    refine ⟨ls 1000 (by decide), by decide, fun p2 np2 => ?_⟩
    have low : ∀ c ∈ List.replicate 1000 91 ++ List.replicate 1000 93, c < 128 := by
      rw [← wd]
      exact gd.low
    refine ⟨.list [.str (S (List.replicate 1000 91 ++ List.replicate 1000 93))], .list [.str (S (List.replicate 1000 91 ++ List.replicate 1000 93))], .lst (SqL.of (by rw [upd_ne (ne_of_none hp np2)]; exact hp)) (.cons (.str _) .nil), .lst (SqL.of upd_same) (.cons (.str _) .nil), shaped_text low, shaped_text low, _, rfl, ?_⟩
    rw [eqv_text]
    have s2 := s1.trans (same_upd (o := .lst [V.str (S (List.replicate 1000 91 ++ List.replicate 1000 93))]) np2)
    refine iteF ⟨by decide, fun p3 np3 => told0_none (d := deepN 1000) (.tup (SqT.of upd_same) (.cons ((hv.same s2).same (same_upd np3)) .nil)) (deepN_gr 1000).sm (by rw [deepN_pc]; decide) (deepN_wp 1000 1 (by decide)) fun H8 s8 => ?_⟩
    rw [decide_eq_true rfl]
    refine iteF ⟨1001, rfl, by decide, by decide, by decide, 1001, rfl, by decide, by decide, by decide, ?_⟩
    rw [eb, ee, SX.S_cat]
    refine ⟨ls 1001 (by decide), told1_none (lt 1001 (by decide)) (ans_over _) fun H9 s9 => ?_⟩
    rw [decide_eq_true rfl]
    exact iteF trivial
  intro σ H7 h14
  walk_at "sx"
  refine ⟨1000, rfl, by decide, by decide, by decide, 1000, rfl, by decide, by decide, by decide, ?_⟩
  rw [eb, ee, SX.S_cat]
  refine ⟨ls 1000 (by decide), told1_some (lt 1000 (by decide)) (by rw [← wd]; exact ans_back gd dd) fun p H8 s8 => ?_⟩
  rw [decide_eq_false (by intro z; cases z)]
  refine iteT (lc_lst ?_)
  walk_at "sx"
  refine ⟨by decide, fun p1 n1 => ?_⟩
  have f1 : upd H8 p1 (.tup [.int 1]) p1 = some (.tup [V.int 1]) := upd_same
  generalize upd H8 p1 (.tup [.int 1]) = G1 at f1 ⊢
  refine ⟨by decide, fun p2 n2 => ⟨⟨_, SqL.of upd_same⟩, ?_⟩⟩
  have all : ∀ x ∈ [V.non, V.int 5, V.ref p1, V.str (Str.ofString ""), V.str (Str.ofString "[a][b]"), V.str (Str.ofString "a,b"), V.str (Str.ofString "[a")], ∀ (H : Hp) (Q : VK) (E : XK), Same G1 H → (∀ H', Same H H' → Q .non H') → spTold K [.int 1, x] H Q E := by
    have st : ∀ t : List Nat, t.length ≤ 1000000 → (ans t).isNone = true → ∀ (H : Hp) (Q : VK) (E : XK), Same G1 H → (∀ H', Same H H' → Q .non H') → spTold K [.int 1, .str (S t)] H Q E := fun t h1 h2 H Q E _ q => told1_none h1 (by simpa using h2) q
    intro x hx
    simp only [List.mem_cons, List.not_mem_nil, or_false] at hx
    rcases hx with rfl | rfl | rfl | rfl | rfl | rfl | rfl
    · exact fun H Q E _ q => told1_other .non rfl q
    · exact fun H Q E _ q => told1_other (.int _) rfl q
    · exact fun H Q E s q => told1_other (.tup (SqT.of (s _ _ f1)) (.cons (.int _) .nil)) rfl q
    · exact st (Str.ofString "").cps.toList (by decide) (by decide +kernel)
    · exact st (Str.ofString "[a][b]").cps.toList (by decide) (by decide +kernel)
    · exact st (Str.ofString "a,b").cps.toList (by decide) (by decide +kernel)
    · exact st (Str.ofString "[a").cps.toList (by decide) (by decide +kernel)
  obtain ⟨k0, k1, k2, k3, k4, k5, k6, k7, k8, k9, k10, k11, k12, k13, rfl⟩ : ∃ k0 k1 k2 k3 k4 k5 k6 k7 k8 k9 k10 k11 k12 k13 : Option V, σ = [k0, k1, k2, k3, k4, k5, k6, k7, k8, k9, k10, k11, k12, k13] := by
    match σ, h14 with
    | [k0, k1, k2, k3, k4, k5, k6, k7, k8, k9, k10, k11, k12, k13], _ => exact ⟨_, _, _, _, _, _, _, _, _, _, _, _, _, _, rfl⟩
  have hlen : [V.non, V.int 5, V.ref p1, V.str (Str.ofString ""), V.str (Str.ofString "[a][b]"), V.str (Str.ofString "a,b"), V.str (Str.ofString "[a")].length = 7 := rfl
  generalize [V.non, V.int 5, V.ref p1, V.str (Str.ofString ""), V.str (Str.ofString "[a][b]"), V.str (Str.ofString "a,b"), V.str (Str.ofString "[a")] = xs at all hlen ⊢
  have hx9 : upd G1 p2 (.lst xs) p2 = some (.lst xs) := upd_same
  have s9 := same_upd (o := .lst xs) n2
  generalize upd G1 p2 (.lst xs) = G9 at hx9 s9 ⊢
  refine fun D nD => lc_it (walk_list (K := K) (a := p2) (xs := xs)) (fun i H' => Same G9 H' ∧ H' D = some (.lst (List.replicate i V.non))) ⟨same_upd nD, upd_same⟩ (fun i H' _ h => SqL.of (h.1 _ _ hx9)) ?_ ?_
  · rintro i x H9 H10 hi ⟨s10, hD⟩ ⟨rfl, hx⟩
    walk_at "sx"
    refine all x (List.mem_of_getElem? hx) _ _ _ (s9.trans s10) fun H11 s11 => ⟨_, s11 _ _ hD, ?_, Same.off (s10.trans s11) nD, ?_⟩
    · rw [List.length_replicate]
      exact smallM (by omega)
    · rw [← List.replicate_succ', List.replicate_succ]
  · rintro H9 ⟨s10, hD⟩
    rw [hlen] at hD
    refine ⟨by decide, fun p3 np3 => ⟨p3, 7, [.non], rfl, rfl, upd_same, by decide, by decide, by decide, fun p4 np4 => ?_⟩⟩
    have s11 := (same_upd (o := .lst [V.non]) np3).trans (same_upd (o := .lst (List.replicate (7 : Int).toNat [V.non]).flatten) np4)
    have dn : ∀ (H : Hp) (n : Nat), DpAll K H (List.replicate n V.non) (List.replicate n .none) := by
      intro H n
      induction n with
      | zero => exact .nil
      | succ n ih => exact .cons .non ih
    exact ⟨.list (List.replicate 7 .none), .list (List.replicate 7 .none), .lst (SqL.of (s11 _ _ hD)) (dn _ 7), .lst (SqL.of upd_same) (dn _ 7), by decide, by decide, q _⟩
end

end Z

set_option Elab.async false
set_option linter.all false
set_option maxRecDepth 100000
set_option maxHeartbeats 4000000

namespace Z
open PySem PySem.Spec PyProof.Rows L2 Z.R
local macro_rules | `(tactic| walk_at "sx") => `(tactic| try simp only [and_assoc, cxOf_K, cxOf_Kn, C8.tCut, rEq, rNe, sc_ii, sc_ss, sc_bb, sc_is, sc_si, sc_bs, sc_sb, tSeq, tAsg, tPar, tPar3, tC, gName, gNil, gCons, gTup, gSub, rSetL, L2.start, tVar, tOp, tUn, rI0, rI, rU, tTest, tChain, tOrV, tAndV, tNotV, tCB, tCons, tNil, tLst, tTup, tIfS, tNext, tRet, tRetN, tDrop, tAnd, tOr, tNot, tB, tIf, tSl, tFld, sFld, putF, tNoPart, tPart, rSlL, tBM, tBM0, rAppend, rPop, rExtend, tCall, tMeth, List.map_cons, List.map_nil, List.replicate, List.length_cons, List.length_nil, List.append, List.cons_append, List.nil_append, List.append_nil, List.getElem?_cons_zero, List.getElem?_cons_succ, List.set_cons_zero, List.set_cons_succ, Option.some.injEq, exists_eq_left', exists_eq_left, exists_eq, exists_and_left, exists_const, wipe, tYes, upd_same, ↓reduceIte, decide_false, decide_true, Bool.not_true, Bool.not_false, Bool.false_eq_true, V.int.injEq, HO.lst.injEq, HO.tup.injEq, V.ref.injEq, V.str.injEq, one_inj, le_a, le_z, le_0, le_9, mem_let, mem_dig, V.bl.injEq, List.cons.injEq, and_true, true_and, reduceCtorEq, false_and, exists_false, or_false, false_or])
theorem exm_own {K : PySem.W.Frag} {S : Addr} (h1 : PySem.W.subIn K (.ref S) (.type "BaseException") = some true) (h2 : PySem.W.isClsIn K S = true) (h3 : PySem.W.typeIn K (.ref S) = some (.type "type")) (h4 : PySem.W.subIn K (.ref S) (.ref S) = some true) : PySem.W.exmOne K (.ref S) (.ref S) = some true := by
  have b1 : (PySem.W.subIn K (.ref S) (.type "BaseException") == some true) = true := by rw [h1]; rfl
  have b2 : ((PySem.W.clsIn K S).isSome && PySem.W.typeIn K (.ref S) == some (.type "type")) = true := by
    rw [show (PySem.W.clsIn K S).isSome = true from h2, h3]
    rfl
  have b3 : (if (PySem.W.subIn K (.ref S) (.type "BaseException") == some true) = true then (if ((PySem.W.clsIn K S).isSome && PySem.W.typeIn K (.ref S) == some (.type "type")) = true then PySem.W.subIn K (.ref S) (.ref S) else none) else none) = some true := by
    rw [if_pos b1, if_pos b2]
    exact h4
  exact b3
theorem all_mk {P : Program} {w : World} {K : PySem.W.Frag} {h : Heap} {mg : Str → Option Value} {fa : Addr} {CMalformed : Addr} {CDataReader : Addr} {f_is_whole : Addr} {f_is_word : Addr} {f_is_short : Addr} {f_atom_text : Addr} {f_write_data : Addr} {f_read_whole : Addr} {f_read_atom : Addr} {f_pieces_of : Addr} {f_read_data : Addr} {f__law_draw : Addr} {f__law_take : Addr} {f__law_data : Addr} {f__law_word : Addr} {f__law_written : Addr} {f__law_number : Addr} {f__law_read : Addr} {f__law_told : Addr} {f_law : Addr} {f_DataReader___init__ : Addr} {f_DataReader_item : Addr} {f_DataReader_open_one : Addr} {f_DataReader_close_one : Addr} {f_DataReader_comma : Addr} {f_DataReader_take : Addr} {v_MOST_WORD : Tok} {v_MOST_DEPTH : Tok} {v_MOST_DIGITS : Tok} {v_LETTERS : Tok} {v_DIGITS : Tok} {v_SIGNS : Addr} {S_n : Nat} {S_h1 S_h2 S_h3 : Int} {S_t1 S_t2 S_t3 S_t4 : Tok}
    {od_is_whole an_is_whole : Option Addr} {sl_is_whole : Array (Option Value)} {oc_is_whole kV_is_whole dc_is_whole pm_is_whole cd_is_whole ct_is_whole : Value}
    {od_is_word an_is_word : Option Addr} {sl_is_word : Array (Option Value)} {oc_is_word kV_is_word dc_is_word pm_is_word cd_is_word ct_is_word : Value}
    {od_is_short an_is_short : Option Addr} {sl_is_short : Array (Option Value)} {oc_is_short kV_is_short dc_is_short pm_is_short cd_is_short ct_is_short : Value}
    {od_atom_text an_atom_text : Option Addr} {sl_atom_text : Array (Option Value)} {oc_atom_text kV_atom_text dc_atom_text pm_atom_text cd_atom_text ct_atom_text : Value}
    {od_write_data an_write_data : Option Addr} {sl_write_data : Array (Option Value)} {oc_write_data kV_write_data dc_write_data pm_write_data cd_write_data ct_write_data : Value}
    {od_read_whole an_read_whole : Option Addr} {sl_read_whole : Array (Option Value)} {oc_read_whole kV_read_whole dc_read_whole pm_read_whole cd_read_whole ct_read_whole : Value}
    {od_read_atom an_read_atom : Option Addr} {sl_read_atom : Array (Option Value)} {oc_read_atom kV_read_atom dc_read_atom pm_read_atom cd_read_atom ct_read_atom : Value}
    {od_pieces_of an_pieces_of : Option Addr} {sl_pieces_of : Array (Option Value)} {oc_pieces_of kV_pieces_of dc_pieces_of pm_pieces_of cd_pieces_of ct_pieces_of : Value}
    {od_read_data an_read_data : Option Addr} {sl_read_data : Array (Option Value)} {oc_read_data kV_read_data dc_read_data pm_read_data cd_read_data ct_read_data : Value}
    {od__law_draw an__law_draw : Option Addr} {sl__law_draw : Array (Option Value)} {oc__law_draw kV__law_draw dc__law_draw pm__law_draw cd__law_draw ct__law_draw : Value}
    {od__law_take an__law_take : Option Addr} {sl__law_take : Array (Option Value)} {oc__law_take kV__law_take dc__law_take pm__law_take cd__law_take ct__law_take : Value}
    {od__law_data an__law_data : Option Addr} {sl__law_data : Array (Option Value)} {oc__law_data kV__law_data dc__law_data pm__law_data cd__law_data ct__law_data : Value}
    {od__law_word an__law_word : Option Addr} {sl__law_word : Array (Option Value)} {oc__law_word kV__law_word dc__law_word pm__law_word cd__law_word ct__law_word : Value}
    {od__law_written an__law_written : Option Addr} {sl__law_written : Array (Option Value)} {oc__law_written kV__law_written dc__law_written pm__law_written cd__law_written ct__law_written : Value}
    {od__law_number an__law_number : Option Addr} {sl__law_number : Array (Option Value)} {oc__law_number kV__law_number dc__law_number pm__law_number cd__law_number ct__law_number : Value}
    {od__law_read an__law_read : Option Addr} {sl__law_read : Array (Option Value)} {oc__law_read kV__law_read dc__law_read pm__law_read cd__law_read ct__law_read : Value}
    {od__law_told an__law_told : Option Addr} {sl__law_told : Array (Option Value)} {oc__law_told kV__law_told dc__law_told pm__law_told cd__law_told ct__law_told : Value}
    {od_law an_law : Option Addr} {sl_law : Array (Option Value)} {oc_law kV_law dc_law pm_law cd_law ct_law : Value}
    {od_DataReader___init__ an_DataReader___init__ : Option Addr} {sl_DataReader___init__ : Array (Option Value)} {oc_DataReader___init__ kV_DataReader___init__ dc_DataReader___init__ pm_DataReader___init__ cd_DataReader___init__ ct_DataReader___init__ : Value}
    {od_DataReader_item an_DataReader_item : Option Addr} {sl_DataReader_item : Array (Option Value)} {oc_DataReader_item kV_DataReader_item dc_DataReader_item pm_DataReader_item cd_DataReader_item ct_DataReader_item : Value}
    {od_DataReader_open_one an_DataReader_open_one : Option Addr} {sl_DataReader_open_one : Array (Option Value)} {oc_DataReader_open_one kV_DataReader_open_one dc_DataReader_open_one pm_DataReader_open_one cd_DataReader_open_one ct_DataReader_open_one : Value}
    {od_DataReader_close_one an_DataReader_close_one : Option Addr} {sl_DataReader_close_one : Array (Option Value)} {oc_DataReader_close_one kV_DataReader_close_one dc_DataReader_close_one pm_DataReader_close_one cd_DataReader_close_one ct_DataReader_close_one : Value}
    {od_DataReader_comma an_DataReader_comma : Option Addr} {sl_DataReader_comma : Array (Option Value)} {oc_DataReader_comma kV_DataReader_comma dc_DataReader_comma pm_DataReader_comma cd_DataReader_comma ct_DataReader_comma : Value}
    {od_DataReader_take an_DataReader_take : Option Addr} {sl_DataReader_take : Array (Option Value)} {oc_DataReader_take kV_DataReader_take dc_DataReader_take pm_DataReader_take cd_DataReader_take ct_DataReader_take : Value}
    (X : K.In h) (G : h.Ns mainGlobals mg) (hfa : mg "law" = some (.ref fa))
    (aXMalformed : PySem.W.nsIn K mainGlobals "Malformed" = some (some (.ref CMalformed)))
    (xXMalformed : PySem.W.excIn K CMalformed [.type "ValueError", .type "Exception", .type "BaseException", .type "object"] "ValueError.__new__" = true)
    (kXMalformed : PySem.W.keepIn K (.ref CMalformed) = true)
    (bXMalformed : PySem.W.subIn K (.ref CMalformed) (.type "BaseException") = some true)
    (tXMalformed : PySem.W.typeIn K (.ref CMalformed) = some (.type "type"))
    (iXMalformed : PySem.W.isClsIn K CMalformed = true)
    (sXMalformed : PySem.W.subIn K (.ref CMalformed) (.ref CMalformed) = some true)
    (aCDataReader : PySem.W.nsIn K mainGlobals "DataReader" = some (some (.ref CDataReader)))
    (pgDataReader : PySem.W.plainGet K CDataReader Str.empty = true)
    (hdDataReader : PySem.W.hasDictIn K CDataReader = true)
    (poDataReader : PySem.W.plainOver K CDataReader = true)
    (saDataReader : PySem.W.findIn K (.ref CDataReader) "__setattr__" = some (some (.builtin "object.__setattr__")))
    (mkDataReader : PySem.W.makesIn K CDataReader = true)
    (kcDataReader : PySem.W.keepIn K (.ref CDataReader) = true)
    (nDataReader_tuples : PySem.W.findIn K (.ref CDataReader) "tuples" = some none)
    (nDataReader_ready : PySem.W.findIn K (.ref CDataReader) "ready" = some none)
    (nDataReader_told : PySem.W.findIn K (.ref CDataReader) "told" = some none)
    (a_is_whole : PySem.W.nsIn K mainGlobals "is_whole" = some (some (.ref f_is_whole)))
    (l_is_whole : K.lookup f_is_whole = some ⟨oc_is_whole, od_is_whole, .func (PySem.W.fnOf "is_whole" "is_whole" (defArgs s_is_whole) (defBody s_is_whole) (defScope s_is_whole) .none kV_is_whole dc_is_whole pm_is_whole an_is_whole cd_is_whole ct_is_whole), sl_is_whole⟩)
    (c_is_whole : PySem.W.codeIn K cd_is_whole "is_whole" = true)
    (k_is_whole : PySem.W.keepIn K (.ref f_is_whole) = true)
    (a_is_word : PySem.W.nsIn K mainGlobals "is_word" = some (some (.ref f_is_word)))
    (l_is_word : K.lookup f_is_word = some ⟨oc_is_word, od_is_word, .func (PySem.W.fnOf "is_word" "is_word" (defArgs s_is_word) (defBody s_is_word) (defScope s_is_word) .none kV_is_word dc_is_word pm_is_word an_is_word cd_is_word ct_is_word), sl_is_word⟩)
    (c_is_word : PySem.W.codeIn K cd_is_word "is_word" = true)
    (k_is_word : PySem.W.keepIn K (.ref f_is_word) = true)
    (a_is_short : PySem.W.nsIn K mainGlobals "is_short" = some (some (.ref f_is_short)))
    (l_is_short : K.lookup f_is_short = some ⟨oc_is_short, od_is_short, .func (PySem.W.fnOf "is_short" "is_short" (defArgs s_is_short) (defBody s_is_short) (defScope s_is_short) .none kV_is_short dc_is_short pm_is_short an_is_short cd_is_short ct_is_short), sl_is_short⟩)
    (c_is_short : PySem.W.codeIn K cd_is_short "is_short" = true)
    (k_is_short : PySem.W.keepIn K (.ref f_is_short) = true)
    (a_atom_text : PySem.W.nsIn K mainGlobals "atom_text" = some (some (.ref f_atom_text)))
    (l_atom_text : K.lookup f_atom_text = some ⟨oc_atom_text, od_atom_text, .func (PySem.W.fnOf "atom_text" "atom_text" (defArgs s_atom_text) (defBody s_atom_text) (defScope s_atom_text) .none kV_atom_text dc_atom_text pm_atom_text an_atom_text cd_atom_text ct_atom_text), sl_atom_text⟩)
    (c_atom_text : PySem.W.codeIn K cd_atom_text "atom_text" = true)
    (k_atom_text : PySem.W.keepIn K (.ref f_atom_text) = true)
    (a_write_data : PySem.W.nsIn K mainGlobals "write_data" = some (some (.ref f_write_data)))
    (l_write_data : K.lookup f_write_data = some ⟨oc_write_data, od_write_data, .func (PySem.W.fnOf "write_data" "write_data" (defArgs s_write_data) (defBody s_write_data) (defScope s_write_data) .none kV_write_data dc_write_data pm_write_data an_write_data cd_write_data ct_write_data), sl_write_data⟩)
    (c_write_data : PySem.W.codeIn K cd_write_data "write_data" = true)
    (k_write_data : PySem.W.keepIn K (.ref f_write_data) = true)
    (a_read_whole : PySem.W.nsIn K mainGlobals "read_whole" = some (some (.ref f_read_whole)))
    (l_read_whole : K.lookup f_read_whole = some ⟨oc_read_whole, od_read_whole, .func (PySem.W.fnOf "read_whole" "read_whole" (defArgs s_read_whole) (defBody s_read_whole) (defScope s_read_whole) .none kV_read_whole dc_read_whole pm_read_whole an_read_whole cd_read_whole ct_read_whole), sl_read_whole⟩)
    (c_read_whole : PySem.W.codeIn K cd_read_whole "read_whole" = true)
    (k_read_whole : PySem.W.keepIn K (.ref f_read_whole) = true)
    (a_read_atom : PySem.W.nsIn K mainGlobals "read_atom" = some (some (.ref f_read_atom)))
    (l_read_atom : K.lookup f_read_atom = some ⟨oc_read_atom, od_read_atom, .func (PySem.W.fnOf "read_atom" "read_atom" (defArgs s_read_atom) (defBody s_read_atom) (defScope s_read_atom) .none kV_read_atom dc_read_atom pm_read_atom an_read_atom cd_read_atom ct_read_atom), sl_read_atom⟩)
    (c_read_atom : PySem.W.codeIn K cd_read_atom "read_atom" = true)
    (k_read_atom : PySem.W.keepIn K (.ref f_read_atom) = true)
    (a_pieces_of : PySem.W.nsIn K mainGlobals "pieces_of" = some (some (.ref f_pieces_of)))
    (l_pieces_of : K.lookup f_pieces_of = some ⟨oc_pieces_of, od_pieces_of, .func (PySem.W.fnOf "pieces_of" "pieces_of" (defArgs s_pieces_of) (defBody s_pieces_of) (defScope s_pieces_of) .none kV_pieces_of dc_pieces_of pm_pieces_of an_pieces_of cd_pieces_of ct_pieces_of), sl_pieces_of⟩)
    (c_pieces_of : PySem.W.codeIn K cd_pieces_of "pieces_of" = true)
    (k_pieces_of : PySem.W.keepIn K (.ref f_pieces_of) = true)
    (a_read_data : PySem.W.nsIn K mainGlobals "read_data" = some (some (.ref f_read_data)))
    (l_read_data : K.lookup f_read_data = some ⟨oc_read_data, od_read_data, .func (PySem.W.fnOf "read_data" "read_data" (defArgs s_read_data) (defBody s_read_data) (defScope s_read_data) .none kV_read_data dc_read_data pm_read_data an_read_data cd_read_data ct_read_data), sl_read_data⟩)
    (c_read_data : PySem.W.codeIn K cd_read_data "read_data" = true)
    (k_read_data : PySem.W.keepIn K (.ref f_read_data) = true)
    (a__law_draw : PySem.W.nsIn K mainGlobals "_law_draw" = some (some (.ref f__law_draw)))
    (l__law_draw : K.lookup f__law_draw = some ⟨oc__law_draw, od__law_draw, .func (PySem.W.fnOf "_law_draw" "_law_draw" (defArgs s__law_draw) (defBody s__law_draw) (defScope s__law_draw) .none kV__law_draw dc__law_draw pm__law_draw an__law_draw cd__law_draw ct__law_draw), sl__law_draw⟩)
    (c__law_draw : PySem.W.codeIn K cd__law_draw "_law_draw" = true)
    (k__law_draw : PySem.W.keepIn K (.ref f__law_draw) = true)
    (a__law_take : PySem.W.nsIn K mainGlobals "_law_take" = some (some (.ref f__law_take)))
    (l__law_take : K.lookup f__law_take = some ⟨oc__law_take, od__law_take, .func (PySem.W.fnOf "_law_take" "_law_take" (defArgs s__law_take) (defBody s__law_take) (defScope s__law_take) .none kV__law_take dc__law_take pm__law_take an__law_take cd__law_take ct__law_take), sl__law_take⟩)
    (c__law_take : PySem.W.codeIn K cd__law_take "_law_take" = true)
    (k__law_take : PySem.W.keepIn K (.ref f__law_take) = true)
    (a__law_data : PySem.W.nsIn K mainGlobals "_law_data" = some (some (.ref f__law_data)))
    (l__law_data : K.lookup f__law_data = some ⟨oc__law_data, od__law_data, .func (PySem.W.fnOf "_law_data" "_law_data" (defArgs s__law_data) (defBody s__law_data) (defScope s__law_data) .none kV__law_data dc__law_data pm__law_data an__law_data cd__law_data ct__law_data), sl__law_data⟩)
    (c__law_data : PySem.W.codeIn K cd__law_data "_law_data" = true)
    (k__law_data : PySem.W.keepIn K (.ref f__law_data) = true)
    (a__law_word : PySem.W.nsIn K mainGlobals "_law_word" = some (some (.ref f__law_word)))
    (l__law_word : K.lookup f__law_word = some ⟨oc__law_word, od__law_word, .func (PySem.W.fnOf "_law_word" "_law_word" (defArgs s__law_word) (defBody s__law_word) (defScope s__law_word) .none kV__law_word dc__law_word pm__law_word an__law_word cd__law_word ct__law_word), sl__law_word⟩)
    (c__law_word : PySem.W.codeIn K cd__law_word "_law_word" = true)
    (k__law_word : PySem.W.keepIn K (.ref f__law_word) = true)
    (a__law_written : PySem.W.nsIn K mainGlobals "_law_written" = some (some (.ref f__law_written)))
    (l__law_written : K.lookup f__law_written = some ⟨oc__law_written, od__law_written, .func (PySem.W.fnOf "_law_written" "_law_written" (defArgs s__law_written) (defBody s__law_written) (defScope s__law_written) .none kV__law_written dc__law_written pm__law_written an__law_written cd__law_written ct__law_written), sl__law_written⟩)
    (c__law_written : PySem.W.codeIn K cd__law_written "_law_written" = true)
    (k__law_written : PySem.W.keepIn K (.ref f__law_written) = true)
    (a__law_number : PySem.W.nsIn K mainGlobals "_law_number" = some (some (.ref f__law_number)))
    (l__law_number : K.lookup f__law_number = some ⟨oc__law_number, od__law_number, .func (PySem.W.fnOf "_law_number" "_law_number" (defArgs s__law_number) (defBody s__law_number) (defScope s__law_number) .none kV__law_number dc__law_number pm__law_number an__law_number cd__law_number ct__law_number), sl__law_number⟩)
    (c__law_number : PySem.W.codeIn K cd__law_number "_law_number" = true)
    (k__law_number : PySem.W.keepIn K (.ref f__law_number) = true)
    (a__law_read : PySem.W.nsIn K mainGlobals "_law_read" = some (some (.ref f__law_read)))
    (l__law_read : K.lookup f__law_read = some ⟨oc__law_read, od__law_read, .func (PySem.W.fnOf "_law_read" "_law_read" (defArgs s__law_read) (defBody s__law_read) (defScope s__law_read) .none kV__law_read dc__law_read pm__law_read an__law_read cd__law_read ct__law_read), sl__law_read⟩)
    (c__law_read : PySem.W.codeIn K cd__law_read "_law_read" = true)
    (k__law_read : PySem.W.keepIn K (.ref f__law_read) = true)
    (a__law_told : PySem.W.nsIn K mainGlobals "_law_told" = some (some (.ref f__law_told)))
    (l__law_told : K.lookup f__law_told = some ⟨oc__law_told, od__law_told, .func (PySem.W.fnOf "_law_told" "_law_told" (defArgs s__law_told) (defBody s__law_told) (defScope s__law_told) .none kV__law_told dc__law_told pm__law_told an__law_told cd__law_told ct__law_told), sl__law_told⟩)
    (c__law_told : PySem.W.codeIn K cd__law_told "_law_told" = true)
    (k__law_told : PySem.W.keepIn K (.ref f__law_told) = true)
    (a_law : PySem.W.nsIn K mainGlobals "law" = some (some (.ref f_law)))
    (l_law : K.lookup f_law = some ⟨oc_law, od_law, .func (PySem.W.fnOf "law" "law" (defArgs s_law) (defBody s_law) (defScope s_law) .none kV_law dc_law pm_law an_law cd_law ct_law), sl_law⟩)
    (c_law : PySem.W.codeIn K cd_law "law" = true)
    (k_law : PySem.W.keepIn K (.ref f_law) = true)
    (a_DataReader___init__ : PySem.W.findIn K (.ref CDataReader) "__init__" = some (some (.ref f_DataReader___init__)))
    (i_DataReader___init__ : PySem.W.isFn K (.ref f_DataReader___init__) = true)
    (l_DataReader___init__ : K.lookup f_DataReader___init__ = some ⟨oc_DataReader___init__, od_DataReader___init__, .func (PySem.W.fnOf "__init__" "DataReader.__init__" (defArgs s_DataReader___init__) (defBody s_DataReader___init__) (defScope s_DataReader___init__) .none kV_DataReader___init__ dc_DataReader___init__ pm_DataReader___init__ an_DataReader___init__ cd_DataReader___init__ ct_DataReader___init__), sl_DataReader___init__⟩)
    (c_DataReader___init__ : PySem.W.codeIn K cd_DataReader___init__ "DataReader.__init__" = true)
    (k_DataReader___init__ : PySem.W.keepIn K (.ref f_DataReader___init__) = true)
    (a_DataReader_item : PySem.W.findIn K (.ref CDataReader) "item" = some (some (.ref f_DataReader_item)))
    (i_DataReader_item : PySem.W.isFn K (.ref f_DataReader_item) = true)
    (l_DataReader_item : K.lookup f_DataReader_item = some ⟨oc_DataReader_item, od_DataReader_item, .func (PySem.W.fnOf "item" "DataReader.item" (defArgs s_DataReader_item) (defBody s_DataReader_item) (defScope s_DataReader_item) .none kV_DataReader_item dc_DataReader_item pm_DataReader_item an_DataReader_item cd_DataReader_item ct_DataReader_item), sl_DataReader_item⟩)
    (c_DataReader_item : PySem.W.codeIn K cd_DataReader_item "DataReader.item" = true)
    (k_DataReader_item : PySem.W.keepIn K (.ref f_DataReader_item) = true)
    (a_DataReader_open_one : PySem.W.findIn K (.ref CDataReader) "open_one" = some (some (.ref f_DataReader_open_one)))
    (i_DataReader_open_one : PySem.W.isFn K (.ref f_DataReader_open_one) = true)
    (l_DataReader_open_one : K.lookup f_DataReader_open_one = some ⟨oc_DataReader_open_one, od_DataReader_open_one, .func (PySem.W.fnOf "open_one" "DataReader.open_one" (defArgs s_DataReader_open_one) (defBody s_DataReader_open_one) (defScope s_DataReader_open_one) .none kV_DataReader_open_one dc_DataReader_open_one pm_DataReader_open_one an_DataReader_open_one cd_DataReader_open_one ct_DataReader_open_one), sl_DataReader_open_one⟩)
    (c_DataReader_open_one : PySem.W.codeIn K cd_DataReader_open_one "DataReader.open_one" = true)
    (k_DataReader_open_one : PySem.W.keepIn K (.ref f_DataReader_open_one) = true)
    (a_DataReader_close_one : PySem.W.findIn K (.ref CDataReader) "close_one" = some (some (.ref f_DataReader_close_one)))
    (i_DataReader_close_one : PySem.W.isFn K (.ref f_DataReader_close_one) = true)
    (l_DataReader_close_one : K.lookup f_DataReader_close_one = some ⟨oc_DataReader_close_one, od_DataReader_close_one, .func (PySem.W.fnOf "close_one" "DataReader.close_one" (defArgs s_DataReader_close_one) (defBody s_DataReader_close_one) (defScope s_DataReader_close_one) .none kV_DataReader_close_one dc_DataReader_close_one pm_DataReader_close_one an_DataReader_close_one cd_DataReader_close_one ct_DataReader_close_one), sl_DataReader_close_one⟩)
    (c_DataReader_close_one : PySem.W.codeIn K cd_DataReader_close_one "DataReader.close_one" = true)
    (k_DataReader_close_one : PySem.W.keepIn K (.ref f_DataReader_close_one) = true)
    (a_DataReader_comma : PySem.W.findIn K (.ref CDataReader) "comma" = some (some (.ref f_DataReader_comma)))
    (i_DataReader_comma : PySem.W.isFn K (.ref f_DataReader_comma) = true)
    (l_DataReader_comma : K.lookup f_DataReader_comma = some ⟨oc_DataReader_comma, od_DataReader_comma, .func (PySem.W.fnOf "comma" "DataReader.comma" (defArgs s_DataReader_comma) (defBody s_DataReader_comma) (defScope s_DataReader_comma) .none kV_DataReader_comma dc_DataReader_comma pm_DataReader_comma an_DataReader_comma cd_DataReader_comma ct_DataReader_comma), sl_DataReader_comma⟩)
    (c_DataReader_comma : PySem.W.codeIn K cd_DataReader_comma "DataReader.comma" = true)
    (k_DataReader_comma : PySem.W.keepIn K (.ref f_DataReader_comma) = true)
    (a_DataReader_take : PySem.W.findIn K (.ref CDataReader) "take" = some (some (.ref f_DataReader_take)))
    (i_DataReader_take : PySem.W.isFn K (.ref f_DataReader_take) = true)
    (l_DataReader_take : K.lookup f_DataReader_take = some ⟨oc_DataReader_take, od_DataReader_take, .func (PySem.W.fnOf "take" "DataReader.take" (defArgs s_DataReader_take) (defBody s_DataReader_take) (defScope s_DataReader_take) .none kV_DataReader_take dc_DataReader_take pm_DataReader_take an_DataReader_take cd_DataReader_take ct_DataReader_take), sl_DataReader_take⟩)
    (c_DataReader_take : PySem.W.codeIn K cd_DataReader_take "DataReader.take" = true)
    (k_DataReader_take : PySem.W.keepIn K (.ref f_DataReader_take) = true)
    (z_isinstance : PySem.W.nsIn K mainGlobals "isinstance" = some none)
    (z_str : PySem.W.nsIn K mainGlobals "str" = some none)
    (z_int : PySem.W.nsIn K mainGlobals "int" = some none)
    (z_bool : PySem.W.nsIn K mainGlobals "bool" = some none)
    (z_tuple : PySem.W.nsIn K mainGlobals "tuple" = some none)
    (z_len : PySem.W.nsIn K mainGlobals "len" = some none)
    (z_all : PySem.W.nsIn K mainGlobals "all" = some none)
    (z_any : PySem.W.nsIn K mainGlobals "any" = some none)
    (z_abs : PySem.W.nsIn K mainGlobals "abs" = some none)
    (z_range : PySem.W.nsIn K mainGlobals "range" = some none)
    (z_repr : PySem.W.nsIn K mainGlobals "repr" = some none)
    (z_enumerate : PySem.W.nsIn K mainGlobals "enumerate" = some none)
    (y_MOST_WORD : PySem.W.nsIn K mainGlobals "MOST_WORD" = some (some (.int 12 v_MOST_WORD)))
    (y_MOST_DEPTH : PySem.W.nsIn K mainGlobals "MOST_DEPTH" = some (some (.int 1000 v_MOST_DEPTH)))
    (y_MOST_DIGITS : PySem.W.nsIn K mainGlobals "MOST_DIGITS" = some (some (.int 4000 v_MOST_DIGITS)))
    (y_LETTERS : PySem.W.nsIn K mainGlobals "LETTERS" = some (some (.str "abcdefghijklmnopqrstuvwxyz" v_LETTERS)))
    (y_DIGITS : PySem.W.nsIn K mainGlobals "DIGITS" = some (some (.str "0123456789" v_DIGITS)))
    (y_SIGNS : PySem.W.nsIn K mainGlobals "SIGNS" = some (some (.ref v_SIGNS)))
    (S_l : K.lookup v_SIGNS = some ⟨.type "dict", none, .dict #[⟨S_h1, .str "+" S_t1, .bool true⟩, ⟨S_h2, .str "-" S_t2, .bool false⟩, ⟨S_h3, .str "." S_t3, .str "" S_t4⟩] S_n, #[]⟩)
    (S_1 : S_h1 = PyData.keyHash w.params "+")
    (S_2 : S_h2 = PyData.keyHash w.params "-")
    (S_3 : S_h3 = PyData.keyHash w.params ".")
    (S_o : (v_SIGNS == sysModules) = false) :
    ∃ fd : FuncData, (∀ (s : Shared) (u : Value), BindsTo s fd ⟨[u], []⟩ [("script", u)]) ∧ ∀ base : Heap, K.In base → base.Ns mainGlobals mg → base.NoDigits → LawRun P w K mg base fa fd "script" (spLaw K) := by
  have e := hfa.symm.trans (PySem.W.mg_of X G a_law)
  cases e
  have T_Malformed : XC K mg "Malformed" CMalformed := ⟨xXMalformed, PySem.W.mg_of X G aXMalformed, kXMalformed, bXMalformed, tXMalformed, exm_own bXMalformed iXMalformed tXMalformed sXMalformed⟩
  have hC_DataReader : Cls K CDataReader := ⟨pgDataReader, hdDataReader, poDataReader, saDataReader⟩
  have n_tuples : NoAttr K CDataReader "tuples" := nDataReader_tuples
  have n_ready : NoAttr K CDataReader "ready" := nDataReader_ready
  have n_told : NoAttr K CDataReader "told" := nDataReader_told
  have F_is_whole := fun_mk (st := s_is_whole) l_is_whole c_is_whole k_is_whole
  have B_is_whole := F_is_whole.binds (ps := ["value"]) fun _ _ _ _ _ _ us hl => match us, hl with | [_], _ => rfl
  have M_is_whole := PySem.W.mg_of X G a_is_whole
  have F_is_word := fun_mk (st := s_is_word) l_is_word c_is_word k_is_word
  have B_is_word := F_is_word.binds (ps := ["value"]) fun _ _ _ _ _ _ us hl => match us, hl with | [_], _ => rfl
  have M_is_word := PySem.W.mg_of X G a_is_word
  have F_is_short := fun_mk (st := s_is_short) l_is_short c_is_short k_is_short
  have B_is_short := F_is_short.binds (ps := ["value"]) fun _ _ _ _ _ _ us hl => match us, hl with | [_], _ => rfl
  have M_is_short := PySem.W.mg_of X G a_is_short
  have F_atom_text := fun_mk (st := s_atom_text) l_atom_text c_atom_text k_atom_text
  have B_atom_text := F_atom_text.binds (ps := ["value"]) fun _ _ _ _ _ _ us hl => match us, hl with | [_], _ => rfl
  have M_atom_text := PySem.W.mg_of X G a_atom_text
  have F_write_data := fun_mk (st := s_write_data) l_write_data c_write_data k_write_data
  have B_write_data := F_write_data.binds (ps := ["data"]) fun _ _ _ _ _ _ us hl => match us, hl with | [_], _ => rfl
  have M_write_data := PySem.W.mg_of X G a_write_data
  have F_read_whole := fun_mk (st := s_read_whole) l_read_whole c_read_whole k_read_whole
  have B_read_whole := F_read_whole.binds (ps := ["text"]) fun _ _ _ _ _ _ us hl => match us, hl with | [_], _ => rfl
  have M_read_whole := PySem.W.mg_of X G a_read_whole
  have F_read_atom := fun_mk (st := s_read_atom) l_read_atom c_read_atom k_read_atom
  have B_read_atom := F_read_atom.binds (ps := ["piece"]) fun _ _ _ _ _ _ us hl => match us, hl with | [_], _ => rfl
  have M_read_atom := PySem.W.mg_of X G a_read_atom
  have F_pieces_of := fun_mk (st := s_pieces_of) l_pieces_of c_pieces_of k_pieces_of
  have B_pieces_of := F_pieces_of.binds (ps := ["text"]) fun _ _ _ _ _ _ us hl => match us, hl with | [_], _ => rfl
  have M_pieces_of := PySem.W.mg_of X G a_pieces_of
  have F_read_data := fun_mk (st := s_read_data) l_read_data c_read_data k_read_data
  have B_read_data := F_read_data.binds (ps := ["text"]) fun _ _ _ _ _ _ us hl => match us, hl with | [_], _ => rfl
  have M_read_data := PySem.W.mg_of X G a_read_data
  have F__law_draw := fun_mk (st := s__law_draw) l__law_draw c__law_draw k__law_draw
  have B__law_draw := F__law_draw.binds (ps := ["script"]) fun _ _ _ _ _ _ us hl => match us, hl with | [_], _ => rfl
  have M__law_draw := PySem.W.mg_of X G a__law_draw
  have F__law_take := fun_mk (st := s__law_take) l__law_take c__law_take k__law_take
  have B__law_take := F__law_take.binds (ps := ["draw", "many"]) fun _ _ _ _ _ _ us hl => match us, hl with | [_, _], _ => rfl
  have M__law_take := PySem.W.mg_of X G a__law_take
  have F__law_data := fun_mk (st := s__law_data) l__law_data c__law_data k__law_data
  have B__law_data := F__law_data.binds (ps := ["draw", "deep"]) fun _ _ _ _ _ _ us hl => match us, hl with | [_, _], _ => rfl
  have M__law_data := PySem.W.mg_of X G a__law_data
  have F__law_word := fun_mk (st := s__law_word) l__law_word c__law_word k__law_word
  have B__law_word := F__law_word.binds (ps := ["value"]) fun _ _ _ _ _ _ us hl => match us, hl with | [_], _ => rfl
  have M__law_word := PySem.W.mg_of X G a__law_word
  have F__law_written := fun_mk (st := s__law_written) l__law_written c__law_written k__law_written
  have B__law_written := F__law_written.binds (ps := ["data"]) fun _ _ _ _ _ _ us hl => match us, hl with | [_], _ => rfl
  have M__law_written := PySem.W.mg_of X G a__law_written
  have F__law_number := fun_mk (st := s__law_number) l__law_number c__law_number k__law_number
  have B__law_number := F__law_number.binds (ps := ["text"]) fun _ _ _ _ _ _ us hl => match us, hl with | [_], _ => rfl
  have M__law_number := PySem.W.mg_of X G a__law_number
  have F__law_read := fun_mk (st := s__law_read) l__law_read c__law_read k__law_read
  have B__law_read := F__law_read.binds (ps := ["text"]) fun _ _ _ _ _ _ us hl => match us, hl with | [_], _ => rfl
  have M__law_read := PySem.W.mg_of X G a__law_read
  have F__law_told := fun_mk (st := s__law_told) l__law_told c__law_told k__law_told
  have B__law_told := F__law_told.binds (ps := ["which", "value"]) fun _ _ _ _ _ _ us hl => match us, hl with | [_, _], _ => rfl
  have M__law_told := PySem.W.mg_of X G a__law_told
  have F_law := fun_mk (st := s_law) l_law c_law k_law
  have B_law := F_law.binds (ps := ["script"]) fun _ _ _ _ _ _ us hl => match us, hl with | [_], _ => rfl
  have M_law := PySem.W.mg_of X G a_law
  have F_DataReader___init__ := fun_mk (st := s_DataReader___init__) l_DataReader___init__ c_DataReader___init__ k_DataReader___init__
  have B_DataReader___init__ := F_DataReader___init__.binds (ps := ["self"]) fun _ _ _ _ _ _ us hl => match us, hl with | [_], _ => rfl
  have F_DataReader_item := fun_mk (st := s_DataReader_item) l_DataReader_item c_DataReader_item k_DataReader_item
  have B_DataReader_item := F_DataReader_item.binds (ps := ["self", "value"]) fun _ _ _ _ _ _ us hl => match us, hl with | [_, _], _ => rfl
  have F_DataReader_open_one := fun_mk (st := s_DataReader_open_one) l_DataReader_open_one c_DataReader_open_one k_DataReader_open_one
  have B_DataReader_open_one := F_DataReader_open_one.binds (ps := ["self"]) fun _ _ _ _ _ _ us hl => match us, hl with | [_], _ => rfl
  have F_DataReader_close_one := fun_mk (st := s_DataReader_close_one) l_DataReader_close_one c_DataReader_close_one k_DataReader_close_one
  have B_DataReader_close_one := F_DataReader_close_one.binds (ps := ["self"]) fun _ _ _ _ _ _ us hl => match us, hl with | [_], _ => rfl
  have F_DataReader_comma := fun_mk (st := s_DataReader_comma) l_DataReader_comma c_DataReader_comma k_DataReader_comma
  have B_DataReader_comma := F_DataReader_comma.binds (ps := ["self"]) fun _ _ _ _ _ _ us hl => match us, hl with | [_], _ => rfl
  have F_DataReader_take := fun_mk (st := s_DataReader_take) l_DataReader_take c_DataReader_take k_DataReader_take
  have B_DataReader_take := F_DataReader_take.binds (ps := ["self", "piece"]) fun _ _ _ _ _ _ us hl => match us, hl with | [_, _], _ => rfl
  have b_isinstance := PySem.W.mg_none_of X G z_isinstance
  have b_str := PySem.W.mg_none_of X G z_str
  have b_int := PySem.W.mg_none_of X G z_int
  have b_bool := PySem.W.mg_none_of X G z_bool
  have b_tuple := PySem.W.mg_none_of X G z_tuple
  have b_len := PySem.W.mg_none_of X G z_len
  have b_all := PySem.W.mg_none_of X G z_all
  have b_any := PySem.W.mg_none_of X G z_any
  have b_abs := PySem.W.mg_none_of X G z_abs
  have b_range := PySem.W.mg_none_of X G z_range
  have b_repr := PySem.W.mg_none_of X G z_repr
  have b_enumerate := PySem.W.mg_none_of X G z_enumerate
  have g_MOST_WORD : GV mg "MOST_WORD" (.int 12) := ⟨_, PySem.W.mg_of X G y_MOST_WORD, ⟨_, rfl⟩⟩
  have g_MOST_DEPTH : GV mg "MOST_DEPTH" (.int 1000) := ⟨_, PySem.W.mg_of X G y_MOST_DEPTH, ⟨_, rfl⟩⟩
  have g_MOST_DIGITS : GV mg "MOST_DIGITS" (.int 4000) := ⟨_, PySem.W.mg_of X G y_MOST_DIGITS, ⟨_, rfl⟩⟩
  have g_LETTERS : GV mg "LETTERS" (.str "abcdefghijklmnopqrstuvwxyz") := ⟨_, PySem.W.mg_of X G y_LETTERS, ⟨_, rfl⟩⟩
  have g_DIGITS : GV mg "DIGITS" (.str "0123456789") := ⟨_, PySem.W.mg_of X G y_DIGITS, ⟨_, rfl⟩⟩
  have g_SIGNS : GV mg "SIGNS" (.ref v_SIGNS) := ⟨_, PySem.W.mg_of X G y_SIGNS, rfl⟩
  refine ⟨PySem.W.fnOf "law" "law" (defArgs s_law) (defBody s_law) (defScope s_law) .none kV_law dc_law pm_law an_law cd_law ct_law, fun s u => .of_eq rfl, fun base _ _ ndg => ?_⟩
  have S_d : Signs K w v_SIGNS := signs_mk S_l S_1 S_2 S_3 S_o
  have C_is_whole : Cl P w K mg base 1 "is_whole" (spWhole K) := ⟨_, _, _, ok_is_whole F_is_whole b_isinstance b_int b_bool, M_is_whole, k_is_whole, B_is_whole⟩
  have C_is_word : Cl P w K mg base 1 "is_word" (spWord K) := ⟨_, _, _, ok_is_word F_is_word b_isinstance b_str b_len b_all g_MOST_WORD g_LETTERS g_DIGITS, M_is_word, k_is_word, B_is_word⟩
  have C_is_short : Cl P w K mg base 2 "is_short" (spShort K) := ⟨_, _, _, ok_is_short F_is_short C_is_whole b_range g_MOST_DIGITS, M_is_short, k_is_short, B_is_short⟩
  have C_atom_text : ClX P w K mg base 3 "atom_text" (spAtom K CMalformed) := ⟨_, _, _, ok_atom_text F_atom_text C_is_word C_is_short T_Malformed ndg b_isinstance b_str b_bool, M_atom_text, k_atom_text, B_atom_text⟩
  have C_write : ClX P w K mg base 4 "write_data" (spWrite K CMalformed) := ⟨_, _, _, ok_write_data F_write_data C_atom_text b_isinstance b_tuple b_len b_range g_MOST_DEPTH, M_write_data, k_write_data, B_write_data⟩
  have C_read_whole : ClX P w K mg base 1 "read_whole" (spRWhole CMalformed) := ⟨_, _, _, ok_read_whole F_read_whole T_Malformed ndg b_int b_len b_all g_MOST_DIGITS g_DIGITS, M_read_whole, k_read_whole, B_read_whole⟩
  have C_read_atom : ClX P w K mg base 2 "read_atom" (spRAtom K CMalformed) := ⟨_, _, _, ok_read_atom F_read_atom C_read_whole C_is_word S_d g_SIGNS, M_read_atom, k_read_atom, B_read_atom⟩
  have C_pieces : Cl P w K mg base 1 "pieces_of" spPieces := ⟨_, _, _, ok_pieces_of F_pieces_of b_enumerate b_len, M_pieces_of, k_pieces_of, B_pieces_of⟩
  have m_item : MtX P w K mg base 1 CDataReader "item" (spItem K CDataReader CMalformed) := ⟨_, _, _, hC_DataReader, ⟨a_DataReader_item, i_DataReader_item, k_DataReader_item⟩, ok_item F_DataReader_item hC_DataReader n_tuples n_ready n_told T_Malformed b_len, B_DataReader_item⟩
  have m_open : MtX P w K mg base 1 CDataReader "open_one" (spRd K CDataReader CMalformed fun s => stepM s [91]) := ⟨_, _, _, hC_DataReader, ⟨a_DataReader_open_one, i_DataReader_open_one, k_DataReader_open_one⟩, ok_open_one F_DataReader_open_one hC_DataReader n_tuples n_ready T_Malformed b_len g_MOST_DEPTH, B_DataReader_open_one⟩
  have m_close : MtX P w K mg base 2 CDataReader "close_one" (spRd K CDataReader CMalformed fun s => stepM s [93]) := ⟨_, _, _, hC_DataReader, ⟨a_DataReader_close_one, i_DataReader_close_one, k_DataReader_close_one⟩, ok_close_one F_DataReader_close_one hC_DataReader n_tuples n_ready T_Malformed b_len b_tuple m_item, B_DataReader_close_one⟩
  have m_comma : MtX P w K mg base 1 CDataReader "comma" (spRd K CDataReader CMalformed fun s => stepM s [44]) := ⟨_, _, _, hC_DataReader, ⟨a_DataReader_comma, i_DataReader_comma, k_DataReader_comma⟩, ok_comma F_DataReader_comma hC_DataReader n_tuples n_ready T_Malformed b_len, B_DataReader_comma⟩
  have m_take : MtX P w K mg base 3 CDataReader "take" (spTakeP K CDataReader CMalformed) := ⟨_, _, _, hC_DataReader, ⟨a_DataReader_take, i_DataReader_take, k_DataReader_take⟩, ok_take F_DataReader_take m_item m_open m_close m_comma C_read_atom, B_DataReader_take⟩
  have C_read : ClX P w K mg base 4 "read_data" (spRead K CMalformed) := ⟨_, _, _, ok_read_data F_read_data hC_DataReader n_tuples n_told T_Malformed ⟨mkDataReader, a_DataReader___init__, i_DataReader___init__, kcDataReader⟩ (ok_init F_DataReader___init__ hC_DataReader n_tuples n_ready n_told) (PySem.W.mg_of X G aCDataReader) B_DataReader___init__ m_take C_pieces b_isinstance b_str b_len, M_read_data, k_read_data, B_read_data⟩
  have C_draw : Cl P w K mg base 1 "_law_draw" (spDraw K) := ⟨_, _, _, ok__law_draw F__law_draw b_int b_abs, M__law_draw, k__law_draw, B__law_draw⟩
  have C_take : Cl P w K mg base 1 "_law_take" spTake := ⟨_, _, _, ok__law_take F__law_take b_int b_len, M__law_take, k__law_take, B__law_take⟩
  have C_data : Cl P w K mg base 7 "_law_data" (spData K 6) := ⟨_, _, _, ok__law_data F__law_data C_take M__law_data B__law_data b_tuple b_range 6, M__law_data, k__law_data, B__law_data⟩
  have C_lword : Cl P w K mg base 1 "_law_word" (spWord K) := ⟨_, _, _, ok__law_word F__law_word b_isinstance b_str b_len b_all, M__law_word, k__law_word, B__law_word⟩
  have C_written := ok__law_written F__law_written M__law_written k__law_written B__law_written C_lword ndg b_tuple b_isinstance b_bool b_str b_int (P := P) (w := w) 20
  have C_number : Cl P w K mg base 1 "_law_number" spNumber := ⟨_, _, _, ok_law_number F__law_number ndg b_int b_any, M__law_number, k__law_number, B__law_number⟩
  have C_lread : Cl P w K mg base 2 "_law_read" (spLRead K) := ⟨_, _, _, ok__law_read F__law_read C_lword C_number b_tuple, M__law_read, k__law_read, B__law_read⟩
  have C_told : Cl P w K mg base 5 "_law_told" (spTold K) := ⟨_, _, _, ok__law_told F__law_told T_Malformed C_write C_read, M__law_told, k__law_told, B__law_told⟩
  exact ok_law F_law ndg C_draw C_take C_data C_written C_lread C_told b_range b_repr b_len b_int

end Z

open PySem PySem.W PyProof.Rows
set_option maxRecDepth 100000 in
set_option maxHeartbeats 0 in
theorem PySem.Challenge.cw_forksalike_k53_whole_plain_data_holds : PySem.Challenge.rw_forksalike_k53_whole_plain_data.Holds := by
  w_on; o_law; k_head; (case hw => w_witness2)
  k_fill
  refine Z.walkG rfl rfl (fun w h Y => PySem.W.kIn_of Y) ?F
  case F =>
    intro w mg fa h KX G hmg
    refine' Z.all_mk (w := w) KX G hmg ?aXMalformed ?xXMalformed ?kXMalformed ?bXMalformed ?tXMalformed ?iXMalformed ?sXMalformed ?aCDataReader ?pgDataReader ?hdDataReader ?poDataReader ?saDataReader ?mkDataReader ?kcDataReader ?nDataReader_tuples ?nDataReader_ready ?nDataReader_told ?a_is_whole ?l_is_whole ?c_is_whole ?k_is_whole ?a_is_word ?l_is_word ?c_is_word ?k_is_word ?a_is_short ?l_is_short ?c_is_short ?k_is_short ?a_atom_text ?l_atom_text ?c_atom_text ?k_atom_text ?a_write_data ?l_write_data ?c_write_data ?k_write_data ?a_read_whole ?l_read_whole ?c_read_whole ?k_read_whole ?a_read_atom ?l_read_atom ?c_read_atom ?k_read_atom ?a_pieces_of ?l_pieces_of ?c_pieces_of ?k_pieces_of ?a_read_data ?l_read_data ?c_read_data ?k_read_data ?a__law_draw ?l__law_draw ?c__law_draw ?k__law_draw ?a__law_take ?l__law_take ?c__law_take ?k__law_take ?a__law_data ?l__law_data ?c__law_data ?k__law_data ?a__law_word ?l__law_word ?c__law_word ?k__law_word ?a__law_written ?l__law_written ?c__law_written ?k__law_written ?a__law_number ?l__law_number ?c__law_number ?k__law_number ?a__law_read ?l__law_read ?c__law_read ?k__law_read ?a__law_told ?l__law_told ?c__law_told ?k__law_told ?a_law ?l_law ?c_law ?k_law ?a_DataReader___init__ ?i_DataReader___init__ ?l_DataReader___init__ ?c_DataReader___init__ ?k_DataReader___init__ ?a_DataReader_item ?i_DataReader_item ?l_DataReader_item ?c_DataReader_item ?k_DataReader_item ?a_DataReader_open_one ?i_DataReader_open_one ?l_DataReader_open_one ?c_DataReader_open_one ?k_DataReader_open_one ?a_DataReader_close_one ?i_DataReader_close_one ?l_DataReader_close_one ?c_DataReader_close_one ?k_DataReader_close_one ?a_DataReader_comma ?i_DataReader_comma ?l_DataReader_comma ?c_DataReader_comma ?k_DataReader_comma ?a_DataReader_take ?i_DataReader_take ?l_DataReader_take ?c_DataReader_take ?k_DataReader_take ?z_isinstance ?z_str ?z_int ?z_bool ?z_tuple ?z_len ?z_all ?z_any ?z_abs ?z_range ?z_repr ?z_enumerate ?y_MOST_WORD ?y_MOST_DEPTH ?y_MOST_DIGITS ?y_LETTERS ?y_DIGITS ?y_SIGNS ?S_l ?S_1 ?S_2 ?S_3 ?S_o
    (case aXMalformed => k_is)
    (case xXMalformed => k_exc)
    (case kXMalformed => k_is)
    (case bXMalformed => k_is)
    (case tXMalformed => k_is)
    (case iXMalformed => k_is)
    (case sXMalformed => first | rfl | k_is)
    (case aCDataReader => k_is)
    (case pgDataReader => k_is)
    (case hdDataReader => k_is)
    (case poDataReader => k_is)
    (case saDataReader => k_is)
    (case mkDataReader => k_is)
    (case kcDataReader => k_is)
    (case nDataReader_tuples => k_is)
    (case nDataReader_ready => k_is)
    (case nDataReader_told => k_is)
    (case a_is_whole => k_is)
    (case l_is_whole => k_is)
    (case c_is_whole => k_is)
    (case k_is_whole => k_is)
    (case a_is_word => k_is)
    (case l_is_word => k_is)
    (case c_is_word => k_is)
    (case k_is_word => k_is)
    (case a_is_short => k_is)
    (case l_is_short => k_is)
    (case c_is_short => k_is)
    (case k_is_short => k_is)
    (case a_atom_text => k_is)
    (case l_atom_text => k_is)
    (case c_atom_text => k_is)
    (case k_atom_text => k_is)
    (case a_write_data => k_is)
    (case l_write_data => k_is)
    (case c_write_data => k_is)
    (case k_write_data => k_is)
    (case a_read_whole => k_is)
    (case l_read_whole => k_is)
    (case c_read_whole => k_is)
    (case k_read_whole => k_is)
    (case a_read_atom => k_is)
    (case l_read_atom => k_is)
    (case c_read_atom => k_is)
    (case k_read_atom => k_is)
    (case a_pieces_of => k_is)
    (case l_pieces_of => k_is)
    (case c_pieces_of => k_is)
    (case k_pieces_of => k_is)
    (case a_read_data => k_is)
    (case l_read_data => k_is)
    (case c_read_data => k_is)
    (case k_read_data => k_is)
    (case a__law_draw => k_is)
    (case l__law_draw => k_is)
    (case c__law_draw => k_is)
    (case k__law_draw => k_is)
    (case a__law_take => k_is)
    (case l__law_take => k_is)
    (case c__law_take => k_is)
    (case k__law_take => k_is)
    (case a__law_data => k_is)
    (case l__law_data => k_is)
    (case c__law_data => k_is)
    (case k__law_data => k_is)
    (case a__law_word => k_is)
    (case l__law_word => k_is)
    (case c__law_word => k_is)
    (case k__law_word => k_is)
    (case a__law_written => k_is)
    (case l__law_written => k_is)
    (case c__law_written => k_is)
    (case k__law_written => k_is)
    (case a__law_number => k_is)
    (case l__law_number => k_is)
    (case c__law_number => k_is)
    (case k__law_number => k_is)
    (case a__law_read => k_is)
    (case l__law_read => k_is)
    (case c__law_read => k_is)
    (case k__law_read => k_is)
    (case a__law_told => k_is)
    (case l__law_told => k_is)
    (case c__law_told => k_is)
    (case k__law_told => k_is)
    (case a_law => k_is)
    (case l_law => k_is)
    (case c_law => k_is)
    (case k_law => k_is)
    (case a_DataReader___init__ => k_is)
    (case i_DataReader___init__ => k_is)
    (case l_DataReader___init__ => k_is)
    (case c_DataReader___init__ => k_is)
    (case k_DataReader___init__ => k_is)
    (case a_DataReader_item => k_is)
    (case i_DataReader_item => k_is)
    (case l_DataReader_item => k_is)
    (case c_DataReader_item => k_is)
    (case k_DataReader_item => k_is)
    (case a_DataReader_open_one => k_is)
    (case i_DataReader_open_one => k_is)
    (case l_DataReader_open_one => k_is)
    (case c_DataReader_open_one => k_is)
    (case k_DataReader_open_one => k_is)
    (case a_DataReader_close_one => k_is)
    (case i_DataReader_close_one => k_is)
    (case l_DataReader_close_one => k_is)
    (case c_DataReader_close_one => k_is)
    (case k_DataReader_close_one => k_is)
    (case a_DataReader_comma => k_is)
    (case i_DataReader_comma => k_is)
    (case l_DataReader_comma => k_is)
    (case c_DataReader_comma => k_is)
    (case k_DataReader_comma => k_is)
    (case a_DataReader_take => k_is)
    (case i_DataReader_take => k_is)
    (case l_DataReader_take => k_is)
    (case c_DataReader_take => k_is)
    (case k_DataReader_take => k_is)
    (case z_isinstance => k_is)
    (case z_str => k_is)
    (case z_int => k_is)
    (case z_bool => k_is)
    (case z_tuple => k_is)
    (case z_len => k_is)
    (case z_all => k_is)
    (case z_any => k_is)
    (case z_abs => k_is)
    (case z_range => k_is)
    (case z_repr => k_is)
    (case z_enumerate => k_is)
    (case y_MOST_WORD => k_is)
    (case y_MOST_DEPTH => k_is)
    (case y_MOST_DIGITS => k_is)
    (case y_LETTERS => k_is)
    (case y_DIGITS => k_is)
    (case y_SIGNS => k_is)
    (case S_l => k_is)
    (case S_1 => first | rfl | trace_state)
    (case S_2 => rfl)
    (case S_3 => rfl)
    (case S_o => decide)
