import PyProof.Rows.All
import Wide.All
import OpenK.AllK
import Wide.FinOn
import HandS.ForMost
import HandS.Exc
import HandS.TryOnly
import HandS.ExcOwn
import HandS.WordsExc
import HandS.IsInst
import HandS.Flow
import HandS.Style
import HandS.Conv
import HandS.Codes
import HandS.Walk
import PySem.Challenge.RW_forksalike_k31_whole_covers_and_levels
import KE.SortKeyHeap
import HandS.SortKw
import HandS.More
import HandS.Wide
import HandS.DictComp
import HandS.TupAny
import HandS.Zip
import HandS.SetKeys
import HandS.Strs
import HandS.SetFor
import KE.KItemsList
import HandS.TupSets
import HandS.SortInts
import HandS.Deep
import HandS.TupMul
import HandS.WideBits
import KE.BitLaws
set_option Elab.async false
set_option linter.all false
set_option maxRecDepth 100000
set_option maxHeartbeats 4000000
namespace Z
open PySem PySem.Spec PyProof.Rows L2
/-! ### the text by places -/
def top (i : Nat) : Stmt := PySem.Challenge.pw_forksalike_k31_whole_covers_and_levels.main.body.getD i (.Pass ⟨0, 0, 0, 0⟩)
abbrev s_is_whole : Stmt := top 11
abbrev s_is_name : Stmt := top 12
abbrev s_has_shape : Stmt := top 13
abbrev s_key_of : Stmt := top 14
abbrev s_count_of : Stmt := top 15
abbrev s_fits_party : Stmt := top 16
abbrev s_is_party : Stmt := top 17
abbrev s_check_party : Stmt := top 18
abbrev s_names_in : Stmt := top 19
abbrev s_deeds_of : Stmt := top 20
abbrev s_places_told : Stmt := top 22
abbrev s_placed : Stmt := top 24
abbrev s_bare : Stmt := top 25
abbrev s_chains_of : Stmt := top 27
abbrev s_widest_of : Stmt := top 28
abbrev s_width : Stmt := top 29
abbrev s_cover : Stmt := top 30
abbrev s_are_places : Stmt := top 31
abbrev s_ahead_of : Stmt := top 32
abbrev s_is_chain : Stmt := top 33
abbrev s_is_loose : Stmt := top 34
abbrev s_takes_cover : Stmt := top 35
abbrev s_height : Stmt := top 36
abbrev s_levels : Stmt := top 37
abbrev s_takes_levels : Stmt := top 38
abbrev s_time_in : Stmt := top 39
abbrev s_starts_in : Stmt := top 40
abbrev s_longest_in : Stmt := top 41
abbrev s__law_draw : Stmt := top 43
abbrev s__law_take : Stmt := top 44
abbrev s__law_says : Stmt := top 45
abbrev s__law_whole : Stmt := top 46
abbrev s__law_key : Stmt := top 47
abbrev s__law_join : Stmt := top 48
abbrev s__law_names : Stmt := top 49
abbrev s__law_grow : Stmt := top 50
abbrev s__law_party : Stmt := top 51
abbrev s__law_pairs : Stmt := top 52
abbrev s__law_crossed : Stmt := top 53
abbrev s__law_bent : Stmt := top 54
abbrev s__law_odd_party : Stmt := top 55
abbrev s__law_told : Stmt := top 56
abbrev s__law_loose : Stmt := top 57
abbrev s__law_chain : Stmt := top 58
abbrev s__law_are_places : Stmt := top 59
abbrev s__law_right : Stmt := top 60
abbrev s__law_tries : Stmt := top 61
abbrev s_law : Stmt := top 62

/-! ### calls of defs in short -/
section
variable (P : Program) (w : World) (K : PySem.W.Frag) (mg : Str → Option Value) (base : Heap)
/-- a def that may be called by its name and lets nothing out -/
structure Cl (k : Nat) (x : Str) (sp : Sp) : Prop where
  ex : ∃ (f : Addr) (fd : FuncData) (ps : List Str), FnOk P w K mg base CX0 k f fd ps sp ∧ mg x = some (.ref f) ∧ PySem.W.keepIn K (.ref f) = true ∧ Binds K fd ps []
/-- one that may raise -/
structure ClX (k : Nat) (x : Str) (sp : Sp) : Prop where
  ex : ∃ (f : Addr) (fd : FuncData) (ps : List Str), FnOk P w K mg base (L2.CX P w) k f fd ps sp ∧ mg x = some (.ref f) ∧ PySem.W.keepIn K (.ref f) = true ∧ Binds K fd ps []
end
section
variable {X : Cx} {k j : Nat} {x : Str} {sp : Sp} {p pos : Pos} {e : Expr} {es : List Expr} {t : TA}
theorem pcl (c : Cl X.prog X.w X.K X.mg X.base k x sp) (hr : Room j X.A) (hk : k ≤ j) (ha : PA X (e :: es) t) (hg : Gl X x := by rfl)
    (hdb : (x == ("__debug__" : Str)) = false := by decide) (he : starEach (e :: es) X.env = (false, eval e X.env) :: starEach es X.env := by rfl) (hpl : (backTo pos (starEach es X.env)).any (·.1) = false := by rfl) :
    PE X (.Call (.Name x p) (e :: es) [] pos) (tCall sp [] E0 t) := by
  obtain ⟨f, fd, ps, F, hm, kp, b⟩ := c.ex
  exact pe_call F (hr.mono hk) hg hm kp b .nil pass0 ha hdb he hpl
end
section
variable {X : Cx} {k j : Nat} {C : Addr} {x m : Str} {sp : Sp} {E : XK} {p pos apos : Pos} {e o : Expr} {es : List Expr} {ta : TE} {t : TA}
theorem pclX (c : ClX X.prog X.w X.K X.mg X.base k x sp) (hr : Room j X.A) (hk : k ≤ j) (hx : Passes (L2.CX X.prog X.w) X E) (ha : PA X (e :: es) t) (hg : Gl X x := by rfl)
    (hdb : (x == ("__debug__" : Str)) = false := by decide) (he : starEach (e :: es) X.env = (false, eval e X.env) :: starEach es X.env := by rfl) (hpl : (backTo pos (starEach es X.env)).any (·.1) = false := by rfl) :
    PE X (.Call (.Name x p) (e :: es) [] pos) (tCall sp [] E t) := by
  obtain ⟨f, fd, ps, F, hm, kp, b⟩ := c.ex
  exact pe_call F (hr.mono hk) hg hm kp b .nil hx ha hdb he hpl
theorem pclS {E : L2.St → XK} (c : ClX X.prog X.w X.K X.mg X.base k x sp) (hr : Room j X.A) (hk : k ≤ j) (hx : ∀ σ, PassesAt (L2.CX X.prog X.w) X σ (E σ)) (ha : PA X (e :: es) t) (hg : Gl X x := by rfl)
    (hdb : (x == ("__debug__" : Str)) = false := by decide) (he : starEach (e :: es) X.env = (false, eval e X.env) :: starEach es X.env := by rfl) (hpl : (backTo pos (starEach es X.env)).any (·.1) = false := by rfl) :
    PE X (.Call (.Name x p) (e :: es) [] pos) (tCallS sp E t) := by
  obtain ⟨f, fd, ps, F, hm, kp, b⟩ := c.ex
  exact pe_callS F (hr.mono hk) hg hm kp b hx ha hdb he hpl
end
section
variable (P : Program) (w : World) (K : PySem.W.Frag) (mg : Str → Option Value) (base : Heap)
/-- a method that may raise -/
structure MtX (k : Nat) (C : Addr) (m : Str) (sp : Sp) : Prop where
  ex : ∃ (f : Addr) (fd : FuncData) (ps : List Str), Cls K C ∧ Meth K C m f ∧ FnOk P w K mg base (L2.CX P w) k f fd ps sp ∧ Binds K fd ps []
end
section
variable {X : Cx} {k j : Nat} {C : Addr} {x m : Str} {sp : Sp} {E : XK} {p pos apos : Pos} {e o : Expr} {es : List Expr} {ta : TE} {t : TA}
theorem pmtX {pl : Sem Bool} (c : MtX X.prog X.w X.K X.mg X.base k C m sp) (hr : Room j X.A) (hk : k ≤ j) (hx : Passes (L2.CX X.prog X.w) X E) (he : PE X o ta) (ha : PA X (e :: es) t)
    (hst : starEach (e :: es) X.env = (false, eval e X.env) :: starEach es X.env := by rfl) (hpl : (backTo pos (starEach es X.env)).any (·.1) = false := by rfl)
    (ht : eval (.Call (.Attribute o m apos) (e :: es) [] pos) X.env = (do
      let ov ← eval o X.env
      standAt apos.atName
      let (f, first) ← holding [ov] (getMethod ov m pl)
      callWith pos f first (backTo pos (starEach (e :: es) X.env)) (backToKw pos (keywordEach [] X.env))) := by rfl) : PE X (.Call (.Attribute o m apos) (e :: es) [] pos) (tMeth C m sp [] E ta t) := by
  obtain ⟨f, fd, ps, hc, hm, F, b⟩ := c.ex
  exact pe_meth (pl := pl) he hc hm F (hr.mono hk) b .nil hx ha hst hpl ht
theorem pmtX0 {pl : Sem Bool} (c : MtX X.prog X.w X.K X.mg X.base k C m sp) (hr : Room j X.A) (hk : k ≤ j) (hx : Passes (L2.CX X.prog X.w) X E) (he : PE X o ta)
    (ht : eval (.Call (.Attribute o m apos) [] [] pos) X.env = (do
      let ov ← eval o X.env
      standAt apos.atName
      let (f, first) ← holding [ov] (getMethod ov m pl)
      callWith pos f first (backTo pos (starEach [] X.env)) (backToKw pos (keywordEach [] X.env))) := by rfl) : PE X (.Call (.Attribute o m apos) [] [] pos) (tMeth C m sp [] E ta tNil) := by
  obtain ⟨f, fd, ps, hc, hm, F, b⟩ := c.ex
  exact pe_meth0 (pl := pl) he hc hm F (hr.mono hk) b .nil hx ht
end
/-- an own class of errors over ValueError -/
structure XC (K : PySem.W.Frag) (mg : Str → Option Value) (x : Str) (C : Addr) : Prop where
  q : PySem.W.excIn K C [.type "ValueError", .type "Exception", .type "BaseException", .type "object"] "ValueError.__new__" = true
  g : mg x = some (.ref C)
  k : PySem.W.keepIn K (.ref C) = true
  b : PySem.W.subIn K (.ref C) (.type "BaseException") = some true
  t : PySem.W.typeIn K (.ref C) = some (.type "type")
  e : PySem.W.exmOne K (.ref C) (.ref C) = some true
theorem ps_rz {X : Cx} {W : WX} {x m : Str} {C : Addr} {j : Nat} {p p2 pos pos2 : Pos} (T : XC X.K X.mg x C) (hc : X.calm = true) (tk : Takes X W) (hg : Gl X x := by rfl) (hdb : (x == ("__debug__" : Str)) = false := by decide) :
    PS X (.Raise (some (.Call (.Name x p) [.Constant (.str m) j p2] [] pos)) none pos2) (fun _ σ H => W (.ref C) none σ H) :=
  ps_raise hc tk (pmk_own PySem.F.excBase_ValueError T.q T.g T.k (raises_own T.b T.t) hg hdb)
/-- a constant of the module -/
def GV (mg : Str → Option Value) (x : Str) (v : V) : Prop := ∃ u, mg x = some u ∧ RelV v u
theorem pe_gv {X : Cx} {x : Str} {v : V} {pos : Pos} (g : GV X.mg x v) (hg : Gl X x := by rfl) (hd : (x == ("__debug__" : Str)) = false := by decide) : PE X (.Name x pos) (tC v) := by
  obtain ⟨u, hm, r⟩ := g
  exact pe_glob hg hm r hd
/-! ### heaps -/
theorem same_upd {H : Hp} {p : Addr} {o : HO} (h : H p = none) : Same H (upd H p o) := fun b x e => by
  rw [upd_ne (ne_of_none e h)]
  exact e
/-- all that was tracked but what stands at a is as it was -/
def But (a : Addr) (H H' : Hp) : Prop := ∀ b o, H b = some o → b ≠ a → H' b = some o
theorem But.refl (a : Addr) (H : Hp) : But a H H := fun _ _ h _ => h
theorem But.trans {a : Addr} {H H1 H2 : Hp} (f : But a H H1) (g : But a H1 H2) : But a H H2 := fun b o e n => g b o (f b o e n) n
theorem But.of {a : Addr} {H H1 : Hp} (s : Same H H1) : But a H H1 := fun b o e _ => s b o e
theorem But.upd {a : Addr} {H H1 : Hp} {o : HO} (f : But a H H1) : But a H (upd H1 a o) := fun b u e n => by
  rw [upd_ne n]
  exact f b u e n
theorem But.new {a : Addr} {H H1 : Hp} {p : Addr} {o : HO} (f : But a H H1) (h : H1 p = none) : But a H (L2.upd H1 p o) := fun b u e n => by
  have q := f b u e n
  rw [upd_ne (ne_of_none q h)]
  exact q

section
variable {CX : CXT} {P : Program} {w : World} {K : PySem.W.Frag} {mg : Str → Option Value} {base : Heap} {N : List Str} {qual : Str} {scope : Scope} {f : Addr} {cd : Value} {A : Around} {outer : List Env} {s : Shared} {H : Hp} {E : XK}
theorem cxOf_K : (cxOf CX P w K mg base N qual scope f cd A outer s H E).K = K := rfl
theorem cxOf_Kn : (cxOf CX P w K mg base N qual scope f cd A outer s H E).nox.K = K := rfl
end
theorem cut_to (xs : List V) (k : Nat) : cutV xs none (some (k : Int)) = xs.take k := by
  unfold cutV
  rw [HT.sIx_none, HT.sIx_nat, List.drop_zero, Nat.sub_zero]
  by_cases h : k ≤ xs.length
  · rw [Nat.min_eq_left h]
  · rw [Nat.min_eq_right (by omega), List.take_of_length_le (Nat.le_refl _), List.take_of_length_le (by omega)]
theorem cut63 {ns : List Int} (h : ns.length ≤ 63) : cutV (ns.map V.int) none (some 63) = ns.map V.int := by
  have e := cut_to (ns.map V.int) 63
  rw [List.take_of_length_le (by rw [List.length_map]; exact h)] at e
  exact e
theorem int_at {ns : List Int} {i : Nat} {x : V} (h : (ns.map V.int)[i]? = some x) : ∃ z, ns[i]? = some z ∧ x = .int z := by
  rw [List.getElem?_map] at h
  cases e : ns[i]? with
  | none =>
    rw [e] at h
    cases h
  | some z =>
    rw [e] at h
    exact ⟨z, rfl, (Option.some.inj h).symm⟩
/-! ### readings in short -/
theorem sc_ii (i j : Int) : scal (.int i) (.int j) = true := rfl
theorem sc_ss (i j : Str) : scal (.str i) (.str j) = true := rfl
theorem sc_bb (i j : Bool) : scal (.bl i) (.bl j) = true := rfl
theorem sc_is (i : Int) (j : Str) : scal (.int i) (.str j) = true := rfl
theorem sc_si (i : Str) (j : Int) : scal (.str i) (.int j) = true := rfl
theorem sc_bs (i : Bool) (j : Str) : scal (.bl i) (.str j) = true := rfl
theorem sc_sb (i : Str) (j : Bool) : scal (.str i) (.bl j) = true := rfl
section
variable {K : PySem.W.Frag} {H : Hp} {a p : Addr} {xs : List V} {i : Int} {v y : V} {Q : VK} {n : Nat}
theorem ixl (h : H a = some (.lst xs)) (hi : atI xs i = some v) (q : Q v H) : rIxL K (.ref a) (.int i) H Q := ⟨a, xs, i, v, rfl, rfl, SqL.of h, hi, q⟩
theorem tyl (h : H a = some (.lst xs)) : tyV K "list" (.ref a) H := .inl ⟨rfl, _, SqL.of h⟩
theorem len_l (h : H a = some (.lst xs)) (e : n = xs.length) : LenV K (.ref a) H n := .inl ⟨xs, SqL.of h, e⟩
theorem len_t (h : SqT K H a xs) (e : n = xs.length) : LenV K (.ref a) H n := .inr ⟨xs, h, e⟩
end
theorem ref_int_ne {H : Hp} {a c e : Addr} {r : List V} {xs : List Int} (ha : H a = some (.lst (.ref e :: r))) (hc : H c = some (.lst (xs.map V.int))) : c ≠ a := by
  rintro rfl
  rw [ha] at hc
  have h := HO.lst.inj (Option.some.inj hc)
  cases xs with
  | nil => cases h
  | cons x xs => cases (List.cons.inj h).1
/-! ### draws -/
structure DrawAt (H : Hp) (a c : Addr) (n : Nat) : Prop where
  ex : ∃ (xs : List Int) (d1 d2 d3 d4 d5 : Int), H a = some (.lst [.ref c, .int d1, .int d2, .int d3, .int d4, .int d5]) ∧ H c = some (.lst (xs.map V.int)) ∧ xs.length ≤ 63 ∧ (∀ x ∈ xs, 0 ≤ x) ∧
    0 ≤ d1 ∧ 0 ≤ d4 ∧ d4 ≤ 2147483647 ∧ 0 ≤ d5 ∧ d5 ≤ (n : Int)
def spDraw (K : PySem.W.Frag) : Sp := fun vs H Q _ => ∃ (a : Addr) (ns : List Int), vs = [.ref a] ∧ SqL K H a (ns.map V.int) ∧ ns.length ≤ 63 ∧ ∀ (p c : Addr) (H' : Hp), H p = none → H c = none → Same H H' → DrawAt H' p c 0 → Q (.ref p) H'
def spTake : Sp := fun vs H Q _ => ∃ (a c : Addr) (m : Int) (n : Nat), vs = [.ref a, .int m] ∧ DrawAt H a c n ∧ 0 < m ∧ m < 1073741824 ∧ n ≤ 1000000000 ∧
  ∀ (r : Int) (H' : Hp), 0 ≤ r → r < m → DrawAt H' a c (n + 1) → But a H H' → Q (.int r) H'

/-! ### tuples stay -/
/-- tuples (and locked things) are as they were -/
structure Tp (H H' : Hp) : Prop where
  tup : ∀ b xs, H b = some (.tup xs) → H' b = some (.tup xs)
  frz : ∀ b o u, H b = some (.frz o u) → H' b = some (.frz o u)
theorem Tp.refl (H : Hp) : Tp H H := ⟨fun _ _ h => h, fun _ _ _ h => h⟩
theorem Tp.trans {H H1 H2 : Hp} (f : Tp H H1) (g : Tp H1 H2) : Tp H H2 := ⟨fun b xs e => g.tup b xs (f.tup b xs e), fun b o u e => g.frz b o u (f.frz b o u e)⟩
theorem Tp.of {H H1 : Hp} (s : Same H H1) : Tp H H1 := ⟨fun b _ e => s b _ e, fun b _ _ e => s b _ e⟩
theorem Tp.but {a : Addr} {H H1 : Hp} {xs : List V} (f : But a H H1) (h : H a = some (.lst xs)) : Tp H H1 :=
  ⟨fun b ys e => f b _ e (ne_of e h (fun z => by cases z)), fun b o u e => f b _ e (ne_of e h (fun z => by cases z))⟩
theorem Tp.upd {a : Addr} {H H1 : Hp} {xs : List V} {o : HO} (f : Tp H H1) (h : H1 a = some (.lst xs)) : Tp H (L2.upd H1 a o) :=
  ⟨fun b ys e => by
    have q := f.tup b ys e
    rw [upd_ne (ne_of q h (fun z => by cases z))]
    exact q, fun b u y e => by
    have q := f.frz b u y e
    rw [upd_ne (ne_of q h (fun z => by cases z))]
    exact q⟩
theorem Tp.new {p : Addr} {H H1 : Hp} {o : HO} (f : Tp H H1) (h : H1 p = none) : Tp H (L2.upd H1 p o) := f.trans (.of (same_upd h))
theorem Tp.sqt {K : PySem.W.Frag} {H H' : Hp} {a : Addr} {xs : List V} (f : Tp H H') (h : SqT K H a xs) : SqT K H' a xs := by
  rcases h with (h | ⟨o, h⟩) | h
  · exact .inl (.inl (f.tup _ _ h))
  · exact .inl (.inr ⟨o, f.frz _ _ _ h⟩)
  · exact .inr h
mutual
theorem _root_.L2.Dp.same {K : PySem.W.Frag} {H H' : Hp} (f : Same H H') : ∀ {d : PyData} {v : V}, Dp K H v d → Dp K H' v d
  | _, _, .non => .non
  | _, _, .bl b => .bl b
  | _, _, .int i => .int i
  | _, _, .str x => .str x
  | _, _, .lst hs ha => .lst (f.seq hs) (L2.DpAll.same f ha)
  | _, _, .tup hs ha => .tup ((Tp.of f).sqt hs) (L2.DpAll.same f ha)
theorem _root_.L2.DpAll.same {K : PySem.W.Frag} {H H' : Hp} (f : Same H H') : ∀ {ds : List PyData} {vs : List V}, DpAll K H vs ds → DpAll K H' vs ds
  | _, _, .nil => .nil
  | _, _, .cons h t => .cons (L2.Dp.same f h) (L2.DpAll.same f t)
end
/-- data without lists -/
inductive To : PyData → Prop where
  | non : To .none
  | bl (b : Bool) : To (.bool b)
  | int (i : Int) : To (.int i)
  | str (x : Str) : To (.str x)
  | tup (ds : List PyData) (h : ∀ d ∈ ds, To d) : To (.tuple ds)
theorem DpAll.map {K : PySem.W.Frag} {H H' : Hp} : ∀ {vs : List V} {ds : List PyData}, DpAll K H vs ds → (∀ d ∈ ds, ∀ v, Dp K H v d → Dp K H' v d) → DpAll K H' vs ds
  | _, _, .nil, _ => .nil
  | _, _, .cons h t, f => .cons (f _ (List.mem_cons_self ..) _ h) (DpAll.map t fun d hd v hv => f d (List.mem_cons_of_mem _ hd) v hv)
theorem To.mono {K : PySem.W.Frag} {H H' : Hp} (f : Tp H H') {d : PyData} (t : To d) : ∀ v, Dp K H v d → Dp K H' v d := by
  induction t with
  | non => intro v h; cases h; exact .non
  | bl b => intro v h; cases h; exact .bl _
  | int i => intro v h; cases h; exact .int _
  | str x => intro v h; cases h; exact .str _
  | tup ds h ih =>
    intro v hv
    cases hv with
    | tup hs ha => exact .tup (f.sqt hs) (DpAll.map ha fun d hd v hv => ih d hd v hv)
theorem To.monoAll {K : PySem.W.Frag} {H H' : Hp} (f : Tp H H') {ds : List PyData} (t : ∀ d ∈ ds, To d) {vs : List V} (h : DpAll K H vs ds) : DpAll K H' vs ds := DpAll.map h fun d hd v hv => (t d hd).mono f v hv
theorem DpAll.append {K : PySem.W.Frag} {H : Hp} : ∀ {vs us : List V} {ds es : List PyData}, DpAll K H vs ds → DpAll K H us es → DpAll K H (vs ++ us) (ds ++ es)
  | _, _, _, _, .nil, h => h
  | _, _, _, _, .cons h t, r => .cons h (DpAll.append t r)
theorem DpAll.length {K : PySem.W.Frag} {H : Hp} : ∀ {vs : List V} {ds : List PyData}, DpAll K H vs ds → vs.length = ds.length
  | _, _, .nil => rfl
  | _, _, .cons _ t => congrArg (· + 1) (DpAll.length t)
theorem DpAll.at {K : PySem.W.Frag} {H : Hp} : ∀ {vs : List V} {ds : List PyData} {i : Nat} {v : V}, DpAll K H vs ds → vs[i]? = some v → ∃ d, ds[i]? = some d ∧ Dp K H v d
  | _, _, _, _, .nil, e => by simp at e
  | _, _, 0, _, .cons h _, e => by
    simp only [List.getElem?_cons_zero, Option.some.injEq] at e
    subst e
    exact ⟨_, rfl, h⟩
  | _, _, i + 1, _, .cons _ t, e => by
    simp only [List.getElem?_cons_succ] at e
    obtain ⟨d, h1, h2⟩ := DpAll.at t e
    exact ⟨d, by simpa using h1, h2⟩
theorem fn_false {P : Program} {w : World} {K : PySem.W.Frag} {mg : Str → Option Value} {base : Heap} {CX : CXT} {k : Nat} {f : Addr} {fd : FuncData} {ps : List Str} {sp : Sp} (no : ∀ vs H Q E, ¬ sp vs H Q E) : FnOk P w K mg base CX k f fd ps sp :=
  ⟨fun vs H Q E h => absurd h (no vs H Q E), fun A outer s H args us vs Q E _ _ _ _ h => absurd h (no vs H Q E)⟩
theorem DrawAt.mono {H : Hp} {a c : Addr} {m n : Nat} (d : DrawAt H a c m) (h : m ≤ n) : DrawAt H a c n := by
  obtain ⟨xs, d1, d2, d3, d4, d5, h1, h2, h3, h4, h5, h6, h7, h8, h9⟩ := d
  exact ⟨xs, d1, d2, d3, d4, d5, h1, h2, h3, h4, h5, h6, h7, h8, by omega⟩
theorem DrawAt.lst {H : Hp} {a c : Addr} {n : Nat} (d : DrawAt H a c n) : ∃ ys, H a = some (.lst ys) := by
  obtain ⟨xs, d1, d2, d3, d4, d5, h1, _⟩ := d
  exact ⟨_, h1⟩
theorem DrawAt.tp {H H' : Hp} {a c : Addr} {n : Nat} (d : DrawAt H a c n) (f : But a H H') : Tp H H' := by
  obtain ⟨ys, h⟩ := d.lst
  exact .but f h
theorem DrawAt.same {H H' : Hp} {a c : Addr} {n : Nat} (d : DrawAt H a c n) (f : Same H H') : DrawAt H' a c n := by
  obtain ⟨xs, d1, d2, d3, d4, d5, h1, h2, h3⟩ := d
  exact ⟨xs, d1, d2, d3, d4, d5, f _ _ h1, f _ _ h2, h3⟩
theorem DrawAt.off {H : Hp} {a c D : Addr} {n : Nat} (d : DrawAt H a c n) (h : H D = none) : D ≠ a ∧ D ≠ c := by
  obtain ⟨xs, d1, d2, d3, d4, d5, h1, h2, h3⟩ := d
  exact ⟨(ne_of_none h1 h).symm, (ne_of_none h2 h).symm⟩
/-- some list that is no draw's is changed -/
theorem DrawAt.upd {H : Hp} {a c D : Addr} {n : Nat} {o : HO} (d : DrawAt H a c n) (h1 : D ≠ a) (h2 : D ≠ c) : DrawAt (L2.upd H D o) a c n := by
  obtain ⟨xs, d1, d2, d3, d4, d5, e1, e2, h3⟩ := d
  exact ⟨xs, d1, d2, d3, d4, d5, by rw [upd_ne h1.symm]; exact e1, by rw [upd_ne h2.symm]; exact e2, h3⟩
/-! ### the data that are drawn -/
def isLet (c : Nat) : Bool := decide (97 ≤ c) && decide (c ≤ 122)
def isDig (c : Nat) : Bool := decide (48 ≤ c) && decide (c ≤ 57)
def isWd (l : List Nat) : Bool := match l with
  | [] => false
  | c :: r => decide (r.length ≤ 11) && isLet c && r.all fun c => isLet c || isDig c
inductive Gd : Nat → PyData → Prop where
  | bl (n : Nat) (b : Bool) : Gd n (.bool b)
  | emp (n : Nat) : Gd n (.str ⟨#[]⟩)
  | word (n : Nat) (x : Str) (h : isWd x.cps.toList = true) : Gd n (.str x)
  | int (n : Nat) (i : Int) (h : i.natAbs ≤ 10 ^ 40) : Gd n (.int i)
  | tup (n : Nat) (ds : List PyData) (l : ds.length ≤ 3) (h : ∀ d ∈ ds, Gd n d) : Gd (n + 1) (.tuple ds)
theorem Gd.to {n : Nat} {d : PyData} (g : Gd n d) : To d := by
  induction g with
  | bl n b => exact .bl b
  | emp n => exact .str _
  | word n x h => exact .str _
  | int n i h => exact .int _
  | tup n ds l h ih => exact .tup _ ih
/-- how many draws such data take at most -/
def takes : Nat → Nat
  | 0 => 3
  | k + 1 => 3 + 3 * takes k
def spData (K : PySem.W.Frag) (k : Nat) : Sp := fun vs H Q _ => ∃ (a c : Addr) (deep n : Nat), vs = [.ref a, .int deep] ∧ deep < k ∧ DrawAt H a c n ∧ n + takes deep ≤ 1000000000 ∧
  ∀ (d : PyData) (v : V) (H' : Hp), Gd deep d → Dp K H' v d → DrawAt H' a c (n + takes deep) → But a H H' → Q v H'

/-! ### kinds of data -/
def tyName : PyData → String
  | .none => "NoneType"
  | .bool _ => "bool"
  | .int _ => "int"
  | .str _ => "str"
  | .list _ => "list"
  | .tuple _ => "tuple"
  | .dict _ => "dict"
section
variable {K : PySem.W.Frag} {H : Hp} {v : V} {d : PyData} {Q : VK}
theorem ty_lst {a : Addr} {xs : List V} (h : SqL K H a xs) : TyX K H (.ref a) (.type "list") := by
  rcases h with (h | ⟨o, h⟩) | ⟨o, its, n, hk, hc, _⟩
  · exact .base (.lst h)
  · exact .base (.frz h)
  · exact .kList hk hc
theorem ty_tup {a : Addr} {xs : List V} (h : SqT K H a xs) : TyX K H (.ref a) (.type "tuple") := by
  rcases h with (h | ⟨o, h⟩) | ⟨o, its, n, hk, hc, _⟩
  · exact .base (.tup h)
  · exact .fTuple h
  · exact .kTuple hk hc
theorem Dp.ty (h : Dp K H v d) : TyX K H v (.type (tyName d)) := by
  cases h with
  | non => exact .base .non
  | bl b => exact .base (.bl b)
  | int i => exact .base (.int i)
  | str x => exact .base (.str x)
  | lst hs ha => exact ty_lst hs
  | tup hs ha => exact ty_tup hs
theorem isi {x : V} {t T : String} {b : Bool} (ty : TyX K H x (.type t)) (k : kitB t T = some b) (q : Q (.bl b) H) : rIsi K [x, .ty T] H Q := ⟨x, .ty T, _, _, b, rfl, .ty T, ty, kit_ty k, q⟩
def isStr : PyData → Bool
  | .str _ => true
  | _ => false
def isTup : PyData → Bool
  | .tuple _ => true
  | _ => false
def isBool : PyData → Bool
  | .bool _ => true
  | _ => false
def isInt : PyData → Bool
  | .bool _ => true
  | .int _ => true
  | _ => false
theorem kb_all : ∀ n ∈ ["NoneType", "bool", "int", "str", "list", "tuple", "dict"], kitB n "str" = some (n == "str") ∧ kitB n "tuple" = some (n == "tuple") ∧ kitB n "bool" = some (n == "bool") ∧ kitB n "int" = some (n == "int" || n == "bool") := by decide +kernel
theorem tyName_mem (d : PyData) : tyName d ∈ ["NoneType", "bool", "int", "str", "list", "tuple", "dict"] := by cases d <;> simp [tyName]
theorem isi_str (h : Dp K H v d) (q : Q (.bl (isStr d)) H) : rIsi K [v, .ty "str"] H Q :=
  isi (Dp.ty h) ((kb_all _ (tyName_mem d)).1.trans (by cases d <;> simp [tyName, isStr])) q
theorem isi_tup (h : Dp K H v d) (q : Q (.bl (isTup d)) H) : rIsi K [v, .ty "tuple"] H Q :=
  isi (Dp.ty h) ((kb_all _ (tyName_mem d)).2.1.trans (by cases d <;> simp [tyName, isTup])) q
theorem isi_bool (h : Dp K H v d) (q : Q (.bl (isBool d)) H) : rIsi K [v, .ty "bool"] H Q :=
  isi (Dp.ty h) ((kb_all _ (tyName_mem d)).2.2.1.trans (by cases d <;> simp [tyName, isBool])) q
theorem isi_int (h : Dp K H v d) (q : Q (.bl (isInt d)) H) : rIsi K [v, .ty "int"] H Q :=
  isi (Dp.ty h) ((kb_all _ (tyName_mem d)).2.2.2.trans (by cases d <;> simp [tyName, isInt])) q
end
/-! ### comprehensions whose steps change nothing -/
theorem lc_map {J : It} {xs : List V} {G : Hp → Prop} (w : Walk J xs.length G (YAt xs)) {te : TE} {s : Nat} {σ : L2.St} {H1 : Hp} {D : Addr} {Qd : Hp → Prop} (f : V → V) (hz : xs.length ≤ sizeLine) (hG : ∀ acc, G (upd H1 D (.lst acc)))
    (hs : ∀ x ∈ xs, ∀ acc (R : VK), R (f x) (upd H1 D (.lst acc)) → te (σ.set s (some x)) (upd H1 D (.lst acc)) R) (hd : Qd (upd H1 D (.lst (xs.map f)))) :
    ∃ W : Nat → Nat → Hp → Prop, (∃ m, W 0 m (upd H1 D (.lst []))) ∧ ∀ i m H, W i m H →
      (J.stop i H ∧ Qd H) ∨ (J.go i H ∧ ∃ Nx : Hp → Prop, (∀ H', Nx H' → ∃ m', m' < m ∧ W (i + 1) m' H') ∧ ∀ x H', J.yld i H x H' → gName s x (wipe σ [s]) H' fun σ2 H2 => wipe σ2 [s] = wipe σ [s] ∧ tYes σ2 H2 fun b H3 =>
        if b = true then te σ2 H3 fun y H4 => ∃ acc, H4 D = some (.lst acc) ∧ acc.length < sizeLine ∧ Nx (upd H4 D (.lst (acc ++ [y]))) else Nx H3) := by
  refine lc_it w (fun i H => H = upd H1 D (.lst ((xs.take i).map f))) rfl (fun i H _ e => by subst e; exact hG _) ?_ ?_
  · rintro i x H H' hi rfl ⟨rfl, hx⟩
    have e0 : (wipe σ [s]).set s (some x) = σ.set s (some x) := by simp only [wipe, List.set_set]
    simp only [gName, tYes, ↓reduceIte, e0]
    refine ⟨by simp only [wipe, List.set_set], (hs x (List.mem_of_getElem? hx) _ _ ⟨_, upd_same, ?_, ?_⟩)⟩
    · rw [List.length_map, List.length_take]
      omega
    · rw [upd_upd, List.take_add_one, hx, List.map_append]
      rfl
  · rintro H rfl
    rw [List.take_of_length_le (Nat.le_refl _)]
    exact hd
/-- the signs of a text, as texts -/
def sg (c : Nat) : V := .str ⟨#[c]⟩
def sgs (x : Str) : List V := x.cps.toList.map sg
theorem sgs_len (x : Str) : (sgs x).length = x.length := by
  rw [sgs, List.length_map, Array.length_toList]
  rfl
theorem walk_sgs (x : Str) : Walk (Its x) (sgs x).length (fun _ => True) (YAt (sgs x)) where
  goes := fun i H hi _ => by
    rw [sgs_len] at hi
    exact hi
  stops := fun H _ => by
    rw [sgs_len]
    exact Nat.le_refl _
  yields := fun i H y H' hi _ ⟨e, c, hc, hy⟩ => ⟨e, by
    rw [sgs, List.getElem?_map, Array.getElem?_toList, hc, hy]
    rfl⟩
theorem all_sgs (x : Str) (p : Nat → Bool) (g : V → V) (h : ∀ c, g (sg c) = .bl (p c)) : (sgs x).map g = (x.cps.toList.map p).map V.bl := by
  rw [sgs, List.map_map, List.map_map]
  exact List.map_congr_left fun c _ => h c
theorem ixs {K : PySem.W.Frag} {H : Hp} {z : Str} {i : Int} {c : Nat} {Q : VK} (h : z.length ≤ sizeLine) (hi : atI z.cps.toList i = some c) (q : Q (.str ⟨#[c]⟩) H) : rIxS (.str z) (.int i) H Q := ⟨z, i, c, rfl, rfl, h, hi, q⟩
/-- all of tests of a text's signs -/
theorem all_of {K : PySem.W.Frag} {H : Hp} {D : Addr} {l : List Nat} {p : Nat → Bool} {xs : List V} {Q : VK} (e : xs = (l.map p).map V.bl) (q : Q (.bl (l.all p)) (upd H D (.lst xs))) : rAll K [.ref D] (upd H D (.lst xs)) Q := by
  subst e
  refine ⟨D, l.map p, rfl, SqL.of upd_same, ?_⟩
  rw [List.all_map]
  exact q
theorem one_inj (c d : Nat) : ((⟨#[c]⟩ : Str) = ⟨#[d]⟩) = (c = d) := by
  apply propext
  constructor
  · intro h
    have := congrArg (fun z : Str => z.cps.toList) h
    exact (List.cons.inj this).1
  · rintro rfl
    rfl
theorem lt_one (c d : Nat) : decide ([c] < [d]) = decide (c < d) := by
  rw [Bool.eq_iff_iff, decide_eq_true_eq, decide_eq_true_eq]
  constructor
  · intro h
    cases h with
    | rel h => exact h
    | cons h => cases h
  · intro h
    exact List.Lex.rel h
theorem le_lo (s : Str) (k c : Nat) (e : s.cps.toList = [k]) : (!decide ((⟨#[c]⟩ : Str).cps.toList < s.cps.toList)) = decide (k ≤ c) := by
  rw [e, show (⟨#[c]⟩ : Str).cps.toList = [c] from rfl, lt_one, Bool.eq_iff_iff, Bool.not_eq_true', decide_eq_false_iff_not, decide_eq_true_eq]
  omega
theorem le_hi (s : Str) (k c : Nat) (e : s.cps.toList = [k]) : (!decide (s.cps.toList < (⟨#[c]⟩ : Str).cps.toList)) = decide (c ≤ k) := by
  rw [e, show (⟨#[c]⟩ : Str).cps.toList = [c] from rfl, lt_one, Bool.eq_iff_iff, Bool.not_eq_true', decide_eq_false_iff_not, decide_eq_true_eq]
  omega
theorem le_a (c : Nat) : (!decide ([c] < (Str.ofString "a").cps.toList)) = decide (97 ≤ c) := le_lo _ _ _ (by decide +kernel)
theorem le_z (c : Nat) : (!decide ((Str.ofString "z").cps.toList < [c])) = decide (c ≤ 122) := le_hi _ _ _ (by decide +kernel)
theorem le_0 (c : Nat) : (!decide ([c] < (Str.ofString "0").cps.toList)) = decide (48 ≤ c) := le_lo _ _ _ (by decide +kernel)
theorem le_9 (c : Nat) : (!decide ((Str.ofString "9").cps.toList < [c])) = decide (c ≤ 57) := le_hi _ _ _ (by decide +kernel)
def spLaw (K : PySem.W.Frag) : Sp := fun vs H Q _ => ∃ (a : Addr) (ns : List Int), vs = [.ref a] ∧ SqL K H a (ns.map V.int) ∧ ns.length ≤ 63 ∧ ∀ H', Q (.bl true) H'
/-! ### words -/
theorem mem_let (c : Nat) : decide (c ∈ (Str.ofString "abcdefghijklmnopqrstuvwxyz").cps.toList) = isLet c := by
  have e : (Str.ofString "abcdefghijklmnopqrstuvwxyz").cps.toList = [97, 98, 99, 100, 101, 102, 103, 104, 105, 106, 107, 108, 109, 110, 111, 112, 113, 114, 115, 116, 117, 118, 119, 120, 121, 122] := by decide +kernel
  rw [e, isLet, Bool.eq_iff_iff, Bool.and_eq_true, decide_eq_true_eq, decide_eq_true_eq, decide_eq_true_eq]
  simp only [List.mem_cons, List.not_mem_nil, or_false]
  omega
theorem mem_dig (c : Nat) : decide (c ∈ (Str.ofString "0123456789").cps.toList) = isDig c := by
  have e : (Str.ofString "0123456789").cps.toList = [48, 49, 50, 51, 52, 53, 54, 55, 56, 57] := by decide +kernel
  rw [e, isDig, Bool.eq_iff_iff, Bool.and_eq_true, decide_eq_true_eq, decide_eq_true_eq, decide_eq_true_eq]
  simp only [List.mem_cons, List.not_mem_nil, or_false]
  omega
theorem isWd_eq (l : List Nat) : isWd l = (decide (1 ≤ l.length ∧ l.length ≤ 12) && (l.head?.any isLet) && l.all fun c => isLet c || isDig c) := by
  cases l with
  | nil => rfl
  | cons c r =>
    simp only [isWd, List.length_cons, List.head?_cons, Option.any_some, List.all_cons]
    by_cases h : r.length ≤ 11
    · by_cases h2 : isLet c = true
      · simp [h, h2]
      · simp [h2]
    · simp [h]
theorem head_at (x : Str) (c : Nat) (h : x.cps.toList.head? = some c) : atI x.cps.toList 0 = some c := by
  have := atI_nat (xs := x.cps.toList) (j := 0) (v := c) (by rw [← List.head?_eq_getElem?]; exact h)
  exact this
theorem len_s {K : PySem.W.Frag} {H : Hp} {x : Str} {n : Nat} (h : x.length ≤ sizeLine) (e : n = x.length) : LenV K (.str x) H n := ⟨h, e⟩
theorem tl_len (x : Str) : x.cps.toList.length = x.length := Array.length_toList
def wordD : PyData → Bool
  | .str x => isWd x.cps.toList
  | _ => false
def spWord (K : PySem.W.Frag) : Sp := fun vs H Q _ => ∃ (v : V) (d : PyData), vs = [v] ∧ Dp K H v d ∧ (∀ x, d = .str x → x.length ≤ sizeLine) ∧ ∀ H', Same H H' → Q (.bl (wordD d)) H'
end Z

set_option Elab.async false
set_option linter.all false
set_option maxRecDepth 100000
set_option maxHeartbeats 4000000

namespace Z
open PySem PySem.Spec PyProof.Rows L2
local macro_rules | `(tactic| walk_at "sx") => `(tactic| try simp only [and_assoc, cxOf_K, cxOf_Kn, C8.tCut, rEq, rNe, sc_ii, sc_ss, sc_bb, sc_is, sc_si, sc_bs, sc_sb, tSeq, tAsg, tPar, tPar3, tC, gName, gNil, gCons, gTup, gSub, rSetL, L2.start, tVar, tOp, tUn, rI0, rI, rU, tTest, tChain, tOrV, tAndV, tNotV, tCB, tCons, tNil, tLst, tTup, tIfS, tNext, tRet, tRetN, tDrop, tAnd, tOr, tNot, tB, tIf, tSl, tFld, sFld, putF, tNoPart, tPart, rSlL, tBM, tBM0, rAppend, rPop, rExtend, tCall, tMeth, List.map_cons, List.map_nil, List.replicate, List.length_cons, List.length_nil, List.append, List.cons_append, List.nil_append, List.append_nil, List.getElem?_cons_zero, List.getElem?_cons_succ, List.set_cons_zero, List.set_cons_succ, Option.some.injEq, exists_eq_left', exists_eq_left, exists_eq, exists_and_left, exists_const, wipe, tYes, upd_same, ↓reduceIte, decide_false, decide_true, Bool.not_true, Bool.not_false, Bool.false_eq_true, V.int.injEq, HO.lst.injEq, HO.tup.injEq, V.ref.injEq, V.str.injEq, one_inj, le_a, le_z, le_0, le_9, mem_let, mem_dig, V.bl.injEq, List.cons.injEq, and_true, true_and, reduceCtorEq, false_and, exists_false, or_false, false_or])
namespace R
open PySem.W
def rSortedD (K : PySem.W.Frag) : List V → Hp → VK → Prop := fun vs H Q => ∃ (a : Addr) (bs : List (V × PyData)), vs = [.ref a] ∧ SqL K H a (bs.map (·.1)) ∧ (∀ b ∈ bs, Dp K H b.1 b.2) ∧ AllAlike (bs.map (·.2)) ∧ Sortable (bs.map (·.2)) ∧ (∀ b ∈ bs, b.2.depth ≤ 60) ∧
  ∀ p, H p = none → Q (.ref p) (upd H p (.lst ((bs.mergeSort (dataLe false (·.2))).map (·.1))))
theorem each_of {β : Type} {f : β → V} : ∀ {bs : List β} {us : List Value}, Vals (bs.map f) us → EachIs (fun u b => L2.RelV (f b) u) us bs
  | [], _, r => by
    cases r
    exact .nil
  | b :: bs, _, r => by
    cases r with
    | cons h t => exact .cons h (each_of t)
theorem vals_of {β : Type} {f : β → V} : ∀ {bs : List β} {us : List Value}, EachIs (fun u b => L2.RelV (f b) u) us bs → Vals (bs.map f) us
  | _, _, .nil => .nil
  | _, _, .cons h t => .cons h (vals_of t)
theorem each_mem {α β : Type} {R S : α → β → Prop} : ∀ {us : List α} {bs : List β}, EachIs R us bs → (∀ u b, b ∈ bs → R u b → S u b) → EachIs S us bs
  | _, _, .nil, _ => .nil
  | _, _, .cons h t, f => .cons (f _ _ (List.mem_cons_self ..) h) (each_mem t fun u b hb r => f u b (List.mem_cons_of_mem _ hb) r)
theorem cr_sortedD {X : Cx} (hu : X.A.units + 64 < cLine) : CallR X (.builtin "sorted") (rSortedD X.K) := by
  intro pins s σ H vs us Q I r h
  obtain ⟨a, bs, rfl, hs, hd, hal, hk, hdp, q⟩ := h
  obtain ⟨u, rfl, ru⟩ := vals1 r
  obtain rfl : u = Value.ref a := ru
  obtain ⟨its, rv, hl, hz⟩ := I.list hs
  have e := each_of rv
  have er : EachIs (fun u b => ∃ as, Reads s.heap u b.2 as) its bs := each_mem e fun u b hb hr => Dp.reads I b.2 b.1 u (hd b hb) hr
  rw [List.length_map] at hz
  refine sorted_data (enc := fun b : V × PyData => b.2) hl.isList e er hal hk hz (fun b hb => by have := hdp b hb; omega) fun out h1 h2 => ?_
  obtain ⟨ep, he⟩ := PyProof.Rows.sortedAll_at s.heap its out.toArray
  refine ⟨.ref _, upd H (s.heap.objs.size + 1) (.lst ((bs.mergeSort (dataLe false (·.2))).map (·.1))), I.laid (t' := s.toks) (fun _ _ => PyProof.Rows.sortedAll_old) (Nat.le_succ _) ⟨?_, out, ep, vals_of h2, by simpa using he⟩, rfl, q _ (I.hok.fresh (Nat.le_succ _))⟩
  rw [List.length_map, List.length_mergeSort]
  exact hz
end R

end Z

set_option Elab.async false
set_option linter.all false
set_option maxRecDepth 100000
set_option maxHeartbeats 4000000

namespace Z
open PySem PySem.Spec PyProof.Rows L2
local macro_rules | `(tactic| walk_at "sx") => `(tactic| try simp only [and_assoc, cxOf_K, cxOf_Kn, C8.tCut, rEq, rNe, sc_ii, sc_ss, sc_bb, sc_is, sc_si, sc_bs, sc_sb, tSeq, tAsg, tPar, tPar3, tC, gName, gNil, gCons, gTup, gSub, rSetL, L2.start, tVar, tOp, tUn, rI0, rI, rU, tTest, tChain, tOrV, tAndV, tNotV, tCB, tCons, tNil, tLst, tTup, tIfS, tNext, tRet, tRetN, tDrop, tAnd, tOr, tNot, tB, tIf, tSl, tFld, sFld, putF, tNoPart, tPart, rSlL, tBM, tBM0, rAppend, rPop, rExtend, tCall, tMeth, List.map_cons, List.map_nil, List.replicate, List.length_cons, List.length_nil, List.append, List.cons_append, List.nil_append, List.append_nil, List.getElem?_cons_zero, List.getElem?_cons_succ, List.set_cons_zero, List.set_cons_succ, Option.some.injEq, exists_eq_left', exists_eq_left, exists_eq, exists_and_left, exists_const, wipe, tYes, upd_same, ↓reduceIte, decide_false, decide_true, Bool.not_true, Bool.not_false, Bool.false_eq_true, V.int.injEq, HO.lst.injEq, HO.tup.injEq, V.ref.injEq, V.str.injEq, one_inj, le_a, le_z, le_0, le_9, mem_let, mem_dig, V.bl.injEq, List.cons.injEq, and_true, true_and, reduceCtorEq, false_and, exists_false, or_false, false_or])
namespace R
open PySem.W
section
variable {X : Cx} {pins : List (Addr × Obj)} {σ : L2.St} {H : Hp} {s : Shared}
/-- an object of ours that was not tracked is tracked from here on -/
theorem Inv.adopt {a : Addr} {o : HO} (I : Inv X pins σ H s) (hf : FpOk X pins H a) (new : ObjOk X.prog X.w (upd H a o) s.heap a o) : Inv X pins σ (upd H a o) s := by
  obtain ⟨f0, f1, f2, f3, f4, f5⟩ := hf
  have other : ∀ b u, H b = some u → upd H a o b = some u := fun b u e => by rw [upd_ne (ne_of_none e f0)]; exact e
  have J := I.step (g' := s.gens) (d' := s.drawn) (t' := s.toks) (h' := s.heap) (H' := upd H a o) (ch := [a]) (fun b hb => by rw [List.mem_singleton.mp hb]; exact ⟨f3, f1, f4, f5⟩) (fun b u _ _ _ e _ => e) (fun b u _ _ _ e _ => ⟨u.slots, e⟩)
    (fun b u hb _ n => by rw [upd_ne (fun z => hb (by rw [z]; exact List.mem_singleton_self a))]; exact n) (fun b u _ e => ⟨u, e⟩) (fun b xs e => other b _ e) (fun b u x e => other b _ e) (fun b ps e => ⟨#[], by rw [other b _ e]; simp⟩) (fun _ e => e) (fun b u e => ?_) I.bare
  · exact J
  · by_cases hb : b = a
    · subst hb
      rw [upd_same] at e
      obtain rfl := Option.some.inj e
      exact new
    · rw [upd_ne hb] at e
      exact (I.hok b u e).stay (fun _ _ _ q => q) (fun c q => other c _ q) fun c xs q => other c _ q
theorem FpOk.imp {H' : Hp} {a : Addr} (f : FpOk X pins H a) (h : H' a = none) : FpOk X pins H' a := ⟨h, f.2⟩
/-- a call by a built-in that is called -/
theorem run_in2 {k : Nat} {f : Addr} {fd : FuncData} {ps : List Str} {sp : Sp} {Q : VK} {us : List Value} {vs : List V} (F : FnOk X.prog X.w X.K X.mg X.base CX0 k f fd ps sp) (hr : Room (k + 2) X.A) (hb : Binds X.K fd ps []) (I : Inv X pins σ H s) (r : Vals vs us) (h : sp vs H Q E0) :
    wpAny (model X.prog X.w) X.A.in1.in1 (call (.ref f) us) (EP X pins σ Q) (fun _ _ => False) s := by
  have hl : (us ++ []).length = ps.length := by
    rw [List.append_nil, ← r.length]
    exact F.len _ _ _ _ h
  have e0 : Env0 X.prog X.w X.K X.mg X.base X.A.in1.in1 X.stack s H := ⟨I.env0.frames, I.env0.mod, I.env0.bs, I.env0.bsz, I.env0.funs, I.env0.frf, I.env0.hok, I.env0.bare⟩
  have hbt := hb s us I.kIn hl
  rw [List.append_nil] at hbt
  refine wpAny_call (codeAny_mono (F.run X.A.in1.in1 X.stack s H ⟨us, []⟩ us vs Q E0 hr.in1.in1 e0 hbt r h) fun res s' hq => ?_)
  match res, hq with
  | .error e, hq => exact False.elim hq
  | .ok .next, hq => exact False.elim hq
  | .ok .brk, hq => exact False.elim hq
  | .ok .cont, hq => exact False.elim hq
  | .ok (.ret u), hq => exact I.after hq
end
section
variable {X : Cx} {pins : List (Addr × Obj)} {σ : L2.St} {H : Hp} {s : Shared}
theorem each_reads (I : Inv X pins σ H s) : ∀ {ds : List PyData} {ws : List V} {us : List Value}, DpAll X.K H ws ds → Vals ws us → EachIs (fun u d => ∃ as, Reads s.heap u d as) us ds
  | _, _, _, .nil, r => by
    cases r
    exact .nil
  | d :: ds, _, _, .cons h t, r => by
    cases r with
    | cons r1 r2 => exact .cons (Dp.reads I d _ _ h r1) (each_reads I t r2)
/-- in the midst of a sort by a def: the list at a is empty, the keys so far stand at c -/
structure Mids (X : Cx) (pins : List (Addr × Obj)) (σ : L2.St) (H0 : Hp) (a c : Addr) (e1 : Nat) (kz : List PyData) (i : Nat) (s : Shared) : Prop where
  ex : ∃ (H : Hp) (ks : List Value) (ws : List V) (e : Nat), Inv X pins σ H s ∧ Same H0 H ∧ FpOk X pins H a ∧ FpOk X pins H c ∧ s.heap.get? a = some (seqObj "list" #[] e1) ∧ s.heap.get? c = some (seqObj "list" ks.toArray e) ∧ Vals ws ks ∧ DpAll X.K H ws (kz.take i)
theorem sort_key {k : Nat} {f : Addr} {fd : FuncData} {ps : List Str} {sp : Sp} {bs : List (V × PyData)} {kf : V × PyData → PyData} {vs : List Value} {n : Nat} {a : Addr} {P : PySem.Fin → Shared → Prop} {E : Value → Shared → Prop} (F : FnOk X.prog X.w X.K X.mg X.base CX0 k f fd ps sp) (hr : Room (k + 2) X.A) (hb : Binds X.K fd ps [])
    (hsp : ∀ b ∈ bs, ∀ (H' : Hp) (Q : VK), Same H H' → (∀ v H'', Dp X.K H'' v (kf b) → Same H' H'' → Q v H'') → sp [b.1] H' Q E0) (hal : AllAlike (bs.map kf)) (hk : Sortable (bs.map kf)) (hdp : ∀ b ∈ bs, (kf b).depth ≤ 60)
    (I : Inv X pins σ H s) (ho : s.heap.get? a = some (seqObj "list" vs.toArray n)) (fa : FpOk X pins H a) (rv : EachIs (fun u b => L2.RelV b.1 u) vs bs) (hL : bs.length ≤ sizeLine)
    (h : ∀ (H' : Hp) (s' : Shared), Same H H' → H' a = none → Inv X pins σ (upd H' a (.lst ((bs.mergeSort (dataLe false kf)).map (·.1)))) s' → P (.done (.ret .none)) s') :
    wpAny (model X.prog X.w) X.A.in1.in1 (ksk_tree a (.ref f) false) P E s := by
  have hlen : vs.length = bs.length := rv.length
  have hZ : vs.length ≤ sizeLine := by rw [hlen]; exact hL
  have hu := hr.un
  unfold ksk_tree
  refine wpAny_bind (listItems_at ho rfl ?_)
  refine wpAny_bind (listUpdate_at ho rfl ?_ (by rw [List.size_toArray]; exact hZ) (Nat.zero_le _))
  obtain ⟨e1, ho1⟩ : ∃ e1, (s.heap.update a (Obj.mapSeq fun _ => (#[] : Array Value))).get? a = some (seqObj "list" #[] e1) := ⟨_, get?_update_seq ho fun _ => #[]⟩
  have I1 : Inv X pins σ H { s with heap := s.heap.update a (Obj.mapSeq fun _ => (#[] : Array Value)) } :=
    Inv.turned (t' := s.toks) I (fun b o hb q => ((Heap.SameBut.update s.heap a _).2 b hb).trans q) fa.1 fa.2.1 fa.2.2.2.1 fa.2.2.2.2.1 fa.2.2.2.2.2
  generalize s.heap.update a (Obj.mapSeq fun _ => (#[] : Array Value)) = g1 at ho1 I1 ⊢
  refine wpAny_bind (seqEpoch_at ho1 rfl ?_)
  refine wpAny_bind (wpAny_newTuple ?_ (by simpa using hZ))
  refine wpAny_bind (wpAny_newList ?_ (Nat.zero_le _))
  refine wpAny_holding ?_
  have I2 : Inv X pins σ H { s with heap := g1.push { cls := .type "tuple", data := .seq vs.toArray.toList.toArray } } := I1.kept (t' := s.toks) fun b o q => Heap.get?_push_of_some _ q
  have fa2 : FpOk X pins H a := fa
  have hc0 : g1.objs.size + 1 = (g1.push { cls := .type "tuple", data := .seq vs.toArray.toList.toArray }).objs.size := (Heap.size_push _ _).symm
  have ha2 : (g1.push { cls := .type "tuple", data := .seq vs.toArray.toList.toArray }).get? a = some (seqObj "list" #[] e1) := Heap.get?_push_of_some _ ho1
  have fc : FpOk X pins H (g1.push { cls := .type "tuple", data := .seq vs.toArray.toList.toArray }).objs.size := I2.fpOk (Nat.le_refl _) (I2.hok.fresh (Nat.le_refl _))
  have hca : (g1.push { cls := .type "tuple", data := .seq vs.toArray.toList.toArray }).objs.size ≠ a := Nat.ne_of_gt (Heap.lt_size ha2)
  have I3 : Inv X pins σ H { s with heap := (g1.push { cls := .type "tuple", data := .seq vs.toArray.toList.toArray }).push { cls := .type "list", data := .seq ([] : List Value).toArray } } := I2.kept (t' := s.toks) fun b o q => Heap.get?_push_of_some _ q
  have hc3 : ((g1.push { cls := .type "tuple", data := .seq vs.toArray.toList.toArray }).push { cls := .type "list", data := .seq ([] : List Value).toArray }).get? (g1.push { cls := .type "tuple", data := .seq vs.toArray.toList.toArray }).objs.size = some (seqObj "list" ([] : List Value).toArray 0) := Heap.get?_push_size _ rfl
  have ha3 : ((g1.push { cls := .type "tuple", data := .seq vs.toArray.toList.toArray }).push { cls := .type "list", data := .seq ([] : List Value).toArray }).get? a = some (seqObj "list" #[] e1) := Heap.get?_push_of_some _ ha2
  generalize (g1.push { cls := .type "tuple", data := .seq vs.toArray.toList.toArray }).objs.size = c at fc hca hc3 ⊢
  generalize (g1.push { cls := .type "tuple", data := .seq vs.toArray.toList.toArray }).push { cls := .type "list", data := .seq ([] : List Value).toArray } = g3 at I3 hc3 ha3 ⊢
  obtain ⟨s3, hs3⟩ : ∃ s3 : Shared, s3 = { heap := g3, gens := s.gens, drawn := s.drawn, toks := s.toks, os := s.os } := ⟨_, rfl⟩
  show wpAny (model X.prog X.w) X.A.in1.in1 (ksk_rest a (Value.ref f) false vs.toArray e1 (Value.ref c)) P E { heap := g3, gens := s.gens, drawn := s.drawn, toks := s.toks, os := s.os }
  rw [← hs3] at I3 ⊢
  have hg3 : s3.heap = g3 := by rw [hs3]
  rw [← hg3] at hc3 ha3
  unfold ksk_rest
  refine wpAny_bind (wpAny_rule ?_)
  have start : Mids X pins σ H a c e1 (bs.map kf) 0 s3 := ⟨H, [], [], 0, I3, fun _ _ e => e, fa, fc, ha3, hc3, .nil, by rw [List.take_zero]; exact .nil⟩
  rw [List.forIn_toArray]
  refine wpAny_bind (ksk_fold (fun i s' => Mids X pins σ H a c e1 (bs.map kf) i s') vs 0 s3 start ?_ ?_)
  · rintro j x s' hx ⟨H1, ks, ws, e, J, sm, fa1, fc1, na, nc, rw1, dw⟩
    simp only [Nat.zero_add] at dw ⊢
    obtain ⟨b, hb0, hrb⟩ : ∃ b, bs[j]? = some b ∧ L2.RelV b.1 x := by
      have hj : j < vs.length := (List.getElem?_eq_some_iff.mp hx).1
      refine ⟨bs[j]'(by omega), List.getElem?_eq_getElem _, ?_⟩
      have hz : (x, bs[j]'(by omega)) ∈ vs.zip bs := List.mem_of_getElem? (i := j) (by rw [List.getElem?_zip_eq_some]; exact ⟨hx, List.getElem?_eq_getElem _⟩)
      exact rv.zip _ hz
    have hbm := List.mem_of_getElem? hb0
    have hkz : (bs.map kf)[j]? = some (kf b) := by rw [List.getElem?_map, hb0]; rfl
    have lw : ks.length ≤ vs.length := by
      have h1 := rw1.length
      have h2 := DpAll.length dw
      rw [List.length_take, List.length_map] at h2
      omega
    -- the two are pinned while the key is made
    have Jp := J.pinned (fp := [a, c]) (fun d hd => by
      rcases List.mem_cons.mp hd with rfl | hd
      · exact fa1
      · rw [List.mem_singleton.mp hd]
        exact fc1) (fun d hd => by
      rcases List.mem_cons.mp hd with rfl | hd
      · exact ⟨_, na, fun v z => by cases z⟩
      · rw [List.mem_singleton.mp hd]
        exact ⟨_, nc, fun v z => by cases z⟩)
    have pa : (a, seqObj "list" #[] e1) ∈ X.pn ++ (pins ++ pinsAt [a, c] s'.heap) := List.mem_append_right _ (List.mem_append_right _ (mem_pinsAt (by simp) na))
    have pc : (c, seqObj "list" ks.toArray e) ∈ X.pn ++ (pins ++ pinsAt [a, c] s'.heap) := List.mem_append_right _ (List.mem_append_right _ (mem_pinsAt (by simp) nc))
    refine wpAny_bind (wpAny_attempt (wpAny_mono (run_in2 (Q := fun v H2 => Dp X.K H2 v (kf b) ∧ Same H1 H2) F hr hb Jp (.cons hrb .nil) (hsp b hbm H1 _ sm fun v H2 d s2 => ⟨d, s2⟩)) (fun u s2 hu2 => ?_) fun _ _ z => z.elim))
    obtain ⟨v, H2, J2, ru, dv, sv⟩ := hu2
    have na2 : s2.heap.get? a = some (seqObj "list" #[] e1) := (J2.pin _ pa).1
    have nc2 : s2.heap.get? c = some (seqObj "list" ks.toArray e) := (J2.pin _ pc).1
    obtain ⟨e2, nc3⟩ : ∃ e2, (s2.heap.update c (Obj.mapSeq fun x => x.push u)).get? c = some (seqObj "list" (ks ++ [u]).toArray e2) := by
      have := get?_update_seq nc2 (·.push u)
      rw [List.push_toArray] at this
      exact ⟨_, this⟩
    have fa2 : FpOk X pins H2 a := FpOk.imp fa1 (J2.pin _ pa).2.1
    have fc2 : FpOk X pins H2 c := FpOk.imp fc1 (J2.pin _ pc).2.1
    have J3 := J2.unpinned
    refine wpAny_bind (listUpdate_at nc2 rfl ?_ (by rw [List.size_toArray]; omega) (by rw [Array.size_push, List.size_toArray]; omega))
    refine wpAny_pure ⟨rfl, H2, ks ++ [u], ws ++ [v], e2, Inv.turned (t' := s2.toks) J3 (fun d o hd q => ((Heap.SameBut.update s2.heap c _).2 d hd).trans q) fc2.1 fc2.2.1 fc2.2.2.2.1 fc2.2.2.2.2.1 fc2.2.2.2.2.2, sm.trans sv, fa2, fc2, ((Heap.SameBut.update s2.heap c _).2 a hca.symm).trans na2, nc3, L2.Vals.append rw1 (.cons ru .nil), ?_⟩
    rw [List.take_add_one, hkz]
    exact DpAll.append (DpAll.same sv dw) (.cons dv .nil)
  · rintro s' ⟨H1, ks, ws, e, J, sm, fa1, fc1, na, nc, rw1, dw⟩
    have e3 : (bs.map kf).take (0 + vs.length) = bs.map kf := List.take_of_length_le (by rw [List.length_map]; omega)
    rw [e3] at dw
    refine wpAny_bind (listItems_at nc rfl ?_)
    have er := each_reads J dw rw1
    obtain ⟨G, g1', g2'⟩ := L2.restrict s'.heap fun d => decide (d ≠ c)
    have kG : KeepsBut a G s'.heap := fun d o _ q => by
      by_cases hd : d = c
      · rw [g2' d (decide_eq_false (Classical.not_not.mpr hd))] at q
        cases q
      · rw [g1' d (decide_eq_true hd)] at q
        exact q
    have nG : G.get? c = none := g2' c (decide_eq_false (Classical.not_not.mpr rfl))
    have lk : ks.toArray.size = vs.length := by
      have h1 := rw1.length
      have h2 := DpAll.length dw
      rw [List.length_map] at h2
      rw [List.size_toArray]
      omega
    refine keyH_end (κ := dataKind s'.heap (bs.map kf)) (h₁ := G) kG nG nc na hca.symm.symm (SortsAt.data (s := s') (vs := ks.toArray.toList) (by simpa using er) hal hk (fun d hd => by
      obtain ⟨b, hb1, rfl⟩ := List.mem_map.mp hd
      have := hdp b hb1
      show X.A.units + 1 + 1 + _ < _
      omega)) lk hZ fun h3 tk cc k3 n3 => ?_
    have J4 : Inv X pins σ H1 { s' with heap := h3, toks := tk } := Inv.turnedL (ch := [a, c]) J (fun d o hd q => k3 d o (fun z => hd (by rw [z]; exact List.mem_cons_self ..)) (by rw [g1' d (decide_eq_true fun z => hd (by rw [z]; simp))]; exact q)) (fun d hd => by
      rcases List.mem_cons.mp hd with rfl | hd
      · exact fa1
      · rw [List.mem_singleton.mp hd]
        exact fc1)
    have out := keyedOut_each (rev := false) (vs := vs) (out := sortVals (dataKind s'.heap (bs.map kf)) false ks.toArray.toList vs) kf ⟨s'.heap, ks.toArray.toList, hal, rfl, by simpa using er⟩ rv
    refine h H1 _ sm fa1.1 (Inv.adopt J4 fa1 ⟨?_, _, cc, vals_of out, n3⟩)
    rw [List.length_map, List.length_mergeSort]
    exact hL
end
end R

end Z

set_option Elab.async false
set_option linter.all false
set_option maxRecDepth 100000
set_option maxHeartbeats 4000000

namespace Z
open PySem PySem.Spec PyProof.Rows L2 Z.R
local macro_rules | `(tactic| walk_at "sx") => `(tactic| try simp only [and_assoc, cxOf_K, cxOf_Kn, C8.tCut, rEq, rNe, sc_ii, sc_ss, sc_bb, sc_is, sc_si, sc_bs, sc_sb, tSeq, tAsg, tPar, tPar3, tC, gName, gNil, gCons, gTup, gSub, rSetL, L2.start, tVar, tOp, tUn, rI0, rI, rU, tTest, tChain, tOrV, tAndV, tNotV, tCB, tCons, tNil, tLst, tTup, tIfS, tNext, tRet, tRetN, tDrop, tAnd, tOr, tNot, tB, tIf, tSl, tFld, sFld, putF, tNoPart, tPart, rSlL, tBM, tBM0, rAppend, rPop, rExtend, tCall, tMeth, List.map_cons, List.map_nil, List.replicate, List.length_cons, List.length_nil, List.append, List.cons_append, List.nil_append, List.append_nil, List.getElem?_cons_zero, List.getElem?_cons_succ, List.set_cons_zero, List.set_cons_succ, Option.some.injEq, exists_eq_left', exists_eq_left, exists_eq, exists_and_left, exists_const, wipe, tYes, upd_same, ↓reduceIte, decide_false, decide_true, Bool.not_true, Bool.not_false, Bool.false_eq_true, V.int.injEq, HO.lst.injEq, HO.tup.injEq, V.ref.injEq, V.str.injEq, one_inj, le_a, le_z, le_0, le_9, mem_let, mem_dig, V.bl.injEq, List.cons.injEq, and_true, true_and, reduceCtorEq, false_and, exists_false, or_false, false_or])
open L2
section
variable {X : Cx}
theorem put_set {pins : List (Addr × Obj)} {τ : L2.St} {G G' : Hp} {m : Shared} {F : Value → Shared → Prop} {D : Addr} {y z : V} {ku vu : Value} {Q : Unit → Shared → Prop} (hu : X.A.units + 1 < cLine) (J : Inv X pins τ G m)
    (hp : ∃ kvs k b, G D = some (.dT kvs) ∧ y = .ref b ∧ G b = some (.tup (k.map kV)) ∧ kvs.length < sizeLine ∧ G' = upd G D (.dT (putK kvs k z))) (hk : RelV y ku) (hv : RelV z vu) (done : ∀ m', Inv X pins τ G' m' → Q () m') :
    wpAny (model X.prog X.w) X.A (dictSet D ku vu) Q F m := by
  obtain ⟨kvs, k, b, hD, rfl, hb, few, rfl⟩ := hp
  obtain rfl : ku = Value.ref b := hk
  obtain ⟨lz, ny, xs, pr, dh⟩ := dt_of J.hok hD
  have lx : xs.length ≤ sizeLine := (Paired.length pr) ▸ lz
  have l2 := length_putK kvs k z
  refine wpAny_dictSet_heap (hsz := lx) (show X.A.units < cLine by omega) (key_of J.hok hb) dh fun g' dh' sb => done _ ?_
  obtain ⟨ob, es, ep, ho, d2, d3, d4, _, d5⟩ := dh'
  refine d_write J (by rw [hD]; trivial) sb ⟨ob, ho⟩ ⟨by omega, ny, _, (pr.put k hb hv).keeps fun c ys ec => ?_, ob, es, ep, ho, d2, d3, d4, d5⟩
  rw [upd_ne (ne_of ec hD (by intro q; cases q))]
  exact ec
/-- {k: v for x in walked}, the keys tuples: the new dict at D -/
def tDcT (wi : TI) (g : TG) (tk tv : TE) (own : List Nat) : TE := fun σ H Q => wi σ H fun J H1 => ∀ D, H1 D = none → ∃ W : Nat → Nat → Hp → Prop, (∃ m, W 0 m (upd H1 D (.dT []))) ∧ ∀ i m G, W i m G →
  (J.stop i G ∧ Q (.ref D) G) ∨ (J.go i G ∧ ∃ Go : Hp → Prop, (∀ G', Go G' → ∃ m', m' < m ∧ W (i + 1) m' G') ∧ ∀ x G', J.yld i G x G' → g x (wipe σ own) G' fun τ G2 => wipe τ own = wipe σ own ∧
    tk τ G2 fun y G3 => tv τ G3 fun z G4 => ∃ kvs k b, G4 D = some (.dT kvs) ∧ y = .ref b ∧ G4 b = some (.tup (k.map kV)) ∧ kvs.length < sizeLine ∧ Go (upd G4 D (.dT (putK kvs k z))))
theorem pe_dcT {ke ve tg walked : Expr} {sc : Scope} {own : List (Str × Nat)} {pos : Pos} {wi : TI} {g : TG} {tk tv : TE} (hu : X.A.units + 1 < cLine) (calm : X.calm = true) (nd : X.N.Nodup) (hw : PI X tg walked wi) (bo : BlkOk X.N X.env.scope sc own)
    (hg : ∀ (s : Shared) (H : Hp) (C : Addr) (cl : List (Str × Addr)) (fp : List Addr), PG (X.blk s H sc (compEnvC sc cl C X.env) fp) tg g)
    (hk : ∀ (s : Shared) (H : Hp) (C : Addr) (cl : List (Str × Addr)) (fp : List Addr), PE (X.blk s H sc (compEnvC sc cl C X.env) fp) ke tk)
    (hv : ∀ (s : Shared) (H : Hp) (C : Addr) (cl : List (Str × Addr)) (fp : List Addr), PE (X.blk s H sc (compEnvC sc cl C X.env) fp) ve tv) (hf : ∀ x, foldedSetIterable walked X.env x = pure x := by intro _; rfl) :
    PE X (.DictComp ke ve [⟨tg, walked, [], 0⟩] sc pos) (tDcT wi g tk tv (own.map (·.2))) := by
  refine ⟨fun pins m0 σ H Q I reading => ?_⟩
  rw [arm_eval_DictComp]
  have frees : ∀ y ∈ sc.names, y.2 = .free → ∃ c, X.env.cells.lookup y.1 = some c := fun y hy e => (bo.free y hy e).elim (fun q => I.ok.has _ (.inl q)) fun q => I.ok.has _ (.inr q)
  refine wpAny_comprehension_free (use := Option.none) rfl hf (closure_ok frees) bo.kind (fun y hy e => by rw [bo.uniq y hy, e]) (thn (hw.run pins m0 σ H _ I reading) fun xv m1 told => thn told fun itv m2 said => ?_)
  obtain ⟨it, fp, turnAt, J, G0, rfl, I2, T, at0, free0, turns⟩ := said
  refine wpAny_newObj_type (newEnv_comp ?_)
  obtain ⟨D, hD⟩ : ∃ D, D = m2.heap.objs.size := ⟨_, rfl⟩
  rw [← hD]
  have newD : G0 D = none := I2.hok.fresh (Nat.le_of_eq hD.symm)
  obtain ⟨W, ⟨w0, start⟩, go⟩ := turns D newD
  obtain ⟨m3, hm3⟩ : ∃ m3 : Shared, m3 = { m2 with heap := m2.heap.push { cls := .type "dict", data := .dict #[] } } := ⟨_, rfl⟩
  have hp3 : m3.heap = m2.heap.push { cls := .type "dict", data := .dict #[] } := by rw [hm3]
  have I3 : Inv X pins σ (upd G0 D (.dT [])) m3 := by
    rw [hm3]
    refine I2.laid (t' := m2.toks) (fun b o e => Heap.get?_push_of_some _ e) (Nat.le_of_eq hD.symm) ?_
    rw [hD]
    exact dt_empty m2.heap I2.big
  have below : ∀ b ∈ fp, b < m2.heap.objs.size := fun b hb => let ⟨_, e, _⟩ := T.obj _ _ at0 b hb; Heap.lt_size e
  have free3 : ∀ b ∈ fp, FpOk X pins (upd G0 D (.dT [])) b ∧ b < m3.heap.objs.size := fun b hb => by
    have lt := below b hb
    refine ⟨⟨?_, (free0 b hb).2⟩, by rw [hp3, Heap.size_push]; exact Nat.lt_succ_of_lt lt⟩
    rw [upd_ne (by rw [hD]; exact Nat.ne_of_lt lt)]
    exact (free0 b hb).1
  have at3 : turnAt 0 m3.heap := T.keep _ _ _ at0 fun b _ o e => by rw [hp3]; exact Heap.get?_push_of_some _ e
  have I4 := block_start I3 bo nd free3
  obtain ⟨G3, hG3⟩ : ∃ G3, G3 = upd G0 D (.dT []) := ⟨_, rfl⟩
  rw [← hG3] at I3 I4 free3 start
  obtain ⟨ce, hce⟩ : ∃ ce, ce = compEnvC sc (cellsFrom (m3.heap.objs.size + 1) sc.names (cloFrom X.env.cells sc.names [])) m3.heap.objs.size X.env := ⟨_, rfl⟩
  have pg := hg m3 G3 m3.heap.objs.size (cellsFrom (m3.heap.objs.size + 1) sc.names (cloFrom X.env.cells sc.names [])) fp
  have pk := hk m3 G3 m3.heap.objs.size (cellsFrom (m3.heap.objs.size + 1) sc.names (cloFrom X.env.cells sc.names [])) fp
  have pv := hv m3 G3 m3.heap.objs.size (cellsFrom (m3.heap.objs.size + 1) sc.names (cloFrom X.env.cells sc.names [])) fp
  rw [← hce] at pg pk pv I4
  have ceL : ce.locals = m3.heap.objs.size := by rw [hce]; rfl
  rw [← hm3]
  show codeAny _ _ (.compStart (.DictComp ke ve [⟨tg, walked, [], 0⟩] sc pos) 0 (.ref it) (.ref D) (compEnvC sc (cellsFrom (m3.heap.objs.size + 1) sc.names (cloFrom X.env.cells sc.names [])) m3.heap.objs.size X.env)) (compPost (model X.prog X.w) X.A X.xe Option.none (EP X pins σ Q) (.ref D) m3.heap.objs.size) _
  rw [← hce]
  obtain ⟨m4, hm4⟩ : ∃ m4 : Shared, m4 = { heap := pushCells (m3.heap.push { cls := .type "dict", data := .dict #[] }) sc.names, gens := m3.gens, drawn := m3.drawn, toks := m3.toks, os := m3.os } := ⟨_, rfl⟩
  have at4 : turnAt 0 m4.heap := T.keep _ _ _ at3 fun b _ o e => by
    rw [hm4]
    exact pushCells_keeps _ _ _ _ (Heap.get?_push_of_some _ e)
  rw [← hm4] at I4 ⊢
  have own0 : ∀ b ∈ fp, G3 b = none := fun b hb => (free3 b hb).1.1
  have still : ∀ {τ : L2.St} {G : Hp} {m : Shared}, Inv (X.blk m3 G3 sc ce fp) [] τ G m → (∀ b ∈ fp, G b = none) → ∀ b ∈ fp, FpOk (X.blk m3 G3 sc ce fp) [] G b := fun J' hn b hb =>
    ⟨hn b hb, (J'.ok.exf b hb).1, J'.ok.exfs b hb, Or.inl hb, fun x c e => (J'.ok.exf b hb).2 x c e, fun p hp => absurd (show p ∈ ([] : List (Addr × Obj)) ++ [] from hp) (by simp)⟩
  have whole : codeAny (model X.prog X.w) X.A (.compLoop (.DictComp ke ve [⟨tg, walked, [], 0⟩] sc pos) 0 (.ref it) (.ref D) ce) (compPost (model X.prog X.w) X.A X.xe Option.none (EP X pins σ Q) (.ref D) m3.heap.objs.size) m4 := by
    refine compLoop_anyD (fun n m => ∃ i G, Inv (X.blk m3 G3 sc ce fp) [] (wipe σ (own.map (·.2))) G m ∧ turnAt i m.heap ∧ (∀ b ∈ fp, G b = none) ∧ W i n G) ?_ w0 ⟨0, G3, I4, at4, own0, start⟩
    rintro n m5 ⟨i, G5, I5, at5, n5, w5⟩
    rcases go i n G5 w5 with ⟨stops, fin⟩ | ⟨goes, Go, less, step⟩
    · refine thnF (T.done (X.blk m3 G3 sc ce fp) rfl rfl rfl calm i [] m5 _ G5 (fun _ _ => False) I5 (still I5 n5) at5 stops) fun r m6 ⟨er, I6⟩ => ?_
      subst er
      have I7 : Inv X pins σ G5 m6 := I3.call' (ch := fp) I6.os I6.base I6.hok I6.bare fun b hb => ⟨(free3 b hb).1.2.2.2.1, (free3 b hb).1.2.1, (free3 b hb).1.2.2.2.2.1, (free3 b hb).1.2.2.2.2.2⟩
      have nC : G5 m3.heap.objs.size = none := ceL ▸ I6.free
      obtain ⟨loc, hloc, _⟩ := I6.loc
      have hloc : m6.heap.Ns ce.locals loc := hloc
      rw [ceL] at hloc
      obtain ⟨f0, f1, f2, f3, f4, f5⟩ := I3.fpOk (Nat.le_refl _) nC
      exact ⟨loc, hloc, fun h'' sb => ⟨.ref D, G5, I7.turned (t' := m6.toks) (fun b o hb e => (sb.2 b hb).trans e) f0 f1 f3 f4 f5, rfl, fin⟩⟩
    · refine thnF (T.item (X.blk m3 G3 sc ce fp) rfl rfl rfl calm i [] m5 _ G5 (fun _ _ => False) I5 (still I5 n5) at5 goes) fun r m6 ⟨u, er, told6⟩ => ?_
      subst er
      refine thnF told6 fun _ m7 ⟨x, G7, I7, r7, y7, at7, n7⟩ => ?_
      refine thnF (pg.run _ m7 _ G7 x u _ (I7.pinned (still I7 n7) (T.obj _ _ at7)) r7 (step x G7 y7)) fun _ m8 ⟨τ, G8, I8, hw8, q8⟩ => ?_
      have back : ∀ {m' : Shared} {G' : Hp}, Inv (X.blk m3 G3 sc ce fp) ([] ++ pinsAt fp m7.heap) τ G' m' → Go G' → ∃ k, k < n ∧ ∃ i G, Inv (X.blk m3 G3 sc ce fp) [] (wipe σ (own.map (·.2))) G m' ∧ turnAt i m'.heap ∧ (∀ b ∈ fp, G b = none) ∧ W i k G := fun {m' G'} J' nx => by
        obtain ⟨k, hk', w'⟩ := less G' nx
        have stay : ∀ b ∈ fp, ∀ o, m7.heap.get? b = some o → m'.heap.get? b = some o ∧ G' b = none := fun b hb o e =>
          let z := J'.pin (b, o) (List.mem_append_right _ (List.mem_append_right _ (mem_pinsAt hb e)))
          ⟨z.1, z.2.1⟩
        have len : (wipe σ (own.map (·.2))).length = τ.length := by rw [← hw8, wipe_length]
        refine ⟨k, hk', i + 1, G', (J'.unpinned (pins := [])).weak len (fun j v e => (wipe_some (vs := own.map (·.2)) (by rw [hw8]; exact e)).1), T.keep _ _ _ at7 fun b hb o e => (stay b hb o e).1, fun b hb => ?_, w'⟩
        obtain ⟨o, e, _⟩ := T.obj _ _ at7 b hb
        exact (stay b hb o e).2
      refine wpAny_pure ?_
      refine (if_pos rfl).mpr ?_
      refine thnF (pk.run _ m8 τ G8 _ I8 q8) fun ku m9 ⟨y, G9, I9, ry, q9⟩ => ?_
      refine thnF (pv.run _ m9 τ G9 _ I9 q9) fun vu m10 ⟨z, G10, I10, rz, kvs, k, b, g1, g2, g3, g4, nx⟩ => ?_
      exact put_set (X := X.blk m3 G3 sc ce fp) hu I10 ⟨kvs, k, b, g1, g2, g3, g4, rfl⟩ ry rz fun m11 I11 => back I11 nx
  exact codeAny_compStart_dict whole (T.self X.A 0 _ _ _ at4 whole)
end

end Z

set_option Elab.async false
set_option linter.all false
set_option maxRecDepth 100000
set_option maxHeartbeats 4000000

namespace Z
open PySem PySem.Spec PyProof.Rows L2
local macro_rules | `(tactic| walk_at "sx") => `(tactic| try simp only [and_assoc, cxOf_K, cxOf_Kn, C8.tCut, rEq, rNe, sc_ii, sc_ss, sc_bb, sc_is, sc_si, sc_bs, sc_sb, tSeq, tAsg, tPar, tPar3, tC, gName, gNil, gCons, gTup, gSub, rSetL, L2.start, tVar, tOp, tUn, rI0, rI, rU, tTest, tChain, tOrV, tAndV, tNotV, tCB, tCons, tNil, tLst, tTup, tIfS, tNext, tRet, tRetN, tDrop, tAnd, tOr, tNot, tB, tIf, tSl, tFld, sFld, putF, tNoPart, tPart, rSlL, tBM, tBM0, rAppend, rPop, rExtend, tCall, tMeth, List.map_cons, List.map_nil, List.replicate, List.length_cons, List.length_nil, List.append, List.cons_append, List.nil_append, List.append_nil, List.getElem?_cons_zero, List.getElem?_cons_succ, List.set_cons_zero, List.set_cons_succ, Option.some.injEq, exists_eq_left', exists_eq_left, exists_eq, exists_and_left, exists_const, wipe, tYes, upd_same, ↓reduceIte, decide_false, decide_true, Bool.not_true, Bool.not_false, Bool.false_eq_true, V.int.injEq, HO.lst.injEq, HO.tup.injEq, V.ref.injEq, V.str.injEq, one_inj, le_a, le_z, le_0, le_9, mem_let, mem_dig, V.bl.injEq, List.cons.injEq, and_true, true_and, reduceCtorEq, false_and, exists_false, or_false, false_or])
/-! ### parties and trees as trees of Lean -/
inductive Pt (α : Type) where
  | emp : Pt α
  | deed (a : α) : Pt α
  | nd (r : Bool) (ps : List (Pt α)) : Pt α
namespace Pt
variable {α β : Type}
/-- what holds of the parts holds of the whole -/
theorem ind {P : Pt α → Prop} (h0 : P .emp) (h1 : ∀ a, P (.deed a)) (h2 : ∀ r ps, (∀ p ∈ ps, P p) → P (.nd r ps)) : ∀ p, P p :=
  fun p => Pt.rec (motive_1 := P) (motive_2 := fun ps => ∀ p ∈ ps, P p) h0 h1 (fun r ps ih => h2 r ps ih) (fun _ h => by cases h) (fun p ps hp hps q hq => by
    rcases List.mem_cons.mp hq with rfl | hq
    · exact hp
    · exact hps q hq) p
/-- how many deeds -/
def cnt : Pt α → Nat
  | .emp => 0
  | .deed _ => 1
  | .nd _ ps => (ps.map cnt).sum
def dep : Pt α → Nat
  | .emp => 0
  | .deed _ => 0
  | .nd _ ps => (ps.map dep).foldr Nat.max 0 + 1
/-- the data -/
def enc (f : α → PyData) : Pt α → PyData
  | .emp => .tuple [.str "empty"]
  | .deed a => .tuple [.str "deed", f a]
  | .nd r ps => .tuple [.str (if r then "row" else "beside"), .tuple (ps.map (enc f))]
theorem cnt_nd (r : Bool) (ps : List (Pt α)) : cnt (.nd r ps) = (ps.map cnt).sum := by rw [cnt]
theorem enc_nd (f : α → PyData) (r : Bool) (ps : List (Pt α)) : enc f (.nd r ps) = .tuple [.str (if r then "row" else "beside"), .tuple (ps.map (enc f))] := by rw [enc]
theorem dep_nd (r : Bool) (ps : List (Pt α)) : dep (.nd r ps) = (ps.map dep).foldr Nat.max 0 + 1 := by rw [dep]
theorem le_max : ∀ {xs : List Nat} {x : Nat}, x ∈ xs → x ≤ xs.foldr Nat.max 0
  | y :: ys, x, h => by
    rw [List.foldr_cons]
    rcases List.mem_cons.mp h with rfl | h
    · exact Nat.le_max_left _ _
    · exact Nat.le_trans (le_max h) (Nat.le_max_right _ _)
theorem max_le : ∀ {xs : List Nat} {n : Nat}, (∀ x ∈ xs, x ≤ n) → xs.foldr Nat.max 0 ≤ n
  | [], n, _ => Nat.zero_le n
  | y :: ys, n, h => by
    rw [List.foldr_cons]
    exact Nat.max_le.mpr ⟨h y (List.mem_cons_self ..), max_le fun x hx => h x (List.mem_cons_of_mem _ hx)⟩
theorem dep_mem {r : Bool} {ps : List (Pt α)} {p : Pt α} (h : p ∈ ps) : dep p < dep (.nd r ps) := by
  rw [dep_nd]
  exact Nat.lt_succ_of_le (le_max (List.mem_map.mpr ⟨p, h, rfl⟩))
theorem le_sum : ∀ {xs : List Nat} {x : Nat}, x ∈ xs → x ≤ xs.sum
  | y :: ys, x, h => by
    rw [List.sum_cons]
    rcases List.mem_cons.mp h with rfl | h
    · exact Nat.le_add_right _ _
    · exact Nat.le_trans (le_sum h) (Nat.le_add_left _ _)
theorem cnt_mem {r : Bool} {ps : List (Pt α)} {p : Pt α} (h : p ∈ ps) : cnt p ≤ cnt (.nd r ps) := by
  rw [cnt_nd]
  exact le_sum (List.mem_map.mpr ⟨p, h, rfl⟩)
/-! ### places -/
/-- the parts with the places at which they begin -/
def kids : List (Pt α) → Nat → List (Pt α × Nat)
  | [], _ => []
  | p :: ps, s => (p, s) :: kids ps (s + cnt p)
/-- what stands ahead of what: places told from s on -/
def told : Pt α → Nat → List (Nat × Nat)
  | .emp, _ => []
  | .deed _, _ => []
  | .nd r ps, s => go r ps s s
where go (r : Bool) : List (Pt α) → Nat → Nat → List (Nat × Nat)
  | [], _, _ => []
  | p :: ps, s0, s => told p s ++ ((if r then (List.range' s0 (s - s0)).flatMap fun i => (List.range' s (cnt p)).map fun j => (i, j) else []) ++ go r ps s0 (s + cnt p))
/-- the deeds with their places -/
def plc : Pt α → Nat → Pt (α × Nat)
  | .emp, _ => .emp
  | .deed a, s => .deed (a, s)
  | .nd r ps, s => .nd r (go ps s)
where go : List (Pt α) → Nat → List (Pt (α × Nat))
  | [], _ => []
  | p :: ps, s => plc p s :: go ps (s + cnt p)

theorem told_nd (r : Bool) (ps : List (Pt α)) (s : Nat) : told (.nd r ps) s = told.go r ps s s := by rw [told]
theorem plc_go : ∀ (ps : List (Pt α)) (s : Nat), plc.go ps s = (kids ps s).map fun k => plc k.1 k.2
  | [], s => by rw [plc.go]; rfl
  | p :: ps, s => by rw [plc.go, plc_go ps]; rfl
theorem plc_nd (r : Bool) (ps : List (Pt α)) (s : Nat) : plc (.nd r ps) s = .nd r ((kids ps s).map fun k => plc k.1 k.2) := by rw [plc, plc_go]
theorem kids_mem : ∀ {ps : List (Pt α)} {s : Nat} {k : Pt α × Nat}, k ∈ kids ps s → k.1 ∈ ps ∧ s ≤ k.2 ∧ k.2 + cnt k.1 ≤ s + (ps.map cnt).sum
  | [], s, k, h => by cases h
  | p :: ps, s, k, h => by
    rw [List.map_cons, List.sum_cons]
    rcases List.mem_cons.mp h with rfl | h
    · exact ⟨List.mem_cons_self .., Nat.le_refl _, by show s + cnt p ≤ _; omega⟩
    · obtain ⟨h1, h2, h3⟩ := kids_mem h
      exact ⟨List.mem_cons_of_mem _ h1, by omega, by omega⟩
theorem kids_fst : ∀ (ps : List (Pt α)) (s : Nat), (kids ps s).map (·.1) = ps
  | [], _ => rfl
  | p :: ps, s => by
    show p :: _ = _
    rw [kids_fst ps]
theorem kids_pw : ∀ (ps : List (Pt α)) (s : Nat), (kids ps s).Pairwise fun a b => a.2 + cnt a.1 ≤ b.2
  | [], _ => .nil
  | p :: ps, s => .cons (fun k hk => (kids_mem hk).2.1) (kids_pw ps _)
theorem pw_or {γ : Type} {R : γ → γ → Prop} : ∀ {l : List γ}, l.Pairwise R → ∀ a ∈ l, ∀ b ∈ l, a = b ∨ R a b ∨ R b a
  | [], _, a, h, _, _ => by cases h
  | x :: l, .cons h1 h2, a, ha, b, hb => by
    rcases List.mem_cons.mp ha with e | ha2
    · rcases List.mem_cons.mp hb with e2 | hb2
      · exact .inl (e.trans e2.symm)
      · exact .inr (.inl (e ▸ h1 _ hb2))
    · rcases List.mem_cons.mp hb with e2 | hb2
      · exact .inr (.inr (e2 ▸ h1 _ ha2))
      · exact pw_or h2 a ha2 b hb2
theorem mem_go {r : Bool} : ∀ {ps : List (Pt α)} {s0 s i j : Nat}, s0 ≤ s → ((i, j) ∈ told.go r ps s0 s ↔ (∃ k ∈ kids ps s, (i, j) ∈ told k.1 k.2) ∨ (r = true ∧ ∃ k ∈ kids ps s, s0 ≤ i ∧ i < k.2 ∧ k.2 ≤ j ∧ j < k.2 + cnt k.1))
  | [], s0, s, i, j, _ => by
    rw [told.go]
    simp [kids]
  | p :: ps, s0, s, i, j, h => by
    rw [told.go, List.mem_append, List.mem_append, mem_go (Nat.le_trans h (Nat.le_add_right _ _))]
    simp only [kids, List.mem_cons]
    constructor
    · rintro (h1 | h1 | h1 | ⟨h0, k, hk, h1⟩)
      · exact .inl ⟨_, .inl rfl, h1⟩
      · cases r with
        | false => cases h1
        | true =>
          simp only [if_true, List.mem_flatMap, List.mem_map, List.mem_range'_1, Prod.mk.injEq] at h1
          obtain ⟨a, ha, b, hb, rfl, rfl⟩ := h1
          exact .inr ⟨rfl, _, .inl rfl, ha.1, by show a < s; omega, hb.1, hb.2⟩
      · obtain ⟨k, hk, h1⟩ := h1
        exact .inl ⟨k, .inr hk, h1⟩
      · exact .inr ⟨h0, k, .inr hk, h1⟩
    · rintro (⟨k, hk | hk, h1⟩ | ⟨h0, k, hk | hk, h1⟩)
      · subst hk
        exact .inl h1
      · exact .inr (.inr (.inl ⟨k, hk, h1⟩))
      · subst hk
        refine .inr (.inl ?_)
        rw [h0]
        simp only [if_true, List.mem_flatMap, List.mem_map, List.mem_range'_1, Prod.mk.injEq]
        have h1 : s0 ≤ i ∧ i < s ∧ s ≤ j ∧ j < s + cnt p := h1
        exact ⟨i, ⟨h1.1, by omega⟩, j, ⟨h1.2.2.1, h1.2.2.2⟩, rfl, rfl⟩
      · exact .inr (.inr (.inr ⟨h0, k, hk, h1⟩))
theorem mem_nd {r : Bool} {ps : List (Pt α)} {s i j : Nat} : (i, j) ∈ told (.nd r ps) s ↔ (∃ k ∈ kids ps s, (i, j) ∈ told k.1 k.2) ∨ (r = true ∧ ∃ k ∈ kids ps s, s ≤ i ∧ i < k.2 ∧ k.2 ≤ j ∧ j < k.2 + cnt k.1) := by
  rw [told_nd]
  exact mem_go (Nat.le_refl _)
theorem told_lt : ∀ (p : Pt α) (s i j : Nat), (i, j) ∈ told p s → s ≤ i ∧ i < j ∧ j < s + cnt p := by
  refine ind (fun s i j h => ?_) (fun a s i j h => ?_) fun r ps ih s i j h => ?_
  · rw [told] at h
    cases h
  · rw [told] at h
    cases h
  · rw [cnt_nd]
    rcases mem_nd.mp h with ⟨k, hk, h1⟩ | ⟨_, k, hk, h1⟩
    · obtain ⟨q1, q2, q3⟩ := kids_mem hk
      have := ih _ q1 _ _ _ h1
      omega
    · obtain ⟨q1, q2, q3⟩ := kids_mem hk
      omega
/-- within one part -/
theorem mem_kid {r : Bool} {ps : List (Pt α)} {s i j : Nat} {k : Pt α × Nat} (hk : k ∈ kids ps s) (hi : k.2 ≤ i) (hj : j < k.2 + cnt k.1) (hij : i < j) : (i, j) ∈ told (.nd r ps) s ↔ (i, j) ∈ told k.1 k.2 := by
  rw [mem_nd]
  refine ⟨fun h => ?_, fun h => .inl ⟨k, hk, h⟩⟩
  rcases h with ⟨k', hk', h1⟩ | ⟨_, k', hk', h1⟩
  · have b := told_lt _ _ _ _ h1
    rcases pw_or (kids_pw ps s) k hk k' hk' with rfl | h | h
    · exact h1
    · omega
    · omega
  · rcases pw_or (kids_pw ps s) k hk k' hk' with rfl | h | h
    · omega
    · omega
    · omega
/-- in two parts -/
theorem mem_two {r : Bool} {ps : List (Pt α)} {s i j : Nat} {k k' : Pt α × Nat} (hk : k ∈ kids ps s) (hk' : k' ∈ kids ps s) (hb : k.2 + cnt k.1 ≤ k'.2) (hi : k.2 ≤ i) (hi2 : i < k.2 + cnt k.1) (hj : k'.2 ≤ j) (hj2 : j < k'.2 + cnt k'.1) : (i, j) ∈ told (.nd r ps) s ↔ r = true := by
  rw [mem_nd]
  refine ⟨fun h => ?_, fun h => .inr ⟨h, k', hk', by have := (kids_mem hk).2.1; omega, by omega, hj, hj2⟩⟩
  rcases h with ⟨k1, hk1, h1⟩ | ⟨h, _⟩
  · have b := told_lt _ _ _ _ h1
    rcases pw_or (kids_pw ps s) k hk k1 hk1 with rfl | h | h
    · omega
    · rcases pw_or (kids_pw ps s) k' hk' k1 hk1 with rfl | h | h
      · omega
      · omega
      · omega
    · omega
  · exact h
theorem nodup_app {γ : Type} {l m : List γ} (h1 : l.Nodup) (h2 : m.Nodup) (h : ∀ x, x ∈ l → x ∈ m → False) : (l ++ m).Nodup :=
  List.nodup_append.mpr ⟨h1, h2, fun x hx y hy e => h x hx (e ▸ hy)⟩
theorem nodup_cross : ∀ (xs ys : List Nat), xs.Nodup → ys.Nodup → (xs.flatMap fun i => ys.map fun j => (i, j)).Nodup
  | [], _, _, _ => .nil
  | x :: xs, ys, .cons h1 h2, h => by
    rw [List.flatMap_cons]
    refine nodup_app ?_ (nodup_cross xs ys h2 h) fun z hz hz2 => ?_
    · exact List.Pairwise.map _ (fun a b n e => n (Prod.mk.inj e).2) h
    · obtain ⟨b, _, rfl⟩ := List.mem_map.mp hz
      simp only [List.mem_flatMap, List.mem_map, Prod.mk.injEq] at hz2
      obtain ⟨a, ha, _, _, rfl, _⟩ := hz2
      exact h1 _ ha rfl
theorem go_nodup {r : Bool} : ∀ {ps : List (Pt α)} {s0 s : Nat}, s0 ≤ s → (∀ p ∈ ps, ∀ s, (told p s).Nodup) → (told.go r ps s0 s).Nodup
  | [], _, _, _, _ => by
    rw [told.go]
    exact .nil
  | p :: ps, s0, s, h, ih => by
    rw [told.go]
    refine nodup_app (ih p (List.mem_cons_self ..) s) (nodup_app ?_ (go_nodup (Nat.le_trans h (Nat.le_add_right _ _)) fun p hp => ih p (List.mem_cons_of_mem _ hp)) ?_) ?_
    · cases r with
      | false => exact .nil
      | true => exact nodup_cross _ _ List.nodup_range' List.nodup_range'
    · rintro ⟨i, j⟩ h1 h2
      cases r with
      | false => cases h1
      | true =>
        simp only [if_true, List.mem_flatMap, List.mem_map, List.mem_range'_1, Prod.mk.injEq] at h1
        obtain ⟨a, ha, b, hb, rfl, rfl⟩ := h1
        rcases (mem_go (Nat.le_trans h (Nat.le_add_right _ _))).mp h2 with ⟨k, hk, h1⟩ | ⟨_, k, hk, h1⟩
        · have := told_lt _ _ _ _ h1
          have := (kids_mem hk).2.1
          omega
        · have := (kids_mem hk).2.1
          omega
    · rintro ⟨i, j⟩ h1 h2
      have b := told_lt _ _ _ _ h1
      rcases List.mem_append.mp h2 with h2 | h2
      · cases r with
        | false => cases h2
        | true =>
          simp only [if_true, List.mem_flatMap, List.mem_map, List.mem_range'_1, Prod.mk.injEq] at h2
          obtain ⟨a, ha, c, hc, rfl, rfl⟩ := h2
          omega
      · rcases (mem_go (Nat.le_trans h (Nat.le_add_right _ _))).mp h2 with ⟨k, hk, h1⟩ | ⟨_, k, hk, h1⟩
        · have := told_lt _ _ _ _ h1
          have := (kids_mem hk).2.1
          omega
        · have := (kids_mem hk).2.1
          omega
theorem told_nodup : ∀ (p : Pt α) (s : Nat), (told p s).Nodup := by
  refine ind (fun s => ?_) (fun a s => ?_) fun r ps ih s => ?_
  · rw [told]
    exact .nil
  · rw [told]
    exact .nil
  · rw [told_nd]
    exact go_nodup (Nat.le_refl _) ih
def shf (d : Nat) (x : Nat × Nat) : Nat × Nat := (x.1 + d, x.2 + d)
theorem range_shf (d : Nat) : ∀ (n s : Nat), List.range' (s + d) n = (List.range' s n).map (· + d)
  | 0, _ => rfl
  | n + 1, s => by
    rw [List.range'_succ, List.range'_succ, List.map_cons, Nat.add_right_comm, range_shf d n]
theorem go_shf (d : Nat) {r : Bool} : ∀ {ps : List (Pt α)} {s0 s : Nat}, (∀ p ∈ ps, ∀ s, told p (s + d) = (told p s).map (shf d)) → told.go r ps (s0 + d) (s + d) = (told.go r ps s0 s).map (shf d)
  | [], _, _, _ => by
    rw [told.go, told.go]
    rfl
  | p :: ps, s0, s, ih => by
    rw [told.go, told.go, List.map_append, List.map_append, ih p (List.mem_cons_self ..), Nat.add_right_comm, go_shf d fun p hp => ih p (List.mem_cons_of_mem _ hp)]
    congr 2
    cases r with
    | false => rfl
    | true =>
      simp only [if_true]
      rw [show s + d - (s0 + d) = s - s0 by omega, range_shf, range_shf, List.flatMap_map, List.map_flatMap]
      congr 1
      funext i
      rw [List.map_map, List.map_map]
      rfl
theorem told_shf (d : Nat) : ∀ (p : Pt α) (s : Nat), told p (s + d) = (told p s).map (shf d) := by
  refine ind (fun s => ?_) (fun a s => ?_) fun r ps ih s => ?_
  · rw [told, told]
    rfl
  · rw [told, told]
    rfl
  · rw [told_nd, told_nd]
    exact go_shf d ih
end Pt

end Z

set_option Elab.async false
set_option linter.all false
set_option maxRecDepth 100000
set_option maxHeartbeats 4000000

namespace Z
open PySem PySem.Spec PyProof.Rows L2
local macro_rules | `(tactic| walk_at "sx") => `(tactic| try simp only [and_assoc, cxOf_K, cxOf_Kn, C8.tCut, rEq, rNe, sc_ii, sc_ss, sc_bb, sc_is, sc_si, sc_bs, sc_sb, tSeq, tAsg, tPar, tPar3, tC, gName, gNil, gCons, gTup, gSub, rSetL, L2.start, tVar, tOp, tUn, rI0, rI, rU, tTest, tChain, tOrV, tAndV, tNotV, tCB, tCons, tNil, tLst, tTup, tIfS, tNext, tRet, tRetN, tDrop, tAnd, tOr, tNot, tB, tIf, tSl, tFld, sFld, putF, tNoPart, tPart, rSlL, tBM, tBM0, rAppend, rPop, rExtend, tCall, tMeth, List.map_cons, List.map_nil, List.replicate, List.length_cons, List.length_nil, List.append, List.cons_append, List.nil_append, List.append_nil, List.getElem?_cons_zero, List.getElem?_cons_succ, List.set_cons_zero, List.set_cons_succ, Option.some.injEq, exists_eq_left', exists_eq_left, exists_eq, exists_and_left, exists_const, wipe, tYes, upd_same, ↓reduceIte, decide_false, decide_true, Bool.not_true, Bool.not_false, Bool.false_eq_true, V.int.injEq, HO.lst.injEq, HO.tup.injEq, V.ref.injEq, V.str.injEq, one_inj, le_a, le_z, le_0, le_9, mem_let, mem_dig, V.bl.injEq, List.cons.injEq, and_true, true_and, reduceCtorEq, false_and, exists_false, or_false, false_or])
/-! ### chains and loose places -/
namespace Pt
variable {α β : Type}
def mrg : List (List Nat) → List (List Nat) → List (List Nat)
  | [], cs => cs
  | f :: fs, [] => f :: fs
  | f :: fs, c :: cs => (f ++ c) :: mrg fs cs
def chains : Pt (β × Nat) → List (List Nat)
  | .emp => []
  | .deed a => [[a.2]]
  | .nd r ps => if r then (ps.map chains).foldl mrg [] else (ps.map chains).flatten
/-- the first of the greatest ones -/
def fmax {γ : Type} (f : γ → Nat) (l : List γ) : Option γ := (l.filter fun x => f x == (l.map f).foldr Nat.max 0).head?
def widest : Pt (β × Nat) → List Nat
  | .emp => []
  | .deed a => [a.2]
  | .nd r ps => if r then (fmax List.length (ps.map widest)).getD [] else (ps.map widest).flatten
theorem chains_nd (r : Bool) (ps : List (Pt (β × Nat))) : chains (.nd r ps) = if r then (ps.map chains).foldl mrg [] else (ps.map chains).flatten := by rw [chains]
theorem widest_nd (r : Bool) (ps : List (Pt (β × Nat))) : widest (.nd r ps) = if r then (fmax List.length (ps.map widest)).getD [] else (ps.map widest).flatten := by rw [widest]
theorem max_mem : ∀ {xs : List Nat}, xs ≠ [] → xs.foldr Nat.max 0 ∈ xs
  | [], h => absurd rfl h
  | [x], _ => by
    show Nat.max x 0 ∈ [x]
    rw [show Nat.max x 0 = x from Nat.max_zero x]
    exact List.mem_singleton_self x
  | x :: y :: ys, _ => by
    rw [List.foldr_cons]
    have h := max_mem (xs := y :: ys) (List.cons_ne_nil _ _)
    by_cases c : x ≤ (y :: ys).foldr Nat.max 0
    · rw [show Nat.max x _ = _ from Nat.max_eq_right c]
      exact List.mem_cons_of_mem _ h
    · rw [show Nat.max x _ = x from Nat.max_eq_left (by omega)]
      exact List.mem_cons_self ..
theorem fmax_some {γ : Type} {f : γ → Nat} {l : List γ} (h : l ≠ []) : ∃ x, fmax f l = some x ∧ x ∈ l ∧ f x = (l.map f).foldr Nat.max 0 := by
  have hm := max_mem (xs := l.map f) (by simpa using h)
  obtain ⟨y, hy, e⟩ := List.mem_map.mp hm
  unfold fmax
  cases q : (l.filter fun x => f x == (l.map f).foldr Nat.max 0) with
  | nil =>
    have : y ∈ l.filter fun x => f x == (l.map f).foldr Nat.max 0 := List.mem_filter.mpr ⟨hy, by rw [e]; exact beq_self_eq_true _⟩
    rw [q] at this
    cases this
  | cons x r =>
    have : x ∈ l.filter fun x => f x == (l.map f).foldr Nat.max 0 := by
      rw [q]
      exact List.mem_cons_self ..
    obtain ⟨h1, h2⟩ := List.mem_filter.mp this
    exact ⟨x, rfl, h1, eq_of_beq h2⟩
theorem mrg_len : ∀ f c : List (List Nat), (mrg f c).length = Nat.max f.length c.length
  | [], cs => by
    rw [mrg]
    exact (Nat.max_eq_right (Nat.zero_le _)).symm
  | f :: fs, [] => by
    rw [mrg]
    exact (Nat.max_eq_left (Nat.zero_le _)).symm
  | f :: fs, c :: cs => by
    rw [mrg, List.length_cons, mrg_len, List.length_cons, List.length_cons]
    show Nat.max _ _ + 1 = _
    exact (Nat.succ_max_succ _ _).symm
theorem mrg_perm : ∀ f c : List (List Nat), (mrg f c).flatten.Perm (f.flatten ++ c.flatten)
  | [], cs => by
    rw [mrg]
    exact .refl _
  | f :: fs, [] => by
    rw [mrg, List.flatten_nil, List.append_nil]
  | f :: fs, c :: cs => by
    rw [mrg, List.flatten_cons, List.flatten_cons, List.flatten_cons, List.append_assoc, List.append_assoc]
    refine List.Perm.append_left f ?_
    refine ((mrg_perm fs cs).append_left c).trans ?_
    rw [← List.append_assoc, ← List.append_assoc]
    exact List.Perm.append_right _ List.perm_append_comm
theorem mrg_mem : ∀ {f c : List (List Nat)} {x : List Nat}, x ∈ mrg f c → ∃ a b, x = a ++ b ∧ (a = [] ∨ a ∈ f) ∧ (b = [] ∨ b ∈ c) ∧ (a ∈ f ∨ b ∈ c)
  | [], cs, x, h => by
    rw [mrg] at h
    exact ⟨[], x, rfl, .inl rfl, .inr h, .inr h⟩
  | f :: fs, [], x, h => by
    rw [mrg] at h
    exact ⟨x, [], (List.append_nil x).symm, .inr h, .inl rfl, .inl h⟩
  | f :: fs, c :: cs, x, h => by
    rw [mrg] at h
    rcases List.mem_cons.mp h with rfl | h
    · exact ⟨f, c, rfl, .inr (List.mem_cons_self ..), .inr (List.mem_cons_self ..), .inl (List.mem_cons_self ..)⟩
    · obtain ⟨a, b, e, h1, h2, h3⟩ := mrg_mem h
      exact ⟨a, b, e, h1.imp id (List.mem_cons_of_mem _), h2.imp id (List.mem_cons_of_mem _), h3.imp (List.mem_cons_of_mem _) (List.mem_cons_of_mem _)⟩
/-- what is shown of the chains and the loose places of a party -/
structure Chs (p : Pt α) (s : Nat) : Prop where
  perm : (chains (plc p s)).flatten.Perm (List.range' s (cnt p))
  pw : ∀ c ∈ chains (plc p s), c ≠ [] ∧ c.Pairwise fun i j => (i, j) ∈ told p s
  wpw : (widest (plc p s)).Pairwise fun i j => i < j ∧ (i, j) ∉ told p s
  win : ∀ i ∈ widest (plc p s), s ≤ i ∧ i < s + cnt p
  len : (chains (plc p s)).length = (widest (plc p s)).length
theorem chs_mem {p : Pt α} {s i : Nat} (h : Chs p s) {c : List Nat} (hc : c ∈ chains (plc p s)) (hi : i ∈ c) : s ≤ i ∧ i < s + cnt p := by
  have := h.perm.mem_iff.mp (List.mem_flatten.mpr ⟨c, hc, hi⟩)
  exact List.mem_range'_1.mp this
theorem kids_range : ∀ (ps : List (Pt α)) (s : Nat), ((kids ps s).map fun k => List.range' k.2 (cnt k.1)).flatten = List.range' s (ps.map cnt).sum
  | [], _ => rfl
  | p :: ps, s => by
    show List.range' s (cnt p) ++ _ = _
    rw [kids_range ps, List.map_cons, List.sum_cons, List.range'_append_1]
theorem perm_flat {γ δ : Type} {f g : γ → List δ} : ∀ {l : List γ}, (∀ x ∈ l, (f x).Perm (g x)) → (l.map f).flatten.Perm (l.map g).flatten
  | [], _ => .refl _
  | x :: l, h => by
    rw [List.map_cons, List.map_cons, List.flatten_cons, List.flatten_cons]
    exact (h x (List.mem_cons_self ..)).append (perm_flat fun y hy => h y (List.mem_cons_of_mem _ hy))
theorem flat2 {γ δ : Type} (f : γ → List (List δ)) : ∀ l : List γ, ((l.map f).flatten).flatten = (l.map fun x => (f x).flatten).flatten
  | [] => rfl
  | x :: l => by
    rw [List.map_cons, List.flatten_cons, List.flatten_append, flat2 f l]
    rfl
theorem len_flat {γ δ ε : Type} (f : γ → List δ) (g : γ → List ε) : ∀ {l : List γ}, (∀ x ∈ l, (f x).length = (g x).length) → (l.map f).flatten.length = (l.map g).flatten.length
  | [], _ => rfl
  | x :: l, h => by
    rw [List.map_cons, List.map_cons, List.flatten_cons, List.flatten_cons, List.length_append, List.length_append, h x (List.mem_cons_self ..), len_flat f g fun y hy => h y (List.mem_cons_of_mem _ hy)]
theorem bes_chs {ps : List (Pt α)} {s : Nat} (ih : ∀ p ∈ ps, ∀ s, Chs p s) : Chs (.nd false ps) s := by
  have hk : ∀ k ∈ kids ps s, Chs k.1 k.2 := fun k h => ih _ (kids_mem h).1 _
  have ec : chains (plc (.nd false ps) s) = ((kids ps s).map fun k => chains (plc k.1 k.2)).flatten := by
    rw [plc_nd, chains_nd, if_neg Bool.false_ne_true, List.map_map]
    rfl
  have ew : widest (plc (.nd false ps) s) = ((kids ps s).map fun k => widest (plc k.1 k.2)).flatten := by
    rw [plc_nd, widest_nd, if_neg Bool.false_ne_true, List.map_map]
    rfl
  refine ⟨?_, ?_, ?_, ?_, ?_⟩
  · rw [ec, flat2, cnt_nd, ← kids_range]
    exact perm_flat fun k h => (hk k h).perm
  · intro c hc
    rw [ec] at hc
    obtain ⟨l, hl, hc⟩ := List.mem_flatten.mp hc
    obtain ⟨k, h, rfl⟩ := List.mem_map.mp hl
    exact ⟨((hk k h).pw c hc).1, ((hk k h).pw c hc).2.imp fun q => mem_nd.mpr (.inl ⟨k, h, q⟩)⟩
  · rw [ew, List.pairwise_flatten]
    refine ⟨?_, ?_⟩
    · intro l hl
      obtain ⟨k, h, rfl⟩ := List.mem_map.mp hl
      refine List.Pairwise.imp_of_mem (fun {i j} hi hj q => ⟨q.1, fun z => q.2 ?_⟩) (hk k h).wpw
      have b1 := (hk k h).win i hi
      have b2 := (hk k h).win j hj
      exact (mem_kid h b1.1 b2.2 q.1).mp z
    · rw [List.pairwise_map]
      refine List.Pairwise.imp_of_mem (fun {k k'} h h' q i hi j hj => ?_) (kids_pw ps s)
      have b1 := (hk k h).win i hi
      have b2 := (hk k' h').win j hj
      refine ⟨by omega, fun z => ?_⟩
      exact Bool.false_ne_true ((mem_two h h' q b1.1 b1.2 b2.1 b2.2).mp z)
  · intro i hi
    rw [ew] at hi
    obtain ⟨l, hl, hi⟩ := List.mem_flatten.mp hi
    obtain ⟨k, h, rfl⟩ := List.mem_map.mp hl
    have b := (hk k h).win i hi
    have := kids_mem h
    rw [cnt_nd]
    omega
  · rw [ec, ew]
    exact len_flat _ _ fun k h => (hk k h).len
/-- the chains of a row, from some part on -/
theorem row_go {R : Nat → Nat → Prop} {s0 : Nat} : ∀ {ps : List (Pt α)} {s : Nat} {f : List (List Nat)}, s0 ≤ s → f.flatten.Perm (List.range' s0 (s - s0)) → (∀ c ∈ f, c ≠ [] ∧ c.Pairwise R) → (∀ k ∈ kids ps s, Chs k.1 k.2 ∧ (∀ i j, (i, j) ∈ told k.1 k.2 → R i j) ∧ ∀ i j, s0 ≤ i → i < k.2 → k.2 ≤ j → j < k.2 + cnt k.1 → R i j) →
    (((kids ps s).map fun k => chains (plc k.1 k.2)).foldl mrg f).flatten.Perm (List.range' s0 (s + (ps.map cnt).sum - s0)) ∧ (∀ c ∈ ((kids ps s).map fun k => chains (plc k.1 k.2)).foldl mrg f, c ≠ [] ∧ c.Pairwise R) ∧
    (((kids ps s).map fun k => chains (plc k.1 k.2)).foldl mrg f).length = Nat.max f.length (((kids ps s).map fun k => (widest (plc k.1 k.2)).length).foldr Nat.max 0)
  | [], s, f, hs, hf, hr, _ => ⟨hf, hr, (Nat.max_zero _).symm⟩
  | p :: ps, s, f, hs, hf, hr, hk => by
    obtain ⟨c1, c2, c3⟩ := hk (p, s) (List.mem_cons_self ..)
    have c1 : Chs p s := c1
    have hin : ∀ a ∈ f, ∀ i ∈ a, s0 ≤ i ∧ i < s := fun a ha i hi => by
      have := List.mem_range'_1.mp (hf.mem_iff.mp (List.mem_flatten.mpr ⟨a, ha, hi⟩))
      omega
    have step := row_go (R := R) (s0 := s0) (ps := ps) (s := s + cnt p) (f := mrg f (chains (plc p s))) (by omega) ?_ ?_ fun k h => hk k (List.mem_cons_of_mem _ h)
    · obtain ⟨g1, g2, g3⟩ := step
      refine ⟨?_, g2, ?_⟩
      · rw [List.map_cons (f := cnt), List.sum_cons, ← Nat.add_assoc]
        exact g1
      · refine g3.trans ?_
        rw [mrg_len, c1.len]
        show _ = Nat.max f.length (Nat.max _ _)
        exact Nat.max_assoc _ _ _
    · refine (mrg_perm _ _).trans ((hf.append c1.perm).trans ?_)
      rw [show s + cnt p - s0 = (s - s0) + cnt p by omega, show List.range' s (cnt p) = List.range' (s0 + (s - s0)) (cnt p) by rw [show s0 + (s - s0) = s by omega], List.range'_append_1]
    · intro c hc
      obtain ⟨a, b, rfl, ha, hb, hab⟩ := mrg_mem hc
      refine ⟨fun e => ?_, List.pairwise_append.mpr ⟨?_, ?_, ?_⟩⟩
      · obtain ⟨e1, e2⟩ := List.append_eq_nil_iff.mp e
        rcases hab with h | h
        · exact (hr a h).1 e1
        · exact (c1.pw b h).1 e2
      · rcases ha with rfl | h
        · exact .nil
        · exact (hr a h).2
      · rcases hb with rfl | h
        · exact .nil
        · exact (c1.pw b h).2.imp (c2 _ _)
      · intro i hi j hj
        rcases ha with rfl | h
        · cases hi
        rcases hb with rfl | h2
        · cases hj
        have b1 := hin a h i hi
        have b2 := chs_mem c1 h2 hj
        exact c3 i j b1.1 b1.2 b2.1 b2.2
theorem row_chs {ps : List (Pt α)} {s : Nat} (ih : ∀ p ∈ ps, ∀ s, Chs p s) : Chs (.nd true ps) s := by
  have hk : ∀ k ∈ kids ps s, Chs k.1 k.2 := fun k h => ih _ (kids_mem h).1 _
  have ec : chains (plc (.nd true ps) s) = ((kids ps s).map fun k => chains (plc k.1 k.2)).foldl mrg [] := by
    rw [plc_nd, chains_nd, if_pos rfl, List.map_map]
    rfl
  have ew : widest (plc (.nd true ps) s) = (fmax List.length ((kids ps s).map fun k => widest (plc k.1 k.2))).getD [] := by
    rw [plc_nd, widest_nd, if_pos rfl, List.map_map]
    rfl
  obtain ⟨g1, g2, g3⟩ := row_go (R := fun i j => (i, j) ∈ told (.nd true ps) s) (s0 := s) (ps := ps) (s := s) (f := []) (Nat.le_refl _) (by rw [Nat.sub_self]; exact .refl _) (fun c h => by cases h) fun k h =>
    ⟨hk k h, fun i j q => mem_nd.mpr (.inl ⟨k, h, q⟩), fun i j a b c d => mem_nd.mpr (.inr ⟨rfl, k, h, a, b, c, d⟩)⟩
  have hw : widest (plc (.nd true ps) s) = [] ∨ ∃ k ∈ kids ps s, widest (plc (.nd true ps) s) = widest (plc k.1 k.2) := by
    rw [ew]
    by_cases e : ((kids ps s).map fun k => widest (plc k.1 k.2)) = []
    · rw [e]
      exact .inl rfl
    · obtain ⟨x, e1, e2, _⟩ := fmax_some (f := List.length) e
      rw [e1]
      obtain ⟨k, h, rfl⟩ := List.mem_map.mp e2
      exact .inr ⟨k, h, rfl⟩
  refine ⟨?_, ?_, ?_, ?_, ?_⟩
  · rw [ec, cnt_nd]
    rw [Nat.add_sub_cancel_left] at g1
    exact g1
  · rw [ec]
    exact g2
  · rcases hw with e | ⟨k, h, e⟩
    · rw [e]
      exact .nil
    · rw [e]
      refine List.Pairwise.imp_of_mem (fun {i j} hi hj q => ⟨q.1, fun z => q.2 ?_⟩) (hk k h).wpw
      have b1 := (hk k h).win i hi
      have b2 := (hk k h).win j hj
      exact (mem_kid h b1.1 b2.2 q.1).mp z
  · rcases hw with e | ⟨k, h, e⟩
    · rw [e]
      exact fun i hi => by cases hi
    · rw [e]
      intro i hi
      have b := (hk k h).win i hi
      have := kids_mem h
      rw [cnt_nd]
      omega
  · rw [ec, g3, ew]
    show Nat.max 0 _ = _
    rw [show ∀ x, Nat.max 0 x = x from Nat.zero_max]
    by_cases e : ((kids ps s).map fun k => widest (plc k.1 k.2)) = []
    · rw [e]
      have : kids ps s = [] := by simpa using e
      rw [this]
      rfl
    · obtain ⟨x, e1, e2, e3⟩ := fmax_some (f := List.length) e
      rw [e1]
      show _ = x.length
      rw [e3, List.map_map]
      rfl
theorem chs : ∀ (p : Pt α) (s : Nat), Chs p s := by
  refine ind (fun s => ?_) (fun a s => ?_) fun r ps ih s => ?_
  · refine ⟨?_, ?_, ?_, ?_, ?_⟩ <;> rw [plc]
    · rw [chains, cnt]
      exact .refl _
    · intro c h
      rw [chains] at h
      cases h
    · rw [widest]
      exact .nil
    · intro c h
      rw [widest] at h
      cases h
    · rw [chains, widest]
      rfl
  · refine ⟨?_, ?_, ?_, ?_, ?_⟩ <;> rw [plc]
    · rw [chains, cnt]
      exact .refl _
    · intro c h
      rw [chains] at h
      rw [List.mem_singleton.mp h]
      exact ⟨List.cons_ne_nil _ _, List.pairwise_singleton _ _⟩
    · rw [widest]
      exact List.pairwise_singleton _ _
    · intro i h
      rw [widest] at h
      rw [List.mem_singleton.mp h, cnt]
      exact ⟨Nat.le_refl _, Nat.lt_succ_self _⟩
    · rw [chains, widest]
      rfl
  · cases r with
    | true => exact row_chs ih
    | false => exact bes_chs ih
end Pt

end Z

set_option Elab.async false
set_option linter.all false
set_option maxRecDepth 100000
set_option maxHeartbeats 4000000

namespace Z
open PySem PySem.Spec PyProof.Rows L2
local macro_rules | `(tactic| walk_at "sx") => `(tactic| try simp only [and_assoc, cxOf_K, cxOf_Kn, C8.tCut, rEq, rNe, sc_ii, sc_ss, sc_bb, sc_is, sc_si, sc_bs, sc_sb, tSeq, tAsg, tPar, tPar3, tC, gName, gNil, gCons, gTup, gSub, rSetL, L2.start, tVar, tOp, tUn, rI0, rI, rU, tTest, tChain, tOrV, tAndV, tNotV, tCB, tCons, tNil, tLst, tTup, tIfS, tNext, tRet, tRetN, tDrop, tAnd, tOr, tNot, tB, tIf, tSl, tFld, sFld, putF, tNoPart, tPart, rSlL, tBM, tBM0, rAppend, rPop, rExtend, tCall, tMeth, List.map_cons, List.map_nil, List.replicate, List.length_cons, List.length_nil, List.append, List.cons_append, List.nil_append, List.append_nil, List.getElem?_cons_zero, List.getElem?_cons_succ, List.set_cons_zero, List.set_cons_succ, Option.some.injEq, exists_eq_left', exists_eq_left, exists_eq, exists_and_left, exists_const, wipe, tYes, upd_same, ↓reduceIte, decide_false, decide_true, Bool.not_true, Bool.not_false, Bool.false_eq_true, V.int.injEq, HO.lst.injEq, HO.tup.injEq, V.ref.injEq, V.str.injEq, one_inj, le_a, le_z, le_0, le_9, mem_let, mem_dig, V.bl.injEq, List.cons.injEq, and_true, true_and, reduceCtorEq, false_and, exists_false, or_false, false_or])
/-! ### times and levels -/
namespace Pt
variable {α β : Type}
def bare : Pt (α × Nat) → Pt α
  | .emp => .emp
  | .deed a => .deed a.1
  | .nd r ps => .nd r (ps.map bare)
theorem bare_nd (r : Bool) (ps : List (Pt (α × Nat))) : bare (.nd r ps) = .nd r (ps.map bare) := by rw [bare]
theorem bare_plc : ∀ (p : Pt α) (s : Nat), bare (plc p s) = p := by
  refine ind (fun s => ?_) (fun a s => ?_) fun r ps ih s => ?_
  · rw [plc, bare]
  · rw [plc, bare]
  · rw [plc_nd, bare_nd, List.map_map]
    congr 1
    have : (kids ps s).map (bare ∘ fun k => plc k.1 k.2) = (kids ps s).map (·.1) := List.map_congr_left fun k hk => ih _ (kids_mem hk).1 _
    rw [this, kids_fst]
def time (tb : α → Nat) : Pt α → Nat
  | .emp => 0
  | .deed a => tb a
  | .nd r ps => if r then (ps.map (time tb)).sum else (ps.map (time tb)).foldr Nat.max 0
theorem time_nd (tb : α → Nat) (r : Bool) (ps : List (Pt α)) : time tb (.nd r ps) = if r then (ps.map (time tb)).sum else (ps.map (time tb)).foldr Nat.max 0 := by rw [time]
def starts (tb : α → Nat) : Pt (α × Nat) → Nat → List (Nat × Nat)
  | .emp, _ => []
  | .deed a, st => [(a.2, st)]
  | .nd r ps, st => go tb r ps st
where go (tb : α → Nat) (r : Bool) : List (Pt (α × Nat)) → Nat → List (Nat × Nat)
  | [], _ => []
  | p :: ps, st => starts tb p st ++ go tb r ps (st + if r then time tb (bare p) else 0)
theorem starts_nd (tb : α → Nat) (r : Bool) (ps : List (Pt (α × Nat))) (st : Nat) : starts tb (.nd r ps) st = starts.go tb r ps st := by rw [starts]
def longest (tb : α → Nat) : Pt (α × Nat) → List Nat
  | .emp => []
  | .deed a => [a.2]
  | .nd r ps => if r then (ps.map (longest tb)).flatten else ((fmax (fun x : Nat × List Nat => x.1) (ps.map fun p => (time tb (bare p), longest tb p))).getD (0, [])).2
theorem longest_nd (tb : α → Nat) (r : Bool) (ps : List (Pt (α × Nat))) : longest tb (.nd r ps) = if r then (ps.map (longest tb)).flatten else ((fmax (fun x : Nat × List Nat => x.1) (ps.map fun p => (time tb (bare p), longest tb p))).getD (0, [])).2 := by rw [longest]
/-- parts, their places, their begins -/
def stk (tb : α → Nat) (r : Bool) : List (Pt α) → Nat → Nat → List (Pt α × Nat × Nat)
  | [], _, _ => []
  | p :: ps, s, st => (p, s, st) :: stk tb r ps (s + cnt p) (st + if r then time tb p else 0)
theorem stk_kids (tb : α → Nat) (r : Bool) : ∀ (ps : List (Pt α)) (s st : Nat), (stk tb r ps s st).map (fun k => (k.1, k.2.1)) = kids ps s
  | [], _, _ => rfl
  | p :: ps, s, st => by
    show (p, s) :: _ = _
    rw [stk_kids tb r ps]
    rfl
theorem stk_starts (tb : α → Nat) (r : Bool) : ∀ (ps : List (Pt α)) (s st : Nat), starts.go tb r ((kids ps s).map fun k => plc k.1 k.2) st = ((stk tb r ps s st).map fun k => starts tb (plc k.1 k.2.1) k.2.2).flatten
  | [], s, st => by
    show starts.go tb r [] st = _
    rw [starts.go]
    rfl
  | p :: ps, s, st => by
    show starts.go tb r (plc p s :: (kids ps (s + cnt p)).map fun k => plc k.1 k.2) st = _
    rw [starts.go, bare_plc, stk_starts tb r ps]
    rfl
theorem stk_mem {tb : α → Nat} {r : Bool} : ∀ {ps : List (Pt α)} {s st : Nat} {k : Pt α × Nat × Nat}, k ∈ stk tb r ps s st → (k.1, k.2.1) ∈ kids ps s ∧ st ≤ k.2.2 ∧ (r = true → k.2.2 + time tb k.1 ≤ st + (ps.map (time tb)).sum) ∧ (r = false → k.2.2 = st)
  | [], _, _, _, h => by cases h
  | p :: ps, s, st, k, h => by
    rw [List.map_cons, List.sum_cons]
    rcases List.mem_cons.mp h with rfl | h
    · exact ⟨List.mem_cons_self .., Nat.le_refl _, fun _ => by show st + time tb p ≤ _; omega, fun _ => rfl⟩
    · obtain ⟨h1, h2, h3, h4⟩ := stk_mem h
      refine ⟨List.mem_cons_of_mem _ h1, by omega, fun e => ?_, fun e => ?_⟩
      · have := h3 e
        rw [if_pos e] at this
        omega
      · rw [h4 e, if_neg (by rw [e]; exact Bool.false_ne_true)]
        rfl
theorem stk_pw {tb : α → Nat} : ∀ {ps : List (Pt α)} {s st : Nat}, (stk tb true ps s st).Pairwise fun a b => a.2.1 + cnt a.1 ≤ b.2.1 ∧ a.2.2 + time tb a.1 ≤ b.2.2
  | [], _, _ => .nil
  | p :: ps, s, st => .cons (fun k hk => by
      obtain ⟨h1, h2, _⟩ := stk_mem hk
      exact ⟨(kids_mem h1).2.1, h2⟩) stk_pw
theorem stk_sur {tb : α → Nat} : ∀ {ps : List (Pt α)} {s st l : Nat}, st ≤ l → l < st + (ps.map (time tb)).sum → ∃ k ∈ stk tb true ps s st, k.2.2 ≤ l ∧ l < k.2.2 + time tb k.1
  | [], s, st, l, h1, h2 => by
    rw [List.map_nil, List.sum_nil] at h2
    omega
  | p :: ps, s, st, l, h1, h2 => by
    rw [List.map_cons, List.sum_cons] at h2
    by_cases c : l < st + time tb p
    · exact ⟨_, List.mem_cons_self .., h1, c⟩
    · obtain ⟨k, hk, h3⟩ := stk_sur (tb := tb) (ps := ps) (s := s + cnt p) (st := st + time tb p) (l := l) (by omega) (by omega)
      exact ⟨k, List.mem_cons_of_mem _ hk, h3⟩
structure Lev (tb : α → Nat) (p : Pt α) (s st : Nat) : Prop where
  fst : (starts tb (plc p s) st).map (·.1) = List.range' s (cnt p)
  bnd : ∀ x ∈ starts tb (plc p s) st, st ≤ x.2 ∧ x.2 < st + time tb p
  inc : ∀ x ∈ starts tb (plc p s) st, ∀ y ∈ starts tb (plc p s) st, (x.1, y.1) ∈ told p s → x.2 < y.2
  sur : ∀ l, st ≤ l → l < st + time tb p → ∃ x ∈ starts tb (plc p s) st, x.2 = l
  lpw : (longest tb (plc p s)).Pairwise fun i j => i < j ∧ (i, j) ∈ told p s
  lin : ∀ i ∈ longest tb (plc p s), s ≤ i ∧ i < s + cnt p
  llen : (longest tb (plc p s)).length = time tb p
theorem Lev.at {tb : α → Nat} {p : Pt α} {s st : Nat} (h : Lev tb p s st) {x : Nat × Nat} (hx : x ∈ starts tb (plc p s) st) : s ≤ x.1 ∧ x.1 < s + cnt p := by
  have : x.1 ∈ (starts tb (plc p s) st).map (·.1) := List.mem_map.mpr ⟨x, hx, rfl⟩
  rw [h.fst] at this
  exact List.mem_range'_1.mp this
theorem lev {tb : α → Nat} (ht : ∀ x, tb x = 1) : ∀ (p : Pt α) (s st : Nat), Lev tb p s st := by
  refine ind (fun s st => ?_) (fun a s st => ?_) fun r ps ih s st => ?_
  · refine ⟨?_, ?_, ?_, ?_, ?_, ?_, ?_⟩ <;> rw [plc]
    · rw [starts, cnt]
      rfl
    · intro x h
      rw [starts] at h
      cases h
    · intro x h
      rw [starts] at h
      cases h
    · intro l h1 h2
      rw [time] at h2
      omega
    · rw [longest]
      exact .nil
    · intro i h
      rw [longest] at h
      cases h
    · rw [longest, time]
      rfl
  · refine ⟨?_, ?_, ?_, ?_, ?_, ?_, ?_⟩ <;> rw [plc]
    · rw [starts, cnt]
      rfl
    · intro x h
      rw [starts] at h
      rw [List.mem_singleton.mp h, time, ht]
      exact ⟨Nat.le_refl _, Nat.lt_succ_self _⟩
    · intro x _ y _ h
      rw [told] at h
      cases h
    · intro l h1 h2
      rw [time, ht] at h2
      rw [starts]
      exact ⟨_, List.mem_singleton_self _, by show st = l; omega⟩
    · rw [longest]
      exact List.pairwise_singleton _ _
    · intro i h
      rw [longest] at h
      rw [List.mem_singleton.mp h, cnt]
      exact ⟨Nat.le_refl _, Nat.lt_succ_self _⟩
    · rw [longest, time, ht]
      rfl
  · have hk : ∀ k ∈ kids ps s, ∀ st, Lev tb k.1 k.2 st := fun k h st => ih _ (kids_mem h).1 _ _
    have hq : ∀ k ∈ stk tb r ps s st, Lev tb k.1 k.2.1 k.2.2 := fun k h => ih _ (kids_mem (stk_mem h).1).1 _ _
    have es : starts tb (plc (.nd r ps) s) st = ((stk tb r ps s st).map fun k => starts tb (plc k.1 k.2.1) k.2.2).flatten := by
      rw [plc_nd, starts_nd, stk_starts]
    have ms : ∀ x, x ∈ starts tb (plc (.nd r ps) s) st → ∃ k ∈ stk tb r ps s st, x ∈ starts tb (plc k.1 k.2.1) k.2.2 := fun x hx => by
      rw [es] at hx
      obtain ⟨l, hl, hx⟩ := List.mem_flatten.mp hx
      obtain ⟨k, h, rfl⟩ := List.mem_map.mp hl
      exact ⟨k, h, hx⟩
    have sm : ∀ k ∈ stk tb r ps s st, ∀ x ∈ starts tb (plc k.1 k.2.1) k.2.2, x ∈ starts tb (plc (.nd r ps) s) st := fun k h x hx => by
      rw [es]
      exact List.mem_flatten.mpr ⟨_, List.mem_map.mpr ⟨k, h, rfl⟩, hx⟩
    have el : longest tb (plc (.nd r ps) s) = if r then ((kids ps s).map fun k => longest tb (plc k.1 k.2)).flatten else ((fmax (fun x : Nat × List Nat => x.1) ((kids ps s).map fun k => (time tb k.1, longest tb (plc k.1 k.2)))).getD (0, [])).2 := by
      rw [plc_nd, longest_nd, List.map_map, List.map_map]
      congr 4
      refine List.map_congr_left fun k _ => ?_
      show (time tb (bare (plc k.1 k.2)), _) = _
      rw [bare_plc]
    have et : time tb (.nd r ps) = if r then ((kids ps s).map fun k => time tb k.1).sum else ((kids ps s).map fun k => time tb k.1).foldr Nat.max 0 := by
      rw [time_nd, show (fun k : Pt α × Nat => time tb k.1) = (time tb) ∘ (fun k => k.1) from rfl, ← List.map_map, kids_fst]
    have hb : ∀ k ∈ stk tb r ps s st, k.2.2 + time tb k.1 ≤ st + time tb (.nd r ps) := fun k h => by
      obtain ⟨h1, h2, h3, h4⟩ := stk_mem h
      rw [time_nd]
      cases r with
      | true => exact h3 rfl
      | false =>
        rw [h4 rfl, if_neg Bool.false_ne_true]
        exact Nat.add_le_add_left (le_max (List.mem_map.mpr ⟨k.1, (kids_mem h1).1, rfl⟩)) _
    have pick : r = false → ((kids ps s).map fun k => (time tb k.1, longest tb (plc k.1 k.2))) = [] ∨ ∃ k ∈ kids ps s, longest tb (plc (.nd r ps) s) = longest tb (plc k.1 k.2) ∧ time tb (.nd r ps) = time tb k.1 := fun e => by
      by_cases e0 : ((kids ps s).map fun k => (time tb k.1, longest tb (plc k.1 k.2))) = []
      · exact .inl e0
      · obtain ⟨x, e1, e2, e3⟩ := fmax_some (f := fun x : Nat × List Nat => x.1) e0
        obtain ⟨k, h, rfl⟩ := List.mem_map.mp e2
        refine .inr ⟨k, h, ?_, ?_⟩
        · rw [el, e1, e]
          rfl
        · rw [et, e]
          rw [List.map_map] at e3
          exact e3.symm
    refine ⟨?_, ?_, ?_, ?_, ?_, ?_, ?_⟩
    · rw [es, List.map_flatten, List.map_map, cnt_nd, ← kids_range, ← stk_kids tb r ps s st, List.map_map]
      congr 1
      exact List.map_congr_left fun k h => (hq k h).fst
    · intro x hx
      obtain ⟨k, h, hx⟩ := ms x hx
      have b := (hq k h).bnd x hx
      have := hb k h
      have := (stk_mem h).2.1
      omega
    · intro x hx0 y hy0 hxy
      obtain ⟨k, h, hx⟩ := ms x hx0
      obtain ⟨k', h', hy⟩ := ms y hy0
      clear hx0 hy0
      have b1 := (hq k h).at hx
      have b2 := (hq k' h').at hy
      have lt := told_lt _ _ _ _ hxy
      have g1 := (stk_mem h).1
      have g2 := (stk_mem h').1
      cases r with
      | true =>
        rcases pw_or stk_pw k h k' h' with rfl | q | q
        · exact (hq k h).inc x hx y hy ((mem_kid g1 b1.1 b2.2 lt.2.1).mp hxy)
        · have c1 := (hq k h).bnd x hx
          have c2 := (hq k' h').bnd y hy
          omega
        · omega
      | false =>
        rcases pw_or (kids_pw ps s) _ g1 _ g2 with q | q | q
        · have q1 : k.1 = k'.1 := (Prod.mk.inj q).1
          have q2 : k.2.1 = k'.2.1 := (Prod.mk.inj q).2
          have q3 : k.2.2 = k'.2.2 := ((stk_mem h).2.2.2 rfl).trans ((stk_mem h').2.2.2 rfl).symm
          rw [← q1, ← q2, ← q3] at hy
          rw [← q1, ← q2] at b2
          exact (hq k h).inc x hx y hy ((mem_kid g1 b1.1 b2.2 lt.2.1).mp hxy)
        · exact absurd ((mem_two g1 g2 q b1.1 b1.2 b2.1 b2.2).mp hxy) Bool.false_ne_true
        · have q : k'.2.1 + cnt k'.1 ≤ k.2.1 := q
          omega
    · intro l h1 h2
      cases r with
      | true =>
        rw [time_nd, if_pos rfl] at h2
        obtain ⟨k, h, q1, q2⟩ := stk_sur (s := s) h1 h2
        obtain ⟨x, hx, e⟩ := (hq k h).sur l q1 q2
        exact ⟨x, sm k h x hx, e⟩
      | false =>
        rcases pick rfl with e | ⟨k, h, _, e⟩
        · have : kids ps s = [] := by simpa using e
          rw [et, this] at h2
          have h2 : l < st + 0 := h2
          omega
        · rw [← stk_kids tb false ps s st] at h
          obtain ⟨k2, h2', rfl⟩ := List.mem_map.mp h
          have e4 := (stk_mem h2').2.2.2 rfl
          obtain ⟨x, hx, e5⟩ := (hq k2 h2').sur l (by omega) (by rw [e] at h2; show l < k2.2.2 + time tb k2.1; rw [e4]; exact h2)
          exact ⟨x, sm k2 h2' x hx, e5⟩
    · cases r with
      | true =>
        rw [el, if_pos rfl, List.pairwise_flatten]
        refine ⟨?_, ?_⟩
        · intro l hl
          obtain ⟨k, h, rfl⟩ := List.mem_map.mp hl
          exact (hk k h 0).lpw.imp fun q => ⟨q.1, mem_nd.mpr (.inl ⟨k, h, q.2⟩)⟩
        · rw [List.pairwise_map]
          refine List.Pairwise.imp_of_mem (fun {k k'} h h' q i hi j hj => ?_) (kids_pw ps s)
          have b1 := (hk k h 0).lin i hi
          have b2 := (hk k' h' 0).lin j hj
          exact ⟨by omega, (mem_two h h' q b1.1 b1.2 b2.1 b2.2).mpr rfl⟩
      | false =>
        rcases pick rfl with e | ⟨k, h, e, _⟩
        · rw [el, e]
          exact .nil
        · rw [e]
          exact (hk k h 0).lpw.imp fun q => ⟨q.1, mem_nd.mpr (.inl ⟨k, h, q.2⟩)⟩
    · intro i hi
      rw [cnt_nd]
      cases r with
      | true =>
        rw [el, if_pos rfl] at hi
        obtain ⟨l, hl, hi⟩ := List.mem_flatten.mp hi
        obtain ⟨k, h, rfl⟩ := List.mem_map.mp hl
        have b := (hk k h 0).lin i hi
        have := kids_mem h
        omega
      | false =>
        rcases pick rfl with e | ⟨k, h, e, _⟩
        · rw [el, e] at hi
          cases hi
        · rw [e] at hi
          have b := (hk k h 0).lin i hi
          have := kids_mem h
          omega
    · cases r with
      | true =>
        rw [el, et, if_pos rfl, if_pos rfl, List.length_flatten, List.map_map]
        congr 1
        exact List.map_congr_left fun k h => (hk k h 0).llen
      | false =>
        rcases pick rfl with e | ⟨k, h, e, e2⟩
        · rw [el, e, et]
          have : kids ps s = [] := by simpa using e
          rw [this]
          rfl
        · rw [e, e2]
          exact (hk k h 0).llen
end Pt

end Z

set_option Elab.async false
set_option linter.all false
set_option maxRecDepth 100000
set_option maxHeartbeats 4000000

namespace Z
open PySem PySem.Spec PyProof.Rows L2
local macro_rules | `(tactic| walk_at "sx") => `(tactic| try simp only [and_assoc, cxOf_K, cxOf_Kn, C8.tCut, rEq, rNe, sc_ii, sc_ss, sc_bb, sc_is, sc_si, sc_bs, sc_sb, tSeq, tAsg, tPar, tPar3, tC, gName, gNil, gCons, gTup, gSub, rSetL, L2.start, tVar, tOp, tUn, rI0, rI, rU, tTest, tChain, tOrV, tAndV, tNotV, tCB, tCons, tNil, tLst, tTup, tIfS, tNext, tRet, tRetN, tDrop, tAnd, tOr, tNot, tB, tIf, tSl, tFld, sFld, putF, tNoPart, tPart, rSlL, tBM, tBM0, rAppend, rPop, rExtend, tCall, tMeth, List.map_cons, List.map_nil, List.replicate, List.length_cons, List.length_nil, List.append, List.cons_append, List.nil_append, List.append_nil, List.getElem?_cons_zero, List.getElem?_cons_succ, List.set_cons_zero, List.set_cons_succ, Option.some.injEq, exists_eq_left', exists_eq_left, exists_eq, exists_and_left, exists_const, wipe, tYes, upd_same, ↓reduceIte, decide_false, decide_true, Bool.not_true, Bool.not_false, Bool.false_eq_true, V.int.injEq, HO.lst.injEq, HO.tup.injEq, V.ref.injEq, V.str.injEq, one_inj, le_a, le_z, le_0, le_9, mem_let, mem_dig, V.bl.injEq, List.cons.injEq, and_true, true_and, reduceCtorEq, false_and, exists_false, or_false, false_or])
/-! ### all lots of places -/
def bitN (c i : Nat) : Bool := c / 2 ^ i % 2 == 1
def subs (n : Nat) : List (List Nat) := (List.range (2 ^ n)).map fun c => (List.range n).filter (bitN c)
theorem bits_ex : ∀ (n : Nat) (f : Nat → Bool), ∃ c, c < 2 ^ n ∧ ∀ i, i < n → bitN c i = f i
  | 0, f => ⟨0, Nat.one_pos, fun i h => absurd h (Nat.not_lt_zero _)⟩
  | n + 1, f => by
    obtain ⟨c, hc, hf⟩ := bits_ex n fun i => f (i + 1)
    refine ⟨2 * c + (if f 0 then 1 else 0), ?_, fun i hi => ?_⟩
    · rw [Nat.pow_succ]
      split <;> omega
    · cases i with
      | zero =>
        unfold bitN
        rw [Nat.pow_zero, Nat.div_one]
        cases f 0 with
        | true =>
          rw [if_pos rfl, show (2 * c + 1) % 2 = 1 by omega]
          rfl
        | false =>
          rw [if_neg Bool.false_ne_true, show (2 * c + 0) % 2 = 0 by omega]
          rfl
      | succ i =>
        rw [← hf i (by omega)]
        unfold bitN
        rw [Nat.pow_succ, Nat.mul_comm (2 ^ i) 2, ← Nat.div_div_eq_div_mul]
        rw [show (2 * c + (if f 0 then 1 else 0)) / 2 = c by split <;> omega]
theorem inc_ext {l m : List Nat} (hl : l.Pairwise (· < ·)) (hm : m.Pairwise (· < ·)) (h : ∀ i, i ∈ l ↔ i ∈ m) : l = m :=
  List.Perm.eq_of_pairwise (le := (· < ·)) (fun a b _ _ h1 h2 => absurd h1 (Nat.not_lt.mpr (Nat.le_of_lt h2))) hl hm
    ((List.perm_ext_iff_of_nodup (hl.imp Nat.ne_of_lt) (hm.imp Nat.ne_of_lt)).mpr h)
theorem mem_subs {n : Nat} {l : List Nat} : l ∈ subs n ↔ l.Pairwise (· < ·) ∧ ∀ i ∈ l, i < n := by
  unfold subs
  constructor
  · intro h
    obtain ⟨c, _, rfl⟩ := List.mem_map.mp h
    exact ⟨List.pairwise_lt_range.filter _, fun i hi => List.mem_range.mp (List.mem_filter.mp hi).1⟩
  · rintro ⟨h1, h2⟩
    obtain ⟨c, hc, hf⟩ := bits_ex n fun i => decide (i ∈ l)
    refine List.mem_map.mpr ⟨c, List.mem_range.mpr hc, inc_ext (List.pairwise_lt_range.filter _) h1 fun i => ?_⟩
    rw [List.mem_filter, List.mem_range]
    constructor
    · rintro ⟨hi, hb⟩
      rw [hf i hi] at hb
      exact of_decide_eq_true hb
    · intro hi
      refine ⟨h2 i hi, ?_⟩
      rw [hf i (h2 i hi)]
      exact decide_eq_true hi
/-- no pair of P has both places in the lot -/
def Loose (P : List (Nat × Nat)) (l : List Nat) : Prop := ∀ i j, (i, j) ∈ P → i ∈ l → j ∈ l → False
def inside (P : List (Nat × Nat)) (l : List Nat) : Nat := (P.filter fun x => l.contains x.1 && l.contains x.2).length
/-- few places where each lot of a cover has at most one -/
theorem few : ∀ {C : List (List Nat)} {l : List Nat}, l.Nodup → (∀ x ∈ l, ∃ c ∈ C, x ∈ c) → (∀ c ∈ C, ∀ x ∈ l, ∀ y ∈ l, x ∈ c → y ∈ c → x = y) → l.length ≤ C.length
  | [], l, _, h, _ => by
    cases l with
    | nil => exact Nat.le_refl _
    | cons x l =>
      obtain ⟨c, h, _⟩ := h x (List.mem_cons_self ..)
      cases h
  | c :: C, l, hn, hx, h1 => by
    rw [List.length_cons]
    have ih := few (C := C) (l := l.filter fun x => !c.contains x) (hn.filter _) (fun x hx' => by
      obtain ⟨m1, m2⟩ := List.mem_filter.mp hx'
      obtain ⟨d, hd, hxd⟩ := hx x m1
      rcases List.mem_cons.mp hd with rfl | hd
      · rw [List.contains_iff_mem.mpr hxd] at m2
        cases m2
      · exact ⟨d, hd, hxd⟩) (fun d hd x hx y hy => h1 d (List.mem_cons_of_mem _ hd) x (List.mem_filter.mp hx).1 y (List.mem_filter.mp hy).1)
    have hl : ∀ (m : List Nat), m.Nodup → (∀ x ∈ m, ∀ y ∈ m, x ∈ c → y ∈ c → x = y) → m.length ≤ (m.filter fun x => !c.contains x).length + 1 := by
      intro m
      induction m with
      | nil => intro _ _; exact Nat.zero_le _
      | cons x m ihm =>
        intro hn hu
        by_cases hc : x ∈ c
        · have : (m.filter fun x => !c.contains x) = m := List.filter_eq_self.mpr fun y hy => by
            by_cases hyc : y ∈ c
            · have := hu x (List.mem_cons_self ..) y (List.mem_cons_of_mem _ hy) hc hyc
              subst this
              exact absurd hy (List.nodup_cons.mp hn).1
            · rw [Bool.not_eq_true', ← Bool.not_eq_true, List.contains_iff_mem]
              exact hyc
          rw [List.filter_cons_of_neg (by rw [List.contains_iff_mem.mpr hc]; exact Bool.false_ne_true), this, List.length_cons]
          exact Nat.le_refl _
        · have hcb : (!c.contains x) = true := by
            rw [Bool.not_eq_true', ← Bool.not_eq_true, List.contains_iff_mem]
            exact hc
          rw [List.filter_cons_of_pos (p := fun x => !c.contains x) hcb, List.length_cons, List.length_cons]
          have := ihm (List.nodup_cons.mp hn).2 fun a ha b hb => hu a (List.mem_cons_of_mem _ ha) b (List.mem_cons_of_mem _ hb)
          omega
    have := hl l hn (h1 c (List.mem_cons_self ..))
    omega
/-! pairs of an increasing lot -/
def prs : List Nat → List (Nat × Nat)
  | [] => []
  | x :: l => (l.map fun y => (x, y)) ++ prs l
theorem prs_len : ∀ l : List Nat, 2 * (prs l).length = l.length * (l.length - 1)
  | [] => rfl
  | x :: l => by
    unfold prs
    rw [List.length_append, List.length_map, List.length_cons, Nat.mul_add, prs_len l, Nat.add_sub_cancel]
    cases l with
    | nil => rfl
    | cons y l =>
      rw [List.length_cons, Nat.add_sub_cancel, Nat.add_mul (l.length + 1) 1, Nat.mul_add (l.length + 1) l.length 1]
      omega
theorem mem_prs : ∀ {l : List Nat}, l.Pairwise (· < ·) → ∀ {i j : Nat}, (i, j) ∈ prs l ↔ i ∈ l ∧ j ∈ l ∧ i < j
  | [], _, i, j => by simp [prs]
  | x :: l, .cons h1 h2, i, j => by
    unfold prs
    rw [List.mem_append, mem_prs h2, List.mem_map, List.mem_cons, List.mem_cons]
    constructor
    · rintro (⟨y, hy, e⟩ | ⟨a, b, c⟩)
      · obtain ⟨rfl, rfl⟩ := Prod.mk.inj e
        exact ⟨.inl rfl, .inr hy, h1 _ hy⟩
      · exact ⟨.inr a, .inr b, c⟩
    · rintro ⟨a | a, b | b, c⟩
      · omega
      · subst a
        exact .inl ⟨j, b, rfl⟩
      · subst b
        have := h1 _ a
        omega
      · exact .inr ⟨a, b, c⟩
theorem prs_nodup : ∀ {l : List Nat}, l.Pairwise (· < ·) → (prs l).Nodup
  | [], _ => .nil
  | x :: l, .cons h1 h2 => by
    unfold prs
    refine Pt.nodup_app ?_ (prs_nodup h2) ?_
    · exact List.Pairwise.map _ (fun a b n e => n (Prod.mk.inj e).2) (h2.imp Nat.ne_of_lt)
    · rintro ⟨i, j⟩ hi hj
      obtain ⟨y, _, e⟩ := List.mem_map.mp hi
      obtain ⟨rfl, rfl⟩ := Prod.mk.inj e
      exact absurd (h1 _ ((mem_prs h2).mp hj).1) (Nat.lt_irrefl _)
theorem inside_mem {P : List (Nat × Nat)} {l : List Nat} {x : Nat × Nat} : x ∈ P.filter (fun x => l.contains x.1 && l.contains x.2) ↔ x ∈ P ∧ x.1 ∈ l ∧ x.2 ∈ l := by
  rw [List.mem_filter, Bool.and_eq_true, List.contains_iff_mem, List.contains_iff_mem]
theorem inside_all {P : List (Nat × Nat)} {l : List Nat} (hP : P.Nodup) (hlt : ∀ i j, (i, j) ∈ P → i < j) (hl : l.Pairwise (· < ·)) : 2 * inside P l = l.length * (l.length - 1) ↔ ∀ i ∈ l, ∀ j ∈ l, i < j → (i, j) ∈ P := by
  have hF : (P.filter fun x => l.contains x.1 && l.contains x.2).Nodup := hP.filter _
  have hs : ∀ x, x ∈ (P.filter fun x => l.contains x.1 && l.contains x.2) → x ∈ prs l := fun x hx => by
    obtain ⟨h1, h2, h3⟩ := inside_mem.mp hx
    exact (mem_prs hl).mpr ⟨h2, h3, hlt _ _ h1⟩
  have hle := hF.length_le_of_subset (fun x hx => hs x hx)
  have hpl := prs_len l
  unfold inside
  constructor
  · intro e i hi j hj hij
    by_cases hm : (i, j) ∈ P
    · exact hm
    · have hm2 : (i, j) ∉ (P.filter fun x => l.contains x.1 && l.contains x.2) := fun h => hm (inside_mem.mp h).1
      have h2 : ((i, j) :: (P.filter fun x => l.contains x.1 && l.contains x.2)).length ≤ (prs l).length := List.Nodup.length_le_of_subset (List.nodup_cons.mpr ⟨hm2, hF⟩) fun x hx => by
        rcases List.mem_cons.mp hx with rfl | hx
        · exact (mem_prs hl).mpr ⟨hi, hj, hij⟩
        · exact hs x hx
      rw [List.length_cons] at h2
      omega
  · intro h
    have h2 := (prs_nodup hl).length_le_of_subset (l₂ := P.filter fun x => l.contains x.1 && l.contains x.2) fun x hx => by
      obtain ⟨a, b, c⟩ := (mem_prs hl).mp hx
      exact inside_mem.mpr ⟨h _ a _ b c, a, b⟩
    omega
namespace Pt
variable {α : Type}
theorem inc_nodup {l : List Nat} (h : l.Pairwise (· < ·)) : l.Nodup := h.imp Nat.ne_of_lt
/-- the greatest loose lot -/
theorem wide_le (p : Pt α) {l : List Nat} (hl : l ∈ subs (cnt p)) (h : Loose (told p 0) l) : l.length ≤ (widest (plc p 0)).length := by
  have c := chs p 0
  obtain ⟨h1, h2⟩ := mem_subs.mp hl
  rw [← c.len]
  refine few (l := l) (inc_nodup h1) (fun x hx => ?_) fun d hd x hx y hy hxd hyd => ?_
  · have : x ∈ (chains (plc p 0)).flatten := c.perm.mem_iff.mpr (List.mem_range'_1.mpr ⟨Nat.zero_le _, by rw [Nat.zero_add]; exact h2 x hx⟩)
    obtain ⟨d, hd, hxd⟩ := List.mem_flatten.mp this
    exact ⟨d, hd, hxd⟩
  · rcases pw_or (c.pw d hd).2 x hxd y hyd with e | e | e
    · exact e
    · exact (h _ _ e hx hy).elim
    · exact (h _ _ e hy hx).elim
theorem wide_ex (p : Pt α) : widest (plc p 0) ∈ subs (cnt p) ∧ Loose (told p 0) (widest (plc p 0)) := by
  have c := chs p 0
  refine ⟨mem_subs.mpr ⟨c.wpw.imp fun q => q.1, fun i hi => ?_⟩, fun i j hij hi hj => ?_⟩
  · have := (c.win i hi).2
    omega
  · have lt := (told_lt _ _ _ _ hij).2.1
    rcases pw_or c.wpw i hi j hj with e | e | e
    · omega
    · exact e.2 hij
    · omega
/-- the longest chain -/
theorem high_le (p : Pt α) {tb : α → Nat} (ht : ∀ x, tb x = 1) {l : List Nat} (hl : l ∈ subs (cnt p)) (h : 2 * inside (told p 0) l = l.length * (l.length - 1)) : l.length ≤ time tb p := by
  have c := lev ht p 0 0
  obtain ⟨h1, h2⟩ := mem_subs.mp hl
  have h3 := (inside_all (told_nodup p 0) (fun i j q => (told_lt _ _ _ _ q).2.1) h1).mp h
  have e : time tb p = ((List.range (time tb p)).map fun k => ((starts tb (plc p 0) 0).filter fun x => x.2 == k).map (·.1)).length := by
    rw [List.length_map, List.length_range]
  rw [e]
  refine few (l := l) (inc_nodup h1) (fun x hx => ?_) fun d hd x hx y hy hxd hyd => ?_
  · have hm : x ∈ (starts tb (plc p 0) 0).map (·.1) := by
      rw [c.fst]
      exact List.mem_range'_1.mpr ⟨Nat.zero_le _, by rw [Nat.zero_add]; exact h2 x hx⟩
    obtain ⟨z, hz, rfl⟩ := List.mem_map.mp hm
    have b := c.bnd z hz
    refine ⟨_, List.mem_map.mpr ⟨z.2, List.mem_range.mpr (by omega), rfl⟩, List.mem_map.mpr ⟨z, List.mem_filter.mpr ⟨hz, beq_self_eq_true _⟩, rfl⟩⟩
  · obtain ⟨k, hk, rfl⟩ := List.mem_map.mp hd
    obtain ⟨z, hz, rfl⟩ := List.mem_map.mp hxd
    obtain ⟨u, hu, rfl⟩ := List.mem_map.mp hyd
    obtain ⟨hz, ez⟩ := List.mem_filter.mp hz
    obtain ⟨hu, eu⟩ := List.mem_filter.mp hu
    have ez := eq_of_beq ez
    have eu := eq_of_beq eu
    rcases Nat.lt_trichotomy z.1 u.1 with q | q | q
    · have := c.inc z hz u hu (h3 _ hx _ hy q)
      omega
    · exact q
    · have := c.inc u hu z hz (h3 _ hy _ hx q)
      omega
theorem high_ex (p : Pt α) {tb : α → Nat} (ht : ∀ x, tb x = 1) : longest tb (plc p 0) ∈ subs (cnt p) ∧ 2 * inside (told p 0) (longest tb (plc p 0)) = (longest tb (plc p 0)).length * ((longest tb (plc p 0)).length - 1) ∧ (longest tb (plc p 0)).length = time tb p := by
  have c := lev ht p 0 0
  have hi : (longest tb (plc p 0)).Pairwise (· < ·) := c.lpw.imp fun q => q.1
  refine ⟨mem_subs.mpr ⟨hi, fun i h => ?_⟩, ?_, c.llen⟩
  · have := (c.lin i h).2
    omega
  · refine (inside_all (told_nodup p 0) (fun i j q => (told_lt _ _ _ _ q).2.1) hi).mpr fun i h j h' hij => ?_
    rcases pw_or c.lpw i h j h' with e | e | e
    · omega
    · exact e.2
    · omega
end Pt

end Z

set_option Elab.async false
set_option linter.all false
set_option maxRecDepth 100000
set_option maxHeartbeats 4000000

namespace Z
open PySem PySem.Spec PyProof.Rows L2
local macro_rules | `(tactic| walk_at "sx") => `(tactic| try simp only [and_assoc, cxOf_K, cxOf_Kn, C8.tCut, rEq, rNe, sc_ii, sc_ss, sc_bb, sc_is, sc_si, sc_bs, sc_sb, tSeq, tAsg, tPar, tPar3, tC, gName, gNil, gCons, gTup, gSub, rSetL, L2.start, tVar, tOp, tUn, rI0, rI, rU, tTest, tChain, tOrV, tAndV, tNotV, tCB, tCons, tNil, tLst, tTup, tIfS, tNext, tRet, tRetN, tDrop, tAnd, tOr, tNot, tB, tIf, tSl, tFld, sFld, putF, tNoPart, tPart, rSlL, tBM, tBM0, rAppend, rPop, rExtend, tCall, tMeth, List.map_cons, List.map_nil, List.replicate, List.length_cons, List.length_nil, List.append, List.cons_append, List.nil_append, List.append_nil, List.getElem?_cons_zero, List.getElem?_cons_succ, List.set_cons_zero, List.set_cons_succ, Option.some.injEq, exists_eq_left', exists_eq_left, exists_eq, exists_and_left, exists_const, wipe, tYes, upd_same, ↓reduceIte, decide_false, decide_true, Bool.not_true, Bool.not_false, Bool.false_eq_true, V.int.injEq, HO.lst.injEq, HO.tup.injEq, V.ref.injEq, V.str.injEq, one_inj, le_a, le_z, le_0, le_9, mem_let, mem_dig, V.bl.injEq, List.cons.injEq, and_true, true_and, reduceCtorEq, false_and, exists_false, or_false, false_or])
open PySem.W
/-! ### what is a party -/
def WORDSL : List Str := ["empty", "none", "deed", "deeds", "then", "beside", "either", "both", "not", "and", "or", "again", "party", "machine", "table", "order", "row", "value", "start", "ends", "lines", "hands", "ask", "log", "alike", "within", "apart", "reads", "looser", "same", "all"]
def isName (x : Str) : Bool := isWd x.cps.toList && !WORDSL.contains x
def nameD : PyData → Bool
  | .str x => isName x
  | _ => false
namespace Pt
def rank (r : Bool) : Int := if r then 1 else 2
/-- the key by which parts side by side are sorted -/
def key : Pt Str → PyData
  | .emp => .tuple [.int 0, .int 0, .tuple [], .str ""]
  | .deed x => .tuple [.int 1, .int 0, .tuple [], .str x]
  | .nd r ps => .tuple [.int (cnt (.nd r ps)), .int (rank r), .tuple (ps.map key), .str ""]
theorem key_nd (r : Bool) (ps : List (Pt Str)) : key (.nd r ps) = .tuple [.int (cnt (.nd r ps)), .int (rank r), .tuple (ps.map key), .str ""] := by rw [key]
theorem key_fst (p : Pt Str) : ∃ a b c, key p = .tuple [.int (cnt p), a, b, c] := by
  cases p with
  | emp => exact ⟨_, _, _, by rw [key, cnt]; rfl⟩
  | deed x => exact ⟨_, _, _, by rw [key, cnt]; rfl⟩
  | nd r ps => exact ⟨_, _, _, by rw [key]⟩
theorem alike_map : ∀ {ps qs : List (Pt Str)}, (∀ p ∈ ps, ∀ q, alike (key p) (key q) = true) → alikeAll (ps.map key) (qs.map key) = true
  | [], _, _ => by rw [List.map_nil, alikeAll]
  | p :: ps, [], _ => by rw [List.map_nil, List.map_cons, alikeAll]
  | p :: ps, q :: qs, h => by rw [List.map_cons, List.map_cons, alikeAll, h p (List.mem_cons_self ..), alike_map fun p hp => h p (List.mem_cons_of_mem _ hp)]; rfl
theorem alike4 {n m r t : Int} {a b : List PyData} {x y : Str} (h : alikeAll a b = true) : alike (.tuple [.int n, .int r, .tuple a, .str x]) (.tuple [.int m, .int t, .tuple b, .str y]) = true := by
  simp only [alike, alikeAll, h, Bool.and_self]
theorem alikeAll_nil_right : ∀ a : List PyData, alikeAll a [] = true
  | [] => by rw [alikeAll]
  | x :: a => by rw [alikeAll]
theorem key_alike : ∀ p q : Pt Str, alike (key p) (key q) = true := by
  refine ind (fun q => ?_) (fun x q => ?_) fun r ps ih q => ?_
  · rw [key]
    cases q with
    | emp => rw [key]; exact alike4 (by rw [alikeAll])
    | deed y => rw [key]; exact alike4 (by rw [alikeAll])
    | nd t qs => rw [key]; exact alike4 (by rw [alikeAll])
  · rw [key]
    cases q with
    | emp => rw [key]; exact alike4 (by rw [alikeAll])
    | deed y => rw [key]; exact alike4 (by rw [alikeAll])
    | nd t qs => rw [key]; exact alike4 (by rw [alikeAll])
  · rw [key_nd]
    cases q with
    | emp => rw [key]; exact alike4 (alikeAll_nil_right _)
    | deed y => rw [key]; exact alike4 (alikeAll_nil_right _)
    | nd t qs => rw [key_nd]; exact alike4 (alike_map ih)
theorem keys_alike (ps : List (Pt Str)) : AllAlike (ps.map key) := AllAlike.of key_alike
theorem keys_sortable (ps : List (Pt Str)) : Sortable (ps.map key) := Sortable.tuples fun p => by
  obtain ⟨a, b, c, e⟩ := key_fst p
  exact ⟨_, _, e⟩
/-- sorted by keys -/
def srt (ps : List (Pt Str)) : List (Pt Str) := ps.mergeSort (dataLe false key)
def kLe (p q : Pt Str) : Prop := dataLe false key p q = true
theorem srt_pw (ps : List (Pt Str)) : (srt ps).Pairwise kLe := sort_pairwise (sortLe_total _ _ _) ps
theorem srt_perm (ps : List (Pt Str)) : (srt ps).Perm ps := List.mergeSort_perm ps _
theorem srt_id {ps : List (Pt Str)} (h : ps.Pairwise kLe) : srt ps = ps := List.mergeSort_of_pairwise h
/-- the keys stand in order -/
def ordB (ps : List (Pt Str)) : Bool := PyData.eqv (.list (ps.map key)) (.list ((srt ps).map key))
def hasWord (r : Bool) : Pt Str → Bool
  | .nd t _ => t == r
  | _ => false
def mapO {α β : Type} (f : α → Option β) : List α → Option (List β)
  | [] => some []
  | x :: xs => match f x, mapO f xs with
    | some y, some ys => some (y :: ys)
    | _, _ => none
/-- what is asked of the parts -/
def partsOk (r : Bool) (qs : List (Pt Str)) : Bool := !qs.any (hasWord r) && (r || ordB qs)
/-- the party that fits -/
def fitsP : Nat → PyData → Option (Pt Str)
  | 0, _ => none
  | n + 1, .tuple [.str w, x] =>
    if w = "deed" then (match x with
      | .str y => if isName y then some (.deed y) else none
      | _ => none)
    else if w = "row" ∨ w = "beside" then (match x with
      | .tuple ds => if 2 ≤ ds.length ∧ ds.length ≤ 60 then (match mapO (fitsP n) ds with
          | some qs => if partsOk (decide (w = "row")) qs then some (.nd (decide (w = "row")) qs) else none
          | none => none) else none
      | _ => none)
    else none
  | _ + 1, _ => none
theorem mapO_enc {f : PyData → Option (Pt Str)} (h : ∀ d p, f d = some p → d = enc .str p) : ∀ {ds : List PyData} {qs : List (Pt Str)}, mapO f ds = some qs → ds = qs.map (enc .str)
  | [], qs, e => by
    rw [mapO] at e
    obtain rfl := Option.some.inj e
    rfl
  | d :: ds, qs, e => by
    rw [mapO] at e
    cases e1 : f d with
    | none =>
      rw [e1] at e
      cases e
    | some p =>
      rw [e1] at e
      cases e2 : mapO f ds with
      | none =>
        rw [e2] at e
        cases e
      | some ps =>
        rw [e2] at e
        obtain rfl := Option.some.inj e
        rw [List.map_cons, ← h d p e1, ← mapO_enc h e2]
theorem fitsP_enc : ∀ (n : Nat) (d : PyData) (p : Pt Str), fitsP n d = some p → d = enc .str p
  | 0, d, p, e => by
    rw [fitsP] at e
    cases e
  | n + 1, d, p, e => by
    unfold fitsP at e
    split at e
    · cases e
    · rename_i m w x hm
      obtain rfl : n = m := Nat.succ.inj hm
      split at e
      · rename_i hw
        split at e
        · split at e
          · obtain rfl := Option.some.inj e
            rw [hw, enc]
          · cases e
        · cases e
      · split at e
        · rename_i hw
          split at e
          · split at e
            · split at e
              · rename_i qs hq
                split at e
                · obtain rfl := Option.some.inj e
                  rw [mapO_enc (fitsP_enc n) hq, enc_nd]
                  rcases hw with rfl | rfl
                  · rfl
                  · rfl
                · cases e
              · cases e
            · cases e
          · cases e
        · cases e
    · cases e
def partyP (d : PyData) : Option (Pt Str) := if PyData.eqv d (.tuple [.str "empty"]) then some .emp else match fitsP 30 d with
  | some p => if cnt p ≤ 60 then some p else none
  | none => none
/-- well made -/
inductive Wf : Pt Str → Prop where
  | deed (x : Str) (h : isName x = true) : Wf (.deed x)
  | nd (r : Bool) (ps : List (Pt Str)) (h2 : 2 ≤ ps.length) (h : ∀ p ∈ ps, Wf p) (hw : ∀ p ∈ ps, hasWord r p = false) (ho : r = true ∨ ps.Pairwise kLe) : Wf (.nd r ps)
end Pt

end Z

set_option Elab.async false
set_option linter.all false
set_option maxRecDepth 100000
set_option maxHeartbeats 4000000

namespace Z
open PySem PySem.Spec PyProof.Rows L2
local macro_rules | `(tactic| walk_at "sx") => `(tactic| try simp only [and_assoc, cxOf_K, cxOf_Kn, C8.tCut, rEq, rNe, sc_ii, sc_ss, sc_bb, sc_is, sc_si, sc_bs, sc_sb, tSeq, tAsg, tPar, tPar3, tC, gName, gNil, gCons, gTup, gSub, rSetL, L2.start, tVar, tOp, tUn, rI0, rI, rU, tTest, tChain, tOrV, tAndV, tNotV, tCB, tCons, tNil, tLst, tTup, tIfS, tNext, tRet, tRetN, tDrop, tAnd, tOr, tNot, tB, tIf, tSl, tFld, sFld, putF, tNoPart, tPart, rSlL, tBM, tBM0, rAppend, rPop, rExtend, tCall, tMeth, List.map_cons, List.map_nil, List.replicate, List.length_cons, List.length_nil, List.append, List.cons_append, List.nil_append, List.append_nil, List.getElem?_cons_zero, List.getElem?_cons_succ, List.set_cons_zero, List.set_cons_succ, Option.some.injEq, exists_eq_left', exists_eq_left, exists_eq, exists_and_left, exists_const, wipe, tYes, upd_same, ↓reduceIte, decide_false, decide_true, Bool.not_true, Bool.not_false, Bool.false_eq_true, V.int.injEq, HO.lst.injEq, HO.tup.injEq, V.ref.injEq, V.str.injEq, one_inj, le_a, le_z, le_0, le_9, mem_let, mem_dig, V.bl.injEq, List.cons.injEq, and_true, true_and, reduceCtorEq, false_and, exists_false, or_false, false_or])
open PySem.W
namespace Pt
/-- names are names, and nodes have two parts at least -/
inductive Nm : Pt Str → Prop where
  | emp : Nm .emp
  | deed (x : Str) (h : isName x = true) : Nm (.deed x)
  | nd (r : Bool) (ps : List (Pt Str)) (h2 : 2 ≤ ps.length) (h : ∀ p ∈ ps, Nm p) : Nm (.nd r ps)
theorem Wf.nm {p : Pt Str} (w : Wf p) : Nm p := by
  induction w with
  | deed x h => exact .deed x h
  | nd r ps h2 h hw ho ih => exact .nd r ps h2 ih
theorem word_strOk {x : Str} (h : isWd x.cps.toList = true) : PyData.strOk x = true := by
  unfold PyData.strOk
  rw [← Array.all_toList, List.all_eq_true]
  intro c hc
  rw [isWd_eq, Bool.and_eq_true, List.all_eq_true] at h
  have := h.2 c hc
  simp only [isLet, isDig, Bool.or_eq_true, Bool.and_eq_true, decide_eq_true_eq] at this
  rw [decide_eq_true_eq]
  omega
theorem name_wd {x : Str} (h : isName x = true) : isWd x.cps.toList = true := (Bool.and_eq_true_iff.mp h).1
theorem name_len {x : Str} (h : isName x = true) : x.length ≤ 12 := by
  have h := name_wd h
  rw [isWd_eq, Bool.and_eq_true, Bool.and_eq_true, decide_eq_true_eq] at h
  have : x.length = x.cps.toList.length := (Array.length_toList ..).symm
  omega
theorem layAll {α : Type} (f : α → PyData) : ∀ {ps : List α}, (∀ p ∈ ps, (f p).canLay0 = true) → PyData.canLayAll0 (ps.map f) = true
  | [], _ => by rw [List.map_nil, PyData.canLayAll0]
  | p :: ps, h => by rw [List.map_cons, PyData.canLayAll0, h p (List.mem_cons_self ..), layAll f fun p hp => h p (List.mem_cons_of_mem _ hp)]; rfl
theorem depAll {α : Type} (f : α → PyData) {n : Nat} : ∀ {ps : List α}, (∀ p ∈ ps, (f p).depth ≤ n) → PyData.depthAll (ps.map f) ≤ n
  | [], _ => by rw [List.map_nil, PyData.depthAll]; exact Nat.zero_le _
  | p :: ps, h => by
    rw [List.map_cons, PyData.depthAll]
    exact Nat.max_le.mpr ⟨h p (List.mem_cons_self ..), depAll f fun p hp => h p (List.mem_cons_of_mem _ hp)⟩
theorem key_lay {p : Pt Str} (h : Nm p) : (key p).canLay0 = true := by
  induction h with
  | emp => rw [key]; decide +kernel
  | deed x h =>
    rw [key]
    simp only [PyData.canLay0, PyData.canLayAll0, word_strOk (name_wd h), Bool.and_self]
  | nd r ps h2 h ih =>
    rw [key_nd]
    simp only [PyData.canLay0, PyData.canLayAll0, layAll key ih, Bool.and_self, Bool.true_and, Bool.and_true]
    decide +kernel
theorem enc_lay {p : Pt Str} (h : Nm p) : (enc .str p).canLay0 = true := by
  induction h with
  | emp => rw [enc]; decide +kernel
  | deed x h =>
    rw [enc]
    simp only [PyData.canLay0, PyData.canLayAll0, word_strOk (name_wd h), Bool.and_self, Bool.true_and, Bool.and_true]
    decide +kernel
  | nd r ps h2 h ih =>
    rw [enc_nd]
    simp only [PyData.canLay0, PyData.canLayAll0, layAll (enc .str) ih, Bool.and_self, Bool.true_and, Bool.and_true]
    cases r <;> decide +kernel
theorem enc_dep {α : Type} {f : α → PyData} {k : Nat} (hf : ∀ a, (f a).depth ≤ k) : ∀ p : Pt α, (enc f p).depth ≤ 2 * dep p + 1 + k := by
  refine ind ?_ (fun x => ?_) fun r ps ih => ?_
  · rw [enc, dep]
    simp only [PyData.depth, PyData.depthAll]
    omega
  · rw [enc, dep]
    have := hf x
    simp only [PyData.depth, PyData.depthAll]
    omega
  · rw [enc_nd, dep_nd]
    simp only [PyData.depth, PyData.depthAll]
    have : PyData.depthAll (ps.map (enc f)) ≤ 2 * (ps.map dep).foldr Nat.max 0 + 1 + k := depAll _ fun p hp => by
      have h1 := ih p hp
      have h2 := le_max (List.mem_map.mpr ⟨p, hp, rfl⟩ : dep p ∈ ps.map dep)
      omega
    omega
theorem key_dep : ∀ p : Pt Str, (key p).depth ≤ 2 * dep p + 2 := by
  refine ind ?_ (fun x => ?_) fun r ps ih => ?_
  · rw [key, dep]
    simp only [PyData.depth, PyData.depthAll]
    omega
  · rw [key, dep]
    simp only [PyData.depth, PyData.depthAll]
    omega
  · rw [key_nd, dep_nd]
    simp only [PyData.depth, PyData.depthAll]
    have : PyData.depthAll (ps.map key) ≤ 2 * (ps.map dep).foldr Nat.max 0 + 2 := depAll _ fun p hp => by
      have h1 := ih p hp
      have h2 := le_max (List.mem_map.mpr ⟨p, hp, rfl⟩ : dep p ∈ ps.map dep)
      omega
    omega
theorem ordB_of {ps : List (Pt Str)} (h : ps.Pairwise kLe) (hn : ∀ p ∈ ps, Nm p) : ordB ps = true := by
  unfold ordB
  rw [srt_id h]
  refine SeqAt.eqv_refl _ ?_
  rw [PyData.canLay0]
  exact layAll key fun p hp => key_lay (hn p hp)
theorem mapO_some {α β : Type} {f : α → Option β} {g : β → α} : ∀ {ps : List β}, (∀ p ∈ ps, f (g p) = some p) → mapO f (ps.map g) = some ps
  | [], _ => rfl
  | p :: ps, h => by
    rw [List.map_cons, mapO, h p (List.mem_cons_self ..), mapO_some fun p hp => h p (List.mem_cons_of_mem _ hp)]
theorem cnt_pos {p : Pt Str} (w : Wf p) : dep p + 1 ≤ cnt p := by
  induction w with
  | deed x h => rw [dep, cnt]; exact Nat.le_refl _
  | nd r ps h2 h hw ho ih =>
    rw [dep_nd, cnt_nd]
    have h1 : ∀ p ∈ ps, dep p + 1 ≤ cnt p := ih
    have : (ps.map dep).foldr Nat.max 0 + 2 ≤ (ps.map cnt).sum := by
      match ps, h2, h1 with
      | a :: b :: qs, _, h1 =>
        have hs : ∀ qs : List (Pt Str), (∀ p ∈ qs, dep p + 1 ≤ cnt p) → qs.length ≤ (qs.map cnt).sum := by
          intro qs
          induction qs with
          | nil => intro _; exact Nat.zero_le _
          | cons p qs ih =>
            intro h
            rw [List.length_cons, List.map_cons, List.sum_cons]
            have := h p (List.mem_cons_self ..)
            have := ih fun p hp => h p (List.mem_cons_of_mem _ hp)
            omega
        have gen : ∀ qs : List (Pt Str), (∀ p ∈ qs, dep p + 1 ≤ cnt p) → qs ≠ [] → (qs.map dep).foldr Nat.max 0 + qs.length ≤ (qs.map cnt).sum := by
          intro qs
          induction qs with
          | nil => intro _ h; exact absurd rfl h
          | cons p qs ih =>
            intro h _
            have hp := h p (List.mem_cons_self ..)
            have ht := hs qs fun p hp => h p (List.mem_cons_of_mem _ hp)
            rw [List.map_cons, List.foldr_cons, List.length_cons, List.map_cons, List.sum_cons]
            cases qs with
            | nil =>
              show Nat.max (dep p) 0 + (0 + 1) ≤ cnt p + 0
              rw [show Nat.max (dep p) 0 = dep p from Nat.max_zero _]
              omega
            | cons q qs =>
              have := ih (fun p hp => h p (List.mem_cons_of_mem _ hp)) (List.cons_ne_nil _ _)
              rcases Nat.le_total (dep p) (((q :: qs).map dep).foldr Nat.max 0) with c | c
              · rw [show Nat.max (dep p) _ = _ from Nat.max_eq_right c]
                omega
              · rw [show Nat.max (dep p) _ = _ from Nat.max_eq_left c]
                omega
        have := gen (a :: b :: qs) h1 (List.cons_ne_nil _ _)
        rw [List.length_cons, List.length_cons] at this
        omega
    omega
theorem fits_wf {p : Pt Str} (w : Wf p) : ∀ n, dep p < n → cnt p ≤ 60 → fitsP n (enc .str p) = some p := by
  induction w with
  | deed x h =>
    intro n hn _
    cases n with
    | zero => omega
    | succ n =>
      rw [enc, fitsP, if_pos rfl, if_pos h]
  | nd r ps h2 h hw ho ih =>
    intro n hn hc
    cases n with
    | zero => omega
    | succ n =>
      have hl : (ps.map (enc .str)).length = ps.length := List.length_map _
      have hcs : ∀ p ∈ ps, cnt p ≤ 60 := fun p hp => Nat.le_trans (cnt_mem (r := r) hp) hc
      have hds : ∀ p ∈ ps, dep p < n := fun p hp => by
        have := dep_mem (r := r) hp
        omega
      have hlen : ps.length ≤ 60 := by
        rw [cnt_nd] at hc
        have hs : ∀ qs : List (Pt Str), (∀ p ∈ qs, 1 ≤ cnt p) → qs.length ≤ (qs.map cnt).sum := by
          intro qs
          induction qs with
          | nil => intro _; exact Nat.zero_le _
          | cons p qs ih =>
            intro h
            rw [List.length_cons, List.map_cons, List.sum_cons]
            have := h p (List.mem_cons_self ..)
            have := ih fun p hp => h p (List.mem_cons_of_mem _ hp)
            omega
        have := hs ps fun p hp => by have := cnt_pos (h p hp); omega
        omega
      have hm : mapO (fitsP n) (ps.map (enc .str)) = some ps := mapO_some fun p hp => ih p hp n (hds p hp) (hcs p hp)
      have hok : partsOk r ps = true := by
        unfold partsOk
        have h1 : ps.any (hasWord r) = false := by
          rw [List.any_eq_false]
          intro p hp
          rw [hw p hp]
          exact Bool.false_ne_true
        rw [h1]
        rcases ho with rfl | ho
        · rfl
        · rw [ordB_of ho fun p hp => (h p hp).nm, Bool.or_true]
          rfl
      rw [enc_nd]
      cases r with
      | true =>
        show fitsP (n + 1) (.tuple [.str "row", .tuple _]) = _
        rw [fitsP, if_neg (by decide), if_pos (.inl rfl), if_pos ⟨by omega, by omega⟩, hm]
        show (if partsOk (decide (("row" : Str) = "row")) ps = true then some (Pt.nd (decide (("row" : Str) = "row")) ps) else none) = _
        rw [show decide (("row" : Str) = "row") = true from rfl, if_pos hok]
      | false =>
        show fitsP (n + 1) (.tuple [.str "beside", .tuple _]) = _
        rw [fitsP, if_neg (by decide), if_pos (.inr rfl), if_pos ⟨by omega, by omega⟩, hm]
        show (if partsOk (decide (("beside" : Str) = "row")) ps = true then some (Pt.nd (decide (("beside" : Str) = "row")) ps) else none) = _
        rw [show decide (("beside" : Str) = "row") = false from rfl, if_pos hok]
theorem wf_ne {p : Pt Str} (w : Wf p) : PyData.eqv (enc .str p) (.tuple [.str "empty"]) = false := by
  cases w with
  | deed x h =>
    rw [enc]
    simp [PyData.eqv, PyData.eqvAll]
  | nd r ps h2 h hw ho =>
    rw [enc_nd]
    simp [PyData.eqv, PyData.eqvAll]
/-- empty, or well made -/
def WfE (p : Pt Str) : Prop := p = .emp ∨ Wf p
theorem party_wf {p : Pt Str} (w : WfE p) (hc : cnt p ≤ 30) : partyP (enc .str p) = some p := by
  unfold partyP
  rcases w with rfl | w
  · rw [enc, if_pos (by decide +kernel)]
  · have := cnt_pos w
    rw [wf_ne w, if_neg Bool.false_ne_true, fits_wf w 30 (by omega) (by omega)]
    show (if cnt p ≤ 60 then some p else none) = some p
    rw [if_pos (by omega)]
theorem WfE.nm {p : Pt Str} (w : WfE p) : Nm p := by
  rcases w with rfl | w
  · exact .emp
  · exact w.nm
theorem WfE.dep_le {p : Pt Str} (w : WfE p) : dep p ≤ cnt p := by
  rcases w with rfl | w
  · rw [dep]; exact Nat.zero_le _
  · have := cnt_pos w
    omega
/-! ### the law's parties -/
def unw (r : Bool) : Pt Str → List (Pt Str)
  | .emp => []
  | .deed x => [.deed x]
  | .nd t ps => if t = r then ps else [.nd t ps]
def joinF (r : Bool) (qs : List (Pt Str)) : List (Pt Str) := qs.flatMap (unw r)
def join (r : Bool) (qs : List (Pt Str)) : Pt Str := match joinF r qs with
  | [] => .emp
  | [p] => p
  | p :: q :: f => .nd r (if r then p :: q :: f else srt (p :: q :: f))
theorem unw_ok {r : Bool} {p : Pt Str} (w : WfE p) : (∀ q ∈ unw r p, Wf q ∧ hasWord r q = false) ∧ ((unw r p).map cnt).sum = cnt p := by
  rcases w with rfl | w
  · exact ⟨fun q h => (by cases h), by rw [cnt]; rfl⟩
  · cases w with
    | deed x h =>
      refine ⟨fun q hq => ?_, ?_⟩
      · rw [List.mem_singleton.mp hq]
        exact ⟨.deed x h, rfl⟩
      · rw [cnt]
        show cnt (.deed x) + 0 = 1
        rw [cnt]
    | nd t ps h2 h hw ho =>
      show (∀ q ∈ (if t = r then ps else [.nd t ps]), Wf q ∧ hasWord r q = false) ∧ ((if t = r then ps else [.nd t ps]).map cnt).sum = cnt (.nd t ps)
      by_cases e : t = r
      · rw [if_pos e]
        subst e
        exact ⟨fun q hq => ⟨h q hq, hw q hq⟩, (cnt_nd _ _).symm⟩
      · rw [if_neg e]
        refine ⟨fun q hq => ?_, ?_⟩
        · rw [List.mem_singleton.mp hq]
          exact ⟨.nd t ps h2 h hw ho, beq_eq_false_iff_ne.mpr e⟩
        · show cnt (.nd t ps) + 0 = _
          rfl
theorem joinF_ok {r : Bool} : ∀ {qs : List (Pt Str)}, (∀ q ∈ qs, WfE q) → (∀ q ∈ joinF r qs, Wf q ∧ hasWord r q = false) ∧ ((joinF r qs).map cnt).sum = (qs.map cnt).sum
  | [], _ => ⟨fun q h => (by cases h), rfl⟩
  | p :: qs, h => by
    obtain ⟨a1, a2⟩ := unw_ok (r := r) (h p (List.mem_cons_self ..))
    obtain ⟨b1, b2⟩ := joinF_ok (r := r) (qs := qs) fun q hq => h q (List.mem_cons_of_mem _ hq)
    have e : joinF r (p :: qs) = unw r p ++ joinF r qs := List.flatMap_cons
    rw [e]
    refine ⟨fun q hq => ?_, ?_⟩
    · rcases List.mem_append.mp hq with h | h
      · exact a1 q h
      · exact b1 q h
    · rw [List.map_append, List.sum_append, a2, b2, List.map_cons, List.sum_cons]
theorem join_ok {r : Bool} {qs : List (Pt Str)} (h : ∀ q ∈ qs, WfE q) : WfE (join r qs) ∧ cnt (join r qs) = (qs.map cnt).sum := by
  obtain ⟨h1, h2⟩ := joinF_ok (r := r) h
  unfold join
  rw [← h2]
  match joinF r qs, h1 with
  | [], _ => exact ⟨.inl rfl, by rw [cnt]; rfl⟩
  | [p], h1 => exact ⟨.inr (h1 p (List.mem_singleton_self p)).1, rfl⟩
  | p :: q :: f, h1 =>
    cases r with
    | true =>
      refine ⟨.inr (.nd true _ ?_ (fun x hx => (h1 x hx).1) (fun x hx => (h1 x hx).2) (.inl rfl)), cnt_nd _ _⟩
      show 2 ≤ f.length + 1 + 1
      omega
    | false =>
      have pm := srt_perm (p :: q :: f)
      refine ⟨.inr (.nd false _ ?_ (fun x hx => (h1 x (pm.mem_iff.mp hx)).1) (fun x hx => (h1 x (pm.mem_iff.mp hx)).2) (.inr (srt_pw _))), ?_⟩
      · show 2 ≤ (srt (p :: q :: f)).length
        rw [pm.length_eq]
        show 2 ≤ f.length + 1 + 1
        omega
      · rw [cnt_nd]
        exact (pm.map cnt).sum_nat
end Pt

end Z

set_option Elab.async false
set_option linter.all false
set_option maxRecDepth 100000
set_option maxHeartbeats 4000000

namespace Z
open PySem PySem.Spec PyProof.Rows L2 Z.R
local macro_rules | `(tactic| walk_at "sx") => `(tactic| try simp only [and_assoc, cxOf_K, cxOf_Kn, C8.tCut, rEq, rNe, sc_ii, sc_ss, sc_bb, sc_is, sc_si, sc_bs, sc_sb, tSeq, tAsg, tPar, tPar3, tC, gName, gNil, gCons, gTup, gSub, rSetL, L2.start, tVar, tOp, tUn, rI0, rI, rU, tTest, tChain, tOrV, tAndV, tNotV, tCB, tCons, tNil, tLst, tTup, tIfS, tNext, tRet, tRetN, tDrop, tAnd, tOr, tNot, tB, tIf, tSl, tFld, sFld, putF, tNoPart, tPart, rSlL, tBM, tBM0, rAppend, rPop, rExtend, tCall, tMeth, List.map_cons, List.map_nil, List.replicate, List.length_cons, List.length_nil, List.append, List.cons_append, List.nil_append, List.append_nil, List.getElem?_cons_zero, List.getElem?_cons_succ, List.set_cons_zero, List.set_cons_succ, Option.some.injEq, exists_eq_left', exists_eq_left, exists_eq, exists_and_left, exists_const, wipe, tYes, upd_same, ↓reduceIte, decide_false, decide_true, Bool.not_true, Bool.not_false, Bool.false_eq_true, V.int.injEq, HO.lst.injEq, HO.tup.injEq, V.ref.injEq, V.str.injEq, one_inj, le_a, le_z, le_0, le_9, mem_let, mem_dig, V.bl.injEq, List.cons.injEq, and_true, true_and, reduceCtorEq, false_and, exists_false, or_false, false_or])
namespace R
section
variable {X : Cx}
end
end R
open L2
/-! ### comprehensions over data, one name, no test -/
section
variable {K : PySem.W.Frag} {J : It} {n : Nat} {G : Hp → Prop} {xs : List V} {H1 : Hp} {D : Addr} {Qd : Hp → Prop} {te : TE} {s : Nat} {σ : L2.St}
theorem same_D {o : HO} {H H' : Hp} (f : Same H H') (h : H D = none) : Same H (upd H' D o) := fun b u e => by
  rw [upd_ne (ne_of_none e h)]
  exact f b u e
theorem dps_upd {H H' : Hp} {ds : List PyData} {vs : List V} {o : HO} {ys : List V} (to : ∀ d ∈ ds, To d) (f : Same H H') (hD : H' D = some (.lst ys)) (h : DpAll K H vs ds) : DpAll K (upd H' D o) vs ds :=
  To.monoAll (Tp.upd (.of f) hD) to h
theorem lc_dp (w : Walk J xs.length G (YAt xs)) (hD : H1 D = none) (out : List PyData) (hlen : out.length = xs.length) (hz : xs.length ≤ sizeLine) (to : ∀ d ∈ out, To d) (hG : ∀ H' : Hp, Same H1 H' → G H')
    (hs : ∀ (i : Nat) (x : V) (d : PyData), xs[i]? = some x → out[i]? = some d → ∀ H' (R : VK), Same H1 H' → (∀ v H'', Same H' H'' → Dp K H'' v d → R v H'') → te (σ.set s (some x)) H' R)
    (hd : ∀ (H' : Hp) (vs : List V), Same H1 H' → H' D = some (.lst vs) → DpAll K H' vs out → Qd H') :
    ∃ W : Nat → Nat → Hp → Prop, (∃ m, W 0 m (upd H1 D (.lst []))) ∧ ∀ i m H, W i m H →
      (J.stop i H ∧ Qd H) ∨ (J.go i H ∧ ∃ Nx : Hp → Prop, (∀ H', Nx H' → ∃ m', m' < m ∧ W (i + 1) m' H') ∧ ∀ x H', J.yld i H x H' → gName s x (wipe σ [s]) H' fun σ2 H2 => wipe σ2 [s] = wipe σ [s] ∧ tYes σ2 H2 fun b H3 =>
        if b = true then te σ2 H3 fun y H4 => ∃ acc, H4 D = some (.lst acc) ∧ acc.length < sizeLine ∧ Nx (upd H4 D (.lst (acc ++ [y]))) else Nx H3) := by
  refine lc_it w (fun i H => Same H1 H ∧ ∃ vs, H D = some (.lst vs) ∧ DpAll K H vs (out.take i)) ⟨same_upd hD, [], upd_same, .nil⟩ (fun i H _ p => hG H p.1) ?_ ?_
  · rintro i x H H' hi ⟨sm, vs, eD, dv⟩ ⟨rfl, hx⟩
    have e0 : (wipe σ [s]).set s (some x) = σ.set s (some x) := by simp only [wipe, List.set_set]
    simp only [gName, tYes, ↓reduceIte, e0]
    obtain ⟨d, hd1⟩ : ∃ d, out[i]? = some d := ⟨out[i]'(by omega), List.getElem?_eq_getElem _⟩
    refine ⟨by simp only [wipe, List.set_set], hs i x d hx hd1 _ _ sm fun v H'' s2 dp => ⟨vs, s2 _ _ eD, ?_, same_D (sm.trans s2) hD, vs ++ [v], upd_same, ?_⟩⟩
    · have := DpAll.length dv
      rw [List.length_take] at this
      omega
    · have e1 : out.take (i + 1) = out.take i ++ [d] := by rw [List.take_add_one, hd1]; rfl
      rw [e1]
      have all : DpAll K H'' (vs ++ [v]) (out.take i ++ [d]) := DpAll.append (DpAll.same s2 dv) (.cons dp .nil)
      refine dps_upd (H := H'') (fun d' hd' => ?_) (.refl _) (s2 _ _ eD) all
      rcases List.mem_append.mp hd' with h | h
      · exact to d' (List.mem_of_mem_take h)
      · rw [List.mem_singleton.mp h]
        exact to d (List.mem_of_getElem? hd1)
  · rintro H ⟨sm, vs, eD, dv⟩
    rw [← hlen, List.take_of_length_le (Nat.le_refl _)] at dv
    exact hd H vs sm eD dv
end
/-! ### constants -/
def dE : PyData := .tuple [.str "empty"]
theorem dE_enc {α : Type} (f : α → PyData) : Pt.enc f .emp = dE := by rw [Pt.enc]; rfl

end Z

set_option Elab.async false
set_option linter.all false
set_option maxRecDepth 100000
set_option maxHeartbeats 4000000

namespace Z
open PySem PySem.Spec PyProof.Rows L2 Z.R
local macro_rules | `(tactic| walk_at "sx") => `(tactic| try simp only [and_assoc, cxOf_K, cxOf_Kn, C8.tCut, rEq, rNe, sc_ii, sc_ss, sc_bb, sc_is, sc_si, sc_bs, sc_sb, tSeq, tAsg, tPar, tPar3, tC, gName, gNil, gCons, gTup, gSub, rSetL, L2.start, tVar, tOp, tUn, rI0, rI, rU, tTest, tChain, tOrV, tAndV, tNotV, tCB, tCons, tNil, tLst, tTup, tIfS, tNext, tRet, tRetN, tDrop, tAnd, tOr, tNot, tB, tIf, tSl, tFld, sFld, putF, tNoPart, tPart, rSlL, tBM, tBM0, rAppend, rPop, rExtend, tCall, tMeth, List.map_cons, List.map_nil, List.replicate, List.length_cons, List.length_nil, List.append, List.cons_append, List.nil_append, List.append_nil, List.getElem?_cons_zero, List.getElem?_cons_succ, List.set_cons_zero, List.set_cons_succ, Option.some.injEq, exists_eq_left', exists_eq_left, exists_eq, exists_and_left, exists_const, wipe, tYes, upd_same, ↓reduceIte, decide_false, decide_true, Bool.not_true, Bool.not_false, Bool.false_eq_true, V.int.injEq, HO.lst.injEq, HO.tup.injEq, V.ref.injEq, V.str.injEq, one_inj, le_a, le_z, le_0, le_9, mem_let, mem_dig, V.bl.injEq, List.cons.injEq, and_true, true_and, reduceCtorEq, false_and, exists_false, or_false, false_or])
def isWhole : PyData → Bool
  | .int _ => true
  | _ => false
def shapeD (n : Nat) : PyData → Bool
  | .tuple ds => decide (ds.length = n)
  | _ => false
def spWhole (K : PySem.W.Frag) : Sp := fun vs H Q _ => ∃ (v : V) (d : PyData), vs = [v] ∧ Dp K H v d ∧ Q (.bl (isWhole d)) H
def spShape (K : PySem.W.Frag) : Sp := fun vs H Q _ => ∃ (v : V) (d : PyData) (n : Nat), vs = [v, .int (n : Nat)] ∧ Dp K H v d ∧ Q (.bl (shapeD n d)) H
def spName (K : PySem.W.Frag) : Sp := fun vs H Q _ => ∃ (v : V) (d : PyData), vs = [v] ∧ Dp K H v d ∧ (∀ x, d = .str x → x.length ≤ sizeLine) ∧ ∀ H', Same H H' → Q (.bl (nameD d)) H'
theorem mem_sig (c : Nat) : decide (c ∈ (Str.ofString "abcdefghijklmnopqrstuvwxyz0123456789").cps.toList) = (isLet c || isDig c) := by
  have e : (Str.ofString "abcdefghijklmnopqrstuvwxyz0123456789").cps.toList = (Str.ofString "abcdefghijklmnopqrstuvwxyz").cps.toList ++ (Str.ofString "0123456789").cps.toList := by decide +kernel
  rw [← mem_let, ← mem_dig, e, Bool.eq_iff_iff, Bool.or_eq_true, decide_eq_true_eq, decide_eq_true_eq, decide_eq_true_eq, List.mem_append]
theorem in_words (x : Str) : inV (.str x) (WORDSL.map V.str) = WORDSL.contains x := by
  unfold inV
  rw [List.any_map, List.contains_eq_any_beq]
  congr 1
  funext y
  show (y == x) = (x == y)
  exact Bool.beq_comm ..
section
variable {P : Program} {w : World} {K : PySem.W.Frag} {mg : Str → Option Value} {base : Heap}
theorem sc_is_whole : FnScope ["value"] ["value"] (defScope s_is_whole) := ⟨rfl, rfl, rfl, by decide +kernel, rfl, by decide +kernel, by decide +kernel⟩
theorem ok_is_whole {f : Addr} {fd : FuncData} (F : Fun K "is_whole" "is_whole" s_is_whole f fd) (b_isinstance : mg "isinstance" = none) (b_int : mg "int" = none) (b_bool : mg "bool" = none) : FnOk P w K mg base CX0 1 f fd ["value"] (spWhole K) := by
  have nd := sc_is_whole.nd
  refine F.ok sc_is_whole (fun vs H Q E h => ?_) (fun cdv A outer s H vs Q E hr h => ?_)
  · obtain ⟨v, d, rfl, _⟩ := h
    rfl
  obtain ⟨v, d, rfl, hv, q⟩ := h
  refine ⟨_, (pss_one (ps_ret (pe_and (pe_callB call_isi (by rfl) b_isinstance (by decide +kernel) (pa_cons (pv 0) (pa_cons (pe_bltn (v := .ty "int") (by rfl) b_int (by decide +kernel) rfl) pa_nil))) (pe_one (pe_not (pe_callB call_isi (by rfl) b_isinstance (by decide +kernel) (pa_cons (pv 0) (pa_cons (pe_bltn (v := .ty "bool") (by rfl) b_bool (by decide +kernel) rfl) pa_nil)))))))), ?_⟩
  walk_at "sx"
  refine isi_int hv ⟨_, rfl, ?_⟩
  refine ite2 (fun c => isi_bool hv ⟨_, rfl, ?_⟩) (fun c => ?_)
  · cases d <;> first | exact q | (exact absurd c Bool.false_ne_true)
  · cases d <;> first | exact q | (exact absurd rfl c)
theorem sc_has_shape : FnScope ["value", "size"] ["value", "size"] (defScope s_has_shape) := ⟨rfl, rfl, rfl, by decide +kernel, rfl, by decide +kernel, by decide +kernel⟩
theorem ok_has_shape {f : Addr} {fd : FuncData} (F : Fun K "has_shape" "has_shape" s_has_shape f fd) (b_isinstance : mg "isinstance" = none) (b_tuple : mg "tuple" = none) (b_len : mg "len" = none) : FnOk P w K mg base CX0 1 f fd ["value", "size"] (spShape K) := by
  have nd := sc_has_shape.nd
  refine F.ok sc_has_shape (fun vs H Q E h => ?_) (fun cdv A outer s H vs Q E hr h => ?_)
  · obtain ⟨v, d, n, rfl, _⟩ := h
    rfl
  obtain ⟨v, d, n, rfl, hv, q⟩ := h
  refine ⟨_, (pss_one (ps_ret (pe_and (pe_callB call_isi (by rfl) b_isinstance (by decide +kernel) (pa_cons (pv 0) (pa_cons (pe_bltn (v := .ty "tuple") (by rfl) b_tuple (by decide +kernel) rfl) pa_nil))) (pe_one (pe_cmpR op_eq (pe_callB call_len (by rfl) b_len (by decide +kernel) (pa_cons (pv 0) pa_nil)) (pv 1) (nomark _)))))), ?_⟩
  walk_at "sx"
  refine isi_tup hv ⟨_, rfl, ?_⟩
  cases hv with
  | tup hs ha =>
    refine iteT ⟨_, len_t hs rfl, ?_⟩
    walk_at "sx"
    rename_i a xs ds
    have q : Q (.bl (decide (ds.length = n))) H := q
    rw [← DpAll.length ha] at q
    have e : decide ((xs.length : Int) = (n : Int)) = decide (xs.length = n) := by
      rw [Bool.eq_iff_iff, decide_eq_true_eq, decide_eq_true_eq]
      omega
    simp only [e]
    exact q
  | _ => exact iteF q
theorem sc_is_name : FnScope ["value", "sign"] ["value"] (defScope s_is_name) := ⟨rfl, rfl, rfl, by decide +kernel, rfl, by decide +kernel, by decide +kernel⟩
theorem ok_is_name {f : Addr} {fd : FuncData} (F : Fun K "is_name" "is_name" s_is_name f fd) (b_isinstance : mg "isinstance" = none) (b_str : mg "str" = none) (b_len : mg "len" = none) (b_all : mg "all" = none) {aW : Addr} (hW : ∀ H, SqT K H aW (WORDSL.map V.str))
    (g_WORDS : GV mg "WORDS" (.ref aW)) (g_LETTERS : GV mg "LETTERS" (.str "abcdefghijklmnopqrstuvwxyz")) (g_SIGNS : GV mg "SIGNS" (.str "abcdefghijklmnopqrstuvwxyz0123456789")) : FnOk P w K mg base CX0 1 f fd ["value"] (spName K) := by
  have nd := sc_is_name.nd
  refine F.ok sc_is_name (fun vs H Q E h => ?_) (fun cdv A outer s H vs Q E hr h => ?_)
  · obtain ⟨v, d, rfl, _⟩ := h
    rfl
  obtain ⟨v, d, rfl, hv, hl, q⟩ := h
  refine ⟨_, (pss_cons (ps_if (PW.pt (pw_or (pt_not (pt_val (pe_callB call_isi (by rfl) b_isinstance (by decide +kernel) (pa_cons (pv 0) (pa_cons (pe_bltn (v := .ty "str") (by rfl) b_str (by decide +kernel) rfl) pa_nil))))) (pw_or (pt_not (pt_chain op_lt op_lt pe_int (pe_callB call_len (by rfl) b_len (by decide +kernel) (pa_cons (pv 0) pa_nil)) pe_int)) (pw_or1 (pt_cmpR op_notIn_sign (pe_ix ix_str (pv 0) pe_int (fun _ _ => rfl)) (pe_gv g_LETTERS) (by rfl)))))) (pss_one (ps_ret pe_bl)) pss_nil)
  (pss_one (ps_ret (pe_and (pe_cmpR op_notIn_seq (pv 0) (pe_gv g_WORDS) (by rfl)) (pe_one (pe_callB (cr_all rfl) (by rfl) b_all (by decide +kernel) (pa_cons (pe_lc (own := [("sign", 1)]) rfl nd (pi_str (pv 0)) (blkOk_by (N := ["value", "sign"]) (sc := defScope s_is_name) (by decide +kernel)) (fun _ _ _ _ _ => (pg_name (i := 1) nd rfl (.inl rfl))) (fun _ _ _ _ _ => pts_nil) (fun _ _ _ _ _ => (pe_cmpR op_in_sign (pv 1) (pe_gv g_SIGNS) (by rfl)))) pa_nil))))))), ?_⟩
  walk_at "sx"
  refine isi_str hv ⟨_, rfl, ?_⟩
  cases d with
  | str x =>
    cases hv
    have hx := hl x rfl
    refine iteF ⟨_, len_s hx rfl, ?_⟩
    walk_at "sx"
    have ew : nameD (.str x) = (isWd x.cps.toList && !WORDSL.contains x) := rfl
    have el := tl_len x
    have no : ¬ (1 ≤ x.cps.toList.length ∧ x.cps.toList.length ≤ 12) → isWd x.cps.toList = false := fun h => by rw [isWd_eq, decide_eq_false h]; rfl
    refine ite2 (fun c1 => ite2 (fun c2 => ?_) (fun c2 => ?_)) (fun c1 => ?_)
    · have := q H (.refl H)
      rw [ew, no] at this
      · exact this
      · simp only [Bool.not_eq_true', decide_eq_false_iff_not] at c2
        omega
    · simp only [decide_eq_true_eq] at c1
      simp only [Bool.not_eq_true, Bool.not_eq_false', decide_eq_true_eq] at c2
      cases hh : x.cps.toList.head? with
      | none =>
        have := List.head?_eq_none_iff.mp hh
        rw [this] at el
        simp only [List.length_nil] at el
        omega
      | some c =>
        refine ixs (K := K) hx (head_at x c hh) ⟨c, rfl, ?_⟩
        have e1 : isWd x.cps.toList = (isLet c && x.cps.toList.all fun c => isLet c || isDig c) := by
          rw [isWd_eq, hh, decide_eq_true (by omega)]
          rfl
        refine ite2 (fun c3 => ?_) (fun c3 => ?_)
        · have := q H (.refl H)
          rw [ew, e1] at this
          simp only [Bool.not_eq_true'] at c3
          rw [c3] at this
          exact this
        · simp only [Bool.not_eq_true, Bool.not_eq_false'] at c3
          refine ⟨aW, _, rfl, .inr (hW _), rfl, by decide +kernel, _, rfl, ?_⟩
          simp only [if_true, in_words]
          refine ite2 (fun c4 => ?_) (fun c4 => ?_)
          · refine ⟨_, rfl, x, rfl, fun D nD => lc_map (walk_sgs x) (f := fun v => match v with | .str ⟨#[c]⟩ => .bl (isLet c || isDig c) | _ => .non) (by rw [sgs_len]; exact hx) (fun _ => trivial) ?_ ?_⟩
            · intro y hy acc R hR
              obtain ⟨c, _, rfl⟩ := List.mem_map.mp hy
              have hR : R (.bl (isLet c || isDig c)) _ := hR
              simp only [sg]
              walk_at "sx"
              rw [mem_sig]
              exact hR
            · refine all_of (all_sgs x (fun c => isLet c || isDig c) _ fun c => rfl) ?_
              have := q _ (same_upd (o := .lst ((sgs x).map (fun v => match v with | .str ⟨#[c]⟩ => .bl (isLet c || isDig c) | _ => .non))) nD)
              rw [ew, e1, c3, c4, Bool.and_true] at this
              exact this
          · have := q H (.refl H)
            rw [ew, (Bool.not_eq_true _).mp c4, Bool.and_false] at this
            exact this
    · have := q H (.refl H)
      rw [ew, no] at this
      · exact this
      · simp only [decide_eq_true_eq] at c1
        omega
  | _ => exact q H (.refl H)
end

end Z

set_option Elab.async false
set_option linter.all false
set_option maxRecDepth 100000
set_option maxHeartbeats 4000000

namespace Z
open PySem PySem.Spec PyProof.Rows L2 Z.R
local macro_rules | `(tactic| walk_at "sx") => `(tactic| try simp only [and_assoc, cxOf_K, cxOf_Kn, C8.tCut, rEq, rNe, sc_ii, sc_ss, sc_bb, sc_is, sc_si, sc_bs, sc_sb, tSeq, tAsg, tPar, tPar3, tC, gName, gNil, gCons, gTup, gSub, rSetL, L2.start, tVar, tOp, tUn, rI0, rI, rU, tTest, tChain, tOrV, tAndV, tNotV, tCB, tCons, tNil, tLst, tTup, tIfS, tNext, tRet, tRetN, tDrop, tAnd, tOr, tNot, tB, tIf, tSl, tFld, sFld, putF, tNoPart, tPart, rSlL, tBM, tBM0, rAppend, rPop, rExtend, tCall, tMeth, List.map_cons, List.map_nil, List.replicate, List.length_cons, List.length_nil, List.append, List.cons_append, List.nil_append, List.append_nil, List.getElem?_cons_zero, List.getElem?_cons_succ, List.set_cons_zero, List.set_cons_succ, Option.some.injEq, exists_eq_left', exists_eq_left, exists_eq, exists_and_left, exists_const, wipe, tYes, upd_same, ↓reduceIte, decide_false, decide_true, Bool.not_true, Bool.not_false, Bool.false_eq_true, V.int.injEq, HO.lst.injEq, HO.tup.injEq, V.ref.injEq, V.str.injEq, one_inj, le_a, le_z, le_0, le_9, mem_let, mem_dig, V.bl.injEq, List.cons.injEq, and_true, true_and, reduceCtorEq, false_and, exists_false, or_false, false_or])
namespace Pt
/-- no empty party within, names that are names, two to sixty parts -/
inductive Fl : Pt Str → Prop where
  | deed (x : Str) (h : isName x = true) : Fl (.deed x)
  | nd (r : Bool) (ps : List (Pt Str)) (h2 : 2 ≤ ps.length) (h6 : ps.length ≤ 60) (h : ∀ p ∈ ps, Fl p) : Fl (.nd r ps)
theorem Fl.nm {p : Pt Str} (w : Fl p) : Nm p := by
  induction w with
  | deed x h => exact .deed x h
  | nd r ps h2 h6 h ih => exact .nd r ps h2 ih
theorem len_cnt : ∀ {qs : List (Pt Str)}, (∀ p ∈ qs, 1 ≤ cnt p) → qs.length ≤ (qs.map cnt).sum
  | [], _ => Nat.zero_le _
  | p :: qs, h => by
    rw [List.length_cons, List.map_cons, List.sum_cons]
    have := h p (List.mem_cons_self ..)
    have := len_cnt fun p hp => h p (List.mem_cons_of_mem _ hp)
    omega
theorem Wf.fl {p : Pt Str} (w : Wf p) (hc : cnt p ≤ 60) : Fl p := by
  induction w with
  | deed x h => exact .deed x h
  | nd r ps h2 h hw ho ih =>
    refine .nd r ps h2 ?_ fun p hp => ih p hp (Nat.le_trans (cnt_mem (r := r) hp) hc)
    have := len_cnt (qs := ps) fun p hp => by
      have := cnt_pos (h p hp)
      omega
    rw [cnt_nd] at hc
    omega
theorem mapO_all {α β : Type} {f : α → Option β} {P : β → Prop} (h : ∀ a b, f a = some b → P b) : ∀ {xs : List α} {ys : List β}, mapO f xs = some ys → (∀ y ∈ ys, P y) ∧ ys.length = xs.length
  | [], ys, e => by
    rw [mapO] at e
    obtain rfl := Option.some.inj e
    exact ⟨fun y h => (by cases h), rfl⟩
  | x :: xs, ys, e => by
    rw [mapO] at e
    cases e1 : f x with
    | none =>
      rw [e1] at e
      cases e
    | some y =>
      rw [e1] at e
      cases e2 : mapO f xs with
      | none =>
        rw [e2] at e
        cases e
      | some zs =>
        rw [e2] at e
        obtain rfl := Option.some.inj e
        obtain ⟨q1, q2⟩ := mapO_all h e2
        refine ⟨fun z hz => ?_, by rw [List.length_cons, List.length_cons, q2]⟩
        rcases List.mem_cons.mp hz with rfl | hz
        · exact h _ _ e1
        · exact q1 z hz
theorem fits_fl : ∀ (n : Nat) (d : PyData) (p : Pt Str), fitsP n d = some p → Fl p ∧ dep p < n
  | 0, d, p, e => by
    rw [fitsP] at e
    cases e
  | n + 1, d, p, e => by
    unfold fitsP at e
    split at e
    · cases e
    · rename_i m w x hm
      obtain rfl : n = m := Nat.succ.inj hm
      split at e
      · split at e
        · split at e
          · rename_i h
            obtain rfl := Option.some.inj e
            exact ⟨.deed _ h, by rw [dep]; omega⟩
          · cases e
        · cases e
      · split at e
        · split at e
          · split at e
            · rename_i hl
              split at e
              · rename_i qs hq
                split at e
                · obtain rfl := Option.some.inj e
                  obtain ⟨q1, q2⟩ := mapO_all (P := fun p => Fl p ∧ dep p < n) (fun a b h => fits_fl n a b h) hq
                  refine ⟨.nd _ qs (by omega) (by omega) fun p hp => (q1 p hp).1, ?_⟩
                  rw [dep_nd]
                  have : (qs.map dep).foldr Nat.max 0 ≤ n - 1 := max_le fun x hx => by
                    obtain ⟨p, hp, rfl⟩ := List.mem_map.mp hx
                    have := (q1 p hp).2
                    omega
                  have : 0 < n := by
                    match qs, q1, q2 with
                    | p :: _, q1, _ =>
                      have := (q1 p (List.mem_cons_self ..)).2
                      omega
                    | [], _, q2 =>
                      have : (0 : Nat) = _ := q2
                      omega
                  omega
                · cases e
              · cases e
            · cases e
          · cases e
        · cases e
    · cases e
theorem enc_to {α : Type} {f : α → PyData} (hf : ∀ a, To (f a)) : ∀ p : Pt α, To (enc f p) := by
  refine ind ?_ (fun x => ?_) fun r ps ih => ?_
  · rw [enc]
    exact .tup _ fun d hd => by rw [List.mem_singleton.mp hd]; exact .str _
  · rw [enc]
    refine .tup _ fun d hd => ?_
    rcases List.mem_cons.mp hd with rfl | hd
    · exact .str _
    · rw [List.mem_singleton.mp hd]
      exact hf x
  · rw [enc_nd]
    refine .tup _ fun d hd => ?_
    rcases List.mem_cons.mp hd with rfl | hd
    · exact .str _
    · rw [List.mem_singleton.mp hd]
      exact .tup _ fun d hd => by
        obtain ⟨p, hp, rfl⟩ := List.mem_map.mp hd
        exact ih p hp
theorem key_to : ∀ p : Pt Str, To (key p) := by
  have four : ∀ (a b : Int) (ds : List PyData) (x : Str), (∀ d ∈ ds, To d) → To (.tuple [.int a, .int b, .tuple ds, .str x]) := fun a b ds x h => .tup _ fun d hd => by
    simp only [List.mem_cons, List.not_mem_nil, or_false] at hd
    rcases hd with rfl | rfl | rfl | rfl
    · exact .int _
    · exact .int _
    · exact .tup _ h
    · exact .str _
  refine ind ?_ (fun x => ?_) fun r ps ih => ?_
  · rw [key]
    exact four _ _ _ _ fun d h => by cases h
  · rw [key]
    exact four _ _ _ _ fun d h => by cases h
  · rw [key_nd]
    exact four _ _ _ _ fun d hd => by
      obtain ⟨p, hp, rfl⟩ := List.mem_map.mp hd
      exact ih p hp
end Pt
section
variable {K : PySem.W.Frag} {H : Hp} {α : Type} {f : α → PyData} {v : V}
theorem dp2 {x : Str} {d : PyData} (h : Dp K H v (.tuple [.str x, d])) : ∃ t u, v = .ref t ∧ SqT K H t [.str x, u] ∧ Dp K H u d := by
  cases h with
  | tup hs ha =>
    cases ha with
    | cons h1 h2 =>
      cases h1
      cases h2 with
      | cons h3 h4 =>
        cases h4
        exact ⟨_, _, rfl, hs, h3⟩
theorem dp_tup {ds : List PyData} (h : Dp K H v (.tuple ds)) : ∃ t us, v = .ref t ∧ SqT K H t us ∧ DpAll K H us ds := by
  cases h with
  | tup hs ha => exact ⟨_, _, rfl, hs, ha⟩
theorem dp_deed {a : α} (h : Dp K H v (Pt.enc f (.deed a))) : ∃ t u, v = .ref t ∧ SqT K H t [.str "deed", u] ∧ Dp K H u (f a) := by
  rw [Pt.enc] at h
  exact dp2 h
theorem dp_nd {r : Bool} {ps : List (Pt α)} (h : Dp K H v (Pt.enc f (.nd r ps))) : ∃ t t2 us, v = .ref t ∧ SqT K H t [.str (if r then "row" else "beside"), .ref t2] ∧ SqT K H t2 us ∧ DpAll K H us (ps.map (Pt.enc f)) := by
  rw [Pt.enc_nd] at h
  obtain ⟨t, u, e, s1, h2⟩ := dp2 h
  obtain ⟨t2, us, rfl, s2, h3⟩ := dp_tup h2
  exact ⟨t, t2, us, e, s1, s2, h3⟩
theorem tup_same {H' : Hp} {t : Addr} {xs : List V} (f : Same H H') (h : SqT K H t xs) : SqT K H' t xs := (Tp.of f).sqt h
end
section
variable {X : Cx} {K : PySem.W.Frag}
theorem ix_tupK (h : X.K = K) : IxR X (rIxT K) := h ▸ ix_tup
theorem ix_listK (h : X.K = K) : IxR X (rIxL K) := h ▸ ix_list
end
theorem ixt {K : PySem.W.Frag} {H : Hp} {a : Addr} {xs : List V} {i : Int} {v : V} {Q : VK} (h : SqT K H a xs) (hi : atI xs i = some v) (q : Q v H) : rIxT K (.ref a) (.int i) H Q := ⟨a, xs, i, v, rfl, rfl, h, hi, q⟩
section
variable {CX : CXT} {P : Program} {w : World} {K : PySem.W.Frag} {mg : Str → Option Value} {base : Heap} {N : List Str} {qual : Str} {scope : Scope} {f : Addr} {cd : Value} {A : Around} {outer : List Env} {s : Shared} {H : Hp} {E : XK}
theorem cxOf_w : (cxOf CX P w K mg base N qual scope f cd A outer s H E).w = w := rfl
end
theorem deed_ne {r : Bool} : decide (V.str (if r then "row" else "beside") = V.str "deed") = false := by cases r <;> decide +kernel
theorem str_scal (x y : Str) : scal (.str x) (.str y) = true := rfl
theorem dp4 {K : PySem.W.Frag} {H : Hp} {v : V} {n r : Int} {ds : List PyData} {x : Str} (h : Dp K H v (.tuple [.int n, .int r, .tuple ds, .str x])) : ∃ t u, v = .ref t ∧ SqT K H t [.int n, .int r, u, .str x] := by
  cases h with
  | tup hs ha =>
    cases ha with
    | cons h1 h2 =>
      cases h1
      cases h2 with
      | cons h3 h4 =>
        cases h3
        cases h4 with
        | cons h5 h6 =>
          cases h6 with
          | cons h7 h8 =>
            cases h7
            cases h8
            exact ⟨_, _, rfl, hs⟩
section
variable {K : PySem.W.Frag} {H : Hp} {σ : L2.St} {Q : VK} {te : TE}
/-- [f(x) for x in v[i]], v[i] a tuple -/
theorem lc_ix {s j : Nat} {t t2 : Addr} {xs us : List V} {i : Int} (hj : σ[j]? = some (some (.ref t))) (h1 : SqT K H t xs) (hi : atI xs i = some (.ref t2)) (h2 : SqT K H t2 us) (hz : us.length ≤ 1000) (out : List PyData) (hlen : out.length = us.length) (to : ∀ d ∈ out, To d)
    (hs : ∀ (i : Nat) (x : V) (d : PyData), us[i]? = some x → out[i]? = some d → ∀ H' (R : VK), Same H H' → (∀ v H'', Same H' H'' → Dp K H'' v d → R v H'') → te (σ.set s (some x)) H' R)
    (hd : ∀ (D : Addr) (H' : Hp) (vs : List V), H D = none → Same H H' → H' D = some (.lst vs) → DpAll K H' vs out → Q (.ref D) H') :
    tLc (iTup K (tOp (rIxT K) (tVar j) (tC (.int i)))) (gName s) tYes te [s] σ H Q :=
  ⟨_, hj, t, xs, i, _, rfl, rfl, h1, hi, t2, rfl, ⟨us, h2⟩, fun D nD => lc_dp walk_tup nD out hlen (Nat.le_of_lt (small1000 (by omega))) to (fun H' f => tup_same f h2) hs fun H' vs a b c => hd D H' vs nD a b c⟩
/-- [f(x) for x in v], v a tuple -/
theorem lc_vt {s j : Nat} {t2 : Addr} {us : List V} (hj : σ[j]? = some (some (.ref t2))) (h2 : SqT K H t2 us) (hz : us.length ≤ 1000) (out : List PyData) (hlen : out.length = us.length) (to : ∀ d ∈ out, To d)
    (hs : ∀ (i : Nat) (x : V) (d : PyData), us[i]? = some x → out[i]? = some d → ∀ H' (R : VK), Same H H' → (∀ v H'', Same H' H'' → Dp K H'' v d → R v H'') → te (σ.set s (some x)) H' R)
    (hd : ∀ (D : Addr) (H' : Hp) (vs : List V), H D = none → Same H H' → H' D = some (.lst vs) → DpAll K H' vs out → Q (.ref D) H') :
    tLc (iTup K (tVar j)) (gName s) tYes te [s] σ H Q :=
  ⟨_, hj, t2, rfl, ⟨us, h2⟩, fun D nD => lc_dp walk_tup nD out hlen (Nat.le_of_lt (small1000 (by omega))) to (fun H' f => tup_same f h2) hs fun H' vs a b c => hd D H' vs nD a b c⟩
end
theorem dp_ints {K : PySem.W.Frag} {H : Hp} {α : Type} {g : α → Int} : ∀ {ps : List α} {vs : List V}, DpAll K H vs (ps.map fun p => .int (g p)) → vs = (ps.map g).map V.int
  | [], _, h => by
    cases h
    rfl
  | p :: ps, _, h => by
    cases h with
    | cons h1 h2 =>
      cases h1
      rw [dp_ints h2]
      rfl
theorem sum_cast {α : Type} (g : α → Nat) : ∀ ps : List α, (ps.map fun p => (g p : Int)).sum = ((ps.map g).sum : Int)
  | [] => rfl
  | p :: ps => by
    rw [List.map_cons, List.map_cons, List.sum_cons, List.sum_cons, sum_cast g ps, Int.natCast_add]
def isEmp {α : Type} : Pt α → Bool
  | .emp => true
  | _ => false
theorem eqv_emp {α : Type} (f : α → PyData) (p : Pt α) : PyData.eqv (Pt.enc f p) dE = isEmp p := by
  cases p with
  | emp =>
    rw [Pt.enc]
    show PyData.eqv (.tuple [.str "empty"]) dE = true
    decide +kernel
  | deed a =>
    rw [Pt.enc]
    simp [PyData.eqv, PyData.eqvAll, dE, isEmp]
  | nd r ps =>
    rw [Pt.enc_nd]
    simp [PyData.eqv, PyData.eqvAll, dE, isEmp]
theorem eq_emp {K : PySem.W.Frag} {H : Hp} {v : V} {Q : VK} {α : Type} {f : α → PyData} {p : Pt α} {aE : Addr} (hv : Dp K H v (Pt.enc f p)) (hE : ∀ H, SqT K H aE [.str "empty"]) (hs : SeqAt.shaped (Pt.enc f p) = true) (q : Q (.bl (isEmp p)) H) : rEqD K v (.ref aE) H Q := by
  refine ⟨_, dE, hv, .tup (hE H) (.cons (.str _) .nil), hs, by decide +kernel, ?_⟩
  rw [eqv_emp]
  exact q

end Z

set_option Elab.async false
set_option linter.all false
set_option maxRecDepth 100000
set_option maxHeartbeats 4000000

namespace Z
open PySem PySem.Spec PyProof.Rows L2 Z.R
local macro_rules | `(tactic| walk_at "sx") => `(tactic| try simp only [and_assoc, cxOf_K, cxOf_Kn, C8.tCut, rEq, rNe, sc_ii, sc_ss, sc_bb, sc_is, sc_si, sc_bs, sc_sb, tSeq, tAsg, tPar, tPar3, tC, gName, gNil, gCons, gTup, gSub, rSetL, L2.start, tVar, tOp, tUn, rI0, rI, rU, tTest, tChain, tOrV, tAndV, tNotV, tCB, tCons, tNil, tLst, tTup, tIfS, tNext, tRet, tRetN, tDrop, tAnd, tOr, tNot, tB, tIf, tSl, tFld, sFld, putF, tNoPart, tPart, rSlL, tBM, tBM0, rAppend, rPop, rExtend, tCall, tMeth, List.map_cons, List.map_nil, List.replicate, List.length_cons, List.length_nil, List.append, List.cons_append, List.nil_append, List.append_nil, List.getElem?_cons_zero, List.getElem?_cons_succ, List.set_cons_zero, List.set_cons_succ, Option.some.injEq, exists_eq_left', exists_eq_left, exists_eq, exists_and_left, exists_const, wipe, tYes, upd_same, ↓reduceIte, decide_false, decide_true, Bool.not_true, Bool.not_false, Bool.false_eq_true, V.int.injEq, HO.lst.injEq, HO.tup.injEq, V.ref.injEq, V.str.injEq, one_inj, le_a, le_z, le_0, le_9, mem_let, mem_dig, V.bl.injEq, List.cons.injEq, and_true, true_and, reduceCtorEq, false_and, exists_false, or_false, false_or])
def spKey (K : PySem.W.Frag) (n : Nat) : Sp := fun vs H Q _ => ∃ (v : V) (p : Pt Str), vs = [v] ∧ Dp K H v (Pt.enc .str p) ∧ Pt.Fl p ∧ Pt.dep p < n ∧ ∀ v' H', Same H H' → Dp K H' v' (Pt.key p) → Q v' H'
section
variable {P : Program} {w : World} {K : PySem.W.Frag} {mg : Str → Option Value} {base : Heap}
theorem sc_key_of : FnScope ["party", "parts", "part"] ["party"] (defScope s_key_of) := ⟨rfl, rfl, rfl, by decide +kernel, rfl, by decide +kernel, by decide +kernel⟩
theorem step_key_of {f : Addr} {fd : FuncData} {n : Nat} (F : Fun K "key_of" "key_of" s_key_of f fd) (c_key_of : Cl P w K mg base (n + 1) "key_of" (spKey K n)) (b_tuple : mg "tuple" = none) (b_sum : mg "sum" = none) {aR : Addr} (hR : ∀ r : Bool, KDct K w aR (if r then "row" else "beside") (.int (Pt.rank r)))
    (g_RANKS : GV mg "RANKS" (.ref aR)) : FnOk P w K mg base CX0 (n + 2) f fd ["party"] (spKey K (n + 1)) := by
  have nd := sc_key_of.nd
  refine F.ok sc_key_of (fun vs H Q E h => ?_) (fun cdv A outer s H vs Q E hr h => ?_)
  · obtain ⟨v, p, rfl, _⟩ := h
    rfl
  obtain ⟨v, p, rfl, hv, hf, hn, q⟩ := h
  refine ⟨_, (pss_cons (ps_if (pt_cmpR op_eq (pe_ix (ix_tupK (K := K) rfl) (pv 0) pe_int (fun _ _ => rfl)) pe_str (nomark _)) (pss_one (ps_ret (pe_tup (pa_cons pe_int (pa_cons pe_int (pa_cons (pe_tup pa_nil) (pa_cons (pe_ix (ix_tupK (K := K) rfl) (pv 0) pe_int (fun _ _ => rfl)) pa_nil))))))) pss_nil)
  (pss_cons (ps_set (i := 1) nd rfl (.inl rfl) (pe_callTy call_tuple_of (by rfl) b_tuple (by decide +kernel) (pa_cons (pe_lc (own := [("part", 2)]) rfl nd (pi_tup (pe_ix (ix_tupK (K := K) rfl) (pv 0) pe_int (fun _ _ => rfl))) (blkOk_by (N := ["party", "parts", "part"]) (sc := defScope s_key_of) (by decide +kernel)) (fun _ _ _ _ _ => (pg_name (i := 2) nd rfl (.inl rfl))) (fun _ _ _ _ _ => pts_nil) (fun _ _ _ _ _ => (pcl c_key_of hr (by omega) (pa_cons (pv 2) pa_nil)))) pa_nil)))
  (pss_one (ps_ret (pe_tup (pa_cons (pe_callB (cr_sum rfl) (by rfl) b_sum (by decide +kernel) (pa_cons (pe_lc (own := [("part", 2)]) rfl nd (pi_tup (pv 1)) (blkOk_by (N := ["party", "parts", "part"]) (sc := defScope s_key_of) (by decide +kernel)) (fun _ _ _ _ _ => (pg_name (i := 2) nd rfl (.inl rfl))) (fun _ _ _ _ _ => pts_nil) (fun _ _ _ _ _ => (pe_ix (ix_tupK (K := K) rfl) (pv 2) pe_int (fun _ _ => rfl)))) pa_nil)) (pa_cons (pe_ix ix_kdict (pe_gv g_RANKS) (pe_ix (ix_tupK (K := K) rfl) (pv 0) pe_int (fun _ _ => rfl)) (fun _ _ => rfl)) (pa_cons (pv 1) (pa_cons pe_str pa_nil))))))))), ?_⟩
  walk_at "sx"
  cases hf with
  | deed x hx =>
    obtain ⟨t, u, rfl, hs, hu⟩ := dp_deed hv
    cases hu
    refine ixt hs rfl ?_
    walk_at "sx"
    refine ⟨by decide, fun p np => ixt (tup_same (same_upd np) hs) rfl ⟨by decide, fun p2 np2 => ?_⟩⟩
    refine q _ _ ((same_upd np).trans (same_upd np2)) ?_
    rw [Pt.key]
    have e1 : upd (upd H p (.tup [])) p2 (.tup [.int 1, .int 0, .ref p, .str x]) p = some (.tup []) := by rw [upd_ne (ne_of_none upd_same np2), upd_same]
    exact .tup (SqT.of upd_same) (.cons (.int _) (.cons (.int _) (.cons (.tup (SqT.of e1) .nil) (.cons (.str _) .nil))))
  | nd r ps h2 h6 h =>
    obtain ⟨t, t2, us, rfl, hs, hs2, hu⟩ := dp_nd hv
    refine ixt hs rfl ⟨rfl, ?_⟩
    rw [deed_ne]
    have hdn : ∀ p ∈ ps, Pt.dep p < n := fun p hp => by
      have := Pt.dep_mem (r := r) hp
      omega
    have hul : us.length = ps.length := by rw [DpAll.length hu, List.length_map]
    refine iteF (lc_ix rfl hs rfl hs2 (by omega) (ps.map Pt.key) (by rw [List.length_map, hul]) (fun d hd => by
      obtain ⟨p, _, rfl⟩ := List.mem_map.mp hd
      exact Pt.key_to p) ?_ ?_)
    · intro i x d hx hd H' R sm hR
      obtain ⟨e, he, hxe⟩ := DpAll.at hu hx
      rw [List.getElem?_map] at hd he
      cases hp : ps[i]? with
      | none =>
        rw [hp] at hd
        cases hd
      | some p =>
        rw [hp] at hd he
        obtain rfl := Option.some.inj hd
        obtain rfl := Option.some.inj he
        walk_at "sx"
        have hm := List.mem_of_getElem? hp
        exact ⟨x, p, rfl, L2.Dp.same sm hxe, h p hm, hdn p hm, fun v' H'' s2 dk => hR v' H'' s2 dk⟩
    · intro D H1 vs nD s1 eD dv
      refine ⟨D, rfl, vs, .inl ⟨SqL.of eD, fun l nl => ?_⟩⟩
      have f1 : Same H1 (upd H1 l (.tup vs)) := same_upd nl
      have dv2 : DpAll K (upd H1 l (.tup vs)) vs (ps.map Pt.key) := DpAll.same f1 dv
      have hvl : vs.length = ps.length := by rw [DpAll.length dv, List.length_map]
      have eL : upd H1 l (.tup vs) l = some (.tup vs) := upd_same
      generalize upd H1 l (.tup vs) = H2 at f1 dv2 eL ⊢
      refine lc_vt rfl (SqT.of eL) (by omega) (ps.map fun p => .int (Pt.cnt p : Int)) (by rw [List.length_map, hvl]) (fun d hd => by
        obtain ⟨p, _, rfl⟩ := List.mem_map.mp hd
        exact .int _) ?_ ?_
      · intro i x d hx hd H' R sm hR
        obtain ⟨e, he, hxe⟩ := DpAll.at dv2 hx
        rw [List.getElem?_map] at hd he
        cases hp : ps[i]? with
        | none =>
          rw [hp] at hd
          cases hd
        | some p =>
          rw [hp] at hd he
          obtain rfl := Option.some.inj hd
          obtain rfl := Option.some.inj he
          obtain ⟨a, b, c, e⟩ := Pt.key_fst p
          rw [e] at hxe
          obtain ⟨t3, us3, rfl, hs3, hd3⟩ := dp_tup hxe
          cases hd3 with
          | cons h1 _ =>
            cases h1
            walk_at "sx"
            exact ixt (tup_same sm hs3) (atI_nat (j := 0) rfl) (hR _ _ (.refl _) (.int _))
      · intro D2 H3 ws nD2 s3 eD2 dw
        have ew := dp_ints dw
        subst ew
        refine ⟨D2, ps.map fun p => (Pt.cnt p : Int), rfl, SqL.of eD2, ?_⟩
        have sa : Same H H3 := (s1.trans f1).trans s3
        refine ixt (tup_same sa hs) rfl ⟨aR, _, _, rfl, rfl, hR r, by decide, fun p3 np3 => ?_⟩
        refine q _ _ (sa.trans (same_upd np3)) ?_
        rw [Pt.key_nd]
        have e4 : (ps.map fun p => (Pt.cnt p : Int)).sum = (Pt.cnt (.nd r ps) : Int) := by
          rw [Pt.cnt_nd]
          exact sum_cast Pt.cnt ps
        rw [e4]
        have f3 := s3.trans (same_upd (o := .tup [.int (Pt.cnt (.nd r ps)), .int (Pt.rank r), .ref l, .str ""]) np3)
        exact .tup (SqT.of upd_same) (.cons (.int _) (.cons (.int _) (.cons (.tup (SqT.of (f3 _ _ eL)) (DpAll.same f3 dv2)) (.cons (.str _) .nil))))
theorem ok_key_of {f : Addr} {fd : FuncData} (F : Fun K "key_of" "key_of" s_key_of f fd) (hm : mg "key_of" = some (.ref f)) (hb : Binds K fd ["party"] []) (b_tuple : mg "tuple" = none) (b_sum : mg "sum" = none) {aR : Addr} (hR : ∀ r : Bool, KDct K w aR (if r then "row" else "beside") (.int (Pt.rank r)))
    (g_RANKS : GV mg "RANKS" (.ref aR)) : ∀ n : Nat, FnOk P w K mg base CX0 (n + 1) f fd ["party"] (spKey K n)
  | 0 => fn_false fun vs H Q E h => by
    obtain ⟨v, p, _, _, _, h, _⟩ := h
    omega
  | n + 1 => step_key_of F ⟨f, fd, _, ok_key_of F hm hb b_tuple b_sum hR g_RANKS n, hm, F.kp, hb⟩ b_tuple b_sum hR g_RANKS
end

end Z

set_option Elab.async false
set_option linter.all false
set_option maxRecDepth 100000
set_option maxHeartbeats 4000000

namespace Z
open PySem PySem.Spec PyProof.Rows L2 Z.R
local macro_rules | `(tactic| walk_at "sx") => `(tactic| try simp only [and_assoc, cxOf_K, cxOf_Kn, C8.tCut, rEq, rNe, sc_ii, sc_ss, sc_bb, sc_is, sc_si, sc_bs, sc_sb, tSeq, tAsg, tPar, tPar3, tC, gName, gNil, gCons, gTup, gSub, rSetL, L2.start, tVar, tOp, tUn, rI0, rI, rU, tTest, tChain, tOrV, tAndV, tNotV, tCB, tCons, tNil, tLst, tTup, tIfS, tNext, tRet, tRetN, tDrop, tAnd, tOr, tNot, tB, tIf, tSl, tFld, sFld, putF, tNoPart, tPart, rSlL, tBM, tBM0, rAppend, rPop, rExtend, tCall, tMeth, List.map_cons, List.map_nil, List.replicate, List.length_cons, List.length_nil, List.append, List.cons_append, List.nil_append, List.append_nil, List.getElem?_cons_zero, List.getElem?_cons_succ, List.set_cons_zero, List.set_cons_succ, Option.some.injEq, exists_eq_left', exists_eq_left, exists_eq, exists_and_left, exists_const, wipe, tYes, upd_same, ↓reduceIte, decide_false, decide_true, Bool.not_true, Bool.not_false, Bool.false_eq_true, V.int.injEq, HO.lst.injEq, HO.tup.injEq, V.ref.injEq, V.str.injEq, one_inj, le_a, le_z, le_0, le_9, mem_let, mem_dig, V.bl.injEq, List.cons.injEq, and_true, true_and, reduceCtorEq, false_and, exists_false, or_false, false_or])
/-! ### comprehensions whose items stand in a relation to a list -/
def Rel {δ : Type} (I : V → δ → Prop) (vs : List V) (out : List δ) : Prop := vs.length = out.length ∧ ∀ (i : Nat) (v : V) (d : δ), vs[i]? = some v → out[i]? = some d → I v d
namespace Rel
variable {δ : Type} {I : V → δ → Prop}
theorem nil : Rel I [] [] := ⟨rfl, fun i v d h => by cases h⟩
theorem snoc {vs : List V} {out : List δ} {v : V} {d : δ} (h : Rel I vs out) (hv : I v d) : Rel I (vs ++ [v]) (out ++ [d]) := by
  refine ⟨by rw [List.length_append, List.length_append, h.1]; rfl, fun i u e hu he => ?_⟩
  rcases Nat.lt_trichotomy i vs.length with hi | hi | hi
  · rw [List.getElem?_append_left hi] at hu
    rw [List.getElem?_append_left (h.1 ▸ hi)] at he
    exact h.2 i u e hu he
  · rw [List.getElem?_append_right (by omega), hi, Nat.sub_self] at hu
    rw [List.getElem?_append_right (by rw [← h.1]; omega), hi, h.1, Nat.sub_self] at he
    obtain rfl := Option.some.inj hu
    obtain rfl := Option.some.inj he
    exact hv
  · rw [List.getElem?_eq_none (by rw [List.length_append]; simp only [List.length_singleton]; omega)] at hu
    cases hu
theorem mono {I' : V → δ → Prop} {vs : List V} {out : List δ} (f : ∀ v d, I v d → I' v d) (h : Rel I vs out) : Rel I' vs out := ⟨h.1, fun i v d a b => f v d (h.2 i v d a b)⟩
theorem of_all {K : PySem.W.Frag} {H : Hp} : ∀ {vs : List V} {ds : List PyData}, DpAll K H vs ds → Rel (Dp K H) vs ds := fun {vs ds} h => ⟨DpAll.length h, fun i v d a b => by
  obtain ⟨e, he, hx⟩ := DpAll.at h a
  rw [b] at he
  obtain rfl := Option.some.inj he
  exact hx⟩
theorem cons {vs : List V} {out : List δ} {v : V} {d : δ} (hv : I v d) (h : Rel I vs out) : Rel I (v :: vs) (d :: out) := by
  refine ⟨by rw [List.length_cons, List.length_cons, h.1], fun i u e hu he => ?_⟩
  cases i with
  | zero =>
    obtain rfl := Option.some.inj hu
    obtain rfl := Option.some.inj he
    exact hv
  | succ i => exact h.2 i u e hu he
theorem append {vs vs' : List V} {out out' : List δ} (h : Rel I vs out) (h' : Rel I vs' out') : Rel I (vs ++ vs') (out ++ out') := by
  refine ⟨by rw [List.length_append, List.length_append, h.1, h'.1], fun i u e hu he => ?_⟩
  rcases Nat.lt_or_ge i vs.length with hi | hi
  · rw [List.getElem?_append_left hi] at hu
    rw [List.getElem?_append_left (h.1 ▸ hi)] at he
    exact h.2 i u e hu he
  · rw [List.getElem?_append_right hi] at hu
    rw [List.getElem?_append_right (h.1 ▸ hi), ← h.1] at he
    exact h'.2 _ u e hu he
theorem to_all {K : PySem.W.Frag} {H : Hp} : ∀ {vs : List V} {ds : List PyData}, Rel (Dp K H) vs ds → DpAll K H vs ds
  | [], [], _ => .nil
  | [], _ :: _, h => by cases h.1
  | _ :: _, [], h => by cases h.1
  | v :: vs, d :: ds, h => .cons (h.2 0 v d rfl rfl) (to_all ⟨Nat.succ.inj h.1, fun i a b x y => h.2 (i + 1) a b x y⟩)
end Rel
section
variable {J : It} {G : Hp → Prop} {xs : List V} {H1 : Hp} {D : Addr} {Qd : Hp → Prop} {te : TE} {s : Nat} {σ : L2.St} {δ : Type}
/-- one name, no test -/
theorem lc_rel (w : Walk J xs.length G (YAt xs)) (hD : H1 D = none) (I : Hp → V → δ → Prop) (mono : ∀ {H H' v d}, Same H H' → I H v d → I H' v d) (updD : ∀ {H v d ys zs}, H D = some (.lst zs) → I H v d → I (upd H D (.lst ys)) v d)
    (out : List δ) (hlen : out.length = xs.length) (hz : xs.length ≤ sizeLine) (hG : ∀ H' : Hp, Same H1 H' → G H')
    (hs : ∀ (i : Nat) (x : V) (d : δ), xs[i]? = some x → out[i]? = some d → ∀ H' (R : VK), Same H1 H' → H' D ≠ none → (∀ v H'', Same H' H'' → I H'' v d → R v H'') → te (σ.set s (some x)) H' R)
    (hd : ∀ (H' : Hp) (vs : List V), Same H1 H' → H' D = some (.lst vs) → Rel (I H') vs out → Qd H') :
    ∃ W : Nat → Nat → Hp → Prop, (∃ m, W 0 m (upd H1 D (.lst []))) ∧ ∀ i m H, W i m H →
      (J.stop i H ∧ Qd H) ∨ (J.go i H ∧ ∃ Nx : Hp → Prop, (∀ H', Nx H' → ∃ m', m' < m ∧ W (i + 1) m' H') ∧ ∀ x H', J.yld i H x H' → gName s x (wipe σ [s]) H' fun σ2 H2 => wipe σ2 [s] = wipe σ [s] ∧ tYes σ2 H2 fun b H3 =>
        if b = true then te σ2 H3 fun y H4 => ∃ acc, H4 D = some (.lst acc) ∧ acc.length < sizeLine ∧ Nx (upd H4 D (.lst (acc ++ [y]))) else Nx H3) := by
  refine lc_it w (fun i H => Same H1 H ∧ ∃ vs, H D = some (.lst vs) ∧ Rel (I H) vs (out.take i)) ⟨same_upd hD, [], upd_same, .nil⟩ (fun i H _ p => hG H p.1) ?_ ?_
  · rintro i x H H' hi ⟨sm, vs, eD, dv⟩ ⟨rfl, hx⟩
    have e0 : (wipe σ [s]).set s (some x) = σ.set s (some x) := by simp only [wipe, List.set_set]
    simp only [gName, tYes, ↓reduceIte, e0]
    obtain ⟨d, hd1⟩ : ∃ d, out[i]? = some d := ⟨out[i]'(by omega), List.getElem?_eq_getElem _⟩
    refine ⟨by simp only [wipe, List.set_set], hs i x d hx hd1 _ _ sm (by rw [eD]; exact nofun) fun v H'' s2 dp => ⟨vs, s2 _ _ eD, ?_, same_D (sm.trans s2) hD, vs ++ [v], upd_same, ?_⟩⟩
    · have := dv.1
      rw [List.length_take] at this
      omega
    · have e1 : out.take (i + 1) = out.take i ++ [d] := by rw [List.take_add_one, hd1]; rfl
      rw [e1]
      exact ((dv.mono fun v d h => mono s2 h).snoc dp).mono fun v d h => updD (s2 _ _ eD) h
  · rintro H ⟨sm, vs, eD, dv⟩
    rw [← hlen, List.take_of_length_le (Nat.le_refl _)] at dv
    exact hd H vs sm eD dv
theorem flat_take {δ : Type} {outs : List (List δ)} {i : Nat} {d : List δ} (h : outs[i]? = some d) : (outs.take (i + 1)).flatten = (outs.take i).flatten ++ d := by
  rw [List.take_add_one, h]
  simp
theorem flat_le {δ : Type} {outs : List (List δ)} {i : Nat} {d : List δ} (h : outs[i]? = some d) : (outs.take i).flatten.length + d.length ≤ outs.flatten.length := by
  have e : outs.flatten = (outs.take (i + 1)).flatten ++ (outs.drop (i + 1)).flatten := by rw [← List.flatten_append, List.take_append_drop]
  rw [e, flat_take h, List.length_append, List.length_append]
  omega
/-- [y for x in .. for y in f(x)], f(x) a list -/
theorem lc2_rel {K : PySem.W.Frag} {s1 : Nat} {tb : TE} (w : Walk J xs.length G (YAt xs)) (hD : H1 D = none) (I : Hp → V → δ → Prop) (mono : ∀ {H H' v d}, Same H H' → I H v d → I H' v d) (updD : ∀ {H v d ys zs}, H D = some (.lst zs) → I H v d → I (upd H D (.lst ys)) v d)
    (outs : List (List δ)) (hlen : outs.length = xs.length) (hz : outs.flatten.length ≤ sizeLine) (hG : ∀ H' : Hp, Same H1 H' → G H') (hne : s1 ≠ s) (hl : s1 < σ.length)
    (hs : ∀ (i : Nat) (x : V) (ds : List δ), xs[i]? = some x → outs[i]? = some ds → ∀ H' (R : VK), Same H1 H' → H' D ≠ none → (∀ (b : Addr) (vs : List V) H'', Same H' H'' → b ≠ D → H'' b = some (.lst vs) → Rel (I H'') vs ds → R (.ref b) H'') → tb ((wipe σ [s, s1]).set s (some x)) H' R)
    (hd : ∀ (H' : Hp) (vs : List V), Same H1 H' → H' D = some (.lst vs) → Rel (I H') vs outs.flatten → Qd H') :
    ∃ W : Nat → Nat → Hp → Prop, (∃ m, W 0 m (upd H1 D (.lst []))) ∧ ∀ i m H, W i m H →
      (J.stop i H ∧ Qd H) ∨ (J.go i H ∧ ∃ Nx : Hp → Prop, (∀ H', Nx H' → ∃ m', m' < m ∧ W (i + 1) m' H') ∧ ∀ x H', J.yld i H x H' → gName s x (wipe σ [s, s1]) H' fun σ2 H2 => wipe σ2 [s, s1] = wipe σ [s, s1] ∧ tYes σ2 H2 fun b H3 =>
        if b = true then iList K tb σ2 H3 fun J1 H4 => ∃ W1 : Nat → Nat → Hp → Prop, (∃ m, W1 0 m H4) ∧ ∀ j k H, W1 j k H →
          (J1.stop j H ∧ Nx H) ∨ (J1.go j H ∧ ∃ Nx1 : Hp → Prop, (∀ H', Nx1 H' → ∃ k', k' < k ∧ W1 (j + 1) k' H') ∧ ∀ x H', J1.yld j H x H' → gName s1 x (wipe σ2 [s1]) H' fun σ3 H5 => wipe σ3 [s1] = wipe σ2 [s1] ∧ tYes σ3 H5 fun b H6 =>
            if b = true then tVar s1 σ3 H6 fun y H7 => ∃ acc, H7 D = some (.lst acc) ∧ acc.length < sizeLine ∧ Nx1 (upd H7 D (.lst (acc ++ [y]))) else Nx1 H6)
        else Nx H3) := by
  have hp : ∀ i H, (Same H1 H ∧ ∃ vs, H D = some (.lst vs) ∧ Rel (I H) vs (outs.take i).flatten) → G H := fun i H p => hG H p.1
  refine ⟨fun i m H => m = xs.length - i ∧ i ≤ xs.length ∧ (Same H1 H ∧ ∃ vs, H D = some (.lst vs) ∧ Rel (I H) vs (outs.take i).flatten), ⟨xs.length, by simp, Nat.zero_le _, same_upd hD, [], upd_same, .nil⟩, ?_⟩
  rintro i m H ⟨rfl, hi, p⟩
  have q := hp i H p
  by_cases hlt : i < xs.length
  · refine .inr ⟨w.goes i H hlt q, fun H => (Same H1 H ∧ ∃ vs, H D = some (.lst vs) ∧ Rel (I H) vs (outs.take (i + 1)).flatten), fun H' p' => ⟨xs.length - (i + 1), by omega, rfl, hlt, p'⟩, fun x H' y => ?_⟩
    obtain ⟨rfl, hx⟩ := w.yields i H x H' hlt q y
    obtain ⟨sm, vs, eD, dv⟩ := p
    obtain ⟨ds, hd1⟩ : ∃ d, outs[i]? = some d := ⟨outs[i]'(by omega), List.getElem?_eq_getElem _⟩
    simp only [gName, tYes, ↓reduceIte]
    refine ⟨by simp only [wipe, List.set_set, List.set_comm _ _ hne], ?_⟩
    refine hs i x ds hx hd1 _ _ sm (by rw [eD]; exact nofun) fun b us H'' s2 hb hus dr => ?_
    refine ⟨b, rfl, ⟨us, SqL.of hus⟩, fun j k H => k = us.length - j ∧ j ≤ us.length ∧ (Same H1 H ∧ ∃ vs, H D = some (.lst vs) ∧ Rel (I H) us ds ∧ Rel (I H) vs ((outs.take i).flatten ++ ds.take j) ∧ H b = some (.lst us)), ⟨us.length, by simp, Nat.zero_le _, sm.trans s2, vs, s2 _ _ eD, dr, by rw [List.take_zero, List.append_nil]; exact dv.mono fun v d h => mono s2 h, hus⟩, ?_⟩
    rintro j k H ⟨rfl, hj, sm3, vs3, eD3, dr3, dv3, hus3⟩
    by_cases hjl : j < us.length
    · refine .inr ⟨walk_list.goes j H hjl (SqL.of hus3), fun H => (Same H1 H ∧ ∃ vs, H D = some (.lst vs) ∧ Rel (I H) us ds ∧ Rel (I H) vs ((outs.take i).flatten ++ ds.take (j + 1)) ∧ H b = some (.lst us)), fun H' p' => ⟨us.length - (j + 1), by omega, rfl, hjl, p'⟩, fun y H' hy => ?_⟩
      obtain ⟨rfl, hyx⟩ := walk_list.yields j H y H' hjl (SqL.of hus3) hy
      obtain ⟨d, hd2⟩ : ∃ d, ds[j]? = some d := ⟨ds[j]'(by rw [← dr3.1]; exact hjl), List.getElem?_eq_getElem _⟩
      refine ⟨by simp only [wipe, List.set_set], ?_⟩
      simp only [tVar]
      refine ⟨y, ?_, vs3, eD3, ?_, ?_⟩
      · simp [wipe, hl]
      · have h1 := dv3.1
        have h2 := flat_le hd1
        have h3 := dr3.1
        rw [List.length_append, List.length_take] at h1
        omega
      · refine ⟨same_D sm3 hD, vs3 ++ [y], upd_same, dr3.mono fun v d h => updD eD3 h, ?_, ?_⟩
        · have e1 : ds.take (j + 1) = ds.take j ++ [d] := by rw [List.take_add_one, hd2]; rfl
          rw [e1, ← List.append_assoc]
          exact (dv3.snoc (dr3.2 j y d hyx hd2)).mono fun v d h => updD eD3 h
        · rw [upd_ne hb]
          exact hus3
    · have e : j = us.length := by omega
      subst e
      refine .inl ⟨walk_list.stops H (SqL.of hus3), sm3, vs3, eD3, ?_⟩
      rw [dr3.1, List.take_of_length_le (Nat.le_refl _)] at dv3
      rw [flat_take hd1]
      exact dv3
  · have e : i = xs.length := by omega
    subst e
    obtain ⟨sm, vs, eD, dv⟩ := p
    refine .inl ⟨w.stops H q, hd H vs sm eD ?_⟩
    rw [← hlen, List.take_of_length_le (Nat.le_refl _)] at dv
    exact dv
end
/-! ### children of a node -/
section
variable {K : PySem.W.Frag} {H : Hp} {σ : L2.St} {Q : VK} {te : TE} {α : Type} {f : α → PyData} {ps : List (Pt α)} {us : List V}
theorem kid_at (hu : DpAll K H us (ps.map (Pt.enc f))) {i : Nat} {x : V} (hx : us[i]? = some x) : ∃ p, ps[i]? = some p ∧ p ∈ ps ∧ Dp K H x (Pt.enc f p) := by
  obtain ⟨e, he, hxe⟩ := DpAll.at hu hx
  rw [List.getElem?_map] at he
  cases hp : ps[i]? with
  | none =>
    rw [hp] at he
    cases he
  | some p =>
    rw [hp] at he
    obtain rfl := Option.some.inj he
    exact ⟨p, rfl, List.mem_of_getElem? hp, hxe⟩
theorem kids_len (hu : DpAll K H us (ps.map (Pt.enc f))) : us.length = ps.length := by rw [DpAll.length hu, List.length_map]
/-- [g(part) for part in v[1]] -/
theorem lc_kids {s j : Nat} {t t2 : Addr} {w : V} (hj : σ[j]? = some (some (.ref t))) (h1 : SqT K H t [w, .ref t2]) (h2 : SqT K H t2 us) (hu : DpAll K H us (ps.map (Pt.enc f))) (hz : ps.length ≤ 60) (G : Pt α → PyData) (to : ∀ p, To (G p))
    (step : ∀ p ∈ ps, ∀ (x : V) H' (R : VK), Same H H' → Dp K H' x (Pt.enc f p) → (∀ v H'', Same H' H'' → Dp K H'' v (G p) → R v H'') → te (σ.set s (some x)) H' R)
    (done : ∀ (D : Addr) (H' : Hp) (vs : List V), H D = none → Same H H' → H' D = some (.lst vs) → DpAll K H' vs (ps.map G) → Q (.ref D) H') :
    tLc (iTup K (tOp (rIxT K) (tVar j) (tC (.int 1)))) (gName s) tYes te [s] σ H Q := by
  have hl := kids_len hu
  refine lc_ix hj h1 rfl h2 (by omega) (ps.map G) (by rw [List.length_map, hl]) (fun d hd => by
      obtain ⟨p, _, rfl⟩ := List.mem_map.mp hd
      exact to p) ?_ done
  intro i x d hx hd H' R sm hR
  obtain ⟨p, hp, hm, hxp⟩ := kid_at hu hx
  rw [List.getElem?_map, hp] at hd
  obtain rfl := Option.some.inj hd
  exact step p hm x H' R sm (L2.Dp.same sm hxp) hR
/-- [y for part in v[1] for y in g(part)] -/
theorem lc2_kids {s s1 j : Nat} {t t2 : Addr} {w : V} {tb : TE} (hj : σ[j]? = some (some (.ref t))) (h1 : SqT K H t [w, .ref t2]) (h2 : SqT K H t2 us) (hu : DpAll K H us (ps.map (Pt.enc f))) (G : Pt α → List PyData) (to : ∀ p, ∀ d ∈ G p, To d)
    (hz : (ps.map G).flatten.length ≤ sizeLine) (hne : s1 ≠ s) (hl : s1 < σ.length)
    (step : ∀ p ∈ ps, ∀ (x : V) H' (R : VK), Same H H' → Dp K H' x (Pt.enc f p) → (∀ (b : Addr) (vs : List V) H'', H' b = none → Same H' H'' → H'' b = some (.lst vs) → DpAll K H'' vs (G p) → R (.ref b) H'') → tb ((wipe σ [s, s1]).set s (some x)) H' R)
    (done : ∀ (D : Addr) (H' : Hp) (vs : List V), H D = none → Same H H' → H' D = some (.lst vs) → DpAll K H' vs (ps.map G).flatten → Q (.ref D) H') :
    tLc2 (iTup K (tOp (rIxT K) (tVar j) (tC (.int 1)))) (gName s) tYes (iList K tb) (gName s1) tYes (tVar s1) [s, s1] [s1] σ H Q := by
  have hl2 := kids_len hu
  refine ⟨_, hj, t, _, 1, _, rfl, rfl, h1, rfl, t2, rfl, ⟨us, h2⟩, fun D nD => lc2_rel walk_tup nD (fun H v d => Dp K H v d ∧ To d) (fun s h => ⟨L2.Dp.same s h.1, h.2⟩) ?_ (ps.map G) (by rw [List.length_map, hl2]) hz (fun H' f => tup_same f h2) hne hl ?_ ?_⟩
  · exact fun e h => ⟨h.2.mono (Tp.upd (.refl _) e) _ h.1, h.2⟩
  · intro i x ds hx hd H' R sm hD' hR
    obtain ⟨p, hp, hm, hxp⟩ := kid_at hu hx
    rw [List.getElem?_map, hp] at hd
    obtain rfl := Option.some.inj hd
    refine step p hm x H' R sm (L2.Dp.same sm hxp) fun b vs H'' nb s2 eb dv => hR b vs H'' s2 (fun e => hD' (e ▸ nb)) eb ⟨DpAll.length dv, fun i v d a c => ⟨(Rel.of_all dv).2 i v d a c, to p d (List.mem_of_getElem? c)⟩⟩
  · exact fun H' vs sm eD r => done D H' vs nD sm eD (r.mono fun v d h => h.1).to_all
end
namespace Pt
/-- a party that may be looked at -/
def Ok (p : Pt Str) : Prop := (p = .emp ∨ Fl p) ∧ dep p ≤ 30
theorem Ok.nm {p : Pt Str} (h : Ok p) : Nm p := h.1.elim (fun e => e ▸ .emp) Fl.nm
theorem Fl.part {r : Bool} {ps : List (Pt Str)} {p : Pt Str} (h : Fl (.nd r ps)) (hp : p ∈ ps) : Fl p := by
  cases h with
  | nd _ _ h2 h6 q => exact q p hp
theorem Fl.len {r : Bool} {ps : List (Pt Str)} (h : Fl (.nd r ps)) : 2 ≤ ps.length ∧ ps.length ≤ 60 := by
  cases h with
  | nd _ _ h2 h6 q => exact ⟨h2, h6⟩
theorem Ok.fl {r : Bool} {ps : List (Pt Str)} (h : Ok (.nd r ps)) : Fl (.nd r ps) := by
  rcases h.1 with e | e
  · cases e
  · exact e
theorem Ok.part {r : Bool} {ps : List (Pt Str)} {p : Pt Str} (h : Ok (.nd r ps)) (hp : p ∈ ps) : Ok p := by
  refine ⟨.inr (h.fl.part hp), ?_⟩
  have := dep_mem (r := r) hp
  have := h.2
  omega
theorem shp_enc {p : Pt Str} (h : Ok p) : SeqAt.shaped (enc .str p) = true := by
  unfold SeqAt.shaped
  rw [enc_lay h.nm, Bool.true_and, decide_eq_true_eq]
  have := enc_dep (f := PyData.str) (k := 0) (fun a => by rw [PyData.depth]; omega) p
  have := h.2
  omega
/-- with places -/
def pr (x : Str × Nat) : PyData := .tuple [.str x.1, .int x.2]
theorem pr_to (x : Str × Nat) : To (pr x) := .tup _ fun d hd => by
  simp only [List.mem_cons, List.not_mem_nil, or_false] at hd
  rcases hd with rfl | rfl
  · exact .str _
  · exact .int _
theorem dep_bare {α : Type} : ∀ t : Pt (α × Nat), dep (bare t) = dep t := by
  refine ind ?_ (fun x => ?_) fun r ps ih => ?_
  · rw [bare, dep, dep]
  · rw [bare, dep, dep]
  · rw [bare_nd, dep_nd, dep_nd, List.map_map, show ps.map (dep ∘ bare) = ps.map dep from List.map_congr_left fun p hp => ih p hp]
theorem cnt_bare {α : Type} : ∀ t : Pt (α × Nat), cnt (bare t) = cnt t := by
  refine ind ?_ (fun x => ?_) fun r ps ih => ?_
  · rw [bare, cnt, cnt]
  · rw [bare, cnt, cnt]
  · rw [bare_nd, cnt_nd, cnt_nd, List.map_map, show ps.map (cnt ∘ bare) = ps.map cnt from List.map_congr_left fun p hp => ih p hp]
/-- a party with places that may be looked at -/
def OkT (t : Pt (Str × Nat)) : Prop := Ok (bare t) ∧ cnt t ≤ 60
theorem OkT.part {r : Bool} {ps : List (Pt (Str × Nat))} {t : Pt (Str × Nat)} (h : OkT (.nd r ps)) (ht : t ∈ ps) : OkT t := by
  have h1 := h.1
  rw [bare_nd] at h1
  refine ⟨h1.part (List.mem_map.mpr ⟨t, ht, rfl⟩), ?_⟩
  have := cnt_mem (r := r) ht
  have := h.2
  omega
theorem OkT.len {r : Bool} {ps : List (Pt (Str × Nat))} (h : OkT (.nd r ps)) : 2 ≤ ps.length ∧ ps.length ≤ 60 := by
  have h1 := h.1
  rw [bare_nd] at h1
  have := h1.fl.len
  rw [List.length_map] at this
  exact this
theorem treeLay : ∀ t : Pt (Str × Nat), Nm (bare t) → (enc pr t).canLay0 = true := by
  refine ind (fun _ => ?_) (fun x h => ?_) fun r ps ih h => ?_
  · rw [enc]; decide +kernel
  · rw [bare] at h
    cases h with
    | deed _ h =>
      rw [enc]
      simp only [pr, PyData.canLay0, PyData.canLayAll0, word_strOk (name_wd h), Bool.and_self, Bool.true_and, Bool.and_true]
      decide +kernel
  · rw [bare_nd] at h
    cases h with
    | nd _ _ h2 h =>
      rw [enc_nd]
      simp only [PyData.canLay0, PyData.canLayAll0, layAll (enc pr) fun p hp => ih p hp (h _ (List.mem_map.mpr ⟨p, hp, rfl⟩)), Bool.and_self, Bool.true_and, Bool.and_true]
      cases r <;> decide +kernel
theorem shp_tree {t : Pt (Str × Nat)} (h : OkT t) : SeqAt.shaped (enc pr t) = true := by
  unfold SeqAt.shaped
  rw [treeLay t h.1.nm, Bool.true_and, decide_eq_true_eq]
  have := enc_dep (f := pr) (k := 1) (fun a => by simp only [pr, PyData.depth, PyData.depthAll]; omega) t
  have := h.1.2
  rw [dep_bare] at this
  omega
end Pt
/-- a def of a party that gives data -/
def spFn {α : Type} (K : PySem.W.Frag) (f : α → PyData) (C : Pt α → Prop) (g : Pt α → PyData) : Sp := fun vs H Q _ => ∃ (v : V) (p : Pt α), vs = [v] ∧ Dp K H v (Pt.enc f p) ∧ C p ∧ ∀ v' H', Same H H' → Dp K H' v' (g p) → Q v' H'
/-- a def of a party that gives a new list of data -/
def spLs {α : Type} (K : PySem.W.Frag) (f : α → PyData) (C : Pt α → Prop) (g : Pt α → List PyData) : Sp := fun vs H Q _ => ∃ (v : V) (p : Pt α), vs = [v] ∧ Dp K H v (Pt.enc f p) ∧ C p ∧
  ∀ (b : Addr) (us : List V) (H' : Hp), H b = none → Same H H' → H' b = some (.lst us) → DpAll K H' us (g p) → Q (.ref b) H'
theorem dpi {K : PySem.W.Frag} {H : Hp} {i j : Int} (h : i = j) : Dp K H (.int i) (.int j) := h ▸ .int i
theorem all_zip {K : PySem.W.Frag} {H : Hp} : ∀ {vs : List V} {ds : List PyData}, DpAll K H vs ds → ∀ b ∈ vs.zip ds, Dp K H b.1 b.2
  | _, _, .nil, b, hb => by cases hb
  | _, _, .cons h t, b, hb => by
    rw [List.zip_cons_cons] at hb
    rcases List.mem_cons.mp hb with rfl | hb
    · exact h
    · exact all_zip t b hb
theorem all_of_zip {K : PySem.W.Frag} {H : Hp} : ∀ {bs : List (V × PyData)}, (∀ b ∈ bs, Dp K H b.1 b.2) → DpAll K H (bs.map (·.1)) (bs.map (·.2))
  | [], _ => .nil
  | b :: bs, h => .cons (h b (List.mem_cons_self ..)) (all_of_zip fun c hc => h c (List.mem_cons_of_mem _ hc))
/-- sorting goes along with a map -/
theorem map_srt {β γ : Type} (g : β → γ) (k : γ → PyData) (bs : List β) : (bs.mergeSort (PySem.W.dataLe false fun b => k (g b))).map g = (bs.map g).mergeSort (PySem.W.dataLe false k) :=
  List.map_mergeSort fun a _ b _ => rfl
theorem srt_keys {bs : List (V × PyData)} {ps : List (Pt Str)} (e : bs.map (·.2) = ps.map Pt.key) : (bs.mergeSort (PySem.W.dataLe false (·.2))).map (·.2) = (Pt.srt ps).map Pt.key := by
  have h1 := map_srt (fun b : V × PyData => b.2) id bs
  have h2 := map_srt Pt.key id ps
  rw [e] at h1
  exact h1.trans h2.symm

end Z

set_option Elab.async false
set_option linter.all false
set_option maxRecDepth 100000
set_option maxHeartbeats 4000000

namespace Z
open PySem PySem.Spec PyProof.Rows L2 Z.R
local macro_rules | `(tactic| walk_at "sx") => `(tactic| try simp only [and_assoc, cxOf_K, cxOf_Kn, C8.tCut, rEq, rNe, sc_ii, sc_ss, sc_bb, sc_is, sc_si, sc_bs, sc_sb, tSeq, tAsg, tPar, tPar3, tC, gName, gNil, gCons, gTup, gSub, rSetL, L2.start, tVar, tOp, tUn, rI0, rI, rU, tTest, tChain, tOrV, tAndV, tNotV, tCB, tCons, tNil, tLst, tTup, tIfS, tNext, tRet, tRetN, tDrop, tAnd, tOr, tNot, tB, tIf, tSl, tFld, sFld, putF, tNoPart, tPart, rSlL, tBM, tBM0, rAppend, rPop, rExtend, tCall, tMeth, List.map_cons, List.map_nil, List.replicate, List.length_cons, List.length_nil, List.append, List.cons_append, List.nil_append, List.append_nil, List.getElem?_cons_zero, List.getElem?_cons_succ, List.set_cons_zero, List.set_cons_succ, Option.some.injEq, exists_eq_left', exists_eq_left, exists_eq, exists_and_left, exists_const, wipe, tYes, upd_same, ↓reduceIte, decide_false, decide_true, Bool.not_true, Bool.not_false, Bool.false_eq_true, V.int.injEq, HO.lst.injEq, HO.tup.injEq, V.ref.injEq, V.str.injEq, one_inj, le_a, le_z, le_0, le_9, mem_let, mem_dig, V.bl.injEq, List.cons.injEq, and_true, true_and, reduceCtorEq, false_and, exists_false, or_false, false_or])
section
variable {P : Program} {w : World} {K : PySem.W.Frag} {mg : Str → Option Value} {base : Heap}
theorem sc_count_of : FnScope ["party", "part"] ["party"] (defScope s_count_of) := ⟨rfl, rfl, rfl, by decide +kernel, rfl, by decide +kernel, by decide +kernel⟩
abbrev spCount (K : PySem.W.Frag) (n : Nat) : Sp := spFn K .str (fun p => Pt.Ok p ∧ Pt.dep p < n) fun p => .int (Pt.cnt p)
theorem step_count_of {f : Addr} {fd : FuncData} {n : Nat} (F : Fun K "count_of" "count_of" s_count_of f fd) (c_count_of : Cl P w K mg base (n + 1) "count_of" (spCount K n)) (b_sum : mg "sum" = none) {aE : Addr} (hE : ∀ H, SqT K H aE [.str "empty"]) (g_EMPTY : GV mg "EMPTY" (.ref aE)) :
    FnOk P w K mg base CX0 (n + 2) f fd ["party"] (spCount K (n + 1)) := by
  have nd := sc_count_of.nd
  refine F.ok sc_count_of (fun vs H Q E h => ?_) (fun cdv A outer s H vs Q E hr h => ?_)
  · obtain ⟨v, p, rfl, _⟩ := h
    rfl
  obtain ⟨v, p, rfl, hv, ⟨ho, hn⟩, q⟩ := h
  refine ⟨_, (pss_cons (ps_if (pt_cmpR (op_eqD hr.units) (pv 0) (pe_gv g_EMPTY) (nomark _)) (pss_one (ps_ret pe_int)) pss_nil)
  (pss_one (ps_ret (pe_ifExp (pt_cmpR op_eq (pe_ix (ix_tupK (K := K) rfl) (pv 0) pe_int (fun _ _ => rfl)) pe_str (nomark _)) pe_int (pe_callB (cr_sum rfl) (by rfl) b_sum (by decide +kernel) (pa_cons (pe_lc (own := [("part", 1)]) rfl nd (pi_tup (pe_ix (ix_tupK (K := K) rfl) (pv 0) pe_int (fun _ _ => rfl))) (blkOk_by (N := ["party", "part"]) (sc := defScope s_count_of) (by decide +kernel)) (fun _ _ _ _ _ => (pg_name (i := 1) nd rfl (.inl rfl))) (fun _ _ _ _ _ => pts_nil) (fun _ _ _ _ _ => (pcl c_count_of hr (by omega) (pa_cons (pv 1) pa_nil)))) pa_nil)))))), ?_⟩
  walk_at "sx"
  refine eq_emp hv hE (Pt.shp_enc ho) ⟨_, rfl, ?_⟩
  cases p with
  | emp => exact q _ _ (.refl H) (dpi (by rw [Pt.cnt]; rfl))
  | deed x =>
    obtain ⟨t, u, rfl, hs, hu⟩ := dp_deed hv
    refine iteF (ixt hs rfl ⟨rfl, iteT (q _ _ (.refl H) (dpi (by rw [Pt.cnt]; rfl)))⟩)
  | nd r ps =>
    obtain ⟨t, t2, us, rfl, hs, hs2, hu⟩ := dp_nd hv
    refine iteF (ixt hs rfl ⟨rfl, ?_⟩)
    rw [deed_ne]
    refine iteF (lc_kids rfl hs hs2 hu ho.fl.len.2 (fun p => .int (Pt.cnt p)) (fun p => .int _) ?_ ?_)
    · intro p hp x H' R sm hx hR
      walk_at "sx"
      have := Pt.dep_mem (r := r) hp
      exact ⟨x, p, rfl, hx, ⟨ho.part hp, by omega⟩, fun v' H'' s2 dk => hR v' H'' s2 dk⟩
    · intro D H1 vs nD s1 eD dv
      have e := dp_ints dv
      subst e
      refine ⟨D, ps.map fun p => (Pt.cnt p : Int), rfl, SqL.of eD, ?_⟩
      exact q _ _ s1 (dpi (by rw [Pt.cnt_nd, sum_cast Pt.cnt ps]))
theorem ok_count_of {f : Addr} {fd : FuncData} (F : Fun K "count_of" "count_of" s_count_of f fd) (hm : mg "count_of" = some (.ref f)) (hb : Binds K fd ["party"] []) (b_sum : mg "sum" = none) {aE : Addr} (hE : ∀ H, SqT K H aE [.str "empty"]) (g_EMPTY : GV mg "EMPTY" (.ref aE)) :
    ∀ n : Nat, FnOk P w K mg base CX0 (n + 1) f fd ["party"] (spCount K n)
  | 0 => fn_false fun vs H Q E h => by
    obtain ⟨v, p, _, _, ⟨_, h⟩, _⟩ := h
    omega
  | n + 1 => step_count_of F ⟨f, fd, _, ok_count_of F hm hb b_sum hE g_EMPTY n, hm, F.kp, hb⟩ b_sum hE g_EMPTY
end

end Z

set_option Elab.async false
set_option linter.all false
set_option maxRecDepth 100000
set_option maxHeartbeats 4000000

namespace Z
open PySem PySem.Spec PyProof.Rows L2 Z.R
local macro_rules | `(tactic| walk_at "sx") => `(tactic| try simp only [and_assoc, cxOf_K, cxOf_Kn, C8.tCut, rEq, rNe, sc_ii, sc_ss, sc_bb, sc_is, sc_si, sc_bs, sc_sb, tSeq, tAsg, tPar, tPar3, tC, gName, gNil, gCons, gTup, gSub, rSetL, L2.start, tVar, tOp, tUn, rI0, rI, rU, tTest, tChain, tOrV, tAndV, tNotV, tCB, tCons, tNil, tLst, tTup, tIfS, tNext, tRet, tRetN, tDrop, tAnd, tOr, tNot, tB, tIf, tSl, tFld, sFld, putF, tNoPart, tPart, rSlL, tBM, tBM0, rAppend, rPop, rExtend, tCall, tMeth, List.map_cons, List.map_nil, List.replicate, List.length_cons, List.length_nil, List.append, List.cons_append, List.nil_append, List.append_nil, List.getElem?_cons_zero, List.getElem?_cons_succ, List.set_cons_zero, List.set_cons_succ, Option.some.injEq, exists_eq_left', exists_eq_left, exists_eq, exists_and_left, exists_const, wipe, tYes, upd_same, ↓reduceIte, decide_false, decide_true, Bool.not_true, Bool.not_false, Bool.false_eq_true, V.int.injEq, HO.lst.injEq, HO.tup.injEq, V.ref.injEq, V.str.injEq, one_inj, le_a, le_z, le_0, le_9, mem_let, mem_dig, V.bl.injEq, List.cons.injEq, and_true, true_and, reduceCtorEq, false_and, exists_false, or_false, false_or])
/-- data of bounded texts and lists -/
inductive Tm : PyData → Prop where
  | non : Tm .none
  | bl (b : Bool) : Tm (.bool b)
  | int (i : Int) : Tm (.int i)
  | str (x : Str) (h : x.length ≤ 1000) (o : PyData.strOk x = true) : Tm (.str x)
  | tup (ds : List PyData) (l : ds.length ≤ 1000) (h : ∀ d ∈ ds, Tm d) : Tm (.tuple ds)
  | lst (ds : List PyData) (l : ds.length ≤ 1000) (h : ∀ d ∈ ds, Tm d) : Tm (.list ds)
theorem Tm.strl {d : PyData} (t : Tm d) (x : Str) (e : d = .str x) : x.length ≤ sizeLine := by
  cases t with
  | str y h o =>
    obtain rfl := PyData.str.inj e
    exact Nat.le_of_lt (small1000 (by omega))
  | _ => cases e
theorem fits_not2 {n : Nat} {d : PyData} (h : ∀ a b, d ≠ .tuple [a, b]) : Pt.fitsP n d = none := by
  unfold Pt.fitsP
  split
  · rfl
  · rename_i w x hm
    exact absurd rfl (h _ _)
  · rfl
theorem fits_notstr {n : Nat} {a b : PyData} (h : isStr a = false) : Pt.fitsP n (.tuple [a, b]) = none := by
  unfold Pt.fitsP
  split
  · rfl
  · rename_i w x hm
    cases hm
    cases h
  · rfl
theorem shape2 {d : PyData} (h : shapeD 2 d = true) : ∃ a b, d = .tuple [a, b] := by
  cases d with
  | tuple ds =>
    have h : decide (ds.length = 2) = true := h
    rw [decide_eq_true_eq] at h
    match ds, h with
    | [a, b], _ => exact ⟨a, b, rfl⟩
  | _ => cases h
theorem dp2d {K : PySem.W.Frag} {H : Hp} {v : V} {a b : PyData} (h : Dp K H v (.tuple [a, b])) : ∃ t x y, v = .ref t ∧ SqT K H t [x, y] ∧ Dp K H x a ∧ Dp K H y b := by
  cases h with
  | tup hs ha =>
    cases ha with
    | cons h1 h2 =>
      cases h2 with
      | cons h3 h4 =>
        cases h4
        exact ⟨_, _, _, rfl, hs, h1, h3⟩
theorem dp_bools {K : PySem.W.Frag} {H : Hp} {α : Type} {g : α → Bool} : ∀ {ps : List α} {vs : List V}, DpAll K H vs (ps.map fun p => .bool (g p)) → vs = (ps.map g).map V.bl
  | [], _, h => by
    cases h
    rfl
  | p :: ps, _, h => by
    cases h with
    | cons h1 h2 =>
      cases h1
      rw [dp_bools h2]
      rfl
theorem mapO_none {α β : Type} {f : α → Option β} : ∀ {xs : List α}, xs.all (fun x => (f x).isSome) = false → Pt.mapO f xs = none
  | [], h => by cases h
  | x :: xs, h => by
    rw [Pt.mapO]
    cases e : f x with
    | none => rfl
    | some y =>
      rw [List.all_cons, e, Option.isSome_some, Bool.true_and] at h
      rw [mapO_none h]
theorem mapO_ex {α β : Type} {f : α → Option β} : ∀ {xs : List α}, xs.all (fun x => (f x).isSome) = true → ∃ ys, Pt.mapO f xs = some ys
  | [], _ => ⟨[], rfl⟩
  | x :: xs, h => by
    rw [List.all_cons, Bool.and_eq_true] at h
    obtain ⟨ys, e⟩ := mapO_ex h.2
    obtain ⟨y, e2⟩ := Option.isSome_iff_exists.mp h.1
    exact ⟨y :: ys, by rw [Pt.mapO, e2, e]⟩
theorem fits_deed {n : Nat} {b : PyData} : (Pt.fitsP (n + 1) (.tuple [.str "deed", b])).isSome = nameD b := by
  unfold Pt.fitsP
  rw [if_pos rfl]
  cases b with
  | str y =>
    simp only [nameD]
    split <;> simp_all
  | _ => rfl
theorem fits_other {n : Nat} {x : Str} {b : PyData} (h : x ≠ "deed") (h2 : ¬ (x = "row" ∨ x = "beside")) : Pt.fitsP (n + 1) (.tuple [.str x, b]) = none := by
  unfold Pt.fitsP
  rw [if_neg h, if_neg h2]
theorem fits_nottup {n : Nat} {x : Str} {b : PyData} (h : x ≠ "deed") (h2 : isTup b = false) : Pt.fitsP (n + 1) (.tuple [.str x, b]) = none := by
  unfold Pt.fitsP
  rw [if_neg h]
  split
  · cases b with
    | tuple ds => cases h2
    | _ => rfl
  · rfl
theorem fits_nd {n : Nat} {x : Str} {ds : List PyData} (h : x ≠ "deed") (h2 : x = "row" ∨ x = "beside") : Pt.fitsP (n + 1) (.tuple [.str x, .tuple ds]) = if 2 ≤ ds.length ∧ ds.length ≤ 60 then (match Pt.mapO (Pt.fitsP n) ds with
          | some qs => if Pt.partsOk (decide (x = "row")) qs then some (.nd (decide (x = "row")) qs) else none
          | none => none) else none := by
  show (if x = "deed" then _ else _) = _
  rw [if_neg h, if_pos h2]
  all_goals rfl
def spFits (K : PySem.W.Frag) (n : Nat) : Sp := fun vs H Q _ => ∃ (v : V) (d : PyData) (k : Nat), vs = [v, .int (k : Nat)] ∧ Dp K H v d ∧ Tm d ∧ k < n ∧ k ≤ 30 ∧ ∀ H', Same H H' → Q (.bl (Pt.fitsP k d).isSome) H'
theorem fl_word {K : PySem.W.Frag} {H : Hp} {v : V} {q : Pt Str} {x : Str} (hf : Pt.Fl q) (hv : Dp K H v (Pt.enc .str q)) (hx : x ≠ "deed") (hw : x = "row" ∨ x = "beside") :
    ∃ t w' u, v = .ref t ∧ SqT K H t [.str w', u] ∧ decide (V.str w' = V.str x) = Pt.hasWord (decide (x = "row")) q := by
  cases hf with
  | deed y hy =>
    obtain ⟨t, u, rfl, hs, hu⟩ := dp_deed hv
    exact ⟨t, _, u, rfl, hs, decide_eq_false fun e => hx (V.str.inj e).symm⟩
  | nd r ps h2 h6 h =>
    obtain ⟨t, t2, us, rfl, hs, hs2, hu⟩ := dp_nd hv
    refine ⟨t, _, _, rfl, hs, ?_⟩
    rcases hw with rfl | rfl <;> cases r <;> (show _ = (_ == decide _); decide +kernel)
section
variable {P : Program} {w : World} {K : PySem.W.Frag} {mg : Str → Option Value} {base : Heap}
theorem sc_fits_party : FnScope ["value", "depth", "part", "keys"] ["value", "depth"] (defScope s_fits_party) := ⟨rfl, rfl, rfl, by decide +kernel, rfl, by decide +kernel, by decide +kernel⟩
theorem step_fits_party {f : Addr} {fd : FuncData} {n : Nat} (F : Fun K "fits_party" "fits_party" s_fits_party f fd) (c_fits_party : Cl P w K mg base (n + 40) "fits_party" (spFits K n)) (c_has_shape : Cl P w K mg base 1 "has_shape" (spShape K)) (c_is_name : Cl P w K mg base 1 "is_name" (spName K))
    (c_key_of : Cl P w K mg base 40 "key_of" (spKey K 31)) (b_isinstance : mg "isinstance" = none) (b_str : mg "str" = none) (b_tuple : mg "tuple" = none) (b_len : mg "len" = none) (b_all : mg "all" = none) (b_any : mg "any" = none) (b_sorted : mg "sorted" = none) (g_MOST_DEEDS : GV mg "MOST_DEEDS" (.int 60)) :
    FnOk P w K mg base CX0 (n + 41) f fd ["value", "depth"] (spFits K (n + 1)) := by
  have nd := sc_fits_party.nd
  refine F.ok sc_fits_party (fun vs H Q E h => ?_) (fun cdv A outer s H vs Q E hr h => ?_)
  · obtain ⟨v, d, k, rfl, _⟩ := h
    rfl
  obtain ⟨v, d, k, rfl, hv, tm, hk, h30, q⟩ := h
  refine ⟨_, (pss_cons (ps_if (PW.pt (pw_or (pt_not (pt_val (pcl c_has_shape hr (by omega) (pa_cons (pv 0) (pa_cons pe_int pa_nil))))) (pw_or (pt_not (pt_val (pe_callB call_isi (by rfl) b_isinstance (by decide +kernel) (pa_cons (pe_ix (ix_tupK (K := K) rfl) (pv 0) pe_int (fun _ _ => rfl)) (pa_cons (pe_bltn (v := .ty "str") (by rfl) b_str (by decide +kernel) rfl) pa_nil))))) (pw_or1 (pt_cmpR op_lt (pv 1) pe_int (nomark _)))))) (pss_one (ps_ret pe_bl)) pss_nil)
  (pss_cons (ps_if (pt_cmpR op_eq (pe_ix (ix_tupK (K := K) rfl) (pv 0) pe_int (fun _ _ => rfl)) pe_str (nomark _)) (pss_one (ps_ret (pcl c_is_name hr (by omega) (pa_cons (pe_ix (ix_tupK (K := K) rfl) (pv 0) pe_int (fun _ _ => rfl)) pa_nil)))) pss_nil)
  (pss_cons (ps_if (PW.pt (pw_or (pt_cmpR op_notIn_seq (pe_ix (ix_tupK (K := K) rfl) (pv 0) pe_int (fun _ _ => rfl)) (pe_tup (pa_cons pe_str (pa_cons pe_str pa_nil))) (by rfl)) (pw_or (pt_not (pt_val (pe_callB call_isi (by rfl) b_isinstance (by decide +kernel) (pa_cons (pe_ix (ix_tupK (K := K) rfl) (pv 0) pe_int (fun _ _ => rfl)) (pa_cons (pe_bltn (v := .ty "tuple") (by rfl) b_tuple (by decide +kernel) rfl) pa_nil))))) (pw_or1 (pt_cmpR op_lt (pe_callB call_len (by rfl) b_len (by decide +kernel) (pa_cons (pe_ix (ix_tupK (K := K) rfl) (pv 0) pe_int (fun _ _ => rfl)) pa_nil)) pe_int (nomark _)))))) (pss_one (ps_ret pe_bl)) pss_nil)
  (pss_cons (ps_if (PW.pt (pw_or (pt_cmpR op_gt (pe_callB call_len (by rfl) b_len (by decide +kernel) (pa_cons (pe_ix (ix_tupK (K := K) rfl) (pv 0) pe_int (fun _ _ => rfl)) pa_nil)) (pe_gv g_MOST_DEEDS) (nomark _)) (pw_or1 (pt_not (pt_val (pe_callB (cr_all rfl) (by rfl) b_all (by decide +kernel) (pa_cons (pe_lc (own := [("part", 2)]) rfl nd (pi_tup (pe_ix (ix_tupK (K := K) rfl) (pv 0) pe_int (fun _ _ => rfl))) (blkOk_by (N := ["value", "depth", "part", "keys"]) (sc := defScope s_fits_party) (by decide +kernel)) (fun _ _ _ _ _ => (pg_name (i := 2) nd rfl (.inl rfl))) (fun _ _ _ _ _ => pts_nil) (fun _ _ _ _ _ => (pcl c_fits_party hr (by omega) (pa_cons (pv 2) (pa_cons (pe_op op_sub (pv 1) pe_int) pa_nil))))) pa_nil))))))) (pss_one (ps_ret pe_bl)) pss_nil)
  (pss_cons (ps_if (pt_val (pe_callB (cr_any rfl) (by rfl) b_any (by decide +kernel) (pa_cons (pe_lc (own := [("part", 2)]) rfl nd (pi_tup (pe_ix (ix_tupK (K := K) rfl) (pv 0) pe_int (fun _ _ => rfl))) (blkOk_by (N := ["value", "depth", "part", "keys"]) (sc := defScope s_fits_party) (by decide +kernel)) (fun _ _ _ _ _ => (pg_name (i := 2) nd rfl (.inl rfl))) (fun _ _ _ _ _ => pts_nil) (fun _ _ _ _ _ => (pe_cmpR op_eq (pe_ix (ix_tupK (K := K) rfl) (pv 2) pe_int (fun _ _ => rfl)) (pe_ix (ix_tupK (K := K) rfl) (pv 0) pe_int (fun _ _ => rfl)) (nomark _)))) pa_nil))) (pss_one (ps_ret pe_bl)) pss_nil)
  (pss_cons (ps_setLc (i := 3) (own := [("part", 2)]) rfl nd rfl rfl (sw_true rfl rfl rfl (by decide +kernel)) (pi_tup (pe_ix (ix_tupK (K := K) rfl) (pv 0) pe_int (fun _ _ => rfl))) (blkOk_by (N := ["value", "depth", "part", "keys"]) (sc := defScope s_fits_party) (by decide +kernel)) (fun _ _ _ _ _ => (pg_name (i := 2) nd rfl (.inl rfl))) (fun _ _ _ _ _ => pts_nil) (fun _ _ _ _ _ => (pcl c_key_of hr (by omega) (pa_cons (pv 2) pa_nil))))
  (pss_one (ps_ret (pe_or (pe_cmpR op_eq (pe_ix (ix_tupK (K := K) rfl) (pv 0) pe_int (fun _ _ => rfl)) pe_str (nomark _)) (pe_one (pe_cmpR (op_eqD hr.units) (pv 3) (pe_callB (R.cr_sortedD hr.units) (by rfl) b_sorted (by decide +kernel) (pa_cons (pv 3) pa_nil)) (nomark _)))))))))))), ?_⟩
  walk_at "sx"
  refine ⟨v, d, 2, rfl, hv, ?_⟩
  by_cases c2 : shapeD 2 d = true
  case neg =>
    have e : Pt.fitsP k d = none := fits_not2 fun a b e => c2 (by rw [e]; rfl)
    rw [Bool.not_eq_true] at c2
    rw [c2]
    refine ⟨_, rfl, iteT ?_⟩
    have := q H (.refl H)
    rw [e] at this
    exact this
  obtain ⟨a, b, rfl⟩ := shape2 c2
  rw [c2]
  obtain ⟨t, va, vb, rfl, hs, ha, hb⟩ := dp2d hv
  refine ⟨_, rfl, iteF (ixt hs rfl (isi_str ha ⟨_, rfl, ?_⟩))⟩
  have tms : Tm b := by
    cases tm with
    | tup _ l h => exact h b (List.mem_cons_of_mem _ (List.mem_cons_self ..))
  cases ha with
  | str x =>
    refine iteF ?_
    cases k with
    | zero => exact iteT (q H (.refl H))
    | succ k =>
      refine ite2 (fun c => by rw [decide_eq_true_eq] at c; omega) (fun _ => ixt hs rfl ⟨rfl, ?_⟩)
      by_cases hd : x = "deed"
      · subst hd
        refine ite2 (fun _ => ixt hs rfl ?_) (fun c => absurd (by decide +kernel) c)
        exact ⟨vb, b, rfl, hb, tms.strl, fun H' sm => by have := q H' sm; rw [fits_deed] at this; exact this⟩
      · refine ite2 (fun c => absurd (V.str.inj (of_decide_eq_true c)) hd) (fun _ => ixt hs rfl ⟨by decide, fun p np => ?_⟩)
        refine ⟨p, _, rfl, .inr (SqT.of upd_same), rfl, ?_, _, rfl, ?_⟩
        · decide +kernel
        have f1 : Same H (upd H p (.tup [V.str "row", V.str "beside"])) := same_upd np
        generalize upd H p (.tup [V.str "row", V.str "beside"]) = H2 at f1 ⊢
        have ew : inV (.str x) [V.str "row", V.str "beside"] = decide (x = "row" ∨ x = "beside") := by
          unfold inV
          rw [Bool.eq_iff_iff, decide_eq_true_eq]
          simp only [List.any_cons, List.any_nil, Bool.or_false, Bool.or_eq_true, eqV, beq_iff_eq, eq_comm (b := x)]
        rw [if_pos rfl, ew]
        by_cases hw : x = "row" ∨ x = "beside"
        case neg =>
          rw [decide_eq_false hw]
          refine iteT ?_
          have := q _ f1
          rw [fits_other hd hw] at this
          exact this
        rw [decide_eq_true hw]
        have hb2 := L2.Dp.same f1 hb
        have hs1 := tup_same f1 hs
        refine iteF (ixt hs1 rfl (isi_tup hb2 ⟨_, rfl, ?_⟩))
        cases htb : isTup b with
        | false =>
          refine iteT ?_
          have := q _ f1
          rw [fits_nottup hd htb] at this
          exact this
        | true =>
        obtain ⟨ds, rfl⟩ : ∃ ds, b = .tuple ds := by
          cases b with
          | tuple ds => exact ⟨ds, rfl⟩
          | _ => cases htb
        obtain ⟨t2, us, rfl, hs2, hu⟩ := dp_tup hb2
        have hul := DpAll.length hu
        have hq : ∀ H', Same H2 H' → ∀ b : Bool, (Pt.fitsP (k + 1) (.tuple [.str x, .tuple ds])).isSome = b → Q (.bl b) H' := fun H' sm b e => e ▸ q H' (f1.trans sm)
        rw [fits_nd hd hw] at hq
        refine iteF (ixt hs1 rfl ⟨_, len_t hs2 rfl, ite2 (fun c => ?_) (fun c1 => ixt hs1 rfl ⟨_, len_t hs2 rfl, ite2 (fun c => ?_) (fun c2 => ?_)⟩)⟩)
        · rw [decide_eq_true_eq] at c
          exact hq _ (.refl _) false (by rw [if_neg (by omega)]; rfl)
        · rw [decide_eq_true_eq] at c
          exact hq _ (.refl _) false (by rw [if_neg (by omega)]; rfl)
        rw [decide_eq_true_eq] at c1 c2
        rw [if_pos (by omega)] at hq
        have tmd : ∀ d ∈ ds, Tm d := by
          cases tms with
          | tup _ l h => exact h
        refine lc_ix rfl hs1 rfl hs2 (by omega) (ds.map fun d => .bool (Pt.fitsP k d).isSome) (by rw [List.length_map, hul]) (fun d hd => by
          obtain ⟨e, _, rfl⟩ := List.mem_map.mp hd
          exact .bl _) ?_ ?_
        · intro i y d hy hdd H' R sm hR
          obtain ⟨e, he, hye⟩ := DpAll.at hu hy
          rw [List.getElem?_map, he] at hdd
          obtain rfl := Option.some.inj hdd
          walk_at "sx"
          exact ⟨y, e, k, by rw [show ((k + 1 : Nat) : Int) - 1 = (k : Int) by omega], L2.Dp.same sm hye, tmd e (List.mem_of_getElem? he), by omega, by omega, fun H'' s2 => hR _ _ s2 (.bl _)⟩
        intro D H3 vs nD s3 eD dv
        have e := dp_bools dv
        subst e
        refine ⟨D, ds.map fun d => (Pt.fitsP k d).isSome, rfl, SqL.of eD, _, rfl, ?_⟩
        rw [List.all_map]
        cases hall : ds.all (id ∘ fun d => (Pt.fitsP k d).isSome) with
        | false =>
          refine iteT (hq _ s3 false ?_)
          rw [mapO_none hall]
          rfl
        | true =>
        obtain ⟨qs, hm⟩ := mapO_ex hall
        rw [hm] at hq
        have eds : ds = qs.map (Pt.enc .str) := Pt.mapO_enc (Pt.fitsP_enc k) hm
        have hfl := Pt.mapO_all (P := fun p => Pt.Fl p ∧ Pt.dep p < k) (fun a b h => Pt.fits_fl k a b h) hm
        subst eds
        have hu3 := L2.DpAll.same s3 hu
        have hs3 := tup_same s3 hs1
        have hs23 := tup_same s3 hs2
        have hql : us.length = qs.length := by rw [hul, List.length_map]
        refine iteF (lc_ix rfl hs3 rfl hs23 (by omega) (qs.map fun q => .bool (Pt.hasWord (decide (x = "row")) q)) (by rw [List.length_map, hql]) (fun d hd => by
          obtain ⟨e, _, rfl⟩ := List.mem_map.mp hd
          exact .bl _) ?_ ?_)
        · intro i y d hy hdd H' R sm hR
          obtain ⟨p', hp, hpm, hyp⟩ := kid_at hu3 hy
          rw [List.getElem?_map, hp] at hdd
          obtain rfl := Option.some.inj hdd
          obtain ⟨t4, w4, u4, rfl, hs4, e4⟩ := fl_word (hfl.1 p' hpm).1 (L2.Dp.same sm hyp) hd hw
          walk_at "sx"
          refine ixt hs4 rfl (ixt (tup_same sm hs3) rfl ⟨rfl, ?_⟩)
          rw [e4]
          exact hR _ _ (.refl _) (.bl _)
        intro D2 H4 vs2 nD2 s4 eD2 dv2
        have e := dp_bools dv2
        subst e
        refine ⟨D2, qs.map fun q => Pt.hasWord (decide (x = "row")) q, rfl, SqL.of eD2, _, rfl, ?_⟩
        rw [List.any_map]
        have hpo : Pt.partsOk (decide (x = "row")) qs = (!qs.any (Pt.hasWord (decide (x = "row"))) && (decide (x = "row") || Pt.ordB qs)) := rfl
        have hq : ∀ H', Same H4 H' → ∀ b : Bool, Pt.partsOk (decide (x = "row")) qs = b → Q (.bl b) H' := fun H' sm b e => hq H' (s3.trans (s4.trans sm)) b (by
          simp only [e]
          cases b <;> rfl)
        rw [hpo] at hq
        cases hany : qs.any (id ∘ fun q => Pt.hasWord (decide (x = "row")) q) with
        | true => exact iteT (hq _ (.refl _) false (by rw [show qs.any (Pt.hasWord (decide (x = "row"))) = true from hany]; rfl))
        | false =>
        rw [show qs.any (Pt.hasWord (decide (x = "row"))) = false from hany] at hq
        refine iteF (lc_kids rfl (tup_same s4 hs3) (tup_same s4 hs23) (L2.DpAll.same s4 hu3) (by omega) Pt.key Pt.key_to ?_ ?_)
        · intro p' hp' y H' R sm hy hR
          walk_at "sx"
          exact ⟨y, p', rfl, hy, (hfl.1 p' hp').1, by have := (hfl.1 p' hp').2; omega, fun v' H'' s2 dk => hR v' H'' s2 dk⟩
        intro D3 H5 vs3 nD3 s5 eD3 dv3
        have hs5 := tup_same s5 (tup_same s4 hs3)
        refine ixt hs5 rfl ⟨rfl, ite2 (fun c => hq _ s5 true ?_) (fun c => ?_)⟩
        · rw [decide_eq_true_eq, V.str.injEq] at c
          rw [decide_eq_true c]
          rfl
        have hr0 : decide (x = "row") = false := decide_eq_false fun e => c (by rw [e]; decide +kernel)
        rw [hr0] at hq
        have ez : (vs3.zip (qs.map Pt.key)).map (·.2) = qs.map Pt.key := List.map_snd_zip (by rw [DpAll.length dv3]; exact Nat.le_refl _)
        have ez1 : (vs3.zip (qs.map Pt.key)).map (·.1) = vs3 := List.map_fst_zip (by rw [DpAll.length dv3]; exact Nat.le_refl _)
        have hz := all_zip dv3
        refine ⟨D3, vs3.zip (qs.map Pt.key), rfl, by rw [ez1]; exact SqL.of eD3, hz, by rw [ez]; exact Pt.keys_alike qs, by rw [ez]; exact Pt.keys_sortable qs, fun b hb => ?_, fun p5 np5 => ?_⟩
        · have hb2 : b.2 ∈ qs.map Pt.key := by rw [← ez]; exact List.mem_map.mpr ⟨b, hb, rfl⟩
          obtain ⟨p', hp', e⟩ := List.mem_map.mp hb2
          rw [← e]
          have := Pt.key_dep p'
          have := (hfl.1 p' hp').2
          omega
        have hlay : ∀ l : List (Pt Str), (∀ p ∈ l, p ∈ qs) → SeqAt.shaped (.list (l.map Pt.key)) = true := fun l hl => by
          unfold SeqAt.shaped
          simp only [PyData.canLay0, PyData.depth]
          rw [Pt.layAll Pt.key fun p hp => Pt.key_lay (hfl.1 p (hl p hp)).1.nm, Bool.true_and]
          refine decide_eq_true ?_
          have := Pt.depAll Pt.key (n := 60) (ps := l) fun p hp => by
            have := Pt.key_dep p
            have := (hfl.1 p (hl p hp)).2
            omega
          omega
        have f6 : Same H5 (upd H5 p5 (.lst (((vs3.zip (qs.map Pt.key)).mergeSort (PySem.W.dataLe false (·.2))).map (·.1)))) := same_upd np5
        refine ⟨.list (qs.map Pt.key), .list ((Pt.srt qs).map Pt.key), .lst (f6.seq (SqL.of eD3)) (L2.DpAll.same f6 dv3), .lst (SqL.of upd_same) ?_, hlay qs fun p hp => hp, hlay _ fun p hp => (Pt.srt_perm qs).mem_iff.mp hp, ?_⟩
        · rw [← srt_keys ez]
          exact L2.DpAll.same f6 (all_of_zip fun b hb => hz b ((List.mergeSort_perm _ _).mem_iff.mp hb))
        · exact hq _ (s5.trans f6) _ rfl
  | _ =>
    refine iteT ?_
    have := q H (.refl H)
    rw [fits_notstr rfl] at this
    exact this
end
theorem ok_fits_party {P : Program} {w : World} {K : PySem.W.Frag} {mg : Str → Option Value} {base : Heap} {f : Addr} {fd : FuncData} (F : Fun K "fits_party" "fits_party" s_fits_party f fd) (hm : mg "fits_party" = some (.ref f)) (hb : Binds K fd ["value", "depth"] []) (c_has_shape : Cl P w K mg base 1 "has_shape" (spShape K)) (c_is_name : Cl P w K mg base 1 "is_name" (spName K))
    (c_key_of : Cl P w K mg base 40 "key_of" (spKey K 31)) (b_isinstance : mg "isinstance" = none) (b_str : mg "str" = none) (b_tuple : mg "tuple" = none) (b_len : mg "len" = none) (b_all : mg "all" = none) (b_any : mg "any" = none) (b_sorted : mg "sorted" = none) (g_MOST_DEEDS : GV mg "MOST_DEEDS" (.int 60)) :
    ∀ n : Nat, FnOk P w K mg base CX0 (n + 40) f fd ["value", "depth"] (spFits K n)
  | 0 => fn_false fun vs H Q E h => by
    obtain ⟨v, p, k, _, _, _, h, _⟩ := h
    omega
  | n + 1 => step_fits_party F ⟨f, fd, _, ok_fits_party F hm hb c_has_shape c_is_name c_key_of b_isinstance b_str b_tuple b_len b_all b_any b_sorted g_MOST_DEEDS n, hm, F.kp, hb⟩ c_has_shape c_is_name c_key_of b_isinstance b_str b_tuple b_len b_all b_any b_sorted g_MOST_DEEDS

end Z

set_option Elab.async false
set_option linter.all false
set_option maxRecDepth 100000
set_option maxHeartbeats 4000000

namespace Z
open PySem PySem.Spec PyProof.Rows L2 Z.R
local macro_rules | `(tactic| walk_at "sx") => `(tactic| try simp only [and_assoc, cxOf_K, cxOf_Kn, C8.tCut, rEq, rNe, sc_ii, sc_ss, sc_bb, sc_is, sc_si, sc_bs, sc_sb, tSeq, tAsg, tPar, tPar3, tC, gName, gNil, gCons, gTup, gSub, rSetL, L2.start, tVar, tOp, tUn, rI0, rI, rU, tTest, tChain, tOrV, tAndV, tNotV, tCB, tCons, tNil, tLst, tTup, tIfS, tNext, tRet, tRetN, tDrop, tAnd, tOr, tNot, tB, tIf, tSl, tFld, sFld, putF, tNoPart, tPart, rSlL, tBM, tBM0, rAppend, rPop, rExtend, tCall, tMeth, List.map_cons, List.map_nil, List.replicate, List.length_cons, List.length_nil, List.append, List.cons_append, List.nil_append, List.append_nil, List.getElem?_cons_zero, List.getElem?_cons_succ, List.set_cons_zero, List.set_cons_succ, Option.some.injEq, exists_eq_left', exists_eq_left, exists_eq, exists_and_left, exists_const, wipe, tYes, upd_same, ↓reduceIte, decide_false, decide_true, Bool.not_true, Bool.not_false, Bool.false_eq_true, V.int.injEq, HO.lst.injEq, HO.tup.injEq, V.ref.injEq, V.str.injEq, one_inj, le_a, le_z, le_0, le_9, mem_let, mem_dig, V.bl.injEq, List.cons.injEq, and_true, true_and, reduceCtorEq, false_and, exists_false, or_false, false_or])
theorem eqv_dE {d : PyData} (h : PyData.eqv d dE = true) : ∃ x, d = .tuple [.str x] := by
  cases d with
  | tuple ds =>
    match ds with
    | [] => simp [PyData.eqv, PyData.eqvAll, dE] at h
    | [e] =>
      cases e with
      | str x => exact ⟨x, rfl⟩
      | _ => simp [PyData.eqv, PyData.eqvAll, dE] at h
    | e :: e' :: r => simp [PyData.eqv, PyData.eqvAll, dE] at h
  | _ => simp [PyData.eqv, dE] at h
theorem dp1 {K : PySem.W.Frag} {H : Hp} {v : V} {d : PyData} (h : Dp K H v (.tuple [d])) : ∃ t u, v = .ref t ∧ SqT K H t [u] ∧ Dp K H u d := by
  cases h with
  | tup hs ha =>
    cases ha with
    | cons h1 h2 =>
      cases h2
      exact ⟨_, _, rfl, hs, h1⟩
theorem shape1 {d : PyData} (h : shapeD 1 d = true) : ∃ a, d = .tuple [a] := by
  cases d with
  | tuple ds =>
    have h : decide (ds.length = 1) = true := h
    rw [decide_eq_true_eq] at h
    match ds, h with
    | [a], _ => exact ⟨a, rfl⟩
  | _ => cases h
def spIsP (K : PySem.W.Frag) : Sp := fun vs H Q _ => ∃ (v : V) (d : PyData), vs = [v] ∧ Dp K H v d ∧ Tm d ∧ ∀ H', Same H H' → Q (.bl (Pt.partyP d).isSome) H'
def spChk (K : PySem.W.Frag) (C : Addr) : Sp := fun vs H Q E => ∃ (v : V) (d : PyData), vs = [v] ∧ Dp K H v d ∧ Tm d ∧ (∀ H', Same H H' → (Pt.partyP d).isSome = true → Q .non H') ∧ (∀ H', Same H H' → Pt.partyP d = none → E (.ref C) none H')
theorem party_fits {d : PyData} (h : PyData.eqv d dE = false) : (Pt.partyP d).isSome = match Pt.fitsP 30 d with
    | some p => decide (Pt.cnt p ≤ 60)
    | none => false := by
  unfold Pt.partyP
  show (if PyData.eqv d dE = true then _ else _ : Option _).isSome = _
  rw [h, if_neg Bool.false_ne_true]
  cases Pt.fitsP 30 d with
  | none => rfl
  | some p =>
    show (if _ then _ else _ : Option (Pt Str)).isSome = _
    by_cases c : Pt.cnt p ≤ 60
    · rw [if_pos c]
      exact (decide_eq_true c).symm
    · rw [if_neg c]
      exact (decide_eq_false c).symm
theorem party_emp {d : PyData} (h : PyData.eqv d dE = true) : (Pt.partyP d).isSome = true := by
  unfold Pt.partyP
  show (if PyData.eqv d dE = true then _ else _ : Option _).isSome = _
  rw [h, if_pos rfl]
  rfl
section
variable {P : Program} {w : World} {K : PySem.W.Frag} {mg : Str → Option Value} {base : Heap}
theorem sc_is_party : FnScope ["value"] ["value"] (defScope s_is_party) := ⟨rfl, rfl, rfl, by decide +kernel, rfl, by decide +kernel, by decide +kernel⟩
theorem ok_is_party {f : Addr} {fd : FuncData} (F : Fun K "is_party" "is_party" s_is_party f fd) (c_has_shape : Cl P w K mg base 1 "has_shape" (spShape K)) (c_fits_party : Cl P w K mg base 71 "fits_party" (spFits K 31)) (c_count_of : Cl P w K mg base 40 "count_of" (spCount K 31))
    (b_isinstance : mg "isinstance" = none) (b_str : mg "str" = none) {aE : Addr} (hE : ∀ H, SqT K H aE [.str "empty"]) (g_EMPTY : GV mg "EMPTY" (.ref aE)) (g_MOST_DEEDS : GV mg "MOST_DEEDS" (.int 60)) (g_MOST_DEEP : GV mg "MOST_DEEP" (.int 30)) : FnOk P w K mg base CX0 72 f fd ["value"] (spIsP K) := by
  have nd := sc_is_party.nd
  refine F.ok sc_is_party (fun vs H Q E h => ?_) (fun cdv A outer s H vs Q E hr h => ?_)
  · obtain ⟨v, d, rfl, _⟩ := h
    rfl
  obtain ⟨v, d, rfl, hv, tm, q⟩ := h
  refine ⟨_, (pss_cons (ps_if (PW.pt (pw_and (pt_val (pcl c_has_shape hr (by omega) (pa_cons (pv 0) (pa_cons pe_int pa_nil)))) (pw_and1 (pt_val (pe_callB call_isi (by rfl) b_isinstance (by decide +kernel) (pa_cons (pe_ix (ix_tupK (K := K) rfl) (pv 0) pe_int (fun _ _ => rfl)) (pa_cons (pe_bltn (v := .ty "str") (by rfl) b_str (by decide +kernel) rfl) pa_nil))))))) (pss_one (ps_ret (pe_cmpR (op_eqD hr.units) (pv 0) (pe_gv g_EMPTY) (nomark _)))) pss_nil)
  (pss_one (ps_ret (pe_and (pcl c_fits_party hr (by omega) (pa_cons (pv 0) (pa_cons (pe_gv g_MOST_DEEP) pa_nil))) (pe_one (pe_cmpR op_le (pcl c_count_of hr (by omega) (pa_cons (pv 0) pa_nil)) (pe_gv g_MOST_DEEDS) (nomark _))))))), ?_⟩
  walk_at "sx"
  refine ⟨v, d, 1, rfl, hv, _, rfl, ?_⟩
  have main : PyData.eqv d dE = false → spFits K 31 [v, .int 30] H (fun x H1 => ∃ c, x = V.bl c ∧ if c = true then spCount K 31 [v] H1 (fun x H1 => ∃ i, x = V.int i ∧ Q (V.bl (decide (i ≤ 60))) H1) E0 else Q (.bl false) H1) E0 := fun hne => by
    refine ⟨v, d, 30, rfl, hv, tm, by omega, by omega, fun H' sm => ⟨_, rfl, ?_⟩⟩
    have q := q
    rw [party_fits hne] at q
    cases hp : Pt.fitsP 30 d with
    | none =>
      rw [hp] at q
      exact iteF (q H' sm)
    | some p =>
      rw [hp] at q
      have hfl := Pt.fits_fl 30 d p hp
      have hd := Pt.fitsP_enc 30 d p hp
      refine iteT ?_
      refine ⟨v, p, rfl, hd ▸ L2.Dp.same sm hv, ⟨⟨.inr hfl.1, by omega⟩, by omega⟩, fun v' H'' s2 dk => ?_⟩
      cases dk
      refine ⟨_, rfl, ?_⟩
      have := q H'' (sm.trans s2)
      rw [show decide ((Pt.cnt p : Int) ≤ 60) = decide (Pt.cnt p ≤ 60) by rw [Bool.eq_iff_iff, decide_eq_true_eq, decide_eq_true_eq]; omega]
      exact this
  refine ite2 (fun c => ?_) (fun c => main ?_)
  · obtain ⟨e, rfl⟩ := shape1 c
    obtain ⟨t, u, rfl, hs, hu⟩ := dp1 hv
    refine ixt hs rfl (isi_str hu ⟨_, rfl, ?_⟩)
    cases e with
    | str x =>
      have hx : PyData.strOk x = true := by
        cases tm with
        | tup _ l h =>
          have := h (.str x) (List.mem_cons_self ..)
          cases this with
          | str _ l o => exact o
      refine iteT ⟨_, dE, hv, .tup (hE H) (.cons (.str _) .nil), ?_, by decide +kernel, ?_⟩
      · simp [SeqAt.shaped, PyData.canLay0, PyData.canLayAll0, hx, PyData.depth, PyData.depthAll]
      · have q := q H (.refl H)
        cases ee : PyData.eqv (.tuple [.str x]) dE with
        | false =>
          rw [party_fits ee, fits_not2 fun a b e => by cases e] at q
          exact q
        | true =>
          rw [party_emp ee] at q
          exact q
    | _ => exact iteF (main (by simp [PyData.eqv, PyData.eqvAll, dE]))
  · rw [Bool.eq_false_iff]
    intro e
    obtain ⟨x, rfl⟩ := eqv_dE e
    exact c rfl
theorem sc_check_party : FnScope ["value"] ["value"] (defScope s_check_party) := ⟨rfl, rfl, rfl, by decide +kernel, rfl, by decide +kernel, by decide +kernel⟩
theorem ok_check_party {C f : Addr} {fd : FuncData} (F : Fun K "check_party" "check_party" s_check_party f fd) (c_is_party : Cl P w K mg base 72 "is_party" (spIsP K)) (T_Malformed : XC K mg "Malformed" C) : FnOk P w K mg base (L2.CX P w) 73 f fd ["value"] (spChk K C) := by
  have nd := sc_check_party.nd
  refine F.okX sc_check_party (fun vs H Q E h => ?_) (fun cdv A outer s H vs Q E hr h => ?_)
  · obtain ⟨v, d, rfl, _⟩ := h
    rfl
  obtain ⟨v, d, rfl, hv, tm, q, e⟩ := h
  refine ⟨_, (pss_one (ps_if (pt_not (pt_val (pcl c_is_party hr (by omega) (pa_cons (pv 0) pa_nil)))) (pss_one (ps_rz T_Malformed rfl (takes_of rfl rfl rfl rfl))) pss_nil)), ?_⟩
  walk_at "sx"
  refine ⟨v, d, rfl, hv, tm, fun H' sm => ⟨_, rfl, ?_⟩⟩
  cases hp : Pt.partyP d with
  | none => exact iteT (e H' sm hp)
  | some p => exact iteF (q H' sm (by rw [hp]; rfl))
end

end Z

set_option Elab.async false
set_option linter.all false
set_option maxRecDepth 100000
set_option maxHeartbeats 4000000

namespace Z
open PySem PySem.Spec PyProof.Rows L2 Z.R
local macro_rules | `(tactic| walk_at "sx") => `(tactic| try simp only [and_assoc, cxOf_K, cxOf_Kn, C8.tCut, rEq, rNe, sc_ii, sc_ss, sc_bb, sc_is, sc_si, sc_bs, sc_sb, tSeq, tAsg, tPar, tPar3, tC, gName, gNil, gCons, gTup, gSub, rSetL, L2.start, tVar, tOp, tUn, rI0, rI, rU, tTest, tChain, tOrV, tAndV, tNotV, tCB, tCons, tNil, tLst, tTup, tIfS, tNext, tRet, tRetN, tDrop, tAnd, tOr, tNot, tB, tIf, tSl, tFld, sFld, putF, tNoPart, tPart, rSlL, tBM, tBM0, rAppend, rPop, rExtend, tCall, tMeth, tLstRg, tRg1, tRg2, List.map_cons, List.map_nil, List.replicate, List.length_cons, List.length_nil, List.append, List.cons_append, List.nil_append, List.append_nil, List.getElem?_cons_zero, List.getElem?_cons_succ, List.set_cons_zero, List.set_cons_succ, Option.some.injEq, exists_eq_left', exists_eq_left, exists_eq, exists_and_left, exists_const, wipe, tYes, upd_same, ↓reduceIte, decide_false, decide_true, Bool.not_true, Bool.not_false, Bool.false_eq_true, V.int.injEq, HO.lst.injEq, HO.tup.injEq, V.ref.injEq, V.str.injEq, one_inj, le_a, le_z, le_0, le_9, mem_let, mem_dig, V.bl.injEq, List.cons.injEq, and_true, true_and, reduceCtorEq, false_and, exists_false, or_false, false_or])
namespace Pt
/-- the names in the order of the form -/
def names {α : Type} : Pt α → List α
  | .emp => []
  | .deed a => [a]
  | .nd _ ps => (ps.map names).flatten
theorem names_nd {α : Type} (r : Bool) (ps : List (Pt α)) : names (.nd r ps) = (ps.map names).flatten := by rw [names]
theorem names_len {α : Type} : ∀ p : Pt α, (names p).length = cnt p := by
  refine ind ?_ (fun x => ?_) fun r ps ih => ?_
  · rw [names, cnt]; rfl
  · rw [names, cnt]; rfl
  · rw [names_nd, cnt_nd, List.length_flatten, List.map_map]
    congr 1
    exact List.map_congr_left fun p hp => ih p hp
theorem kids_at {α : Type} : ∀ (ps : List (Pt α)) (s i : Nat), (kids ps s)[i]? = ps[i]?.map fun p => (p, s + ((ps.take i).map cnt).sum)
  | [], s, i => by simp [kids]
  | p :: ps, s, 0 => by simp [kids]
  | p :: ps, s, i + 1 => by
    rw [kids, List.getElem?_cons_succ, kids_at ps (s + cnt p) i, List.getElem?_cons_succ, List.take_succ_cons, List.map_cons, List.sum_cons, Nat.add_assoc]
theorem kids_length {α : Type} (ps : List (Pt α)) (s : Nat) : (kids ps s).length = ps.length := by
  have := congrArg List.length (kids_fst ps s)
  rwa [List.length_map] at this
theorem take_sum {α : Type} {ps : List (Pt α)} {i : Nat} {p : Pt α} (h : ps[i]? = some p) : ((ps.take (i + 1)).map cnt).sum = ((ps.take i).map cnt).sum + cnt p := by
  rw [List.take_add_one, h]
  simp
/-- a pair of places -/
def prD (x : Nat × Nat) : PyData := .tuple [.int x.1, .int x.2]
theorem prD_to (x : Nat × Nat) : To (prD x) := .tup _ fun d hd => by
  simp only [List.mem_cons, List.not_mem_nil, or_false] at hd
  rcases hd with rfl | rfl
  · exact .int _
  · exact .int _
/-- a party with at most sixty deeds -/
def Okc (p : Pt Str) : Prop := Ok p ∧ cnt p ≤ 60
theorem Okc.part {r : Bool} {ps : List (Pt Str)} {p : Pt Str} (h : Okc (.nd r ps)) (hp : p ∈ ps) : Okc p := by
  refine ⟨h.1.part hp, ?_⟩
  have := cnt_mem (r := r) hp
  have := h.2
  omega
end Pt
theorem flat_map {α β γ : Type} (f : α → List β) (g : β → γ) (l : List α) : (l.map fun x => (f x).map g).flatten = ((l.map f).flatten).map g := by
  rw [List.map_flatten, List.map_map]
  rfl
theorem size60 {n : Nat} (h : n ≤ 60) : n ≤ sizeLine := Nat.le_of_lt (small1000 (by omega))
/-- one more at the end of a list of data without lists -/
theorem snocD {K : PySem.W.Frag} {H H' : Hp} {D : Addr} {vs : List V} {ds : List PyData} {v : V} {d : PyData} (f : Same H H') (eD : H D = some (.lst vs)) (to : ∀ e ∈ ds ++ [d], To e) (h : DpAll K H vs ds) (hv : Dp K H' v d) : DpAll K (upd H' D (.lst (vs ++ [v]))) (vs ++ [v]) (ds ++ [d]) :=
  dps_upd to (.refl _) (f _ _ eD) (DpAll.append (DpAll.same f h) (.cons hv .nil))
theorem pi_listK {X : Cx} {K : PySem.W.Frag} {tg l : Expr} {tl : TE} (h : X.K = K) (hl : PE X l tl) : PI X tg l (iList K tl) := h ▸ pi_list hl
theorem pi_tupK {X : Cx} {K : PySem.W.Frag} {tg l : Expr} {tl : TE} (h : X.K = K) (hl : PE X l tl) : PI X tg l (iTup K tl) := h ▸ pi_tup hl
theorem sqt_new {K : PySem.W.Frag} {H : Hp} {a : Addr} {xs ys : List V} (e : xs = ys) : SqT K (upd H a (.tup xs)) a ys := e ▸ SqT.of upd_same
theorem pg_tupK {X : Cx} {K : PySem.W.Frag} {es : List Expr} {k : Nat} {t : TGs} {n : Nat} {pos : Pos} (hK : X.K = K) (hc : X.calm = true) (h : PGs X es t)
    (hn : (assignEach es X.env).length = n := by rfl) (hst : (assignEach es X.env).findIdx? (·.1) = none := by rfl) : PG X (.Tuple es k pos) (gTup K n t) := hK ▸ pg_tup hc h hn hst
theorem op_catAK {X : Cx} {K : PySem.W.Frag} (h : X.K = K) : OpR X (binaryOp .Add) (rCatA K) := h ▸ op_catA

end Z

set_option Elab.async false
set_option linter.all false
set_option maxRecDepth 100000
set_option maxHeartbeats 4000000

namespace Z
open PySem PySem.Spec PyProof.Rows L2 Z.R
local macro_rules | `(tactic| walk_at "sx") => `(tactic| try simp only [and_assoc, cxOf_K, cxOf_Kn, C8.tCut, rEq, rNe, sc_ii, sc_ss, sc_bb, sc_is, sc_si, sc_bs, sc_sb, tSeq, tAsg, tPar, tPar3, tC, gName, gNil, gCons, gTup, gSub, rSetL, L2.start, tVar, tOp, tUn, rI0, rI, rU, tTest, tChain, tOrV, tAndV, tNotV, tCB, tCons, tNil, tLst, tTup, tIfS, tNext, tRet, tRetN, tDrop, tAnd, tOr, tNot, tB, tIf, tSl, tFld, sFld, putF, tNoPart, tPart, rSlL, tBM, tBM0, rAppend, rPop, rExtend, tCall, tMeth, tLstRg, tRg1, tRg2, List.map_cons, List.map_nil, List.replicate, List.length_cons, List.length_nil, List.append, List.cons_append, List.nil_append, List.append_nil, List.getElem?_cons_zero, List.getElem?_cons_succ, List.set_cons_zero, List.set_cons_succ, Option.some.injEq, exists_eq_left', exists_eq_left, exists_eq, exists_and_left, exists_const, wipe, tYes, upd_same, ↓reduceIte, decide_false, decide_true, Bool.not_true, Bool.not_false, Bool.false_eq_true, V.int.injEq, HO.lst.injEq, HO.tup.injEq, V.ref.injEq, V.str.injEq, one_inj, le_a, le_z, le_0, le_9, mem_let, mem_dig, V.bl.injEq, List.cons.injEq, and_true, true_and, reduceCtorEq, false_and, exists_false, or_false, false_or])
theorem snocM {K : PySem.W.Frag} {H H' : Hp} {D : Addr} {vs : List V} {v : V} {γ : Type} {g : γ → PyData} {l : List γ} {c : γ} (tg : ∀ c, To (g c)) (f : Same H H') (eD : H D = some (.lst vs)) (h : DpAll K H vs (l.map g)) (hv : Dp K H' v (g c)) : DpAll K (upd H' D (.lst (vs ++ [v]))) (vs ++ [v]) ((l ++ [c]).map g) := by
  rw [List.map_append]
  exact snocD f eD (fun e he => by
    rcases List.mem_append.mp he with he | he
    · obtain ⟨k, _, rfl⟩ := List.mem_map.mp he
      exact tg k
    · rw [List.mem_singleton.mp he]
      exact tg c) h hv
/-- more data at the end of a list -/
theorem catM {K : PySem.W.Frag} {H : Hp} {D : Addr} {xs vs us : List V} {γ : Type} {g : γ → PyData} {l m : List γ} (tg : ∀ c, To (g c)) (eD : H D = some (.lst xs)) (h : DpAll K H vs (l.map g)) (hv : DpAll K H us (m.map g)) : DpAll K (upd H D (.lst (vs ++ us))) (vs ++ us) ((l ++ m).map g) := by
  rw [List.map_append]
  exact dps_upd (fun e he => by
    rw [← List.map_append] at he
    obtain ⟨k, _, rfl⟩ := List.mem_map.mp he
    exact tg k) (.refl _) eD (DpAll.append h hv)
/-- pairs of places in the heap -/
def Prs (H : Hp) (vs : List V) (L : List (Nat × Nat)) : Prop := Rel (fun v x => ∃ q, v = .ref q ∧ H q = some (.tup [.int (x.1 : Nat), .int (x.2 : Nat)])) vs L
namespace Prs
variable {H H' : Hp} {D : Addr} {xs vs us : List V} {L M : List (Nat × Nat)}
theorem nil : Prs H [] [] := Rel.nil
theorem same (f : Same H H') (h : Prs H vs L) : Prs H' vs L := h.mono fun _ _ ⟨q, e, hq⟩ => ⟨q, e, f _ _ hq⟩
theorem upd {o : HO} (e : H D = some (.lst xs)) (h : Prs H vs L) : Prs (L2.upd H D o) vs L := h.mono fun _ _ ⟨q, e1, hq⟩ => ⟨q, e1, by rw [upd_ne (ne_of hq e (by intro z; cases z))]; exact hq⟩
theorem snoc {q : Addr} {x : Nat × Nat} (f : Same H H') (e : H D = some (.lst vs)) (h : Prs H vs L) (hq : H' q = some (.tup [.int (x.1 : Nat), .int (x.2 : Nat)])) : Prs (L2.upd H' D (.lst (vs ++ [.ref q]))) (vs ++ [.ref q]) (L ++ [x]) :=
  Prs.upd (f _ _ e) (Rel.snoc (h.same f) ⟨q, rfl, hq⟩)
theorem cat (e : H D = some (.lst xs)) (h : Prs H vs L) (h' : Prs H us M) : Prs (L2.upd H D (.lst (vs ++ us))) (vs ++ us) (L ++ M) := Prs.upd e (Rel.append h h')
theorem len (h : Prs H vs L) : vs.length = L.length := h.1
theorem dp {K : PySem.W.Frag} (h : Prs H vs L) : DpAll K H vs (L.map Pt.prD) := by
  refine Rel.to_all ⟨by rw [List.length_map]; exact h.1, fun i v d a b => ?_⟩
  rw [List.getElem?_map] at b
  cases e : L[i]? with
  | none =>
    rw [e] at b
    cases b
  | some x =>
    rw [e] at b
    obtain rfl := Option.some.inj b
    obtain ⟨q, rfl, hq⟩ := h.2 i v x a e
    exact .tup (SqT.of hq) (.cons (.int _) (.cons (.int _) .nil))
end Prs
section
variable {K : PySem.W.Frag} {H : Hp} {Q : VK} {a0 a1 a2 a5 a6 : Option V} {A : Addr} {is : List Nat} {lo hi : Nat}
def crossN (is : List Nat) (lo n : Nat) : List (Nat × Nat) := is.flatMap fun i => (List.range' lo n).map fun j => (i, j)
theorem crossN_len (is : List Nat) (lo n : Nat) : (crossN is lo n).length = is.length * n := by
  induction is with
  | nil => simp [crossN]
  | cons i is ih =>
    unfold crossN at ih ⊢
    rw [List.flatMap_cons, List.length_append, ih, List.length_map, List.length_range', List.length_cons, Nat.add_mul, Nat.one_mul, Nat.add_comm]
/-- [(one, two) for one in ahead for two in range(place, after)] -/
theorem lc2_cross (hA : H A = some (.lst (is.map fun i => .int (i : Nat)))) (hb : hi < 1000000) (hb0 : lo ≤ hi) (hz : is.length * (hi - lo) ≤ 1000000)
    (done : ∀ (D : Addr) (H' : Hp) (vs : List V), H D = none → Same H H' → H' D = some (.lst vs) → Prs H' vs (crossN is lo (hi - lo)) → Q (.ref D) H') :
    tLc2 (iList K (tVar 4)) (gName 8) tYes (iRng2 (tCons (tVar 3) (tCons (tVar 7) tNil))) (gName 9) tYes (tTup (tCons (tVar 8) (tCons (tVar 9) tNil))) [8, 9] [9] [a0, a1, a2, some (.int (lo : Nat)), some (.ref A), a5, a6, some (.int (hi : Nat)), none, none] H Q := by
  refine ⟨_, rfl, A, rfl, ⟨_, SqL.of hA⟩, fun D nD => ?_⟩
  refine ⟨fun i m H' => m = is.length - i ∧ i ≤ is.length ∧ (Same H H' ∧ ∃ vs, H' D = some (.lst vs) ∧ Prs H' vs (crossN (is.take i) lo (hi - lo))), ⟨is.length, by simp, Nat.zero_le _, same_upd nD, [], upd_same, .nil⟩, ?_⟩
  rintro i m H' ⟨rfl, hi', sm, vs, eD, dv⟩
  have hS := SqL.of (K := K) (sm _ _ hA)
  by_cases hlt : i < is.length
  · refine .inr ⟨walk_list.goes i H' (by rw [List.length_map]; exact hlt) hS, fun H' => (Same H H' ∧ ∃ vs, H' D = some (.lst vs) ∧ Prs H' vs (crossN (is.take (i + 1)) lo (hi - lo))), fun H' p => ⟨is.length - (i + 1), by omega, rfl, hlt, p⟩, fun x H2 y => ?_⟩
    obtain ⟨rfl, hx⟩ := walk_list.yields i H' x H2 (by rw [List.length_map]; exact hlt) hS y
    obtain ⟨z, hz1⟩ : ∃ z, is[i]? = some z := ⟨is[i], List.getElem?_eq_getElem hlt⟩
    rw [List.getElem?_map, hz1] at hx
    obtain rfl := Option.some.inj hx
    walk_at "sx"
    refine ⟨_, rfl, _, rfl, _, _, rfl, ⟨by omega, by omega, by omega, by omega⟩, ?_⟩
    rw [show ((hi : Int) - lo).toNat = hi - lo by omega]
    refine ⟨fun j k H' => k = (hi - lo) - j ∧ j ≤ hi - lo ∧ (Same H H' ∧ ∃ vs, H' D = some (.lst vs) ∧ Prs H' vs (crossN (is.take i) lo (hi - lo) ++ (List.range' lo j).map fun j => (z, j))), ⟨hi - lo, by simp, Nat.zero_le _, sm, vs, eD, by simpa using dv⟩, ?_⟩
    rintro j k H3 ⟨rfl, hj, sm3, vs3, eD3, dv3⟩
    by_cases hjl : j < hi - lo
    · refine .inr ⟨hjl, fun H' => (Same H H' ∧ ∃ vs, H' D = some (.lst vs) ∧ Prs H' vs (crossN (is.take i) lo (hi - lo) ++ (List.range' lo (j + 1)).map fun j => (z, j))), fun H' p => ⟨hi - lo - (j + 1), by omega, rfl, hjl, p⟩, ?_⟩
      rintro x H4 ⟨rfl, rfl⟩
      refine ⟨by decide, fun p np => ⟨vs3, (same_upd np) _ _ eD3, ?_, same_D (sm3.trans (same_upd np)) nD, vs3 ++ [.ref p], upd_same, ?_⟩⟩
      · have h1 := dv3.len
        rw [List.length_append, crossN_len, List.length_take, List.length_map, List.length_range', Nat.min_eq_left hi'] at h1
        have h2 : (i + 1) * (hi - lo) ≤ is.length * (hi - lo) := Nat.mul_le_mul_right _ hlt
        rw [Nat.add_mul, Nat.one_mul] at h2
        exact Nat.lt_of_le_of_lt (show vs3.length ≤ 1000000 by omega) (by decide)
      · have e2 : crossN (is.take i) lo (hi - lo) ++ (List.range' lo (j + 1)).map (fun j => (z, j)) = (crossN (is.take i) lo (hi - lo) ++ (List.range' lo j).map fun j => (z, j)) ++ [(z, lo + j)] := by
          rw [List.range'_1_concat, List.map_append, List.append_assoc]
          rfl
        rw [e2]
        exact Prs.snoc (x := (z, lo + j)) (same_upd np) eD3 dv3 (by rw [upd_same, Int.natCast_add])
    · have e : j = hi - lo := by omega
      subst e
      refine .inl ⟨Nat.le_refl _, sm3, vs3, eD3, ?_⟩
      rw [List.take_add_one, hz1]
      simp only [crossN, List.flatMap_append, Option.toList, List.flatMap_cons, List.flatMap_nil, List.append_nil] at dv3 ⊢
      exact dv3
  · have e : i = is.length := by omega
    subst e
    rw [List.take_of_length_le (Nat.le_refl _)] at dv
    exact .inl ⟨(by have := (walk_list (K := K) (a := A)).stops H' hS; rwa [List.length_map] at this), done D H' vs nD sm eD dv⟩
end
namespace Pt
theorem go_len {α : Type} {r : Bool} : ∀ {ps : List (Pt α)} {s0 s : Nat}, s0 ≤ s → (∀ p ∈ ps, ∀ s, (told p s).length ≤ cnt p * cnt p) → (told.go r ps s0 s).length + (s - s0) * (s - s0) ≤ (s - s0 + (ps.map cnt).sum) * (s - s0 + (ps.map cnt).sum)
  | [], s0, s, h, _ => by
    rw [told.go]
    simp
  | p :: ps, s0, s, h, ih => by
    rw [told.go, List.length_append, List.length_append, List.map_cons, List.sum_cons]
    have h1 := ih p (List.mem_cons_self ..) s
    have h2 := go_len (r := r) (ps := ps) (s0 := s0) (s := s + cnt p) (by omega) fun q hq => ih q (List.mem_cons_of_mem _ hq)
    have h3 : (if r = true then (List.range' s0 (s - s0)).flatMap fun i => (List.range' s (cnt p)).map fun j => (i, j) else []).length ≤ (s - s0) * cnt p := by
      cases r with
      | false => exact Nat.zero_le _
      | true =>
        rw [if_pos rfl]
        have := crossN_len (List.range' s0 (s - s0)) s (cnt p)
        rw [List.length_range'] at this
        exact Nat.le_of_eq this
    rw [show s + cnt p - s0 = (s - s0) + cnt p by omega, Nat.add_assoc (s - s0)] at h2
    have e : (s - s0 + cnt p) * (s - s0 + cnt p) = (s - s0) * (s - s0) + (s - s0) * cnt p + (cnt p * (s - s0) + cnt p * cnt p) := by
      rw [Nat.add_mul, Nat.mul_add, Nat.mul_add]
    rw [e] at h2
    omega
theorem told_len {α : Type} : ∀ (p : Pt α) (s : Nat), (told p s).length ≤ cnt p * cnt p := by
  refine ind (fun s => ?_) (fun x s => ?_) fun r ps ih s => ?_
  · rw [told]; exact Nat.zero_le _
  · rw [told]; exact Nat.zero_le _
  · have := go_len (r := r) (ps := ps) (s0 := s) (s := s) (Nat.le_refl _) ih
    rw [Nat.sub_self, Nat.zero_mul, Nat.add_zero, Nat.zero_add] at this
    rw [told_nd, cnt_nd]
    exact this
end Pt
theorem rgV_nat (a n : Nat) : rgV (a : Nat) ((a + n : Nat) : Int) = (List.range' a n).map fun j => V.int (j : Nat) := by
  unfold rgV
  rw [show (((a + n : Nat) : Int) - (a : Nat)).toNat = n by omega, List.range'_eq_map_range, List.map_map]
  exact List.map_congr_left fun i _ => by
    show V.int ((a : Int) + (i : Int)) = V.int ((a + i : Nat) : Int)
    rw [Int.natCast_add]
theorem rg_cat (s m n : Nat) : ((List.range' s m).map fun j => V.int (j : Nat)) ++ (List.range' (s + m) n).map (fun j => V.int (j : Nat)) = (List.range' s (m + n)).map fun j => V.int (j : Nat) := by
  rw [← List.map_append, List.range'_append_1]

end Z

set_option Elab.async false
set_option linter.all false
set_option maxRecDepth 100000
set_option maxHeartbeats 4000000

namespace Z
open PySem PySem.Spec PyProof.Rows L2 Z.R
local macro_rules | `(tactic| walk_at "sx") => `(tactic| try simp only [and_assoc, cxOf_K, cxOf_Kn, C8.tCut, rEq, rNe, sc_ii, sc_ss, sc_bb, sc_is, sc_si, sc_bs, sc_sb, tSeq, tAsg, tPar, tPar3, tC, gName, gNil, gCons, gTup, gSub, rSetL, L2.start, tVar, tOp, tUn, rI0, rI, rU, tTest, tChain, tOrV, tAndV, tNotV, tCB, tCons, tNil, tLst, tTup, tIfS, tNext, tRet, tRetN, tDrop, tAnd, tOr, tNot, tB, tIf, tSl, tFld, sFld, putF, tNoPart, tPart, rSlL, tBM, tBM0, rAppend, rPop, rExtend, tCall, tMeth, tLstRg, tRg1, tRg2, List.map_cons, List.map_nil, List.replicate, List.length_cons, List.length_nil, List.append, List.cons_append, List.nil_append, List.append_nil, List.getElem?_cons_zero, List.getElem?_cons_succ, List.set_cons_zero, List.set_cons_succ, Option.some.injEq, exists_eq_left', exists_eq_left, exists_eq, exists_and_left, exists_const, wipe, tYes, upd_same, ↓reduceIte, decide_false, decide_true, Bool.not_true, Bool.not_false, Bool.false_eq_true, V.int.injEq, HO.lst.injEq, HO.tup.injEq, V.ref.injEq, V.str.injEq, one_inj, le_a, le_z, le_0, le_9, mem_let, mem_dig, V.bl.injEq, List.cons.injEq, and_true, true_and, reduceCtorEq, false_and, exists_false, or_false, false_or])
abbrev spBare (K : PySem.W.Frag) (n : Nat) : Sp := spFn K Pt.pr (fun t => Pt.OkT t ∧ Pt.dep t < n) fun t => Pt.enc .str (Pt.bare t)
abbrev spNames (K : PySem.W.Frag) (n : Nat) : Sp := spLs K .str (fun p => Pt.Okc p ∧ Pt.dep p < n) fun p => (Pt.names p).map .str
def spPlaced (K : PySem.W.Frag) (n : Nat) : Sp := fun vs H Q _ => ∃ (v : V) (p : Pt Str) (s : Nat), vs = [v, .int (s : Nat)] ∧ Dp K H v (Pt.enc .str p) ∧ Pt.Okc p ∧ Pt.dep p < n ∧
  ∀ (t : Addr) (u : V) H', Same H H' → SqT K H' t [u, .int (s + Pt.cnt p : Nat)] → Dp K H' u (Pt.enc Pt.pr (Pt.plc p s)) → Q (.ref t) H'
section
variable {P : Program} {w : World} {K : PySem.W.Frag} {mg : Str → Option Value} {base : Heap}
theorem sc_bare : FnScope ["tree", "part"] ["tree"] (defScope s_bare) := ⟨rfl, rfl, rfl, by decide +kernel, rfl, by decide +kernel, by decide +kernel⟩
theorem step_bare {f : Addr} {fd : FuncData} {n : Nat} (F : Fun K "bare" "bare" s_bare f fd) (c_bare : Cl P w K mg base (n + 1) "bare" (spBare K n)) (b_tuple : mg "tuple" = none) {aE : Addr} (hE : ∀ H, SqT K H aE [.str "empty"]) (g_EMPTY : GV mg "EMPTY" (.ref aE)) : FnOk P w K mg base CX0 (n + 2) f fd ["tree"] (spBare K (n + 1)) := by
  have nd := sc_bare.nd
  refine F.ok sc_bare (fun vs H Q E h => ?_) (fun cdv A outer s H vs Q E hr h => ?_)
  · obtain ⟨v, p, rfl, _⟩ := h
    rfl
  obtain ⟨v, p, rfl, hv, ⟨ho, hn⟩, q⟩ := h
  dsimp only at q
  refine ⟨_, (pss_cons (ps_if (pt_cmpR (op_eqD hr.units) (pv 0) (pe_gv g_EMPTY) (nomark _)) (pss_one (ps_ret (pe_gv g_EMPTY))) pss_nil)
  (pss_cons (ps_if (pt_cmpR op_eq (pe_ix (ix_tupK (K := K) rfl) (pv 0) pe_int (fun _ _ => rfl)) pe_str (nomark _)) (pss_one (ps_ret (pe_tup (pa_cons pe_str (pa_cons (pe_ix (ix_tupK (K := K) rfl) (pe_ix (ix_tupK (K := K) rfl) (pv 0) pe_int (fun _ _ => rfl)) pe_int (fun _ _ => rfl)) pa_nil))))) pss_nil)
  (pss_one (ps_ret (pe_tup (pa_cons (pe_ix (ix_tupK (K := K) rfl) (pv 0) pe_int (fun _ _ => rfl)) (pa_cons (pe_callTy call_tuple_of (by rfl) b_tuple (by decide +kernel) (pa_cons (pe_lc (own := [("part", 1)]) rfl nd (pi_tup (pe_ix (ix_tupK (K := K) rfl) (pv 0) pe_int (fun _ _ => rfl))) (blkOk_by (N := ["tree", "part"]) (sc := defScope s_bare) (by decide +kernel)) (fun _ _ _ _ _ => (pg_name (i := 1) nd rfl (.inl rfl))) (fun _ _ _ _ _ => pts_nil) (fun _ _ _ _ _ => (pcl c_bare hr (by omega) (pa_cons (pv 1) pa_nil)))) pa_nil)) pa_nil))))))), ?_⟩
  walk_at "sx"
  refine eq_emp hv hE (Pt.shp_tree ho) ⟨_, rfl, ?_⟩
  cases p with
  | emp =>
    refine iteT (q _ _ (.refl H) ?_)
    rw [Pt.bare, Pt.enc]
    exact .tup (hE H) (.cons (.str _) .nil)
  | deed x =>
    obtain ⟨t, u, rfl, hs, hu⟩ := dp_deed hv
    obtain ⟨t2, u2, rfl, hs2, hu2⟩ := dp2 hu
    refine iteF (ixt hs rfl ⟨rfl, iteT (ixt hs rfl (ixt hs2 rfl ⟨by decide, fun p np => q _ _ (same_upd np) ?_⟩))⟩)
    rw [Pt.bare, Pt.enc]
    exact .tup (SqT.of upd_same) (.cons (.str _) (.cons (.str _) .nil))
  | nd r ps =>
    obtain ⟨t, t2, us, rfl, hs, hs2, hu⟩ := dp_nd hv
    refine iteF (ixt hs rfl ⟨rfl, ?_⟩)
    rw [deed_ne]
    refine iteF (ixt hs rfl (lc_kids rfl hs hs2 hu ho.len.2 (fun t => Pt.enc .str (Pt.bare t)) (fun t => Pt.enc_to (fun x => .str x) _) ?_ ?_))
    · intro p hp x H' R sm hx hR
      walk_at "sx"
      have := Pt.dep_mem (r := r) hp
      exact ⟨x, p, rfl, hx, ⟨ho.part hp, by omega⟩, fun v' H'' s2 dk => hR v' H'' s2 dk⟩
    · intro D H1 vs nD s1 eD dv
      refine ⟨D, rfl, vs, .inl ⟨SqL.of eD, fun l nl => ⟨by decide, fun p3 np3 => ?_⟩⟩⟩
      have f1 : Same H1 (upd H1 l (.tup vs)) := same_upd nl
      have eL : upd H1 l (.tup vs) l = some (.tup vs) := upd_same
      generalize upd H1 l (.tup vs) = H2 at f1 eL np3 ⊢
      have f3 := same_upd (o := .tup [.str (if r then "row" else "beside"), .ref l]) np3
      refine q _ _ ((s1.trans f1).trans f3) ?_
      rw [Pt.bare_nd, Pt.enc_nd, List.map_map]
      exact .tup (SqT.of upd_same) (.cons (.str _) (.cons (.tup (SqT.of (f3 _ _ eL)) (DpAll.same (f1.trans f3) dv)) .nil))
theorem ok_bare {f : Addr} {fd : FuncData} (F : Fun K "bare" "bare" s_bare f fd) (hm : mg "bare" = some (.ref f)) (hb : Binds K fd ["tree"] []) (b_tuple : mg "tuple" = none) {aE : Addr} (hE : ∀ H, SqT K H aE [.str "empty"]) (g_EMPTY : GV mg "EMPTY" (.ref aE)) : ∀ n : Nat, FnOk P w K mg base CX0 (n + 1) f fd ["tree"] (spBare K n)
  | 0 => fn_false fun vs H Q E h => by
    obtain ⟨v, p, _, _, ⟨_, h⟩, _⟩ := h; omega
  | n + 1 => step_bare F ⟨f, fd, _, ok_bare F hm hb b_tuple hE g_EMPTY n, hm, F.kp, hb⟩ b_tuple hE g_EMPTY
theorem sc_names_in : FnScope ["party", "part", "name"] ["party"] (defScope s_names_in) := ⟨rfl, rfl, rfl, by decide +kernel, rfl, by decide +kernel, by decide +kernel⟩
theorem step_names_in {f : Addr} {fd : FuncData} {n : Nat} (F : Fun K "names_in" "names_in" s_names_in f fd) (c_names_in : Cl P w K mg base (n + 1) "names_in" (spNames K n)) {aE : Addr} (hE : ∀ H, SqT K H aE [.str "empty"]) (g_EMPTY : GV mg "EMPTY" (.ref aE)) : FnOk P w K mg base CX0 (n + 2) f fd ["party"] (spNames K (n + 1)) := by
  have nd := sc_names_in.nd
  refine F.ok sc_names_in (fun vs H Q E h => ?_) (fun cdv A outer s H vs Q E hr h => ?_)
  · obtain ⟨v, p, rfl, _⟩ := h
    rfl
  obtain ⟨v, p, rfl, hv, ⟨ho, hn⟩, q⟩ := h
  dsimp only at q
  refine ⟨_, (pss_cons (ps_if (pt_cmpR (op_eqD hr.units) (pv 0) (pe_gv g_EMPTY) (nomark _)) (pss_one (ps_ret (pe_lst pa_nil))) pss_nil)
  (pss_cons (ps_if (pt_cmpR op_eq (pe_ix (ix_tupK (K := K) rfl) (pv 0) pe_int (fun _ _ => rfl)) pe_str (nomark _)) (pss_one (ps_ret (pe_lst (pa_cons (pe_ix (ix_tupK (K := K) rfl) (pv 0) pe_int (fun _ _ => rfl)) pa_nil)))) pss_nil)
  (pss_one (ps_ret (pe_lc2 (own := [("part", 1), ("name", 2)]) (vs1 := [2]) rfl nd (pi_tup (pe_ix (ix_tupK (K := K) rfl) (pv 0) pe_int (fun _ _ => rfl))) (blkOk_by (N := ["party", "part", "name"]) (sc := defScope s_names_in) (by decide +kernel)) (by decide) (fun _ _ _ _ _ => (pg_name (i := 1) nd rfl (.inl rfl))) (fun _ _ _ _ _ => pts_nil) (fun _ _ _ _ _ => (pi_listK (K := K) rfl (pcl c_names_in hr (by omega) (pa_cons (pv 1) pa_nil)))) (fun _ _ _ _ _ => (pg_name (i := 2) nd rfl (.inl rfl))) (fun _ _ _ _ _ => pts_nil) (fun _ _ _ _ _ => (pv 2))))))), ?_⟩
  walk_at "sx"
  refine eq_emp hv hE (Pt.shp_enc ho.1) ⟨_, rfl, ?_⟩
  cases p with
  | emp => exact iteT ⟨by decide, fun l nl => q l [] _ nl (same_upd nl) upd_same (by rw [Pt.names]; exact .nil)⟩
  | deed x =>
    obtain ⟨t, u, rfl, hs, hu⟩ := dp_deed hv
    cases hu
    exact iteF (ixt hs rfl ⟨rfl, iteT (ixt hs rfl ⟨by decide, fun l nl => q l [.str x] _ nl (same_upd nl) upd_same (by rw [Pt.names]; exact .cons (.str _) .nil)⟩)⟩)
  | nd r ps =>
    obtain ⟨t, t2, us, rfl, hs, hs2, hu⟩ := dp_nd hv
    refine iteF (ixt hs rfl ⟨rfl, ?_⟩)
    rw [deed_ne]
    have e : (ps.map fun p => (Pt.names p).map PyData.str).flatten = (Pt.names (.nd r ps)).map PyData.str := by rw [flat_map, Pt.names_nd]
    refine iteF (lc2_kids rfl hs hs2 hu (fun p => (Pt.names p).map PyData.str) (fun p d hd => by
      obtain ⟨x, _, rfl⟩ := List.mem_map.mp hd
      exact .str x) (by rw [e, List.length_map, Pt.names_len]; exact size60 ho.2) (by decide) (by simp) ?_ ?_)
    · intro p hp x H' R sm hx hR
      walk_at "sx"
      have := Pt.dep_mem (r := r) hp
      exact ⟨x, p, rfl, hx, ⟨ho.part hp, by omega⟩, fun b us H'' nb s2 eb dk => hR b us H'' nb s2 eb dk⟩
    · intro D H1 vs nD s1 eD dv
      rw [e] at dv
      exact q D vs H1 nD s1 eD dv
theorem ok_names_in {f : Addr} {fd : FuncData} (F : Fun K "names_in" "names_in" s_names_in f fd) (hm : mg "names_in" = some (.ref f)) (hb : Binds K fd ["party"] []) {aE : Addr} (hE : ∀ H, SqT K H aE [.str "empty"]) (g_EMPTY : GV mg "EMPTY" (.ref aE)) : ∀ n : Nat, FnOk P w K mg base CX0 (n + 1) f fd ["party"] (spNames K n)
  | 0 => fn_false fun vs H Q E h => by
    obtain ⟨v, p, _, _, ⟨_, h⟩, _⟩ := h; omega
  | n + 1 => step_names_in F ⟨f, fd, _, ok_names_in F hm hb hE g_EMPTY n, hm, F.kp, hb⟩ hE g_EMPTY
end

end Z

set_option Elab.async false
set_option linter.all false
set_option maxRecDepth 100000
set_option maxHeartbeats 4000000

namespace Z
open PySem PySem.Spec PyProof.Rows L2 Z.R
local macro_rules | `(tactic| walk_at "sx") => `(tactic| try simp only [and_assoc, cxOf_K, cxOf_Kn, C8.tCut, rEq, rNe, sc_ii, sc_ss, sc_bb, sc_is, sc_si, sc_bs, sc_sb, tSeq, tAsg, tPar, tPar3, tC, gName, gNil, gCons, gTup, gSub, rSetL, L2.start, tVar, tOp, tUn, rI0, rI, rU, tTest, tChain, tOrV, tAndV, tNotV, tCB, tCons, tNil, tLst, tTup, tIfS, tNext, tRet, tRetN, tDrop, tAnd, tOr, tNot, tB, tIf, tSl, tFld, sFld, putF, tNoPart, tPart, rSlL, tBM, tBM0, rAppend, rPop, rExtend, tCall, tMeth, tLstRg, tRg1, tRg2, List.map_cons, List.map_nil, List.replicate, List.length_cons, List.length_nil, List.append, List.cons_append, List.nil_append, List.append_nil, List.getElem?_cons_zero, List.getElem?_cons_succ, List.set_cons_zero, List.set_cons_succ, Option.some.injEq, exists_eq_left', exists_eq_left, exists_eq, exists_and_left, exists_const, wipe, tYes, upd_same, ↓reduceIte, decide_false, decide_true, Bool.not_true, Bool.not_false, Bool.false_eq_true, V.int.injEq, HO.lst.injEq, HO.tup.injEq, V.ref.injEq, V.str.injEq, one_inj, le_a, le_z, le_0, le_9, mem_let, mem_dig, V.bl.injEq, List.cons.injEq, and_true, true_and, reduceCtorEq, false_and, exists_false, or_false, false_or])
section
variable {P : Program} {w : World} {K : PySem.W.Frag} {mg : Str → Option Value} {base : Heap}
theorem sc_placed : FnScope ["party", "start", "parts", "part", "told"] ["party", "start"] (defScope s_placed) := ⟨rfl, rfl, rfl, by decide +kernel, rfl, by decide +kernel, by decide +kernel⟩
theorem step_placed {f : Addr} {fd : FuncData} {n : Nat} (F : Fun K "placed" "placed" s_placed f fd) (c_placed : Cl P w K mg base (n + 1) "placed" (spPlaced K n)) (b_tuple : mg "tuple" = none) {aE : Addr} (hE : ∀ H, SqT K H aE [.str "empty"]) (g_EMPTY : GV mg "EMPTY" (.ref aE)) : FnOk P w K mg base CX0 (n + 2) f fd ["party", "start"] (spPlaced K (n + 1)) := by
  have nd := sc_placed.nd
  refine F.ok sc_placed (fun vs H Q E h => ?_) (fun cdv A outer s H vs Q E hr h => ?_)
  · obtain ⟨v, p, s, rfl, _⟩ := h
    rfl
  obtain ⟨v, p, s0, rfl, hv, ho, hn, q⟩ := h
  refine ⟨_, (pss_cons (ps_if (pt_cmpR (op_eqD hr.units) (pv 0) (pe_gv g_EMPTY) (nomark _)) (pss_one (ps_ret (pe_tup (pa_cons (pe_gv g_EMPTY) (pa_cons (pv 1) pa_nil))))) pss_nil)
  (pss_cons (ps_if (pt_cmpR op_eq (pe_ix (ix_tupK (K := K) rfl) (pv 0) pe_int (fun _ _ => rfl)) pe_str (nomark _)) (pss_one (ps_ret (pe_tup (pa_cons (pe_tup (pa_cons pe_str (pa_cons (pe_tup (pa_cons (pe_ix (ix_tupK (K := K) rfl) (pv 0) pe_int (fun _ _ => rfl)) (pa_cons (pv 1) pa_nil))) pa_nil))) (pa_cons (pe_op op_add (pv 1) pe_int) pa_nil))))) pss_nil)
  (pss_cons (ps_set (i := 2) nd rfl (.inl rfl) (pe_lst pa_nil))
  (pss_cons (ps_for PassesOwn.never rfl (pi_tup (pe_ix (ix_tupK (K := K) rfl) (pv 0) pe_int (fun _ _ => rfl))) (pg_name (i := 3) nd rfl (.inl rfl))
    (pss_cons (ps_asg (pcl c_placed hr (by omega) (pa_cons (pv 3) (pa_cons (pv 1) pa_nil))) (pg_tupK (K := K) rfl (n := 2) (by rfl) (pgs_cons (pg_name (i := 4) nd rfl (.inl rfl)) (pgs_cons (pg_name (i := 1) nd rfl (.inl rfl)) pgs_nil))))
  (pss_one (ps_expr (pe_bm PySem.F.plainAttrs_list PySem.F.slot_list_append PySem.F.type_list_append mt_append (pv 2) (pa_cons (pv 4) pa_nil))))))
  (pss_one (ps_ret (pe_tup (pa_cons (pe_tup (pa_cons (pe_ix (ix_tupK (K := K) rfl) (pv 0) pe_int (fun _ _ => rfl)) (pa_cons (pe_callTy call_tuple_of (by rfl) b_tuple (by decide +kernel) (pa_cons (pv 2) pa_nil)) pa_nil))) (pa_cons (pv 1) pa_nil))))))))), ?_⟩
  walk_at "sx"
  refine eq_emp hv hE (Pt.shp_enc ho.1) ⟨_, rfl, ?_⟩
  cases p with
  | emp =>
    refine iteT ⟨by decide, fun t nt => q t (.ref aE) _ (same_upd nt) (sqt_new (by rw [Pt.cnt]; rfl)) ?_⟩
    rw [Pt.plc, Pt.enc]
    exact .tup (hE _) (.cons (.str _) .nil)
  | deed x =>
    obtain ⟨t, u, rfl, hs, hu⟩ := dp_deed hv
    cases hu
    refine iteF (ixt hs rfl ⟨rfl, iteT (ixt hs rfl ⟨by decide, fun p1 n1 => ⟨by decide, fun p2 n2 => ⟨by decide, fun p3 n3 => ?_⟩⟩⟩)⟩)
    have f1 : Same H (upd H p1 (.tup [.str x, .int s0])) := same_upd n1
    have f2 := same_upd (o := .tup [.str "deed", .ref p1]) n2
    have f3 := same_upd (o := .tup [.ref p2, .int ((s0 : Int) + 1)]) n3
    refine q _ (.ref p2) _ ((f1.trans f2).trans f3) (sqt_new (by rw [Pt.cnt]; rfl)) ?_
    rw [Pt.plc, Pt.enc]
    exact .tup (tup_same f3 (SqT.of upd_same)) (.cons (.str _) (.cons (.tup (tup_same (f2.trans f3) (SqT.of upd_same)) (.cons (.str _) (.cons (.int _) .nil))) .nil))
  | nd r ps =>
    obtain ⟨t, t2, us, rfl, hs, hs2, hu⟩ := dp_nd hv
    refine iteF (ixt hs rfl ⟨rfl, ?_⟩)
    rw [deed_ne]
    refine iteF ⟨by decide, fun D nD => ?_⟩
    have f0 : Same H (upd H D (.lst [])) := same_upd nD
    refine ⟨_, rfl, t, _, 1, _, rfl, rfl, tup_same f0 hs, rfl, t2, rfl, ⟨us, tup_same f0 hs2⟩, for_tup (K := K) (a := t2) (xs := us) (fun i σ H' => ∃ (x y : Option V) (vs : List V), σ = [some (.ref t), some (.int (s0 + ((ps.take i).map Pt.cnt).sum : Nat)), some (.ref D), x, y] ∧ Same H H' ∧ H' D = some (.lst vs) ∧
      DpAll K H' vs (((Pt.kids ps s0).take i).map fun k => Pt.enc Pt.pr (Pt.plc k.1 k.2))) ⟨none, none, [], by simp, f0, upd_same, .nil⟩ (fun i σ H' _ ⟨_, _, _, _, sm, _⟩ => tup_same sm hs2) ?_ ?_⟩
    · rintro i x σ H' hx ⟨y1, y2, vs, rfl, sm, eD, dv⟩
      obtain ⟨p, hp, hm, hxp⟩ := kid_at hu hx
      walk_at "sx"
      have hd := Pt.dep_mem (r := r) hm
      refine ⟨x, p, s0 + ((ps.take i).map Pt.cnt).sum, rfl, L2.Dp.same sm hxp, ho.part hm, by omega, fun t' u H'' s2 st du => ?_⟩
      have ek : (Pt.kids ps s0)[i]? = some (p, s0 + ((ps.take i).map Pt.cnt).sum) := by
        rw [Pt.kids_at, hp]
        rfl
      have e1 : (Pt.kids ps s0).take (i + 1) = (Pt.kids ps s0).take i ++ [(p, s0 + ((ps.take i).map Pt.cnt).sum)] := by
        rw [List.take_add_one, ek]
        rfl
      refine ⟨t', rfl, _, st, rfl, _, _, rfl, _, _, rfl, rfl, tyl (s2 _ _ eD), vs, s2 _ _ eD, ?_, ?_, same_D (sm.trans s2) nD, ?_⟩
      · have h1 := DpAll.length dv
        have h2 := Pt.kids_length ps s0
        have h3 := ho.1.fl.len.2
        rw [List.length_map, List.length_take] at h1
        exact small1000 (by omega)
      · rw [Pt.take_sum hp, Nat.add_assoc]
      · rw [e1, List.map_append]
        refine snocD s2 eD (fun e he => ?_) dv du
        rw [← List.map_singleton (f := fun k : Pt Str × Nat => Pt.enc Pt.pr (k.1.plc k.2)), ← List.map_append] at he
        obtain ⟨k, _, rfl⟩ := List.mem_map.mp he
        exact Pt.enc_to Pt.pr_to _
    · rintro σ H' ⟨y1, y2, vs, rfl, sm, eD, dv⟩
      walk_at "sx"
      have hul := kids_len hu
      rw [List.take_of_length_le (by rw [Pt.kids_length, hul]; exact Nat.le_refl _)] at dv
      refine ixt (tup_same sm hs) rfl ⟨vs, .inl ⟨SqL.of eD, fun l nl => ⟨by decide, fun p3 np3 => ⟨by decide, fun p4 np4 => ?_⟩⟩⟩⟩
      have f1 : Same H' (upd H' l (.tup vs)) := same_upd nl
      have f3 := same_upd (o := .tup [.str (if r then "row" else "beside"), .ref l]) np3
      have f4 := same_upd (o := .tup [.ref p3, .int (s0 + ((ps.take us.length).map Pt.cnt).sum : Nat)]) np4
      refine q p4 (.ref p3) _ ((sm.trans f1).trans (f3.trans f4)) (sqt_new ?_) ?_
      · rw [List.take_of_length_le (by rw [hul]; exact Nat.le_refl _), Pt.cnt_nd]
      · rw [Pt.plc_nd, Pt.enc_nd, List.map_map]
        exact .tup (tup_same f4 (SqT.of upd_same)) (.cons (.str _) (.cons (.tup (tup_same (f3.trans f4) (SqT.of upd_same)) (DpAll.same (f1.trans (f3.trans f4)) dv)) .nil))
theorem ok_placed {f : Addr} {fd : FuncData} (F : Fun K "placed" "placed" s_placed f fd) (hm : mg "placed" = some (.ref f)) (hb : Binds K fd ["party", "start"] []) (b_tuple : mg "tuple" = none) {aE : Addr} (hE : ∀ H, SqT K H aE [.str "empty"]) (g_EMPTY : GV mg "EMPTY" (.ref aE)) : ∀ n : Nat, FnOk P w K mg base CX0 (n + 1) f fd ["party", "start"] (spPlaced K n)
  | 0 => fn_false fun vs H Q E h => by
    obtain ⟨v, p, s, _, _, _, h, _⟩ := h; omega
  | n + 1 => step_placed F ⟨f, fd, _, ok_placed F hm hb b_tuple hE g_EMPTY n, hm, F.kp, hb⟩ b_tuple hE g_EMPTY
end

end Z

set_option Elab.async false
set_option linter.all false
set_option maxRecDepth 100000
set_option maxHeartbeats 4000000

namespace Z
open PySem PySem.Spec PyProof.Rows L2 Z.R
local macro_rules | `(tactic| walk_at "sx") => `(tactic| try simp only [and_assoc, cxOf_K, cxOf_Kn, C8.tCut, rEq, rNe, sc_ii, sc_ss, sc_bb, sc_is, sc_si, sc_bs, sc_sb, tSeq, tAsg, tPar, tPar3, tC, gName, gNil, gCons, gTup, gSub, rSetL, L2.start, tVar, tOp, tUn, rI0, rI, rU, tTest, tChain, tOrV, tAndV, tNotV, tCB, tCons, tNil, tLst, tTup, tIfS, tNext, tRet, tRetN, tDrop, tAnd, tOr, tNot, tB, tIf, tSl, tFld, sFld, putF, tNoPart, tPart, rSlL, tBM, tBM0, rAppend, rPop, rExtend, tCall, tMeth, tLstRg, tRg1, tRg2, List.map_cons, List.map_nil, List.replicate, List.length_cons, List.length_nil, List.append, List.cons_append, List.nil_append, List.append_nil, List.getElem?_cons_zero, List.getElem?_cons_succ, List.set_cons_zero, List.set_cons_succ, Option.some.injEq, exists_eq_left', exists_eq_left, exists_eq, exists_and_left, exists_const, wipe, tYes, upd_same, ↓reduceIte, decide_false, decide_true, Bool.not_true, Bool.not_false, Bool.false_eq_true, V.int.injEq, HO.lst.injEq, HO.tup.injEq, V.ref.injEq, V.str.injEq, one_inj, le_a, le_z, le_0, le_9, mem_let, mem_dig, V.bl.injEq, List.cons.injEq, and_true, true_and, reduceCtorEq, false_and, exists_false, or_false, false_or])
def spTold (K : PySem.W.Frag) (n : Nat) : Sp := fun vs H Q _ => ∃ (v : V) (p : Pt Str) (s : Nat), vs = [v, .int (s : Nat)] ∧ Dp K H v (Pt.enc .str p) ∧ Pt.Okc p ∧ Pt.dep p < n ∧ s + Pt.cnt p ≤ 1000 ∧
  ∀ (t b : Addr) (us : List V) H', Same H H' → H b = none → SqT K H' t [.ref b, .int (s + Pt.cnt p : Nat)] → H' b = some (.lst us) → Prs H' us (Pt.told p s) → Q (.ref t) H'
theorem take_sum_le {α : Type} (ps : List (Pt α)) (i : Nat) : ((ps.take i).map Pt.cnt).sum ≤ (ps.map Pt.cnt).sum := by
  have : (ps.map Pt.cnt).sum = ((ps.take i).map Pt.cnt).sum + ((ps.drop i).map Pt.cnt).sum := by
    rw [← List.sum_append, ← List.map_append, List.take_append_drop]
  omega
section
variable {P : Program} {w : World} {K : PySem.W.Frag} {mg : Str → Option Value} {base : Heap}
theorem sc_places_told : FnScope ["party", "start", "pairs", "place", "ahead", "part", "inner", "after", "one", "two"] ["party", "start"] (defScope s_places_told) := ⟨rfl, rfl, rfl, by decide +kernel, rfl, by decide +kernel, by decide +kernel⟩
theorem step_places_told {f : Addr} {fd : FuncData} {n : Nat} (F : Fun K "places_told" "places_told" s_places_told f fd) (c_places_told : Cl P w K mg base (n + 1) "places_told" (spTold K n)) (b_list : mg "list" = none) (b_range : mg "range" = none) {aE : Addr} (hE : ∀ H, SqT K H aE [.str "empty"]) (g_EMPTY : GV mg "EMPTY" (.ref aE)) : FnOk P w K mg base CX0 (n + 2) f fd ["party", "start"] (spTold K (n + 1)) := by
  have nd := sc_places_told.nd
  refine F.ok sc_places_told (fun vs H Q E h => ?_) (fun cdv A outer s H vs Q E hr h => ?_)
  · obtain ⟨v, p, s, rfl, _⟩ := h
    rfl
  obtain ⟨v, p, s0, rfl, hv, ho, hn, hs0, q⟩ := h
  refine ⟨_, (pss_cons (ps_if (pt_cmpR (op_eqD hr.units) (pv 0) (pe_gv g_EMPTY) (nomark _)) (pss_one (ps_ret (pe_tup (pa_cons (pe_lst pa_nil) (pa_cons (pv 1) pa_nil))))) pss_nil)
  (pss_cons (ps_if (pt_cmpR op_eq (pe_ix (ix_tupK (K := K) rfl) (pv 0) pe_int (fun _ _ => rfl)) pe_str (nomark _)) (pss_one (ps_ret (pe_tup (pa_cons (pe_lst pa_nil) (pa_cons (pe_op op_add (pv 1) pe_int) pa_nil))))) pss_nil)
  (pss_cons (ps_asg (pe_tup (pa_cons (pe_lst pa_nil) (pa_cons (pv 1) (pa_cons (pe_lst pa_nil) pa_nil)))) (pg_tupK (K := K) rfl (n := 3) (by rfl) (pgs_cons (pg_name (i := 2) nd rfl (.inl rfl)) (pgs_cons (pg_name (i := 3) nd rfl (.inr rfl)) (pgs_cons (pg_name (i := 4) nd rfl (.inl rfl)) pgs_nil)))))
  (pss_cons (ps_for PassesOwn.never rfl (pi_tup (pe_ix (ix_tupK (K := K) rfl) (pv 0) pe_int (fun _ _ => rfl))) (pg_name (i := 5) nd rfl (.inl rfl))
    (pss_cons (ps_asg (pcl c_places_told hr (by omega) (pa_cons (pv 5) (pa_cons (pv 3) pa_nil))) (pg_tupK (K := K) rfl (n := 2) (by rfl) (pgs_cons (pg_name (i := 6) nd rfl (.inl rfl)) (pgs_cons (pg_name (i := 7) nd rfl (.inr rfl)) pgs_nil))))
  (pss_cons (ps_expr (pe_bm PySem.F.plainAttrs_list PySem.F.slot_list_extend PySem.F.type_list_extend mt_extend (pv 2) (pa_cons (pv 6) pa_nil)))
  (pss_cons (ps_if (pt_cmpR op_eq (pe_ix (ix_tupK (K := K) rfl) (pv 0) pe_int (fun _ _ => rfl)) pe_str (nomark _)) (pss_one (ps_expr (pe_bm PySem.F.plainAttrs_list PySem.F.slot_list_extend PySem.F.type_list_extend mt_extend (pv 2) (pa_cons (pe_lc2 (own := [("one", 8), ("two", 9)]) (vs1 := [9]) rfl nd (pi_listK (K := K) rfl (pv 4)) (blkOk_by (N := ["party", "start", "pairs", "place", "ahead", "part", "inner", "after", "one", "two"]) (sc := defScope s_places_told) (by decide +kernel)) (by decide) (fun _ _ _ _ _ => (pg_name (i := 8) nd rfl (.inl rfl))) (fun _ _ _ _ _ => pts_nil) (fun _ _ _ _ _ => (pi_range2 (by rfl) b_range (pa_cons (pv 3) (pa_cons (pv 7) pa_nil)))) (fun _ _ _ _ _ => (pg_name (i := 9) nd rfl (.inl rfl))) (fun _ _ _ _ _ => pts_nil) (fun _ _ _ _ _ => (pe_tup (pa_cons (pv 8) (pa_cons (pv 9) pa_nil))))) pa_nil)))) pss_nil)
  (pss_cons (ps_expr (pe_bm PySem.F.plainAttrs_list PySem.F.slot_list_extend PySem.F.type_list_extend mt_extend (pv 4) (pa_cons (pe_listRg rfl (by rfl) b_list (prg_2 (by rfl) b_range (pv 3) (pv 7))) pa_nil)))
  (pss_one (ps_set (i := 3) nd rfl (.inr rfl) (pv 7))))))))
  (pss_one (ps_ret (pe_tup (pa_cons (pv 2) (pa_cons (pv 3) pa_nil))))))))), ?_⟩
  walk_at "sx"
  refine eq_emp hv hE (Pt.shp_enc ho.1) ⟨_, rfl, ?_⟩
  cases p with
  | emp =>
    refine iteT ⟨by decide, fun b nb => ⟨by decide, fun t nt => ?_⟩⟩
    have f1 := same_upd (o := .lst []) nb
    have f2 := same_upd (o := .tup [.ref b, .int s0]) nt
    exact q t b [] _ (f1.trans f2) nb (sqt_new (by rw [Pt.cnt]; rfl)) (f2 _ _ upd_same) (by rw [Pt.told]; exact Prs.nil)
  | deed x =>
    obtain ⟨t, u, rfl, hs, hu⟩ := dp_deed hv
    refine iteF (ixt hs rfl ⟨rfl, iteT ⟨by decide, fun b nb => ⟨by decide, fun t nt => ?_⟩⟩⟩)
    have f1 := same_upd (o := .lst []) nb
    have f2 := same_upd (o := .tup [.ref b, .int ((s0 : Int) + 1)]) nt
    exact q t b [] _ (f1.trans f2) nb (sqt_new (by rw [Pt.cnt]; rfl)) (f2 _ _ upd_same) (by rw [Pt.told]; exact Prs.nil)
  | nd r ps =>
    obtain ⟨t, t2, us, rfl, hs, hs2, hu⟩ := dp_nd hv
    refine iteF (ixt hs rfl ⟨rfl, ?_⟩)
    rw [deed_ne]
    refine iteF ⟨by decide, fun D nD => ⟨by decide, fun A nA => ⟨by decide, fun T nT => ⟨_, SqT.of upd_same, rfl, _, _, rfl, _, _, rfl, _, _, rfl, rfl, ?_⟩⟩⟩⟩
    have f0 : Same H (upd H D (.lst [])) := same_upd nD
    have f1 := same_upd (o := .lst []) nA
    have f2 := same_upd (o := .tup [.ref D, .int s0, .ref A]) nT
    have eD0 := f2 _ _ (f1 _ _ upd_same)
    have eA0 := f2 _ _ (upd_same (H := upd H D (.lst [])) (a := A) (o := .lst []))
    have fr : Same H _ := (f0.trans f1).trans f2
    have hDA : D ≠ A := fun e => by
      subst e
      rw [upd_same] at nA
      cases nA
    have nA' : H A = none := by
      rw [upd_ne hDA.symm] at nA
      exact nA
    generalize upd (upd (upd H D (.lst [])) A (.lst [])) T (.tup [.ref D, .int s0, .ref A]) = H1 at eD0 eA0 fr
    have htot : (Pt.told (.nd r ps) s0).length ≤ 3600 := Nat.le_trans (Pt.told_len _ _) (Nat.mul_le_mul ho.2 ho.2)
    refine ⟨_, rfl, t, _, 1, _, rfl, rfl, tup_same fr hs, rfl, t2, rfl, ⟨us, tup_same fr hs2⟩, for_tup (K := K) (a := t2) (xs := us) (fun i σ H' => ∃ (x y z : Option V) (vs : List V) (L : List (Nat × Nat)), σ = [some (.ref t), some (.int s0), some (.ref D), some (.int (s0 + ((ps.take i).map Pt.cnt).sum : Nat)), some (.ref A), x, y, z, none, none] ∧ Same H H' ∧
      H' D = some (.lst vs) ∧ Prs H' vs L ∧ Pt.told (.nd r ps) s0 = L ++ Pt.told.go r (ps.drop i) s0 (s0 + ((ps.take i).map Pt.cnt).sum) ∧ H' A = some (.lst ((List.range' s0 ((ps.take i).map Pt.cnt).sum).map fun j => .int (j : Nat)))) ⟨none, none, none, [], [], by simp, fr, eD0, Prs.nil, by rw [Pt.told_nd]; simp, by simpa using eA0⟩ (fun i σ H' _ ⟨_, _, _, _, _, _, sm, _⟩ => tup_same sm hs2) ?_ ?_⟩
    · rintro i x σ H' hx ⟨y1, y2, y3, vs, L, rfl, sm, eD, dv, eL, eA⟩
      obtain ⟨p, hp, hm, hxp⟩ := kid_at hu hx
      walk_at "sx"
      have hd := Pt.dep_mem (r := r) hm
      refine ⟨x, p, s0 + ((ps.take i).map Pt.cnt).sum, rfl, L2.Dp.same sm hxp, ho.part hm, by omega, ?_, fun t' b us2 H'' s2 nb st eb du => ?_⟩
      · have es := Pt.take_sum hp
        have hsum : ((ps.take (i + 1)).map Pt.cnt).sum ≤ Pt.cnt (.nd r ps) := by
          rw [Pt.cnt_nd]
          exact take_sum_le ps (i + 1)
        omega
      have edr : ps.drop i = p :: ps.drop (i + 1) := by
        obtain ⟨h1, h2⟩ := List.getElem?_eq_some_iff.mp hp
        rw [← h2, List.drop_eq_getElem_cons h1]
      rw [edr, Pt.told.go] at eL
      have es := Pt.take_sum hp
      have hsum : ((ps.take (i + 1)).map Pt.cnt).sum ≤ Pt.cnt (.nd r ps) := by
        rw [Pt.cnt_nd]
        exact take_sum_le ps (i + 1)
      have hbD : b ≠ D := fun e => by rw [e, eD] at nb; cases nb
      have hbA : b ≠ A := fun e => by rw [e, eA] at nb; cases nb
      have hL : L.length + (Pt.told p (s0 + ((ps.take i).map Pt.cnt).sum)).length ≤ 3600 := by
        have := congrArg List.length eL
        rw [List.length_append, List.length_append] at this
        omega
      have hl1 := dv.len
      have hl2 := du.len
      refine ⟨t', rfl, _, st, rfl, _, _, rfl, _, _, rfl, rfl, tyl (s2 _ _ eD), b, rfl, vs, s2 _ _ eD, us2, eb, Nat.le_trans (show _ ≤ 3600 by omega) (by decide), ?_⟩
      have sm1 : Same H (upd H'' D (.lst (vs ++ us2))) := same_D (sm.trans s2) nD
      have dv1 := Prs.cat (s2 _ _ eD) (dv.same s2) du
      have eA1 : upd H'' D (.lst (vs ++ us2)) A = some (.lst ((List.range' s0 ((ps.take i).map Pt.cnt).sum).map fun j => .int (j : Nat))) := by
        rw [upd_ne hDA.symm]
        exact s2 _ _ eA
      have eD1 : upd H'' D (.lst (vs ++ us2)) D = some (.lst (vs ++ us2)) := upd_same
      generalize upd H'' D (.lst (vs ++ us2)) = G at sm1 dv1 eA1 eD1 ⊢
      refine ixt (tup_same sm1 hs) rfl ⟨rfl, ?_⟩
      cases r with
      | true =>
        refine iteT ⟨tyl eD1, lc2_cross (K := K) eA1 (by omega) (by omega) ?_ fun E' G3 ws nE s3 eE dw => ?_⟩
        · rw [List.length_range']
          exact Nat.le_trans (Nat.mul_le_mul (show _ ≤ 1000 by omega) (show _ ≤ 1000 by omega)) (by decide)
        have hl3 := dw.len
        have hE1 := dv1.len
        refine ⟨E', rfl, _, s3 _ _ eD1, ws, eE, ?_, ?_⟩
        · have := congrArg List.length eL
          simp only [List.length_append, if_true, crossN, List.length_map] at this hl3 hl2 hE1 ⊢
          have e9 : s0 + ((ps.take i).map Pt.cnt).sum - s0 = ((ps.take i).map Pt.cnt).sum := by omega
          have e8 : s0 + ((ps.take i).map Pt.cnt).sum + Pt.cnt p - (s0 + ((ps.take i).map Pt.cnt).sum) = Pt.cnt p := by omega
          rw [e9] at this
          rw [e8] at hl3
          exact Nat.le_trans (show _ ≤ 3600 by omega) (by decide)
        have hED : E' ≠ D := fun e => by rw [e, eD1] at nE; cases nE
        have sm2 := same_D (o := .lst (vs ++ us2 ++ ws)) (sm1.trans s3) nD
        have dv2 := Prs.cat (s3 _ _ eD1) (dv1.same s3) dw
        have eA2 : upd G3 D (.lst (vs ++ us2 ++ ws)) A = some (.lst ((List.range' s0 ((ps.take i).map Pt.cnt).sum).map fun j => .int (j : Nat))) := by
          rw [upd_ne hDA.symm]
          exact s3 _ _ eA1
        have eD2 : upd G3 D (.lst (vs ++ us2 ++ ws)) D = some (.lst (vs ++ us2 ++ ws)) := upd_same
        generalize upd G3 D (.lst (vs ++ us2 ++ ws)) = G4 at sm2 dv2 eA2 eD2 ⊢
        refine ⟨tyl eA2, _, rfl, RgOk.of_le (by omega) (by omega) (by omega) (by omega), fun q nq => ⟨_, (same_upd nq) _ _ eA2, ?_, by rw [es, Nat.add_assoc], same_D (sm2.trans (same_upd nq)) nA', _, by rw [upd_ne hDA]; exact (same_upd nq) _ _ eD2, _, Prs.upd ((same_upd nq) _ _ eA2) (dv2.same (same_upd nq)), ?_, ?_⟩⟩
        · rw [rgV_length, List.length_map, List.length_range']
          exact Nat.le_of_lt (small1000 (by omega))
        · rw [eL, es, ← Nat.add_assoc]
          simp only [reduceIte, List.append_assoc, Bool.false_eq_true, if_true, if_false, List.nil_append, crossN, show s0 + ((ps.take i).map Pt.cnt).sum - s0 = ((ps.take i).map Pt.cnt).sum by omega,  show s0 + ((ps.take i).map Pt.cnt).sum + Pt.cnt p - (s0 + ((ps.take i).map Pt.cnt).sum) = Pt.cnt p by omega]
        · rw [rgV_nat, rg_cat, es]
      | false =>
        refine iteF ?_
        refine ⟨tyl eA1, _, rfl, RgOk.of_le (by omega) (by omega) (by omega) (by omega), fun q nq => ⟨_, (same_upd nq) _ _ eA1, ?_, by rw [es, Nat.add_assoc], same_D (sm1.trans (same_upd nq)) nA', _, by rw [upd_ne hDA]; exact (same_upd nq) _ _ eD1, _, Prs.upd ((same_upd nq) _ _ eA1) (dv1.same (same_upd nq)), ?_, ?_⟩⟩
        · rw [rgV_length, List.length_map, List.length_range']
          exact Nat.le_of_lt (small1000 (by omega))
        · rw [eL, es, ← Nat.add_assoc]
          simp only [reduceIte, List.append_assoc, Bool.false_eq_true, if_true, if_false, List.nil_append, crossN, show s0 + ((ps.take i).map Pt.cnt).sum - s0 = ((ps.take i).map Pt.cnt).sum by omega,  show s0 + ((ps.take i).map Pt.cnt).sum + Pt.cnt p - (s0 + ((ps.take i).map Pt.cnt).sum) = Pt.cnt p by omega]
        · rw [rgV_nat, rg_cat, es]
    · rintro σ H' ⟨y1, y2, y3, vs, L, rfl, sm, eD, dv, eL, eA⟩
      walk_at "sx"
      refine ⟨by decide, fun p4 np4 => ?_⟩
      have hul := kids_len hu
      rw [List.drop_of_length_le (by omega), Pt.told.go, List.append_nil] at eL
      have f4 := same_upd (o := .tup [.ref D, .int (s0 + ((ps.take us.length).map Pt.cnt).sum : Nat)]) np4
      refine q p4 D vs _ (sm.trans f4) nD (sqt_new ?_) (f4 _ _ eD) (eL ▸ dv.same f4)
      rw [List.take_of_length_le (by rw [hul]; exact Nat.le_refl _), Pt.cnt_nd]
theorem ok_places_told {f : Addr} {fd : FuncData} (F : Fun K "places_told" "places_told" s_places_told f fd) (hm : mg "places_told" = some (.ref f)) (hb : Binds K fd ["party", "start"] []) (b_list : mg "list" = none) (b_range : mg "range" = none) {aE : Addr} (hE : ∀ H, SqT K H aE [.str "empty"]) (g_EMPTY : GV mg "EMPTY" (.ref aE)) : ∀ n : Nat, FnOk P w K mg base CX0 (n + 1) f fd ["party", "start"] (spTold K n)
  | 0 => fn_false fun vs H Q E h => by
    obtain ⟨v, p, s, _, _, _, h, _⟩ := h; omega
  | n + 1 => step_places_told F ⟨f, fd, _, ok_places_told F hm hb b_list b_range hE g_EMPTY n, hm, F.kp, hb⟩ b_list b_range hE g_EMPTY
end

end Z

set_option Elab.async false
set_option linter.all false
set_option maxRecDepth 100000
set_option maxHeartbeats 4000000

namespace Z
open PySem PySem.Spec PyProof.Rows L2 Z.R
local macro_rules | `(tactic| walk_at "sx") => `(tactic| try simp only [and_assoc, cxOf_K, cxOf_Kn, C8.tCut, rEq, rNe, sc_ii, sc_ss, sc_bb, sc_is, sc_si, sc_bs, sc_sb, tSeq, tAsg, tPar, tPar3, tC, gName, gNil, gCons, gTup, gSub, rSetL, L2.start, tVar, tOp, tUn, rI0, rI, rU, tTest, tChain, tOrV, tAndV, tNotV, tCB, tCons, tNil, tLst, tTup, tIfS, tNext, tRet, tRetN, tDrop, tAnd, tOr, tNot, tB, tIf, tSl, tFld, sFld, putF, tNoPart, tPart, rSlL, tBM, tBM0, rAppend, rPop, rExtend, tCall, tMeth, tLstRg, tRg1, tRg2, List.map_cons, List.map_nil, List.replicate, List.length_cons, List.length_nil, List.append, List.cons_append, List.nil_append, List.append_nil, List.getElem?_cons_zero, List.getElem?_cons_succ, List.set_cons_zero, List.set_cons_succ, Option.some.injEq, exists_eq_left', exists_eq_left, exists_eq, exists_and_left, exists_const, wipe, tYes, upd_same, ↓reduceIte, decide_false, decide_true, Bool.not_true, Bool.not_false, Bool.false_eq_true, V.int.injEq, HO.lst.injEq, HO.tup.injEq, V.ref.injEq, V.str.injEq, one_inj, le_a, le_z, le_0, le_9, mem_let, mem_dig, V.bl.injEq, List.cons.injEq, and_true, true_and, reduceCtorEq, false_and, exists_false, or_false, false_or])
/-- a tuple of places -/
def dN (c : List Nat) : PyData := .tuple (c.map fun i => .int (i : Nat))
theorem dN_to (c : List Nat) : To (dN c) := .tup _ fun d hd => by
  obtain ⟨i, _, rfl⟩ := List.mem_map.mp hd
  exact .int _
namespace Pt
theorem mrg_eq : ∀ f c : List (List Nat), List.zipWith (· ++ ·) (f.take c.length ++ List.replicate (c.length - f.length) []) c ++ f.drop c.length = mrg f c
  | [], c => by
    rw [mrg]
    simp only [List.take_nil, List.nil_append, List.drop_nil, List.append_nil, List.length_nil, Nat.sub_zero]
    induction c with
    | nil => rfl
    | cons x c ih => rw [List.length_cons, List.replicate_succ, List.zipWith_cons_cons, ih, List.nil_append]
  | f :: fs, [] => by
    rw [mrg]
    simp
  | f :: fs, c :: cs => by
    rw [mrg, ← mrg_eq fs cs]
    simp
theorem fold_len : ∀ (l : List (List (List Nat))) (f : List (List Nat)), (l.foldl mrg f).length ≤ f.length + (l.map List.length).sum
  | [], f => Nat.le_refl _
  | c :: l, f => by
    rw [List.foldl_cons, List.map_cons, List.sum_cons]
    have h1 := fold_len l (mrg f c)
    have h2 := mrg_len f c
    have h3 : Nat.max f.length c.length ≤ f.length + c.length := Nat.max_le.mpr ⟨Nat.le_add_right _ _, Nat.le_add_left _ _⟩
    omega
theorem fold_flat : ∀ (l : List (List (List Nat))) (f : List (List Nat)), (l.foldl mrg f).flatten.length = f.flatten.length + (l.map fun c => c.flatten.length).sum
  | [], f => rfl
  | c :: l, f => by
    rw [List.foldl_cons, List.map_cons, List.sum_cons, fold_flat l (mrg f c), (mrg_perm f c).length_eq, List.length_append, Nat.add_assoc]
theorem chains_flat {β : Type} : ∀ t : Pt (β × Nat), (chains t).flatten.length = cnt t := by
  refine ind ?_ (fun x => ?_) fun r ps ih => ?_
  · rw [chains, cnt]; rfl
  · rw [chains, cnt]; rfl
  · have e : (ps.map fun p => (chains p).flatten.length).sum = (ps.map cnt).sum := by
      congr 1
      exact List.map_congr_left fun p hp => ih p hp
    rw [chains_nd, cnt_nd, ← e]
    cases r with
    | true =>
      rw [if_pos rfl, fold_flat, List.map_map]
      simp [Function.comp_def]
    | false =>
      rw [if_neg Bool.false_ne_true, flat2 chains ps, List.length_flatten, List.map_map]
      rfl
theorem chains_len {β : Type} : ∀ t : Pt (β × Nat), (chains t).length ≤ cnt t := by
  refine ind ?_ (fun x => ?_) fun r ps ih => ?_
  · rw [chains]; exact Nat.zero_le _
  · rw [chains, cnt]; exact Nat.le_refl _
  · have e : (ps.map fun p => (chains p).length).sum ≤ (ps.map cnt).sum := by
      clear r
      induction ps with
      | nil => exact Nat.le_refl _
      | cons p ps ih2 =>
        rw [List.map_cons, List.map_cons, List.sum_cons, List.sum_cons]
        have := ih p (List.mem_cons_self ..)
        have := ih2 fun q hq => ih q (List.mem_cons_of_mem _ hq)
        omega
    rw [chains_nd, cnt_nd]
    cases r with
    | true =>
      rw [if_pos rfl]
      have := fold_len (ps.map chains) []
      rw [List.map_map] at this
      have e2 : (ps.map (List.length ∘ chains)).sum = (ps.map fun p => (chains p).length).sum := rfl
      simp only [List.length_nil] at this
      omega
    | false =>
      rw [if_neg Bool.false_ne_true, List.length_flatten, List.map_map]
      exact e
/-- the chains of the first parts of a row -/
def mrgs {β : Type} (ps : List (Pt (β × Nat))) (i : Nat) : List (List Nat) := ((ps.take i).map chains).foldl mrg []
theorem mrgs_flat {β : Type} (ps : List (Pt (β × Nat))) (i : Nat) : (mrgs ps i).flatten.length ≤ (ps.map cnt).sum := by
  unfold mrgs
  rw [fold_flat, List.map_map]
  have e : (fun c : List (List Nat) => c.flatten.length) ∘ (chains (β := β)) = cnt := funext fun t => chains_flat t
  rw [e]
  have : (ps.map cnt).sum = ((ps.take i).map cnt).sum + ((ps.drop i).map cnt).sum := by
    rw [← List.sum_append, ← List.map_append, List.take_append_drop]
  simp only [List.flatten_nil, List.length_nil]
  omega
theorem mrgs_len {β : Type} (ps : List (Pt (β × Nat))) (i : Nat) : (mrgs ps i).length ≤ (ps.map cnt).sum := by
  unfold mrgs
  have h1 := fold_len ((ps.take i).map chains) []
  rw [List.map_map] at h1
  have h2 : ((ps.take i).map (List.length ∘ chains)).sum ≤ ((ps.take i).map cnt).sum := by
    generalize ps.take i = qs
    induction qs with
    | nil => exact Nat.le_refl _
    | cons p qs ih =>
      rw [List.map_cons, List.map_cons, List.sum_cons, List.sum_cons]
      have := chains_len p
      show (chains p).length + _ ≤ _
      omega
  have : (ps.map cnt).sum = ((ps.take i).map cnt).sum + ((ps.drop i).map cnt).sum := by
    rw [← List.sum_append, ← List.map_append, List.take_append_drop]
  simp only [List.length_nil] at h1
  omega
theorem mrgs_succ {β : Type} {ps : List (Pt (β × Nat))} {i : Nat} {p : Pt (β × Nat)} (h : ps[i]? = some p) : mrgs ps (i + 1) = mrg (mrgs ps i) (chains p) := by
  unfold mrgs
  rw [List.take_add_one, h, List.map_append, List.foldl_append]
  rfl
theorem len_flat_mem {l : List (List Nat)} {c : List Nat} (h : c ∈ l) : c.length ≤ l.flatten.length := by
  rw [List.length_flatten]
  exact le_sum (List.mem_map.mpr ⟨c, h, rfl⟩)
end Pt
theorem dp_dN {K : PySem.W.Frag} {H : Hp} {v : V} {c : List Nat} (h : Dp K H v (dN c)) : ∃ t, v = .ref t ∧ SqT K H t (c.map fun i => .int (i : Nat)) := by
  obtain ⟨t, us, rfl, hs, hu⟩ := dp_tup h
  have := dp_ints (g := fun i : Nat => (i : Int)) hu
  rw [List.map_map] at this
  subst this
  exact ⟨t, rfl, hs⟩
theorem dN_of {K : PySem.W.Frag} {H : Hp} {t : Addr} {c : List Nat} (h : SqT K H t (c.map fun i => .int (i : Nat))) : Dp K H (.ref t) (dN c) := by
  refine .tup h ?_
  clear h
  induction c with
  | nil => exact .nil
  | cons i c ih => exact .cons (.int _) ih
theorem map_at {K : PySem.W.Frag} {H : Hp} {γ : Type} {g : γ → PyData} {xs : List V} {l : List γ} (h : DpAll K H xs (l.map g)) {i : Nat} {c : γ} (hc : l[i]? = some c) : ∃ x, xs[i]? = some x ∧ Dp K H x (g c) := by
  have hl := DpAll.length h
  rw [List.length_map] at hl
  obtain ⟨h1, h2⟩ := List.getElem?_eq_some_iff.mp hc
  refine ⟨xs[i]'(by omega), List.getElem?_eq_getElem _, ?_⟩
  obtain ⟨d, hd, hx⟩ := DpAll.at h (List.getElem?_eq_getElem (show i < xs.length by omega))
  rw [List.getElem?_map, hc] at hd
  obtain rfl := Option.some.inj hd
  exact hx
section
variable {K : PySem.W.Frag} {H : Hp} {Q : VK} {a0 a1 a2 a3 : Option V} {a b : Addr} {f c : List (List Nat)} {xs ys : List V}
/-- [one + two for one, two in zip(kept, chains)] -/
theorem lc_zipcat (ha : H a = some (.lst xs)) (hb : H b = some (.lst ys)) (hx : DpAll K H xs (f.map dN)) (hy : DpAll K H ys (c.map dN)) (hl : f.length = c.length) (hz : c.length ≤ 1000) (hsz : ∀ p ∈ f, ∀ q ∈ c, p.length + q.length ≤ 1000)
    (done : ∀ (D : Addr) (H' : Hp) (vs : List V), H D = none → Same H H' → H' D = some (.lst vs) → DpAll K H' vs ((List.zipWith (· ++ ·) f c).map dN) → Q (.ref D) H') :
    tLc (iZip K (tCons (tVar 5) (tCons (tVar 4) tNil))) (gTup K 2 (gCons (gName 6) (gCons (gName 7) gNil))) tYes (tOp (rCatA K) (tVar 6) (tVar 7)) [6, 7] [a0, a1, a2, a3, some (.ref b), some (.ref a), none, none] H Q := by
  have lx := DpAll.length hx
  have ly := DpAll.length hy
  rw [List.length_map] at lx ly
  refine ⟨_, rfl, _, rfl, a, b, xs, ys, rfl, SqL.of ha, SqL.of hb, fun D nD => ?_⟩
  refine lc_it (walk_zip (n := c.length) (xs := xs) (ys := ys) (by omega)) (fun i H' => Same H H' ∧ ∃ vs, H' D = some (.lst vs) ∧ DpAll K H' vs (((List.zipWith (· ++ ·) f c).take i).map dN)) ⟨same_upd nD, [], upd_same, .nil⟩ (fun i H' _ p => ⟨SqL.of (p.1 _ _ ha), SqL.of (p.1 _ _ hb)⟩) ?_ ?_
  · rintro i x H1 H2 hi ⟨sm, vs, eD, dv⟩ ⟨T, u, v, rfl, nT, rfl, hu, hv⟩
    obtain ⟨p, hp⟩ : ∃ p, f[i]? = some p := ⟨f[i]'(by omega), List.getElem?_eq_getElem _⟩
    obtain ⟨q, hq⟩ : ∃ q, c[i]? = some q := ⟨c[i]'(by omega), List.getElem?_eq_getElem _⟩
    obtain ⟨u', hu', du⟩ := map_at hx hp
    obtain ⟨v', hv', dv'⟩ := map_at hy hq
    have hu : xs[i]? = some u := hu
    have hv : ys[i]? = some v := hv
    rw [hu] at hu'
    rw [hv] at hv'
    obtain rfl := Option.some.inj hu'
    obtain rfl := Option.some.inj hv'
    have f1 := same_upd (o := .tup [u, v]) nT
    have sm1 := sm.trans f1
    obtain ⟨tu, rfl, su⟩ := dp_dN (L2.Dp.same sm1 du)
    obtain ⟨tv, rfl, sv⟩ := dp_dN (L2.Dp.same sm1 dv')
    walk_at "sx"
    refine ⟨_, SqT.of upd_same, rfl, _, _, rfl, _, _, rfl, rfl, ?_⟩
    have hz2 := hsz p (List.mem_of_getElem? hp) q (List.mem_of_getElem? hq)
    have fin : ∀ (z : Addr) H3, Same (upd H1 T (.tup [.ref tu, .ref tv])) H3 → SqT K H3 z ((p ++ q).map fun i => .int (i : Nat)) → ∃ acc, H3 D = some (.lst acc) ∧ acc.length < sizeLine ∧ Same H (upd H3 D (.lst (acc ++ [.ref z]))) ∧ DpAll K (upd H3 D (.lst (acc ++ [.ref z]))) (acc ++ [.ref z]) (((List.zipWith (· ++ ·) f c).take (i + 1)).map dN) := fun z H3 s3 hz => by
      refine ⟨vs, (f1.trans s3) _ _ eD, ?_, same_D (sm1.trans s3) nD, ?_⟩
      · have := DpAll.length dv
        rw [List.length_map, List.length_take] at this
        exact small1000 (by omega)
      · rw [List.take_add_one, List.getElem?_zipWith, hp, hq]
        exact snocM dN_to (f1.trans s3) eD dv (dN_of hz)
    refine ⟨tu, tv, _, _, rfl, rfl, su, sv, Nat.le_trans (show _ ≤ 1000 by rw [List.length_map, List.length_map]; exact hz2) (by decide), fun e => ?_, fun e1 e2 => ?_, fun e1 e2 z nz => ?_⟩
    · have e : p = [] := List.map_eq_nil_iff.mp e
      subst e
      exact fin tv _ (.refl _) sv
    · have e : q = [] := List.map_eq_nil_iff.mp e2
      subst e
      exact fin tu _ (.refl _) (by rw [List.append_nil]; exact su)
    · exact fin z _ (same_upd nz) (sqt_new (by rw [List.map_append]))
  · rintro H' ⟨sm, vs, eD, dv⟩
    rw [List.take_of_length_le (by rw [List.length_zipWith]; omega)] at dv
    exact done D H' vs nD sm eD dv
end
theorem bes_word {r : Bool} : decide (V.str (if r then "row" else "beside") = V.str "beside") = !r := by cases r <;> decide +kernel
theorem row_word {r : Bool} : decide (V.str (if r then "row" else "beside") = V.str "row") = r := by cases r <;> decide +kernel
theorem none_back {H H' : Hp} {l : Addr} (f : Same H H') (h : H' l = none) : H l = none := by
  cases e : H l with
  | none => rfl
  | some o =>
    rw [f _ _ e] at h
    cases h
theorem cut_from (xs : List V) (k : Nat) : cutV xs (some (k : Int)) none = xs.drop k := by
  unfold cutV
  rw [HT.sIx_none, HT.sIx_nat]
  by_cases h : k ≤ xs.length
  · rw [Nat.min_eq_left h, List.take_of_length_le (by rw [List.length_drop]; exact Nat.le_refl _)]
  · rw [Nat.min_eq_right (by omega), List.drop_of_length_le (Nat.le_refl _), List.drop_of_length_le (by omega), List.take_nil]
theorem all_take {K : PySem.W.Frag} {H : Hp} {γ : Type} {g : γ → PyData} : ∀ {vs : List V} {l : List γ} (k : Nat), DpAll K H vs (l.map g) → DpAll K H (vs.take k) ((l.take k).map g)
  | [], [], k, h => by rw [List.take_nil, List.take_nil]; exact .nil
  | v :: vs, c :: l, 0, h => .nil
  | v :: vs, c :: l, k + 1, h => by
    cases h with
    | cons h1 h2 => exact .cons h1 (all_take k h2)
  | [], c :: l, k, h => by cases h
  | v :: vs, [], k, h => by cases h
theorem all_drop {K : PySem.W.Frag} {H : Hp} {γ : Type} {g : γ → PyData} : ∀ {vs : List V} {l : List γ} (k : Nat), DpAll K H vs (l.map g) → DpAll K H (vs.drop k) ((l.drop k).map g)
  | [], [], k, h => by rw [List.drop_nil, List.drop_nil]; exact .nil
  | v :: vs, c :: l, 0, h => h
  | v :: vs, c :: l, k + 1, h => by
    cases h with
    | cons h1 h2 => exact all_drop k h2
  | [], c :: l, k, h => by cases h
  | v :: vs, [], k, h => by cases h
theorem all_rep {K : PySem.W.Frag} {H : Hp} {γ : Type} {g : γ → PyData} {v : V} {c : γ} (h : Dp K H v (g c)) : ∀ k : Nat, DpAll K H (List.replicate k [v]).flatten ((List.replicate k c).map g)
  | 0 => .nil
  | k + 1 => by
    rw [List.replicate_succ, List.replicate_succ, List.flatten_cons, List.map_cons]
    exact .cons h (all_rep h k)
theorem all_app {K : PySem.W.Frag} {H : Hp} {γ : Type} {g : γ → PyData} {vs us : List V} {l m : List γ} (h : DpAll K H vs (l.map g)) (h' : DpAll K H us (m.map g)) : DpAll K H (vs ++ us) ((l ++ m).map g) := by
  rw [List.map_append]
  exact DpAll.append h h'

end Z

set_option Elab.async false
set_option linter.all false
set_option maxRecDepth 100000
set_option maxHeartbeats 4000000

namespace Z
open PySem PySem.Spec PyProof.Rows L2 Z.R
local macro_rules | `(tactic| walk_at "sx") => `(tactic| try simp only [and_assoc, cxOf_K, cxOf_Kn, C8.tCut, rEq, rNe, sc_ii, sc_ss, sc_bb, sc_is, sc_si, sc_bs, sc_sb, tSeq, tAsg, tPar, tPar3, tC, gName, gNil, gCons, gTup, gSub, rSetL, L2.start, tVar, tOp, tUn, rI0, rI, rU, tTest, tChain, tOrV, tAndV, tNotV, tCB, tCons, tNil, tLst, tTup, tIfS, tNext, tRet, tRetN, tDrop, tAnd, tOr, tNot, tB, tIf, tSl, tFld, sFld, putF, tNoPart, tPart, rSlL, tBM, tBM0, rAppend, rPop, rExtend, tCall, tMeth, tLstRg, tRg1, tRg2, List.map_cons, List.map_nil, List.replicate, List.length_cons, List.length_nil, List.append, List.cons_append, List.nil_append, List.append_nil, List.getElem?_cons_zero, List.getElem?_cons_succ, List.set_cons_zero, List.set_cons_succ, Option.some.injEq, exists_eq_left', exists_eq_left, exists_eq, exists_and_left, exists_const, wipe, tYes, upd_same, ↓reduceIte, decide_false, decide_true, Bool.not_true, Bool.not_false, Bool.false_eq_true, V.int.injEq, HO.lst.injEq, HO.tup.injEq, V.ref.injEq, V.str.injEq, one_inj, le_a, le_z, le_0, le_9, mem_let, mem_dig, V.bl.injEq, List.cons.injEq, and_true, true_and, reduceCtorEq, false_and, exists_false, or_false, false_or])
abbrev spChains (K : PySem.W.Frag) (n : Nat) : Sp := spLs K Pt.pr (fun t => Pt.OkT t ∧ Pt.dep t < n) fun t => (Pt.chains t).map dN
section
variable {P : Program} {w : World} {K : PySem.W.Frag} {mg : Str → Option Value} {base : Heap}
theorem sc_chains_of : FnScope ["tree", "part", "chain", "found", "chains", "kept", "one", "two"] ["tree"] (defScope s_chains_of) := ⟨rfl, rfl, rfl, by decide +kernel, rfl, by decide +kernel, by decide +kernel⟩
theorem step_chains_of {f : Addr} {fd : FuncData} {n : Nat} (F : Fun K "chains_of" "chains_of" s_chains_of f fd) (c_chains_of : Cl P w K mg base (n + 1) "chains_of" (spChains K n)) (b_len : mg "len" = none) (b_zip : mg "zip" = none) {aE : Addr} (hE : ∀ H, SqT K H aE [.str "empty"]) (g_EMPTY : GV mg "EMPTY" (.ref aE)) : FnOk P w K mg base CX0 (n + 2) f fd ["tree"] (spChains K (n + 1)) := by
  have nd := sc_chains_of.nd
  refine F.ok sc_chains_of (fun vs H Q E h => ?_) (fun cdv A outer s H vs Q E hr h => ?_)
  · obtain ⟨v, p, rfl, _⟩ := h
    rfl
  obtain ⟨v, p, rfl, hv, ⟨ho, hn⟩, q⟩ := h
  dsimp only at q
  refine ⟨_, (pss_cons (ps_if (pt_cmpR (op_eqD hr.units) (pv 0) (pe_gv g_EMPTY) (nomark _)) (pss_one (ps_ret (pe_lst pa_nil))) pss_nil)
  (pss_cons (ps_if (pt_cmpR op_eq (pe_ix (ix_tupK (K := K) rfl) (pv 0) pe_int (fun _ _ => rfl)) pe_str (nomark _)) (pss_one (ps_ret (pe_lst (pa_cons (pe_tup (pa_cons (pe_ix (ix_tupK (K := K) rfl) (pe_ix (ix_tupK (K := K) rfl) (pv 0) pe_int (fun _ _ => rfl)) pe_int (fun _ _ => rfl)) pa_nil)) pa_nil)))) pss_nil)
  (pss_cons (ps_if (pt_cmpR op_eq (pe_ix (ix_tupK (K := K) rfl) (pv 0) pe_int (fun _ _ => rfl)) pe_str (nomark _)) (pss_one (ps_ret (pe_lc2 (own := [("part", 1), ("chain", 2)]) (vs1 := [2]) rfl nd (pi_tup (pe_ix (ix_tupK (K := K) rfl) (pv 0) pe_int (fun _ _ => rfl))) (blkOk_by (N := ["tree", "part", "chain", "found", "chains", "kept", "one", "two"]) (sc := defScope s_chains_of) (by decide +kernel)) (by decide) (fun _ _ _ _ _ => (pg_name (i := 1) nd rfl (.inl rfl))) (fun _ _ _ _ _ => pts_nil) (fun _ _ _ _ _ => (pi_listK (K := K) rfl (pcl c_chains_of hr (by omega) (pa_cons (pv 1) pa_nil)))) (fun _ _ _ _ _ => (pg_name (i := 2) nd rfl (.inl rfl))) (fun _ _ _ _ _ => pts_nil) (fun _ _ _ _ _ => (pv 2))))) pss_nil)
  (pss_cons (ps_set (i := 3) nd rfl (.inl rfl) (pe_lst pa_nil))
  (pss_cons (ps_for PassesOwn.never rfl (pi_tup (pe_ix (ix_tupK (K := K) rfl) (pv 0) pe_int (fun _ _ => rfl))) (pg_name (i := 1) nd rfl (.inl rfl))
    (pss_cons (ps_set (i := 4) nd rfl (.inl rfl) (pcl c_chains_of hr (by omega) (pa_cons (pv 1) pa_nil)))
  (pss_cons (ps_set (i := 5) nd rfl (.inl rfl) (pe_op op_cat (pe_slice sl_list (pv 3) po_none (po_some (pe_callB call_len (by rfl) b_len (by decide +kernel) (pa_cons (pv 4) pa_nil)))) (pe_op op_rep (pe_lst (pa_cons (pe_tup pa_nil) pa_nil)) (pe_op op_sub (pe_callB call_len (by rfl) b_len (by decide +kernel) (pa_cons (pv 4) pa_nil)) (pe_callB call_len (by rfl) b_len (by decide +kernel) (pa_cons (pv 3) pa_nil))))))
  (pss_one (ps_set (i := 3) nd rfl (.inl rfl) (pe_op op_cat (pe_lc (own := [("one", 6), ("two", 7)]) rfl nd (pi_zip (by rfl) b_zip (pa_cons (pv 5) (pa_cons (pv 4) pa_nil))) (blkOk_by (N := ["tree", "part", "chain", "found", "chains", "kept", "one", "two"]) (sc := defScope s_chains_of) (by decide +kernel)) (fun _ _ _ _ _ => (pg_tupK (K := K) rfl (n := 2) (by rfl) (pgs_cons (pg_name (i := 6) nd rfl (.inl rfl)) (pgs_cons (pg_name (i := 7) nd rfl (.inl rfl)) pgs_nil)))) (fun _ _ _ _ _ => pts_nil) (fun _ _ _ _ _ => (pe_op (op_catAK (K := K) rfl) (pv 6) (pv 7)))) (pe_slice sl_list (pv 3) (po_some (pe_callB call_len (by rfl) b_len (by decide +kernel) (pa_cons (pv 4) pa_nil))) po_none)))))))
  (pss_one (ps_ret (pv 3)))))))), ?_⟩
  walk_at "sx"
  refine eq_emp hv hE (Pt.shp_tree ho) ⟨_, rfl, ?_⟩
  cases p with
  | emp => exact iteT ⟨by decide, fun l nl => q l [] _ nl (same_upd nl) upd_same (by rw [Pt.chains]; exact .nil)⟩
  | deed x =>
    obtain ⟨t, u, rfl, hs, hu⟩ := dp_deed hv
    obtain ⟨t2, u2, rfl, hs2, hu2⟩ := dp2 hu
    cases hu2
    refine iteF (ixt hs rfl ⟨rfl, iteT (ixt hs rfl (ixt hs2 rfl ⟨by decide, fun p np => ⟨by decide, fun l nl => ?_⟩⟩))⟩)
    have f1 := same_upd (o := .tup [.int x.2]) np
    have f2 := same_upd (o := .lst [.ref p]) nl
    refine q l _ _ (none_back (same_upd np) nl) (f1.trans f2) upd_same ?_
    rw [Pt.chains]
    exact .cons (dN_of (tup_same f2 (SqT.of upd_same))) .nil
  | nd r ps =>
    obtain ⟨t, t2, us, rfl, hs, hs2, hu⟩ := dp_nd hv
    refine iteF (ixt hs rfl ⟨rfl, ?_⟩)
    rw [deed_ne]
    refine iteF (ixt hs rfl ⟨rfl, ?_⟩)
    rw [bes_word]
    cases r with
    | false =>
      have e : (ps.map fun p => (Pt.chains p).map dN).flatten = (Pt.chains (.nd false ps)).map dN := by rw [flat_map, Pt.chains_nd, if_neg Bool.false_ne_true]
      refine iteT (lc2_kids rfl hs hs2 hu (fun t => (Pt.chains t).map dN) (fun p d hd => by
        obtain ⟨c, _, rfl⟩ := List.mem_map.mp hd
        exact dN_to c) (by rw [e, List.length_map]; exact size60 (Nat.le_trans (Pt.chains_len _) ho.2)) (by decide) (by simp) ?_ ?_)
      · intro p hp x H' R sm hx hR
        walk_at "sx"
        have := Pt.dep_mem (r := false) hp
        exact ⟨x, p, rfl, hx, ⟨ho.part hp, by omega⟩, fun b us H'' nb s2 eb dk => hR b us H'' nb s2 eb dk⟩
      · intro D H1 vs nD s1 eD dv
        rw [e] at dv
        exact q D vs H1 nD s1 eD dv
    | true =>
      refine iteF ⟨by decide, fun F nF => ?_⟩
      have f0 := same_upd (o := .lst []) nF
      have hcs : (ps.map Pt.cnt).sum ≤ 60 := by
        have := ho.2
        rwa [Pt.cnt_nd] at this
      refine ⟨_, rfl, t, _, 1, _, rfl, rfl, tup_same f0 hs, rfl, t2, rfl, ⟨us, tup_same f0 hs2⟩, for_tup (K := K) (a := t2) (xs := us) (fun i σ H' => ∃ (F : Addr) (vs : List V) (x1 x4 x5 : Option V), σ = [some (.ref t), x1, none, some (.ref F), x4, x5, none, none] ∧ Same H H' ∧
        H F = none ∧ H' F = some (.lst vs) ∧ DpAll K H' vs ((Pt.mrgs ps i).map dN)) ⟨F, [], none, none, none, rfl, f0, nF, upd_same, .nil⟩ (fun i σ H' _ ⟨_, _, _, _, _, _, sm, _⟩ => tup_same sm hs2) ?_ ?_⟩
      · rintro i x σ H1 hx ⟨F, vs, y1, y4, y5, rfl, sm, nF, eF, dv⟩
        obtain ⟨p, hp, hm, hxp⟩ := kid_at hu hx
        walk_at "sx"
        have hd := Pt.dep_mem (r := true) hm
        refine ⟨x, p, rfl, L2.Dp.same sm hxp, ⟨ho.part hm, by omega⟩, fun b us2 H2 nb s2 eb du => ?_⟩
        have hml := Pt.mrgs_len ps i
        have hcl := Pt.chains_len p
        have hpc := Pt.cnt_mem (r := true) hm
        have ho2 := ho.2
        have hl1 := DpAll.length dv
        have hl2 := DpAll.length du
        rw [List.length_map] at hl1 hl2
        have big : ∀ {n : Nat}, n ≤ 1000 → n ≤ sizeLine := fun h => Nat.le_trans h (by decide)
        have eF2 := s2 _ _ eF
        have dv2 := DpAll.same s2 dv
        refine ⟨_, len_l eb rfl, _, SqL.of eF2, fun p1 n1 => ⟨by decide, fun p2 n2 => ⟨by decide, fun p3 n3 => ?_⟩⟩⟩
        rw [cut_to]
        have f1 := same_upd (o := .lst (cutV vs none (some us2.length))) n1
        have f2 := same_upd (o := .tup []) n2
        have f3 := same_upd (o := .lst [.ref p2]) n3
        rw [cut_to] at f1 f2 f3 n2 n3
        have g := (f1.trans f2).trans f3
        have e1 := (f2.trans f3) _ _ (upd_same (H := H2) (a := p1) (o := .lst (vs.take us2.length)))
        have e2 := f3 _ _ (upd_same (H := upd H2 p1 (.lst (vs.take us2.length))) (a := p2) (o := .tup []))
        have e3 := upd_same (H := upd (upd H2 p1 (.lst (vs.take us2.length))) p2 (.tup [])) (a := p3) (o := .lst [.ref p2])
        generalize upd (upd (upd H2 p1 (.lst (vs.take us2.length))) p2 (.tup [])) p3 (.lst [.ref p2]) = G at g e1 e2 e3 ⊢
        refine ⟨_, len_l (g _ _ eb) rfl, _, len_l (g _ _ eF2) rfl, p3, _, _, rfl, rfl, e3, by omega, by omega, big (by simp only [List.length_singleton]; omega), fun p4 n4 => ⟨p1, p4, _, _, rfl, rfl, (same_upd n4) _ _ e1, upd_same, big ?_, fun p5 n5 => ?_⟩⟩
        · simp only [List.length_take, List.length_flatten, List.map_replicate, List.sum_replicate_nat, List.length_singleton]
          omega
        rw [show ((us2.length : Int) - (vs.length : Int)).toNat = us2.length - vs.length by omega] at n5 ⊢
        have f4 := same_upd (o := .lst (List.replicate (us2.length - vs.length) [V.ref p2]).flatten) n4
        have f5 := same_upd (o := .lst (vs.take us2.length ++ (List.replicate (us2.length - vs.length) [V.ref p2]).flatten)) n5
        have g2 := g.trans (f4.trans f5)
        have dk := DpAll.same (f4.trans f5) (all_app (DpAll.same g (all_take us2.length dv2)) (all_rep (dN_of (c := []) (SqT.of e2)) (us2.length - vs.length)))
        have e5 := upd_same (H := upd G p4 (.lst (List.replicate (us2.length - vs.length) [V.ref p2]).flatten)) (a := p5) (o := .lst (vs.take us2.length ++ (List.replicate (us2.length - vs.length) [V.ref p2]).flatten))
        generalize upd (upd G p4 (.lst (List.replicate (us2.length - vs.length) [V.ref p2]).flatten)) p5 (.lst (vs.take us2.length ++ (List.replicate (us2.length - vs.length) [V.ref p2]).flatten)) = G5 at g2 dk e5 ⊢
        refine lc_zipcat e5 (g2 _ _ eb) dk (DpAll.same g2 du) ?_ (by omega) ?_ fun D H6 vs6 nD s6 eD6 dv6 => ?_
        · rw [List.length_append, List.length_take, List.length_replicate]
          omega
        · intro a ha c hc
          have h1 := Pt.len_flat_mem hc
          rw [Pt.chains_flat] at h1
          have h2 : a.length ≤ 60 := by
            rcases List.mem_append.mp ha with h | h
            · exact Nat.le_trans (Nat.le_trans (Pt.len_flat_mem (List.mem_of_mem_take h)) (Pt.mrgs_flat ps i)) hcs
            · rw [(List.mem_replicate.mp h).2]
              exact Nat.zero_le _
          omega
        · refine ⟨_, len_l ((g2.trans s6) _ _ eb) rfl, _, SqL.of ((g2.trans s6) _ _ eF2), fun p7 n7 => ⟨D, p7, _, _, rfl, rfl, (same_upd n7) _ _ eD6, upd_same, big ?_, fun F' nF' => ⟨F', rfl, ?_, ?_, _, upd_same, ?_⟩⟩⟩
          · rw [cut_from, List.length_drop, DpAll.length dv6, List.length_map, List.length_zipWith]
            omega
          · exact ((sm.trans s2).trans (g2.trans s6)).trans ((same_upd n7).trans (same_upd nF'))
          · exact none_back (((sm.trans s2).trans (g2.trans s6)).trans (same_upd n7)) nF'
          · rw [Pt.mrgs_succ hp, ← Pt.mrg_eq, cut_from, ← hl1, ← hl2]
            rw [cut_from] at nF'
            exact DpAll.same ((same_upd (o := .lst (vs.drop us2.length)) n7).trans (same_upd nF')) (all_app dv6 (DpAll.same (g2.trans s6) (all_drop us2.length dv2)))
      · rintro σ H1 ⟨F, vs, y1, y4, y5, rfl, sm, nF, eF, dv⟩
        walk_at "sx"
        refine q F vs _ nF sm eF ?_
        rw [Pt.chains_nd, if_pos rfl]
        unfold Pt.mrgs at dv
        rwa [List.take_of_length_le (by rw [kids_len hu]; exact Nat.le_refl _)] at dv
theorem ok_chains_of {f : Addr} {fd : FuncData} (F : Fun K "chains_of" "chains_of" s_chains_of f fd) (hm : mg "chains_of" = some (.ref f)) (hb : Binds K fd ["tree"] []) (b_len : mg "len" = none) (b_zip : mg "zip" = none) {aE : Addr} (hE : ∀ H, SqT K H aE [.str "empty"]) (g_EMPTY : GV mg "EMPTY" (.ref aE)) : ∀ n : Nat, FnOk P w K mg base CX0 (n + 1) f fd ["tree"] (spChains K n)
  | 0 => fn_false fun vs H Q E h => by
    obtain ⟨v, p, _, _, ⟨_, h⟩, _⟩ := h; omega
  | n + 1 => step_chains_of F ⟨f, fd, _, ok_chains_of F hm hb b_len b_zip hE g_EMPTY n, hm, F.kp, hb⟩ b_len b_zip hE g_EMPTY
end

end Z

set_option Elab.async false
set_option linter.all false
set_option maxRecDepth 100000
set_option maxHeartbeats 4000000

namespace Z
open PySem PySem.Spec PyProof.Rows L2 Z.R
local macro_rules | `(tactic| walk_at "sx") => `(tactic| try simp only [and_assoc, cxOf_K, cxOf_Kn, C8.tCut, rEq, rNe, sc_ii, sc_ss, sc_bb, sc_is, sc_si, sc_bs, sc_sb, tSeq, tAsg, tPar, tPar3, tC, gName, gNil, gCons, gTup, gSub, rSetL, L2.start, tVar, tOp, tUn, rI0, rI, rU, tTest, tChain, tOrV, tAndV, tNotV, tCB, tCons, tNil, tLst, tTup, tIfS, tNext, tRet, tRetN, tDrop, tAnd, tOr, tNot, tB, tIf, tSl, tFld, sFld, putF, tNoPart, tPart, rSlL, tBM, tBM0, rAppend, rPop, rExtend, tCall, tMeth, tLstRg, tRg1, tRg2, List.map_cons, List.map_nil, List.replicate, List.length_cons, List.length_nil, List.append, List.cons_append, List.nil_append, List.append_nil, List.getElem?_cons_zero, List.getElem?_cons_succ, List.set_cons_zero, List.set_cons_succ, Option.some.injEq, exists_eq_left', exists_eq_left, exists_eq, exists_and_left, exists_const, wipe, tYes, upd_same, ↓reduceIte, decide_false, decide_true, Bool.not_true, Bool.not_false, Bool.false_eq_true, V.int.injEq, HO.lst.injEq, HO.tup.injEq, V.ref.injEq, V.str.injEq, one_inj, le_a, le_z, le_0, le_9, mem_let, mem_dig, V.bl.injEq, List.cons.injEq, and_true, true_and, reduceCtorEq, false_and, exists_false, or_false, false_or])
/-- a place as data -/
def iN (i : Nat) : PyData := .int (i : Nat)
def vN (i : Nat) : V := .int (i : Nat)
theorem iN_to (i : Nat) : To (iN i) := .int _
theorem dp_iN {K : PySem.W.Frag} {H : Hp} {vs : List V} {l : List Nat} (h : DpAll K H vs (l.map iN)) : vs = l.map vN := by
  have := dp_ints (g := fun i : Nat => (i : Int)) h
  rw [List.map_map] at this
  exact this
theorem iN_of {K : PySem.W.Frag} {H : Hp} : ∀ l : List Nat, DpAll K H (l.map vN) (l.map iN)
  | [] => .nil
  | _ :: l => .cons (.int _) (iN_of l)
/-- lists of places in the heap -/
def Lots (H : Hp) (bs : List (Addr × List Nat)) : Prop := ∀ b ∈ bs, H b.1 = some (.lst (b.2.map vN))
theorem Lots.same {H H' : Hp} {bs : List (Addr × List Nat)} (f : Same H H') (h : Lots H bs) : Lots H' bs := fun b hb => f _ _ (h b hb)
theorem rel_lots {C : Addr → Prop} {H : Hp} : ∀ {vs : List V} {rows : List (List Nat)}, Rel (fun v row => ∃ b, v = .ref b ∧ C b ∧ H b = some (.lst (row.map vN))) vs rows → ∃ bs : List (Addr × List Nat), vs = bs.map (fun b => .ref b.1) ∧ rows = bs.map (·.2) ∧ Lots H bs ∧ ∀ b ∈ bs, C b.1
  | [], [], _ => ⟨[], rfl, rfl, fun b hb => (by cases hb), fun b hb => (by cases hb)⟩
  | [], _ :: _, h => by cases h.1
  | _ :: _, [], h => by cases h.1
  | v :: vs, r :: rows, h => by
    obtain ⟨b, rfl, hc, hb⟩ := h.2 0 v r rfl rfl
    obtain ⟨bs, rfl, rfl, h1, h2⟩ := rel_lots (C := C) (H := H) (vs := vs) (rows := rows) ⟨Nat.succ.inj h.1, fun i a d x y => h.2 (i + 1) a d x y⟩
    refine ⟨(b, r) :: bs, rfl, rfl, fun c hc' => ?_, fun c hc' => ?_⟩
    · rcases List.mem_cons.mp hc' with rfl | hc'
      · exact hb
      · exact h1 c hc'
    · rcases List.mem_cons.mp hc' with rfl | hc'
      · exact hc
      · exact h2 c hc'
section
variable {K : PySem.W.Frag} {H : Hp} {σ : L2.St} {Q : VK} {te : TE} {α : Type} {f : α → PyData} {ps : List (Pt α)} {us : List V}
/-- [g(part) for part in v[1]], g(part) a new list of places -/
theorem lc_lots {s j : Nat} {t t2 : Addr} {w : V} (hj : σ[j]? = some (some (.ref t))) (h1 : SqT K H t [w, .ref t2]) (h2 : SqT K H t2 us) (hu : DpAll K H us (ps.map (Pt.enc f))) (hz : ps.length ≤ 60) (G : Pt α → List Nat)
    (step : ∀ p ∈ ps, ∀ (x : V) H' (R : VK), Same H H' → Dp K H' x (Pt.enc f p) → (∀ (b : Addr) (vs : List V) H'', H' b = none → Same H' H'' → H'' b = some (.lst vs) → DpAll K H'' vs ((G p).map iN) → R (.ref b) H'') → te (σ.set s (some x)) H' R)
    (done : ∀ (D : Addr) (H' : Hp) (bs : List (Addr × List Nat)), H D = none → Same H H' → H' D = some (.lst (bs.map fun b => .ref b.1)) → ps.map G = bs.map (·.2) → Lots H' bs → (∀ b ∈ bs, H b.1 = none) → Q (.ref D) H') :
    tLc (iTup K (tOp (rIxT K) (tVar j) (tC (.int 1)))) (gName s) tYes te [s] σ H Q := by
  have hl := kids_len hu
  refine ⟨_, hj, t, _, 1, _, rfl, rfl, h1, rfl, t2, rfl, ⟨us, h2⟩, fun D nD => lc_rel walk_tup nD (fun H' v row => ∃ b, v = .ref b ∧ (H b = none ∧ b ≠ D) ∧ H' b = some (.lst (row.map vN))) (fun s h => ?_) (fun e h => ?_) (ps.map G) (by rw [List.length_map, hl]) (Nat.le_of_lt (small1000 (by omega))) (fun H' f => tup_same f h2) ?_ ?_⟩
  · obtain ⟨b, rfl, hc, hb⟩ := h
    exact ⟨b, rfl, hc, s _ _ hb⟩
  · obtain ⟨b, rfl, hc, hb⟩ := h
    exact ⟨b, rfl, hc, by rw [upd_ne hc.2]; exact hb⟩
  · intro i x d hx hd H' R sm hD hR
    obtain ⟨p, hp, hm, hxp⟩ := kid_at hu hx
    rw [List.getElem?_map, hp] at hd
    obtain rfl := Option.some.inj hd
    refine step p hm x H' R sm (L2.Dp.same sm hxp) fun b vs H'' nb s2 eb dv => hR _ _ s2 ⟨b, rfl, ⟨none_back sm nb, fun e => hD (e ▸ nb)⟩, ?_⟩
    rw [eb, dp_iN dv]
  · intro H' vs sm eD r
    obtain ⟨bs, rfl, e, hb, hc⟩ := rel_lots r
    exact done D H' bs nD sm eD e hb fun b hb => (hc b hb).1
/-- [place for lot in lots for place in lot] -/
theorem lc2_lots {s s1 j : Nat} {L : Addr} {bs : List (Addr × List Nat)} (hj : σ[j]? = some (some (.ref L))) (hL : H L = some (.lst (bs.map fun b => .ref b.1))) (hb : Lots H bs) (hz : (bs.map (·.2)).flatten.length ≤ sizeLine) (hne : s1 ≠ s) (hl : s1 < σ.length) (hls : s < σ.length)
    (done : ∀ (D : Addr) (H' : Hp), H D = none → Same H H' → H' D = some (.lst ((bs.map (·.2)).flatten.map vN)) → Q (.ref D) H') :
    tLc2 (iList K (tVar j)) (gName s) tYes (iList K (tVar s)) (gName s1) tYes (tVar s1) [s, s1] [s1] σ H Q := by
  refine ⟨_, hj, L, rfl, ⟨_, SqL.of hL⟩, fun D nD => lc2_rel walk_list nD (fun _ v i => v = vN i) (fun s h => h) (fun e h => h) (bs.map (·.2)) (by rw [List.length_map, List.length_map]) hz (fun H' f => SqL.of (f _ _ hL)) hne hl ?_ ?_⟩
  · intro i x ds hx hd H' R sm hD hR
    rw [List.getElem?_map] at hx hd
    cases hbi : bs[i]? with
    | none =>
      rw [hbi] at hx
      cases hx
    | some b =>
      rw [hbi] at hx hd
      obtain rfl := Option.some.inj hx
      obtain rfl := Option.some.inj hd
      have hm := hb b (List.mem_of_getElem? hbi)
      refine ⟨.ref b.1, by simp [wipe, hls], hR b.1 (b.2.map vN) H' (.refl _) (fun e => ?_) (sm _ _ hm) ⟨by rw [List.length_map], fun k v d hv hd => ?_⟩⟩
      · rw [e, nD] at hm
        cases hm
      · rw [List.getElem?_map, hd] at hv
        exact (Option.some.inj hv).symm
  · intro H' vs sm eD r
    refine done D H' nD sm ?_
    rw [eD]
    congr 2
    apply List.ext_getElem?
    intro k
    rw [List.getElem?_map]
    cases h1 : vs[k]? with
    | none =>
      have h2 := List.getElem?_eq_none_iff.mp h1
      rw [List.getElem?_eq_none (by rw [← r.1]; exact h2)]
      rfl
    | some v =>
      obtain ⟨h3, h4⟩ := List.getElem?_eq_some_iff.mp h1
      rw [r.1] at h3
      rw [List.getElem?_eq_getElem h3]
      rw [r.2 k v _ h1 (List.getElem?_eq_getElem h3)]
      rfl
end
section
variable {X : Cx} {K : PySem.W.Frag}
theorem call_lenK (h : X.K = K) : CallR X (.builtin "len") (fun xs H Q => ∃ x n, xs = [x] ∧ LenV K x H n ∧ Q (.int n) H) := h ▸ call_len
theorem cr_maxK (h : X.K = K) (hc : X.calm = true) : CallR X (.builtin "max") (rMax K) := h ▸ cr_max hc
theorem cr_sumK (h : X.K = K) (hc : X.calm = true) : CallR X (.builtin "sum") (rSum K) := h ▸ cr_sum hc
theorem cr_allK (h : X.K = K) (hc : X.calm = true) : CallR X (.builtin "all") (rAll K) := h ▸ cr_all hc
theorem cr_anyK (h : X.K = K) (hc : X.calm = true) : CallR X (.builtin "any") (rAny K) := h ▸ cr_any hc
theorem call_isK (h : X.K = K) : CallR X (.builtin "isinstance") (rIsi K) := h ▸ call_isi
end
/-- the names of a block within a block -/
def relabelS (S sc : Scope) : Scope := { S with names := S.names.map fun (n, k) => if (k == .free && sc.kind == .function && sc.names.lookup n == some .cell) then (n, .cell) else (n, k) }
theorem blkOk_in {N : List Str} {sc S inner : Scope} {own : List (Str × Nat)} {E : Env} (hE : E.scope = sc) (h : blkC N (relabelS S sc) inner own = true) : BlkOk N (relabel S E) inner own := by
  subst hE
  exact blkOk_by h
section
variable {K : PySem.W.Frag} {H : Hp} {σ : L2.St} {Q : VK}
/-- [len(x) for x in lots] -/
theorem lc_lens {s j : Nat} {L : Addr} {bs : List (Addr × List Nat)} (hj : σ[j]? = some (some (.ref L))) (hs : s < σ.length) (hL : H L = some (.lst (bs.map fun b => .ref b.1))) (hb : Lots H bs) (hz : bs.length ≤ sizeLine)
    (done : ∀ (D : Addr) (H' : Hp), H D = none → Same H H' → H' D = some (.lst ((bs.map fun b => (b.2.length : Int)).map V.int)) → Q (.ref D) H') :
    tLc (iList K (tVar j)) (gName s) tYes (tCB (fun xs H Q => ∃ x, xs = [x] ∧ ∃ n : Nat, LenV K x H n ∧ Q (V.int n) H) (tCons (tVar s) tNil)) [s] σ H Q := by
  refine ⟨_, hj, L, rfl, ⟨_, SqL.of hL⟩, fun D nD => lc_rel walk_list nD (fun _ v (i : Int) => v = V.int i) (fun s h => h) (fun e h => h) (bs.map fun b => (b.2.length : Int)) (by rw [List.length_map, List.length_map]) (by rw [List.length_map]; exact hz) (fun H' f => SqL.of (f _ _ hL)) ?_ ?_⟩
  · intro i x d hx hd H' R sm hD hR
    rw [List.getElem?_map] at hx hd
    cases hbi : bs[i]? with
    | none =>
      rw [hbi] at hx
      cases hx
    | some b =>
      rw [hbi] at hx hd
      obtain rfl := Option.some.inj hx
      obtain rfl := Option.some.inj hd
      have hm := hb b (List.mem_of_getElem? hbi)
      refine ⟨.ref b.1, by simp [hs], _, rfl, b.2.length, len_l (sm _ _ hm) (by rw [List.length_map]), hR _ _ (.refl _) rfl⟩
  · intro H' vs sm eD r
    refine done D H' nD sm ?_
    rw [eD]
    congr 2
    apply List.ext_getElem?
    intro k
    rw [List.getElem?_map]
    cases h1 : vs[k]? with
    | none =>
      have h2 := List.getElem?_eq_none_iff.mp h1
      rw [List.getElem?_eq_none (by rw [← r.1]; exact h2)]
      rfl
    | some v =>
      obtain ⟨h3, h4⟩ := List.getElem?_eq_some_iff.mp h1
      rw [r.1] at h3
      rw [List.getElem?_eq_getElem h3]
      rw [r.2 k v _ h1 (List.getElem?_eq_getElem h3)]
      rfl
end
theorem max_int {ns : List Nat} {m : Int} (h : m ∈ ns.map fun n : Nat => (n : Int)) (h2 : ∀ y ∈ ns.map (fun n : Nat => (n : Int)), y ≤ m) : m = (ns.foldr Nat.max 0 : Nat) := by
  obtain ⟨n, hn, rfl⟩ := List.mem_map.mp h
  have h1 := Pt.le_max hn
  have h3 : ns.foldr Nat.max 0 ≤ n := Pt.max_le fun x hx => by
    have := h2 _ (List.mem_map.mpr ⟨x, hx, rfl⟩)
    omega
  omega
theorem Pt.widest_len {β : Type} : ∀ t : Pt (β × Nat), (widest t).length ≤ cnt t := by
  refine ind ?_ (fun x => ?_) fun r ps ih => ?_
  · rw [widest]; exact Nat.zero_le _
  · rw [widest, cnt]; exact Nat.le_refl _
  · rw [widest_nd]
    cases r with
    | true =>
      rw [if_pos rfl]
      cases e : fmax List.length (ps.map widest) with
      | none => exact Nat.zero_le _
      | some x =>
        have hm : x ∈ ps.map widest := by
          unfold fmax at e
          exact (List.mem_filter.mp (List.mem_of_mem_head? e)).1
        obtain ⟨p, hp, rfl⟩ := List.mem_map.mp hm
        exact Nat.le_trans (ih p hp) (cnt_mem hp)
    | false =>
      rw [if_neg Bool.false_ne_true, List.length_flatten, List.map_map, cnt_nd]

      induction ps with
      | nil => exact Nat.le_refl _
      | cons p ps ih2 =>
        rw [List.map_cons, List.map_cons, List.sum_cons, List.sum_cons]
        have h1 := ih p (List.mem_cons_self ..)
        have h2 := ih2 fun q hq => ih q (List.mem_cons_of_mem _ hq)
        show (widest p).length + _ ≤ _
        omega

end Z

set_option Elab.async false
set_option linter.all false
set_option maxRecDepth 100000
set_option maxHeartbeats 4000000

namespace Z
open PySem PySem.Spec PyProof.Rows L2 Z.R
local macro_rules | `(tactic| walk_at "sx") => `(tactic| try simp only [and_assoc, cxOf_K, cxOf_Kn, C8.tCut, rEq, rNe, sc_ii, sc_ss, sc_bb, sc_is, sc_si, sc_bs, sc_sb, tSeq, tAsg, tPar, tPar3, tC, gName, gNil, gCons, gTup, gSub, rSetL, L2.start, tVar, tOp, tUn, rI0, rI, rU, tTest, tChain, tOrV, tAndV, tNotV, tCB, tCons, tNil, tLst, tTup, tIfS, tNext, tRet, tRetN, tDrop, tAnd, tOr, tNot, tB, tIf, tSl, tFld, sFld, putF, tNoPart, tPart, rSlL, tBM, tBM0, rAppend, rPop, rExtend, tCall, tMeth, tLstRg, tRg1, tRg2, List.map_cons, List.map_nil, List.replicate, List.length_cons, List.length_nil, List.append, List.cons_append, List.nil_append, List.append_nil, List.getElem?_cons_zero, List.getElem?_cons_succ, List.set_cons_zero, List.set_cons_succ, Option.some.injEq, exists_eq_left', exists_eq_left, exists_eq, exists_and_left, exists_const, wipe, tYes, upd_same, ↓reduceIte, decide_false, decide_true, Bool.not_true, Bool.not_false, Bool.false_eq_true, V.int.injEq, HO.lst.injEq, HO.tup.injEq, V.ref.injEq, V.str.injEq, one_inj, le_a, le_z, le_0, le_9, mem_let, mem_dig, V.bl.injEq, List.cons.injEq, and_true, true_and, reduceCtorEq, false_and, exists_false, or_false, false_or])
abbrev spWidest (K : PySem.W.Frag) (n : Nat) : Sp := spLs K Pt.pr (fun t => Pt.OkT t ∧ Pt.dep t < n) fun t => (Pt.widest t).map iN
def longB (bs : List (Addr × List Nat)) (b : Addr × List Nat) : Bool := b.2.length == (bs.map fun b => b.2.length).foldr Nat.max 0
/-- [lot for lot in lots if len(lot) == max([len(other) for other in lots])] -/
theorem lc_longest {K : PySem.W.Frag} {H : Hp} {Q : VK} {a0 : Option V} {L : Addr} {bs : List (Addr × List Nat)} (hL : H L = some (.lst (bs.map fun b => .ref b.1))) (hb : Lots H bs) (hz : bs.length ≤ 1000)
    (done : ∀ (D : Addr) (H' : Hp), H D = none → Same H H' → H' D = some (.lst ((bs.filter (longB bs)).map fun b => .ref b.1)) → Q (.ref D) H') :
    tLc (iList K (tVar 1)) (gName 3) (tTest (tOp rEq (tCB (fun xs H Q => ∃ x, xs = [x] ∧ ∃ n : Nat, LenV K x H n ∧ Q (V.int n) H) (tCons (tVar 3) tNil)) (tCB (rMax K) (tCons (tLc (iList K (tVar 1)) (gName 5) tYes (tCB (fun xs H Q => ∃ x, xs = [x] ∧ ∃ n : Nat, LenV K x H n ∧ Q (V.int n) H) (tCons (tVar 5) tNil)) [5]) tNil))))
      (tVar 3) [3] [a0, some (.ref L), none, none, none, none] H Q := by
  refine ⟨_, rfl, L, rfl, ⟨_, SqL.of hL⟩, fun D nD => lc_it walk_list (fun i H' => Same H H' ∧ H' D = some (.lst (((bs.take i).filter (longB bs)).map fun b => .ref b.1))) ⟨same_upd nD, upd_same⟩ (fun i H' _ p => SqL.of (p.1 _ _ hL)) ?_ ?_⟩
  · rintro i x H1 H2 hi ⟨sm, eD⟩ ⟨rfl, hx⟩
    rw [List.getElem?_map] at hx
    cases hbi : bs[i]? with
    | none =>
      rw [hbi] at hx
      cases hx
    | some b =>
      rw [hbi] at hx
      obtain rfl := Option.some.inj hx
      have hm := List.mem_of_getElem? hbi
      walk_at "sx"
      refine ⟨b.2.length, len_l (sm _ _ (hb b hm)) (by rw [List.length_map]), lc_lens rfl (by simp) (sm _ _ hL) (hb.same sm) (Nat.le_of_lt (small1000 hz)) fun D2 H3 nD2 s3 eD2 => ?_⟩
      refine ⟨D2, _, rfl, SqL.of eD2, ?_, fun m hm1 hm2 => ?_⟩
      · rw [List.length_map]
        exact List.length_pos_of_mem hm
      have em : m = ((bs.map fun b => b.2.length).foldr Nat.max 0 : Nat) := max_int (by rw [List.map_map]; exact hm1) (by rw [List.map_map]; exact hm2)
      subst em
      have ec : decide (V.int (b.2.length : Int) = V.int ((bs.map fun b => b.2.length).foldr Nat.max 0 : Nat)) = longB bs b := by
        unfold longB
        rw [Bool.eq_iff_iff, decide_eq_true_eq, beq_iff_eq, V.int.injEq]
        omega
      refine ⟨rfl, ?_⟩
      rw [ec]
      have et : (bs.take (i + 1)).filter (longB bs) = (bs.take i).filter (longB bs) ++ [b].filter (longB bs) := by
        rw [List.take_add_one, hbi, List.filter_append]
        rfl
      rw [et]
      cases hlb : longB bs b with
      | true =>
        refine iteT ⟨_, s3 _ _ eD, ?_, same_D (sm.trans s3) nD, by simp [hlb]⟩
        rw [List.length_map]
        have := List.length_filter_le (longB bs) (bs.take i)
        rw [List.length_take] at this
        exact small1000 (by omega)
      | false => exact iteF ⟨sm.trans s3, by rw [s3 _ _ eD]; simp [hlb]⟩
  · rintro H' ⟨sm, eD⟩
    rw [List.take_of_length_le (by rw [List.length_map]; exact Nat.le_refl _)] at eD
    exact done D H' nD sm eD
section
variable {P : Program} {w : World} {K : PySem.W.Frag} {mg : Str → Option Value} {base : Heap}
theorem sc_widest_of : FnScope ["tree", "lots", "part", "lot", "place", "other"] ["tree"] (defScope s_widest_of) := ⟨rfl, rfl, rfl, by decide +kernel, rfl, by decide +kernel, by decide +kernel⟩
theorem step_widest_of {f : Addr} {fd : FuncData} {n : Nat} (F : Fun K "widest_of" "widest_of" s_widest_of f fd) (c_widest_of : Cl P w K mg base (n + 1) "widest_of" (spWidest K n)) (b_len : mg "len" = none) (b_max : mg "max" = none) {aE : Addr} (hE : ∀ H, SqT K H aE [.str "empty"]) (g_EMPTY : GV mg "EMPTY" (.ref aE)) : FnOk P w K mg base CX0 (n + 2) f fd ["tree"] (spWidest K (n + 1)) := by
  have nd := sc_widest_of.nd
  refine F.ok sc_widest_of (fun vs H Q E h => ?_) (fun cdv A outer s H vs Q E hr h => ?_)
  · obtain ⟨v, p, rfl, _⟩ := h
    rfl
  obtain ⟨v, p, rfl, hv, ⟨ho, hn⟩, q⟩ := h
  dsimp only at q
  refine ⟨_, (pss_cons (ps_if (pt_cmpR (op_eqD hr.units) (pv 0) (pe_gv g_EMPTY) (nomark _)) (pss_one (ps_ret (pe_lst pa_nil))) pss_nil)
  (pss_cons (ps_if (pt_cmpR op_eq (pe_ix (ix_tupK (K := K) rfl) (pv 0) pe_int (fun _ _ => rfl)) pe_str (nomark _)) (pss_one (ps_ret (pe_lst (pa_cons (pe_ix (ix_tupK (K := K) rfl) (pe_ix (ix_tupK (K := K) rfl) (pv 0) pe_int (fun _ _ => rfl)) pe_int (fun _ _ => rfl)) pa_nil)))) pss_nil)
  (pss_cons (ps_set (i := 1) nd rfl (.inr rfl) (pe_lc (own := [("part", 2)]) rfl nd (pi_tup (pe_ix (ix_tupK (K := K) rfl) (pv 0) pe_int (fun _ _ => rfl))) (blkOk_by (N := ["tree", "lots", "part", "lot", "place", "other"]) (sc := defScope s_widest_of) (by decide +kernel)) (fun _ _ _ _ _ => (pg_name (i := 2) nd rfl (.inl rfl))) (fun _ _ _ _ _ => pts_nil) (fun _ _ _ _ _ => (pcl c_widest_of hr (by omega) (pa_cons (pv 2) pa_nil)))))
  (pss_cons (ps_if (pt_cmpR op_eq (pe_ix (ix_tupK (K := K) rfl) (pv 0) pe_int (fun _ _ => rfl)) pe_str (nomark _)) (pss_one (ps_ret (pe_lc2 (own := [("lot", 3), ("place", 4)]) (vs1 := [4]) rfl nd (pi_listK (K := K) rfl (pv 1)) (blkOk_by (N := ["tree", "lots", "part", "lot", "place", "other"]) (sc := defScope s_widest_of) (by decide +kernel)) (by decide) (fun _ _ _ _ _ => (pg_name (i := 3) nd rfl (.inl rfl))) (fun _ _ _ _ _ => pts_nil) (fun _ _ _ _ _ => (pi_listK (K := K) rfl (pv 3))) (fun _ _ _ _ _ => (pg_name (i := 4) nd rfl (.inl rfl))) (fun _ _ _ _ _ => pts_nil) (fun _ _ _ _ _ => (pv 4))))) pss_nil)
  (pss_one (ps_ret (pe_ix (ix_listK (K := K) rfl) (pe_lc (own := [("lot", 3)]) rfl nd (pi_listK (K := K) rfl (pv 1)) (blkOk_by (N := ["tree", "lots", "part", "lot", "place", "other"]) (sc := defScope s_widest_of) (by decide +kernel)) (fun _ _ _ _ _ => (pg_name (i := 3) nd rfl (.inl rfl))) (fun _ _ _ _ _ => (pts_one (pt_cmpR op_eq (pe_callB (call_lenK (K := K) rfl) (by rfl) b_len (by decide +kernel) (pa_cons (pv 3) pa_nil)) (pe_callB (cr_maxK (K := K) rfl rfl) (by rfl) b_max (by decide +kernel) (pa_cons (pe_lc (own := [("other", 5)]) rfl nd (pi_listK (K := K) rfl (pv 1)) (blkOk_in (N := ["tree", "lots", "part", "lot", "place", "other"]) (sc := defScope s_widest_of) rfl (by decide +kernel)) (fun _ _ _ _ _ => (pg_name (i := 5) nd rfl (.inl rfl))) (fun _ _ _ _ _ => pts_nil) (fun _ _ _ _ _ => (pe_callB (call_lenK (K := K) rfl) (by rfl) b_len (by decide +kernel) (pa_cons (pv 5) pa_nil)))) pa_nil)) (nomark _)))) (fun _ _ _ _ _ => (pv 3))) pe_int (fun _ _ => rfl)))))))), ?_⟩
  walk_at "sx"
  refine eq_emp hv hE (Pt.shp_tree ho) ⟨_, rfl, ?_⟩
  cases p with
  | emp => exact iteT ⟨by decide, fun l nl => q l [] _ nl (same_upd nl) upd_same (by rw [Pt.widest]; exact .nil)⟩
  | deed x =>
    obtain ⟨t, u, rfl, hs, hu⟩ := dp_deed hv
    obtain ⟨t2, u2, rfl, hs2, hu2⟩ := dp2 hu
    cases hu2
    refine iteF (ixt hs rfl ⟨rfl, iteT (ixt hs rfl (ixt hs2 rfl ⟨by decide, fun l nl => ?_⟩))⟩)
    refine q l _ _ nl (same_upd nl) upd_same ?_
    rw [Pt.widest]
    exact .cons (.int _) .nil
  | nd r ps =>
    obtain ⟨t, t2, us, rfl, hs, hs2, hu⟩ := dp_nd hv
    refine iteF (ixt hs rfl ⟨rfl, ?_⟩)
    rw [deed_ne]
    refine iteF (lc_lots rfl hs hs2 hu ho.len.2 Pt.widest ?_ ?_)
    · intro p hp x H' R sm hx hR
      walk_at "sx"
      have := Pt.dep_mem (r := r) hp
      exact ⟨x, p, rfl, hx, ⟨ho.part hp, by omega⟩, fun b us H'' nb s2 eb dk => hR b us H'' nb s2 eb dk⟩
    · intro L H1 bs nL s1 eL er hb hf
      refine ixt (tup_same s1 hs) rfl ⟨rfl, ?_⟩
      rw [bes_word]
      cases r with
      | false =>
        refine iteT (lc2_lots rfl eL hb ?_ (by decide) (by simp) (by simp) fun D H2 nD s2 eD => ?_)
        · have := Pt.widest_len (.nd false ps)
          rw [Pt.widest_nd, if_neg Bool.false_ne_true, er] at this
          exact size60 (Nat.le_trans this ho.2)
        · refine q D _ H2 (none_back s1 nD) (s1.trans s2) eD ?_
          rw [Pt.widest_nd, if_neg Bool.false_ne_true, er]
          exact iN_of _
      | true =>
        have hlen : bs.length = ps.length := by
          have := congrArg List.length er
          rw [List.length_map, List.length_map] at this
          exact this.symm
        have h26 := ho.len
        refine iteF (lc_longest eL hb (by omega) fun D H2 nD s2 eD => ?_)
        obtain ⟨row, e1, e2, e3⟩ := Pt.fmax_some (f := List.length) (l := bs.map (·.2)) (by
          intro e
          have := congrArg List.length e
          rw [List.length_map] at this
          simp only [List.length_nil] at this
          omega)
        have e4 : (bs.map (·.2)).filter (fun x => x.length == ((bs.map (·.2)).map List.length).foldr Nat.max 0) = (bs.filter (longB bs)).map (·.2) := by
          rw [List.filter_map, List.map_map]
          rfl
        have e5 : Pt.fmax List.length (bs.map (·.2)) = ((bs.filter (longB bs)).map (·.2)).head? := by
          unfold Pt.fmax
          rw [← e4]
        rw [e1] at e5
        match hfl : bs.filter (longB bs), e5 with
        | b :: rest, e5 =>
          have e5 : row = b.2 := Option.some.inj e5
          have hbm : b ∈ bs := (List.mem_filter.mp (hfl ▸ List.mem_cons_self : b ∈ bs.filter (longB bs))).1
          rw [hfl] at eD
          refine ixl eD (atI_nat (j := 0) rfl) (q b.1 _ H2 (hf b hbm) (s1.trans s2) (s2 _ _ (hb b hbm)) ?_)
          rw [Pt.widest_nd, if_pos rfl, er, e1]
          show DpAll K H2 _ (row.map iN)
          rw [e5]
          exact iN_of _
theorem ok_widest_of {f : Addr} {fd : FuncData} (F : Fun K "widest_of" "widest_of" s_widest_of f fd) (hm : mg "widest_of" = some (.ref f)) (hb : Binds K fd ["tree"] []) (b_len : mg "len" = none) (b_max : mg "max" = none) {aE : Addr} (hE : ∀ H, SqT K H aE [.str "empty"]) (g_EMPTY : GV mg "EMPTY" (.ref aE)) : ∀ n : Nat, FnOk P w K mg base CX0 (n + 1) f fd ["tree"] (spWidest K n)
  | 0 => fn_false fun vs H Q E h => by
    obtain ⟨v, p, _, _, ⟨_, h⟩, _⟩ := h; omega
  | n + 1 => step_widest_of F ⟨f, fd, _, ok_widest_of F hm hb b_len b_max hE g_EMPTY n, hm, F.kp, hb⟩ b_len b_max hE g_EMPTY
end

end Z

set_option Elab.async false
set_option linter.all false
set_option maxRecDepth 100000
set_option maxHeartbeats 4000000

namespace Z
open PySem PySem.Spec PyProof.Rows L2
local macro_rules | `(tactic| walk_at "sx") => `(tactic| try simp only [and_assoc, cxOf_K, cxOf_Kn, C8.tCut, rEq, rNe, sc_ii, sc_ss, sc_bb, sc_is, sc_si, sc_bs, sc_sb, tSeq, tAsg, tPar, tPar3, tC, gName, gNil, gCons, gTup, gSub, rSetL, L2.start, tVar, tOp, tUn, rI0, rI, rU, tTest, tChain, tOrV, tAndV, tNotV, tCB, tCons, tNil, tLst, tTup, tIfS, tNext, tRet, tRetN, tDrop, tAnd, tOr, tNot, tB, tIf, tSl, tFld, sFld, putF, tNoPart, tPart, rSlL, tBM, tBM0, rAppend, rPop, rExtend, tCall, tMeth, tLstRg, tRg1, tRg2, List.map_cons, List.map_nil, List.replicate, List.length_cons, List.length_nil, List.append, List.cons_append, List.nil_append, List.append_nil, List.getElem?_cons_zero, List.getElem?_cons_succ, List.set_cons_zero, List.set_cons_succ, Option.some.injEq, exists_eq_left', exists_eq_left, exists_eq, exists_and_left, exists_const, wipe, tYes, upd_same, ↓reduceIte, decide_false, decide_true, Bool.not_true, Bool.not_false, Bool.false_eq_true, V.int.injEq, HO.lst.injEq, HO.tup.injEq, V.ref.injEq, V.str.injEq, one_inj, le_a, le_z, le_0, le_9, mem_let, mem_dig, V.bl.injEq, List.cons.injEq, and_true, true_and, reduceCtorEq, false_and, exists_false, or_false, false_or])
open PySem.W
namespace R
open PyProof.Rows
/-! ### sets of texts -/
/-- the text of an entry -/
def txt (e : Int × Value) : Str := match e.2 with
  | .str k _ => k
  | _ => Str.empty
def TxE (w : World) (e : Int × Value) : Prop := ∃ (k : Str) (u : Tok), e = (hashStr w k, Value.str k u)
/-- at most n texts, S tells which -/
def TxS (w : World) (h : Heap) (a : Addr) (S : Str → Prop) (n : Nat) : Prop := ∃ (o : Obj) (xs : Array (Int × Value)) (ep : Nat) (t : SetTable), h.get? a = some o ∧ o.ExactSet ∧ o.data = .set xs ep t ∧ (∀ e ∈ xs.toList, TxE w e) ∧
  (xs.toList.map txt).Nodup ∧ (∀ k, k ∈ xs.toList.map txt ↔ S k) ∧ xs.size ≤ n ∧ xs.size < scanBound ∧ t.fits xs.size = true ∧ Ris t.place.toList ∧ (w.params.followText "set-order" = true ∨ t.led = true)
section
variable {P : Program} {w : World} {h h' : Heap} {a : Addr} {S : Str → Prop} {n : Nat}
theorem TxS.keep (T : TxS w h a S n) (k : ∀ o, h.get? a = some o → h'.get? a = some o) : TxS w h' a S n := by
  obtain ⟨o, xs, ep, t, ho, r⟩ := T
  exact ⟨o, xs, ep, t, k o ho, r⟩
theorem TxS.imp {S' : Str → Prop} {m : Nat} (T : TxS w h a S n) (e : ∀ k, S k ↔ S' k) (hm : n ≤ m) : TxS w h a S' m := by
  obtain ⟨o, xs, ep, t, h1, h2, h3, h4, h5, h6, h7, r⟩ := T
  exact ⟨o, xs, ep, t, h1, h2, h3, h4, h5, fun k => (h6 k).trans (e k), Nat.le_trans h7 hm, r⟩
theorem tx_is {e : Int × Value} (g : TxE w e) (k : Str) : (strKind P w).is k e.2 = true ↔ txt e = k := by
  obtain ⟨k0, u, rfl⟩ := g
  show Value.isStrOf k (.str k0 u) = true ↔ k0 = k
  simp [Value.isStrOf]
theorem tx_elems {l : List (Int × Value)} (g : ∀ e ∈ l, TxE w e) : ElemsOf (strKind P w) l := by
  intro e he
  obtain ⟨k, u, rfl⟩ := g e he
  exact ⟨⟨k, strKind_is P w k u, rfl⟩, rfl⟩
theorem tx_mem {l : List (Int × Value)} (g : ∀ e ∈ l, TxE w e) (k : Str) : k ∈ l.map txt ↔ ∃ e ∈ l, (strKind P w).is k e.2 = true :=
  ⟨fun h => (List.mem_map.mp h).elim fun e ⟨he, q⟩ => ⟨e, he, (tx_is (g e he) k).mpr q⟩, fun ⟨e, he, q⟩ => List.mem_map.mpr ⟨e, he, (tx_is (g e he) k).mp q⟩⟩
end
section
variable {P : Program} {w : World} {A : Around} {E : Value → Shared → Prop} {s : Shared} {a : Addr} {S : Str → Prop} {n : Nat}
theorem tx_tail {gw : Bool → Sem Unit} (hg : ∀ (b : Bool) (s1 : Shared) (R : Unit → Shared → Prop), R () s1 → wpAny (model P w) A (gw b) R E s1) {o : Obj} {xs ys : Array (Int × Value)} {ep : Nat} {t t2 : SetTable} (ho : s.heap.get? a = some o) (hx : o.ExactSet)
    (hd : o.data = .set xs ep t) (g1 : ∀ e ∈ ys.toList, TxE w e) (d1 : (ys.toList.map txt).Nodup) (m1 : ∀ k, k ∈ ys.toList.map txt ↔ S k) (hn : ys.size ≤ n) (hz : ys.size < scanBound) (hf : t2.fits ys.size = true) (hr : Ris t2.place.toList)
    (hl : w.params.followText "set-order" = true ∨ t2.led = true) {wd : Bool} {R : Option Bool → Shared → Prop} (hR : ∀ h', Heap.SameBut a s.heap h' → TxS w h' a S n → R (some true) { s with heap := h' }) :
    wpAny (model P w) A (do
        storeSet a ys t2
        if (!wd && t2.tooFull) = true then do
            gw (relayAll t2 ys (SetTable.grown ys.size)).2.2
            storeSet a (relayAll t2 ys (SetTable.grown ys.size)).1 (relayAll t2 ys (SetTable.grown ys.size)).2.1
            pure (some true)
          else pure (some true)) R E s := by
  have st1 := store_at (es' := ys) (t' := t2) ho hd
  have but1 := Heap.SameBut.update s.heap a (Obj.putSet ys t2)
  refine wpAny_bind (wpAny_storeSet_of ho hd ?_ (fits_of_scanBound hz))
  by_cases c : (!wd && t2.tooFull) = true
  · rw [if_pos c]
    obtain ⟨rp, rf, rr, rl⟩ : _ ∧ _ ∧ _ ∧ _ := ⟨relayAll_perm t2 ys (SetTable.grown ys.size), relayAll_fits t2 ys (SetTable.grown ys.size), relayAll_ris t2 ys (SetTable.grown ys.size), relayAll_led t2 ys (SetTable.grown ys.size)⟩
    rcases hZ : relayAll t2 ys (SetTable.grown ys.size) with ⟨zs, t3, gave⟩
    rw [hZ] at rp rf rr rl
    dsimp only at rp rf rr rl ⊢
    have ez : zs.size = ys.size := by
      have := rp.length_eq
      simpa using this
    refine wpAny_bind (hg _ _ _ (wpAny_bind (wpAny_storeSet_of st1 rfl ?_ (fits_of_scanBound (ez ▸ hz)))))
    have pk := rp.map txt
    refine wpAny_pure (hR _ (but1.trans (Heap.SameBut.update _ a _)) ⟨_, zs, _, t3, store_at (es' := zs) (t' := t3) st1 rfl, hx, rfl, fun e he => g1 e (rp.mem_iff.mp he), pk.nodup_iff.mpr d1, fun k => pk.mem_iff.trans (m1 k), ez ▸ hn, ez ▸ hz, rf, rr, ?_⟩)
    rcases hl with z | z
    · exact .inl z
    · exact .inr (rl.trans z)
  · rw [if_neg c]
    exact wpAny_pure (hR _ but1 ⟨_, ys, _, t2, st1, hx, rfl, g1, d1, m1, hn, hz, hf, hr, hl⟩)
theorem tx_add {k : Str} {u : Tok} {Q : Bool → Shared → Prop} (T : TxS w s.heap a S n) (room : n + 1 < scanBound) (hQ : ∀ h' b, Heap.SameBut a s.heap h' → TxS w h' a (fun j => S j ∨ j = k) (n + 1) → Q b { s with heap := h' }) :
    wpAny (model P w) A (setAddHashed a (.str k u) ((strKind P w).hash k)) Q E s := by
  obtain ⟨o, xs, ep, t, ho, hx, hd, g, nd, hm, hn, hb, hf, hr, hl⟩ := T
  have el : ElemsOf (strKind P w) xs.toList := tx_elems g
  have sc : (Value.str k u).scannable = true := rfl
  unfold setAddHashed setAddHashedIn
  refine wpAny_holding (wpAny_bind (wpAny_setState_of ho hd hf ?_))
  dsimp only
  rw [byScan_of sc hb el, if_pos rfl]
  unfold setAddByScan
  refine wpAny_bind (wpAny_bind (wpAny_rule (wpAny_bind (wpAny_setScan_of (strKind_is P w k u) ho hd hf el ?_))))
  cases hfi : List.findIdx? (fun e => (strKind P w).is k e.2) xs.toList with
  | some j =>
    dsimp only
    obtain ⟨hj, pj, _⟩ := List.findIdx?_eq_some_iff_getElem.mp hfi
    have hk : k ∈ xs.toList.map txt := (tx_mem (P := P) g k).mpr ⟨_, List.getElem_mem hj, pj⟩
    exact wpAny_pure (wpAny_pure (hQ _ _ (Heap.SameBut.refl a s.heap) ⟨o, xs, ep, t, ho, hx, hd, g, nd, fun i => (hm i).trans ⟨.inl, fun z => z.elim id fun e => e ▸ (hm k).mp hk⟩, by omega, hb, hf, hr, hl⟩))
  | none =>
    dsimp only
    have hk : k ∉ xs.toList.map txt := fun z => by
      obtain ⟨e, he, q⟩ := (tx_mem (P := P) g k).mp z
      have := List.findIdx?_eq_none_iff.mp hfi e he
      rw [q] at this
      cases this
    have quiet : ∀ (b : Bool) {s1 : Shared} {R : Unit → Shared → Prop}, R () s1 → wpAny (model P w) A (match b with | true => rule "set.scan.the-table-gave-way" | false => pure ()) R E s1 := fun b s1 R q => by
      cases b
      · exact wpAny_pure q
      · exact wpAny_rule q
    obtain ⟨np, nf, nr, nl⟩ : _ ∧ _ ∧ _ ∧ _ := ⟨layNew_perm t xs ((strKind P w).hash k) (.str k u), layNew_fits t xs ((strKind P w).hash k) (.str k u), layNew_ris t xs ((strKind P w).hash k) (.str k u) hr, layNew_led t xs ((strKind P w).hash k) (.str k u)⟩
    rcases hZ : layNew t xs ((strKind P w).hash k) (.str k u) with ⟨ys, t1, wd, gave⟩
    rw [hZ] at np nf nr nl
    dsimp only at np nf nr nl ⊢
    rw [Array.toList_push] at np
    have pc : ys.toList.Perm ((hashStr w k, Value.str k u) :: xs.toList) := np.trans (List.perm_append_singleton _ _)
    have pk : (ys.toList.map txt).Perm (k :: xs.toList.map txt) := pc.map txt
    have g1 : ∀ e ∈ ys.toList, TxE w e := fun e he => (List.mem_cons.mp (pc.mem_iff.mp he)).elim (fun z => ⟨k, u, z⟩) (g e)
    have d1 : (ys.toList.map txt).Nodup := pk.nodup_iff.mpr (List.nodup_cons.mpr ⟨hk, nd⟩)
    have m1 : ∀ i, i ∈ ys.toList.map txt ↔ (S i ∨ i = k) := fun i => by
      rw [pk.mem_iff, List.mem_cons, hm i]
      exact Or.comm
    have ez : ys.size = xs.size + 1 := by
      have := pc.length_eq
      simpa using this
    have hb1 : ys.size < scanBound := by omega
    have hl1 : w.params.followText "set-order" = true ∨ t1.led = true := hl.imp id fun z => nl.trans z
    refine wpAny_bind (quiet _ ?_)
    split
    · refine wpAny_bind ?_
      rw [hashByValue_scannable 8 sc]
      refine wpAny_pure ?_
      refine tx_tail (n := n + 1) (S := fun i => S i ∨ i = k) ?_ ho hx hd g1 d1 m1 (by omega) hb1 ?_ ?_ ?_ fun h' sb r => (by dsimp only; exact wpAny_pure (hQ h' true sb r))
      · intro b s1 R q
        cases b <;> first | exact wpAny_pure q | exact wpAny_rule q
      · first | exact nf | (split <;> first | exact nf | exact SetTable.fits_plain_off nf)
      · first | exact nr | (split <;> exact nr)
      · first | exact hl1 | (split <;> exact hl1)
    · refine wpAny_bind (wpAny_pure ?_)
      simp only [↓reduceIte]
      refine tx_tail (n := n + 1) (S := fun i => S i ∨ i = k) ?_ ho hx hd g1 d1 m1 (by omega) hb1 nf nr hl1 fun h' sb r => (by dsimp only; exact wpAny_pure (hQ h' true sb r))
      intro b s1 R q
      cases b <;> first | exact wpAny_pure q | exact wpAny_rule q
/-- the loop of set(xs) -/
theorem tx_loop {I : Addr} {fp wr : List Addr} {G : Array GenState → Array GenState → Prop} {m : Nat} {Pv : Nat → Value → Prop} {St : Nat → Shared → Prop} {R : Result → Shared → Prop} (W : WalksS P w A.in1 I fp wr G m Pv St) (D : Addr) (hD : D ∉ fp) (ks : List Str)
    (hm : m = ks.length) (hz : ks.length + 1 < scanBound) (hv : ∀ i v, Pv i v → ∃ k u, ks[i]? = some k ∧ v = .str k u) :
    ∀ (left i : Nat) (s : Shared), m - i = left → i ≤ m → St i s → TxS w s.heap D (fun k => k ∈ ks.take i) i →
      (∀ s', Moved (D :: wr) G s s' → TxS w s'.heap D (fun k => k ∈ ks) m → R (.ok (.ret .none)) s') → codeAny (model P w) A (.builtin "set.update.loop" ⟨[.ref D, .ref I], []⟩) R s := by
  have hDw : D ∉ wr := fun z => hD (W.sub _ z)
  have up : ∀ b ∈ wr, b ∈ D :: wr := fun b z => .tail _ z
  intro left
  induction left with
  | zero =>
    intro i s hl hi st T fin
    have e : i = m := by omega
    subst e
    refine codeAny_builtin F.entry_set_update_loop ?_
    rw [Around.under_plainId F.plain_set_update_loop _]
    show wpAny _ A.in1 (pyNext (.ref I) >>= _) _ _ s
    refine wpAny_bind (W.done s _ _ st fun s' mv => ?_)
    show wpAny _ A.in1 (ret Value.none) _ _ s'
    exact wpAny_pure (fin s' (mv.mono up) ((T.keep fun o q => mv.heap D o hDw q).imp (fun k => by rw [List.take_of_length_le (by omega)]) (Nat.le_refl _)))
  | succ left ih =>
    intro i s hl hi st T fin
    have hlt : i < m := by omega
    refine codeAny_builtin F.entry_set_update_loop ?_
    rw [Around.under_plainId F.plain_set_update_loop _]
    show wpAny _ A.in1 (pyNext (.ref I) >>= _) _ _ s
    refine wpAny_bind (W.item i s _ _ hlt st fun v s1 pv st1 mv => ?_)
    obtain ⟨k, u, hk, rfl⟩ := hv i v pv
    have T1 := T.keep (h' := s1.heap) fun o q => mv.heap D o hDw q
    show wpAny _ A.in1 (holding [Value.str k u] (setAdd D (.str k u)) >>= _) _ _ s1
    refine wpAny_bind (wpAny_holding ?_)
    unfold setAdd
    refine wpAny_holding (wpAny_bind ((strKind P w).pyHash (k := k) (strKind_is P w k u) ?_))
    refine tx_add (s := { s1 with toks := s1.toks + 1 }) T1 (by omega) fun h' b sb T2 => ?_
    have T3 : TxS w h' D (fun j => j ∈ ks.take (i + 1)) (i + 1) := T2.imp (fun j => by
      rw [List.take_add_one, hk]
      simp) (Nat.le_refl _)
    refine wpAny_pure ⟨plainId_quiet F.plain_set_update_loop _, ih (i + 1) _ (by omega) hlt (W.frame _ s1 _ _ st1 (Nat.le_succ _) fun c hc o q => ?_) T3 fun s2 mv2 T4 => fin s2 (Moved.trans W.gtrans ((mv.mono up).then_heap (Nat.le_succ _) fun c o hc q => ?_) mv2) T4⟩
    · rw [sb.2 c fun z : c = D => hD (z ▸ hc)]
      exact q
    · rw [sb.2 c fun z : c = D => hc (z ▸ List.mem_cons_self)]
      exact q
end
end R

end Z

set_option Elab.async false
set_option linter.all false
set_option maxRecDepth 100000
set_option maxHeartbeats 4000000

namespace Z
open PySem PySem.Spec PyProof.Rows L2
local macro_rules | `(tactic| walk_at "sx") => `(tactic| try simp only [and_assoc, cxOf_K, cxOf_Kn, C8.tCut, rEq, rNe, sc_ii, sc_ss, sc_bb, sc_is, sc_si, sc_bs, sc_sb, tSeq, tAsg, tPar, tPar3, tC, gName, gNil, gCons, gTup, gSub, rSetL, L2.start, tVar, tOp, tUn, rI0, rI, rU, tTest, tChain, tOrV, tAndV, tNotV, tCB, tCons, tNil, tLst, tTup, tIfS, tNext, tRet, tRetN, tDrop, tAnd, tOr, tNot, tB, tIf, tSl, tFld, sFld, putF, tNoPart, tPart, rSlL, tBM, tBM0, rAppend, rPop, rExtend, tCall, tMeth, tLstRg, tRg1, tRg2, List.map_cons, List.map_nil, List.replicate, List.length_cons, List.length_nil, List.append, List.cons_append, List.nil_append, List.append_nil, List.getElem?_cons_zero, List.getElem?_cons_succ, List.set_cons_zero, List.set_cons_succ, Option.some.injEq, exists_eq_left', exists_eq_left, exists_eq, exists_and_left, exists_const, wipe, tYes, upd_same, ↓reduceIte, decide_false, decide_true, Bool.not_true, Bool.not_false, Bool.false_eq_true, V.int.injEq, HO.lst.injEq, HO.tup.injEq, V.ref.injEq, V.str.injEq, one_inj, le_a, le_z, le_0, le_9, mem_let, mem_dig, V.bl.injEq, List.cons.injEq, and_true, true_and, reduceCtorEq, false_and, exists_false, or_false, false_or])
open PySem.W
namespace R
open PyProof.Rows
section
variable {P : Program} {w : World} {A : Around} {E : Value → Shared → Prop} {s : Shared}
theorem tx_none {h : Heap} {a : Addr} {ks : List Str} (ho : h.get? a = some ({ cls := .type "set", dict := none, data := .set #[] 0 (.fresh 0 0 (!w.params.followText "set-order")) } : Obj)) : TxS w h a (fun k => k ∈ ks.take 0) 0 := by
  refine ⟨_, #[], 0, _, ho, ⟨rfl, rfl, rfl⟩, rfl, fun e he => by simp at he, by simp, fun k => by simp, Nat.le_refl _, by decide, by rfl, List.Pairwise.nil, ?_⟩
  cases w.params.followText "set-order"
  · exact .inr rfl
  · exact .inl rfl
set_option maxRecDepth 100000 in
set_option maxHeartbeats 3200000 in
/-- set(xs), xs a list of texts -/
theorem call_set_txt {l : Addr} {its : Array Value} (ks : List Str) {Q : Value → Shared → Prop} (hh : A.handled = none) (hl : s.heap.IsList l its) (hv : ∀ (i : Nat) (v : Value), its[i]? = some v → ∃ k u, ks[i]? = some k ∧ v = .str k u) (hn : its.size = ks.length)
    (hz : ks.length + 1 < scanBound) (fin : ∀ (h' : Heap) (tk : Nat), TxS w h' s.heap.objs.size (fun k => k ∈ ks) ks.length → (∀ b o, s.heap.get? b = some o → h'.get? b = some o) → Q (.ref s.heap.objs.size) { s with heap := h', toks := tk }) :
    wpAny (model P w) A (call (.type "set") [.ref l]) Q E s := by
  obtain ⟨c, tl, mro⟩ := F.called_set.mro
  have q1 := F.called_set.made
  have q2 := F.called_set.sub
  have q3 := F.called_set.notType
  have q4 := F.called_set.canCreate
  have q5 := F.typeCall_set_1 (.ref l)
  refine wpAny_call (codeAny_of_tree ?_)
  show wpAny _ _ (callAny (.type "set") _) _ _ _
  refine wpAny_pure ⟨Code.quiet_builtin _ (by decide +kernel), codeAny_builtin F.entry_type_call ?_⟩
  rw [Around.under_plain (weight_type_call_type "set" [.ref l] []) rfl]
  repeat (any_goals (first | assumption | wp_step))
  refine codeAny_mono (code_set_led1 (.ref l) (E := E) (Q₁ := fun obj t => obj = .ref s.heap.objs.size ∧ t = { s with heap := s.heap.push ({ cls := .type "set", dict := none, data := .set #[] 0 (.fresh 0 0 (!w.params.followText "set-order")) } : Obj) }) ⟨rfl, rfl⟩) fun r s1 hr => ?_
  match r, hr with
  | .error e, hr => exact hr
  | .ok .next, hr => exact hr.elim
  | .ok .brk, hr => exact hr.elim
  | .ok .cont, hr => exact hr.elim
  | .ok (.ret obj), hr =>
    obtain ⟨rfl, rfl⟩ := hr
    have aS : (s.heap.push ({ cls := .type "set", dict := none, data := .set #[] 0 (.fresh 0 0 (!w.params.followText "set-order")) } : Obj)).get? s.heap.objs.size = some ({ cls := .type "set", dict := none, data := .set #[] 0 (.fresh 0 0 (!w.params.followText "set-order")) } : Obj) := Heap.get?_push_size _ rfl
    have tS : Shared.TypeIs { s with heap := s.heap.push ({ cls := .type "set", dict := none, data := .set #[] 0 (.fresh 0 0 (!w.params.followText "set-order")) } : Obj) } (.ref s.heap.objs.size) "set" := ⟨_, aS, rfl⟩
    have q6 := F.called_set.init.lookup
    have q7 := F.called_set.init.bind (.ref s.heap.objs.size)
    repeat (any_goals (first | assumption | wp_step))
    refine codeAny_mono (codeAny_call_builtin (R := wants (fun r t => r = .none ∧ ∃ h' tk, t = { s with heap := h', toks := tk } ∧ TxS w h' s.heap.objs.size (fun k => k ∈ ks) ks.length ∧ ∀ b o, s.heap.get? b = some o → h'.get? b = some o) E) F.called_set.init.plain F.entry_set_init (check_set_init_1 tS ?_)) fun r2 s2 hr2 => ?_
    · obtain ⟨⟨oc, od, oo, os⟩, hol, hcl, nl, hdl⟩ := hl
      simp only at hcl hdl
      subst hcl
      subst hdl
      have hol' : (s.heap.push ({ cls := .type "set", dict := none, data := .set #[] 0 (.fresh 0 0 (!w.params.followText "set-order")) } : Obj)).get? l = some { cls := .type "list", dict := od, data := .seq its nl, slots := os } := Heap.get?_push_of_some _ hol
      have q8 := F.sub_list_set
      have q9 := F.sub_list_frozenset
      have q10 : (Value.type "list" == Value.type "dict") = false := by decide
      have hl1 : (s.heap.push ({ cls := .type "set", dict := none, data := .set #[] 0 (.fresh 0 0 (!w.params.followText "set-order")) } : Obj)).IsList l its := ⟨_, hol', rfl, nl, rfl⟩
      unfold Builtin.«set.__init__» noKeywords Builtin.Frozenset.updateFrom
      generalize hPI : pyIter = PI
      wp_walk
      subst hPI
      refine wpAny_pyIter_list hl1 (wpAny_bind (wpAny_runValue ?_))
      have lS : l < s.heap.objs.size := Heap.lt_size hol
      have hh3 : A.in1.in1.in1.handled = none := by simp [hh]
      have lI : l ≠ (s.heap.push ({ cls := .type "set", dict := none, data := .set #[] 0 (.fresh 0 0 (!w.params.followText "set-order")) } : Obj)).objs.size := by
        rw [Heap.size_push]
        exact Nat.ne_of_lt (.step lS)
      have dS : s.heap.objs.size ∉ [(s.heap.push ({ cls := .type "set", dict := none, data := .set #[] 0 (.fresh 0 0 (!w.params.followText "set-order")) } : Obj)).objs.size, l] := by
        rw [Heap.size_push]
        simp only [List.mem_cons, List.not_mem_nil, or_false, not_or]
        exact ⟨Nat.ne_of_lt (.refl), Nat.ne_of_gt lS⟩
      refine tx_loop ((Walks.list hh3 _ l lI its).toS) s.heap.objs.size dS ks hn hz hv (its.size - 0) 0 _ (by omega) (Nat.zero_le _) ⟨⟨_, Heap.get?_push_size _ rfl, rfl, rfl⟩, (hl1.push _)⟩ (tx_none (Heap.get?_push_of_some _ aS)) ?_
      rintro ⟨h', g', d', tk', os'⟩ mv T
      obtain rfl : g' = s.gens := mv.gens
      obtain rfl : d' = s.drawn := mv.drawn
      obtain rfl : os' = s.os := mv.os
      show wpAny _ _ _ _ _ _
      refine wpAny_pure ?_
      show wpAny _ _ (ret Value.none) _ _ _
      rw [hn] at T
      refine wpAny_pure ⟨rfl, h', tk', rfl, T, fun b o e => mv.heap b o ?_ (Heap.get?_push_of_some _ (Heap.get?_push_of_some _ e))⟩
      have lb : b < s.heap.objs.size := Heap.lt_size e
      rw [Heap.size_push]
      simp only [List.mem_cons, List.not_mem_nil, or_false, not_or]
      exact ⟨Nat.ne_of_lt lb, Nat.ne_of_lt (.step lb)⟩
    · match r2, hr2 with
      | .error e, hr2 => exact hr2
      | .ok .next, hr2 => exact hr2.elim
      | .ok .brk, hr2 => exact hr2.elim
      | .ok .cont, hr2 => exact hr2.elim
      | .ok (.ret r), hr2 =>
        obtain ⟨rfl, h', tk, rfl, T, keep⟩ := hr2
        repeat (any_goals (first | assumption | wp_step))
        exact fin _ _ T keep
end
end R

end Z

set_option Elab.async false
set_option linter.all false
set_option maxRecDepth 100000
set_option maxHeartbeats 4000000

namespace Z
open PySem PySem.Spec PyProof.Rows L2
local macro_rules | `(tactic| walk_at "sx") => `(tactic| try simp only [and_assoc, cxOf_K, cxOf_Kn, C8.tCut, rEq, rNe, sc_ii, sc_ss, sc_bb, sc_is, sc_si, sc_bs, sc_sb, tSeq, tAsg, tPar, tPar3, tC, gName, gNil, gCons, gTup, gSub, rSetL, L2.start, tVar, tOp, tUn, rI0, rI, rU, tTest, tChain, tOrV, tAndV, tNotV, tCB, tCons, tNil, tLst, tTup, tIfS, tNext, tRet, tRetN, tDrop, tAnd, tOr, tNot, tB, tIf, tSl, tFld, sFld, putF, tNoPart, tPart, rSlL, tBM, tBM0, rAppend, rPop, rExtend, tCall, tMeth, tLstRg, tRg1, tRg2, List.map_cons, List.map_nil, List.replicate, List.length_cons, List.length_nil, List.append, List.cons_append, List.nil_append, List.append_nil, List.getElem?_cons_zero, List.getElem?_cons_succ, List.set_cons_zero, List.set_cons_succ, Option.some.injEq, exists_eq_left', exists_eq_left, exists_eq, exists_and_left, exists_const, wipe, tYes, upd_same, ↓reduceIte, decide_false, decide_true, Bool.not_true, Bool.not_false, Bool.false_eq_true, V.int.injEq, HO.lst.injEq, HO.tup.injEq, V.ref.injEq, V.str.injEq, one_inj, le_a, le_z, le_0, le_9, mem_let, mem_dig, V.bl.injEq, List.cons.injEq, and_true, true_and, reduceCtorEq, false_and, exists_false, or_false, false_or])
open PySem.W
namespace R
open PyProof.Rows
theorem txts_of : ∀ {vs : List Value}, (∀ v ∈ vs, ∃ k u, v = Value.str k u) → ∃ ks : List Str, EachIs (fun v k => ∃ u, v = Value.str k u) vs ks
  | [], _ => ⟨[], .nil⟩
  | v :: vs, h => by
    obtain ⟨k, u, rfl⟩ := h v List.mem_cons_self
    obtain ⟨ks, e⟩ := txts_of fun x hx => h x (List.mem_cons_of_mem _ hx)
    exact ⟨k :: ks, .cons ⟨u, rfl⟩ e⟩
theorem each_mem_l {α β : Type} {R : α → β → Prop} : ∀ {us : List α} {bs : List β}, EachIs R us bs → ∀ b, b ∈ bs → ∃ u ∈ us, R u b
  | _, _, .nil, b, h => by cases h
  | _, _, .cons h t, b, hb => by
    rcases List.mem_cons.mp hb with rfl | hb
    · exact ⟨_, List.mem_cons_self, h⟩
    · obtain ⟨u, hu, r⟩ := each_mem_l t b hb
      exact ⟨u, List.mem_cons_of_mem _ hu, r⟩
theorem each_mem_r {α β : Type} {R : α → β → Prop} : ∀ {us : List α} {bs : List β}, EachIs R us bs → ∀ u, u ∈ us → ∃ b ∈ bs, R u b
  | _, _, .nil, b, h => by cases h
  | _, _, .cons h t, u, hu => by
    rcases List.mem_cons.mp hu with rfl | hu
    · exact ⟨_, List.mem_cons_self, h⟩
    · obtain ⟨b, hb, r⟩ := each_mem_r t u hu
      exact ⟨b, List.mem_cons_of_mem _ hb, r⟩
theorem each_at {α β : Type} {R : α → β → Prop} : ∀ {us : List α} {bs : List β} {i : Nat} {u : α} {b : β}, EachIs R us bs → us[i]? = some u → bs[i]? = some b → R u b
  | _, _, _, _, _, .nil, h, _ => by cases h
  | _, _, 0, _, _, .cons h _, e1, e2 => by
    obtain rfl := Option.some.inj e1
    obtain rfl := Option.some.inj e2
    exact h
  | _, _, i + 1, _, _, .cons _ t, e1, e2 => each_at (i := i) t e1 e2
theorem each_len {α β : Type} {R : α → β → Prop} : ∀ {us : List α} {bs : List β}, EachIs R us bs → us.length = bs.length
  | _, _, .nil => rfl
  | _, _, .cons _ t => congrArg (· + 1) (each_len t)
section
variable {P : Program} {w : World} {A : Around} {E : Value → Shared → Prop} {s : Shared}
/-- sorted(s), s a set of texts -/
theorem sorted_txt {a : Addr} {S : Str → Prop} {n : Nat} {Q : Value → Shared → Prop} (T : TxS w s.heap a S n) (hh : A.handled = none) (hu : A.units + 60 < cLine) (hz : n ≤ 1000)
    (fin : ∀ s' p (out : List Value) (c : Nat) (ys : List Str), (∀ b o, s.heap.get? b = some o → s'.heap.get? b = some o) → s'.gens = s.gens → s'.os = s.os → s.heap.objs.size ≤ p → s'.heap.get? p = some (seqObj "list" out.toArray c) →
      EachIs (fun v k => ∃ u, v = Value.str k u) out ys → (∀ k, k ∈ ys ↔ S k) → ys.length ≤ n → Q (.ref p) s') : wpAny (model P w) A (call (.builtin "sorted") [.ref a]) Q E s := by
  obtain ⟨o, xs, ep, t, ho, hx, hd, g, nd, hm, hn, hb, hf, hr, hl⟩ := T
  refine Calls.call_function_entry kind_sorted plain_sorted entry_sorted (args_sorted1 _) ?_
  unfold Builtin.«sorted»
  refine wpAny_bind (m := checkCount "sorted" 1 1 _) (wpAny_pure ?_)
  refine wpAny_bind (collect_set (A := A.in1) hh ⟨o, ho, hx.1, hd⟩ hf hb hr hl fun s1 vs k1 z1 g1 o1 pm => ?_)
  have lv : vs.length = xs.size := by
    have := pm.length_eq
    simpa using this
  obtain ⟨ks, ek⟩ := txts_of (vs := vs) fun v hv => by
    obtain ⟨e, he, rfl⟩ := List.mem_map.mp (pm.mem_iff.mp hv)
    obtain ⟨k, u, rfl⟩ := g e he
    exact ⟨k, u, rfl⟩
  have mk : ∀ k, k ∈ ks ↔ S k := fun k => by
    rw [← hm k, List.mem_map]
    constructor
    · intro hk
      obtain ⟨v, hv, u, rfl⟩ := each_mem_l ek k hk
      obtain ⟨e, he, q⟩ := List.mem_map.mp (pm.mem_iff.mp hv)
      refine ⟨e, he, ?_⟩
      unfold txt
      rw [q]
    · rintro ⟨e, he, rfl⟩
      obtain ⟨b, hb, u, q⟩ := each_mem_r ek e.2 (pm.mem_iff.mpr (List.mem_map.mpr ⟨e, he, rfl⟩))
      unfold txt
      rw [q]
      exact hb
  have lk := each_len ek
  have zl : vs.length ≤ sizeLine := Nat.le_trans (show _ ≤ 1000 by omega) (by decide)
  refine wpAny_bind (wpAny_newList ?_ zl)
  have hL : (s1.heap.push (seqObj "list" vs.toArray 0)).get? s1.heap.objs.size = some (seqObj "list" vs.toArray 0) := Heap.get?_push_size _ rfl
  have srt : Sortable (ks.map PyData.str) := .inr fun d hd => by
    obtain ⟨k, _, rfl⟩ := List.mem_map.mp hd
    exact ⟨nofun, fun xs e => nomatch e⟩
  have alk : AllAlike (ks.map PyData.str) := fun d hd d' hd' => by
    obtain ⟨k, _, rfl⟩ := List.mem_map.mp hd
    obtain ⟨k', _, rfl⟩ := List.mem_map.mp hd'
    rfl
  refine wpAny_bind (wpAny_holding (list_sort_data (enc := PyData.str) hL ek (each_mem ek fun v k _ ⟨u, e⟩ => ⟨[], by rw [e]; exact .str k u, nofun⟩) alk srt (by omega) (fun b hb => ?_) fun out h1 h2 => ?_))
  · simp only [PyData.depth]
    omega
  · obtain ⟨c, hc⟩ := sortedHeap_at (vs := vs) (out := out.toArray) hL
    have pm2 : (ks.mergeSort (dataLe false PyData.str)).Perm ks := List.mergeSort_perm ks _
    refine wpAny_pure ⟨_, rfl, fin _ s1.heap.objs.size out c (ks.mergeSort (dataLe false PyData.str)) (fun b u e => ?_) g1 o1 z1 hc h2 (fun k => pm2.mem_iff.trans (mk k)) (by rw [pm2.length_eq]; omega)⟩
    have kb := k1 b u e
    have lb : b < s1.heap.objs.size := Heap.lt_size kb
    show (sortedHeap (s1.heap.push (seqObj "list" vs.toArray 0)) s1.heap.objs.size vs out.toArray).get? b = some u
    exact (sortedHeap_old (Nat.ne_of_lt lb) (by rw [Heap.size_push]; exact .step lb)).trans (Heap.get?_push_of_some _ kb)
end
/-! ### in the layer -/
/-- a set of at most n texts -/
def TxO (w : World) (a : Addr) (S : Str → Prop) (n : Nat) : HO := .ext fun h => TxS w h a S n
def rSetX (K : PySem.W.Frag) (w : World) : List V → Hp → VK → Prop := fun vs H Q => ∃ (l : Addr) (ks : List Str), vs = [.ref l] ∧ SqL K H l (ks.map V.str) ∧ ks.length ≤ 1000 ∧ ∀ p, H p = none → Q (.ref p) (upd H p (TxO w p (fun k => k ∈ ks) ks.length))
def rSortX (w : World) : List V → Hp → VK → Prop := fun vs H Q => ∃ (a : Addr) (S : Str → Prop) (n : Nat), vs = [.ref a] ∧ H a = some (TxO w a S n) ∧ n ≤ 1000 ∧ ∀ (ys : List Str) (p : Addr), (∀ k, k ∈ ys ↔ S k) → ys.length ≤ n → H p = none → Q (.ref p) (upd H p (.lst (ys.map V.str)))
section
variable {X : Cx}
theorem txO_new {w : World} {P : Program} {H : Hp} {h : Heap} {a : Addr} {S : Str → Prop} {n : Nat} (T : TxS w h a S n) : ObjOk P w H h a (TxO w a S n) :=
  ⟨T, (let ⟨o, _, _, _, ho, _⟩ := T; ⟨o, ho⟩), fun h1 h2 p k => TxS.keep p k⟩
theorem cr_setX (hc : X.calm = true) : CallR X (.type "set") (rSetX X.K X.w) := by
  intro pins s σ H vs us Q I r h
  obtain ⟨l, ks, rfl, hs, hz, q⟩ := h
  obtain ⟨its, rv, hl, _⟩ := I.list hs
  rw [Vals.ref1 r]
  have fr : H s.heap.objs.size = none := I.hok.fresh (Nat.le_refl _)
  have e := each_of (f := V.str) (bs := ks) rv
  have len := each_len e
  refine call_set_txt (P := X.prog) (w := X.w) ks (I.ok.hd hc) hl.isList (fun i v hv => ?_) (by simpa using len) (Nat.lt_of_le_of_lt (show _ ≤ 1001 by omega) (by unfold scanBound; omega)) fun h' tk T k => ?_
  · rw [List.getElem?_toArray] at hv
    have hi : i < its.length := (List.getElem?_eq_some_iff.mp hv).1
    have hk : ks[i]? = some ks[i] := List.getElem?_eq_getElem (by omega)
    obtain ⟨u, rfl⟩ : ∃ u, v = .str ks[i] u := by
      have := each_at e hv hk
      exact this
    exact ⟨_, u, hk, rfl⟩
  · exact ⟨.ref s.heap.objs.size, upd H s.heap.objs.size (TxO X.w s.heap.objs.size (fun k => k ∈ ks) ks.length), I.laid (t' := tk) k (Nat.le_refl _) (txO_new T), rfl, q _ fr⟩
theorem cr_sortX (hc : X.calm = true) (hu : X.A.units + 64 < cLine) : CallR X (.builtin "sorted") (rSortX X.w) := by
  intro pins s σ H vs us Q I r h
  obtain ⟨a, S, n, rfl, ha, hz, q⟩ := h
  rw [Vals.ref1 r]
  refine sorted_txt (I.hok a _ ha).1 (I.ok.hd hc) (by omega) hz fun s' p out c ys k g o hp hg hi hs hl => ?_
  have fr : H p = none := I.hok.fresh hp
  have e : s' = { s with heap := s'.heap, gens := s'.gens, drawn := s'.drawn, toks := s'.toks } := by
    obtain ⟨_, _, _, _, _⟩ := s'
    obtain ⟨_, _, _, _, _⟩ := s
    cases o
    rfl
  rw [e]
  refine ⟨.ref p, upd H p (.lst (ys.map V.str)), I.call (ch := []) (Un.laid k hp fr) (I.hok.laid k hp ⟨?_, out, c, vals_of (f := V.str) (each_mem hi fun v k _ r => r), hg⟩) (by rw [g]; exact I.bare) (fun _ z => nomatch z), rfl, q ys p hs hl fr⟩
  rw [List.length_map, sizeLine_eq]
  omega
/-! ### set of a tuple of ints, its length -/
def rSetI (K : PySem.W.Frag) (w : World) : List V → Hp → VK → Prop := fun vs H Q => ∃ (l : Addr) (ns : List Int), vs = [.ref l] ∧ SqT K H l (ns.map V.int) ∧ ns.length ≤ 4000 ∧ ∀ p c, H p = none → c ≤ ns.length → (c = ns.length ↔ ns.Nodup) → Q (.ref p) (upd H p (SetO w p (fun j => decide (j ∈ ns)) c))
def rLenSet (w : World) : List V → Hp → VK → Prop := fun vs H Q => ∃ (a : Addr) (S : Int → Bool) (n : Nat), vs = [.ref a] ∧ H a = some (SetO w a S n) ∧ n ≤ 4000 ∧ Q (.int n) H
theorem nodup_sub {l m : List Int} (hl : l.Nodup) (h : ∀ x ∈ l, x ∈ m) : l.length ≤ m.length := by
  induction l generalizing m with
  | nil => exact Nat.zero_le _
  | cons x l ih =>
    obtain ⟨h1, h2⟩ := List.nodup_cons.mp hl
    have hx := h x List.mem_cons_self
    have := ih (m := m.erase x) h2 fun y hy => (List.mem_erase_of_ne (fun e : y = x => h1 (e ▸ hy))).mpr (h y (List.mem_cons_of_mem _ hy))
    rw [List.length_erase_of_mem hx] at this
    have := List.length_pos_of_mem hx
    rw [List.length_cons]
    omega
theorem card_iff {l m : List Int} (hl : l.Nodup) (h : ∀ x, x ∈ l ↔ x ∈ m) : l.length = m.length ↔ m.Nodup := by
  refine ⟨fun e => ?_, fun hm => Nat.le_antisymm (nodup_sub hl fun x hx => (h x).mp hx) (nodup_sub hm fun x hx => (h x).mpr hx)⟩

  induction m generalizing l with
  | nil => exact List.nodup_nil
  | cons x m ih =>
    by_cases hx : x ∈ m
    · have := nodup_sub (m := m) hl fun y hy => (List.mem_cons.mp ((h y).mp hy)).elim (fun e => e ▸ hx) id
      rw [List.length_cons] at e
      omega
    · have hxl : x ∈ l := (h x).mpr List.mem_cons_self
      refine List.nodup_cons.mpr ⟨hx, ih (l := l.erase x) (hl.erase x) (fun y => ?_) ?_⟩
      · rw [hl.mem_erase_iff, h y, List.mem_cons]
        exact ⟨fun ⟨a, b⟩ => b.elim (fun e => absurd e a) id, fun b => ⟨fun e => hx (e ▸ b), .inr b⟩⟩
      · rw [List.length_erase_of_mem hxl, e, List.length_cons, Nat.add_sub_cancel]
theorem cr_setI (hc : X.calm = true) : CallR X (.type "set") (rSetI X.K X.w) := by
  intro pins s σ H vs us Q I r h
  obtain ⟨l, ns, rfl, hs, hz, q⟩ := h
  obtain ⟨its, rv, hl, _⟩ := I.tuple hs
  rw [Vals.ref1 r]
  have fr : H s.heap.objs.size = none := I.hok.fresh (Nat.le_refl _)
  refine call_set_tupI (P := X.prog) (w := X.w) ns (I.ok.hd hc) hl (by simpa using RZ.intsAre_vals rv) (by unfold scanBound; omega) fun h' tk c T hc' k => ?_
  refine ⟨.ref s.heap.objs.size, upd H s.heap.objs.size (SetO X.w s.heap.objs.size (fun j => decide (j ∈ ns)) c), I.laid (t' := tk) k (Nat.le_refl _) (setO_new T), rfl, q _ c fr hc' ?_⟩
  obtain ⟨o, xs, ep, t, ho, hx, hd, g, nd, hm, hb, hf, hn, _⟩ := T
  have := card_iff (m := ns) nd fun x => by
    rw [← hm x, decide_eq_true_eq]
  rw [List.length_map, Array.length_toList, hn] at this
  exact this
theorem cr_lenSet : CallR X (.builtin "len") (rLenSet X.w) := by
  intro pins s σ H vs us Q I r h
  obtain ⟨a, S, n, rfl, ha, hz, q⟩ := h
  rw [Vals.ref1 r]
  obtain ⟨o, xs, ep, t, ho, hx, hd, g, nd, hm, hb, hf, hn, _⟩ := setO_get I ha
  exact call_len_set ho hx hd hf (by omega) ⟨.int n, H, I.tok _, ⟨_, by rw [hn]⟩, q⟩
end
end R

end Z

set_option Elab.async false
set_option linter.all false
set_option maxRecDepth 100000
set_option maxHeartbeats 4000000

namespace Z
open PySem PySem.Spec PyProof.Rows L2 Z.R
local macro_rules | `(tactic| walk_at "sx") => `(tactic| try simp only [and_assoc, cxOf_K, cxOf_Kn, C8.tCut, rEq, rNe, sc_ii, sc_ss, sc_bb, sc_is, sc_si, sc_bs, sc_sb, tSeq, tAsg, tPar, tPar3, tC, gName, gNil, gCons, gTup, gSub, rSetL, L2.start, tVar, tOp, tUn, rI0, rI, rU, tTest, tChain, tOrV, tAndV, tNotV, tCB, tCons, tNil, tLst, tTup, tIfS, tNext, tRet, tRetN, tDrop, tAnd, tOr, tNot, tB, tIf, tSl, tFld, sFld, putF, tNoPart, tPart, rSlL, tBM, tBM0, rAppend, rPop, rExtend, tCall, tMeth, tLstRg, tRg1, tRg2, List.map_cons, List.map_nil, List.replicate, List.length_cons, List.length_nil, List.append, List.cons_append, List.nil_append, List.append_nil, List.getElem?_cons_zero, List.getElem?_cons_succ, List.set_cons_zero, List.set_cons_succ, Option.some.injEq, exists_eq_left', exists_eq_left, exists_eq, exists_and_left, exists_const, wipe, tYes, upd_same, ↓reduceIte, decide_false, decide_true, Bool.not_true, Bool.not_false, Bool.false_eq_true, V.int.injEq, HO.lst.injEq, HO.tup.injEq, V.ref.injEq, V.str.injEq, one_inj, le_a, le_z, le_0, le_9, mem_let, mem_dig, V.bl.injEq, List.cons.injEq, and_true, true_and, reduceCtorEq, false_and, exists_false, or_false, false_or])
theorem srt_gen {γ : Type} {g : γ → PyData} {bs : List (V × PyData)} {l : List γ} (e : bs.map (·.2) = l.map g) : (bs.mergeSort (PySem.W.dataLe false (·.2))).map (·.2) = (l.mergeSort (PySem.W.dataLe false g)).map g := by
  have h1 := map_srt (fun b : V × PyData => b.2) id bs
  have h2 := map_srt g id l
  rw [e] at h1
  exact h1.trans h2.symm
/-- sorted(xs), xs a list of data -/
theorem sortD {K : PySem.W.Frag} {H : Hp} {Q : VK} {D : Addr} {vs : List V} {γ : Type} {g : γ → PyData} {l : List γ} (eD : SqL K H D vs) (dv : DpAll K H vs (l.map g)) (hal : PySem.W.AllAlike (l.map g)) (hs : PySem.W.Sortable (l.map g)) (hdp : ∀ c ∈ l, (g c).depth ≤ 60)
    (fin : ∀ (p : Addr) (us : List V), H p = none → DpAll K (upd H p (.lst us)) us ((l.mergeSort (PySem.W.dataLe false g)).map g) → Q (.ref p) (upd H p (.lst us))) : rSortedD K [.ref D] H Q := by
  have ez : (vs.zip (l.map g)).map (·.2) = l.map g := List.map_snd_zip (by rw [DpAll.length dv]; exact Nat.le_refl _)
  have ez1 : (vs.zip (l.map g)).map (·.1) = vs := List.map_fst_zip (by rw [DpAll.length dv]; exact Nat.le_refl _)
  have hz := all_zip dv
  refine ⟨D, vs.zip (l.map g), rfl, by rw [ez1]; exact eD, hz, by rw [ez]; exact hal, by rw [ez]; exact hs, fun b hb => ?_, fun p np => fin p _ np ?_⟩
  · have hb2 : b.2 ∈ l.map g := by rw [← ez]; exact List.mem_map.mpr ⟨b, hb, rfl⟩
    obtain ⟨c, hc, e⟩ := List.mem_map.mp hb2
    rw [← e]
    exact hdp c hc
  · rw [← srt_gen ez]
    exact DpAll.same (same_upd np) (all_of_zip fun b hb => hz b ((List.mergeSort_perm _ _).mem_iff.mp hb))
theorem alike_ints : ∀ (a b : List Nat), PySem.W.alikeAll (a.map fun i => .int (i : Nat)) (b.map fun i => .int (i : Nat)) = true
  | [], b => by cases b <;> (simp only [List.map_nil, List.map_cons]; rw [PySem.W.alikeAll])
  | i :: a, [] => by
    simp only [List.map_nil, List.map_cons]
    exact Pt.alikeAll_nil_right _
  | i :: a, j :: b => by
    simp only [List.map_cons]
    rw [PySem.W.alikeAll, alike_ints a b]
    rfl
theorem alike_dN (l : List (List Nat)) : PySem.W.AllAlike (l.map dN) := fun d hd d' hd' => by
  obtain ⟨a, _, rfl⟩ := List.mem_map.mp hd
  obtain ⟨b, _, rfl⟩ := List.mem_map.mp hd'
  unfold dN
  rw [PySem.W.alike]
  exact alike_ints a b
theorem sortable_dN {l : List (List Nat)} (h : ∀ c ∈ l, c ≠ []) : PySem.W.Sortable (l.map dN) := .inl fun d hd => by
  obtain ⟨a, ha, rfl⟩ := List.mem_map.mp hd
  match a, h a ha with
  | i :: a, _ => exact ⟨_, _, rfl⟩
theorem depth_dN (c : List Nat) : (dN c).depth ≤ 60 := by
  unfold dN
  rw [PyData.depth]
  have := Pt.depAll (fun i : Nat => PyData.int (i : Nat)) (n := 0) (ps := c) fun p hp => Nat.le_refl _
  omega
theorem alike_iN (l : List Nat) : PySem.W.AllAlike (l.map iN) := fun d hd d' hd' => by
  obtain ⟨a, _, rfl⟩ := List.mem_map.mp hd
  obtain ⟨b, _, rfl⟩ := List.mem_map.mp hd'
  rfl
theorem sortable_iN (l : List Nat) : PySem.W.Sortable (l.map iN) := .inr fun d hd => by
  obtain ⟨a, ha, rfl⟩ := List.mem_map.mp hd
  exact ⟨nofun, fun xs e => nomatch e⟩

end Z

set_option Elab.async false
set_option linter.all false
set_option maxRecDepth 100000
set_option maxHeartbeats 4000000

namespace Z
open PySem PySem.Spec PyProof.Rows L2 Z.R
local macro_rules | `(tactic| walk_at "sx") => `(tactic| try simp only [and_assoc, cxOf_K, cxOf_Kn, C8.tCut, rEq, rNe, sc_ii, sc_ss, sc_bb, sc_is, sc_si, sc_bs, sc_sb, tSeq, tAsg, tPar, tPar3, tC, gName, gNil, gCons, gTup, gSub, rSetL, L2.start, tVar, tOp, tUn, rI0, rI, rU, tTest, tChain, tOrV, tAndV, tNotV, tCB, tCons, tNil, tLst, tTup, tIfS, tNext, tRet, tRetN, tDrop, tAnd, tOr, tNot, tB, tIf, tSl, tFld, sFld, putF, tNoPart, tPart, rSlL, tBM, tBM0, rAppend, rPop, rExtend, tCall, tMeth, tLstRg, tRg1, tRg2, List.map_cons, List.map_nil, List.replicate, List.length_cons, List.length_nil, List.append, List.cons_append, List.nil_append, List.append_nil, List.getElem?_cons_zero, List.getElem?_cons_succ, List.set_cons_zero, List.set_cons_succ, Option.some.injEq, exists_eq_left', exists_eq_left, exists_eq, exists_and_left, exists_const, wipe, tYes, upd_same, ↓reduceIte, decide_false, decide_true, Bool.not_true, Bool.not_false, Bool.false_eq_true, V.int.injEq, HO.lst.injEq, HO.tup.injEq, V.ref.injEq, V.str.injEq, one_inj, le_a, le_z, le_0, le_9, mem_let, mem_dig, V.bl.injEq, List.cons.injEq, and_true, true_and, reduceCtorEq, false_and, exists_false, or_false, false_or])
theorem eqv_dE2 {d : PyData} (h : PyData.eqv d dE = true) : d = dE := by
  obtain ⟨x, rfl⟩ := eqv_dE h
  simp [PyData.eqv, PyData.eqvAll, dE] at h
  rw [h]
  rfl
theorem party_ok {d : PyData} {p : Pt Str} (h : Pt.partyP d = some p) : d = Pt.enc .str p ∧ Pt.Okc p := by
  cases e : PyData.eqv d dE with
  | true =>
    have := party_emp e
    unfold Pt.partyP at h
    have h : (if PyData.eqv d dE = true then some Pt.emp else _ : Option (Pt Str)) = some p := h
    rw [e, if_pos rfl] at h
    obtain rfl := Option.some.inj h
    refine ⟨by rw [eqv_dE2 e, dE_enc], ⟨.inl rfl, ?_⟩, ?_⟩
    · rw [Pt.dep]; omega
    · rw [Pt.cnt]; omega
  | false =>
    unfold Pt.partyP at h
    have h : (if PyData.eqv d dE = true then _ else (match Pt.fitsP 30 d with
      | some p => if Pt.cnt p ≤ 60 then some p else none
      | none => none) : Option (Pt Str)) = some p := h
    rw [e, if_neg Bool.false_ne_true] at h
    cases hf : Pt.fitsP 30 d with
    | none =>
      rw [hf] at h
      cases h
    | some q =>
      rw [hf] at h
      have h : (if Pt.cnt q ≤ 60 then some q else none) = some p := h
      by_cases c : Pt.cnt q ≤ 60
      · rw [if_pos c] at h
        obtain rfl := Option.some.inj h
        have := Pt.fits_fl 30 d _ hf
        exact ⟨Pt.fitsP_enc 30 d _ hf, ⟨.inr this.1, by omega⟩, c⟩
      · rw [if_neg c] at h
        cases h
theorem okT_plc {p : Pt Str} (h : Pt.Okc p) (s : Nat) : Pt.OkT (Pt.plc p s) := by
  refine ⟨by rw [Pt.bare_plc]; exact h.1, ?_⟩
  rw [← Pt.cnt_bare, Pt.bare_plc]
  exact h.2
theorem dep_plc {α : Type} (p : Pt α) (s : Nat) : Pt.dep (Pt.plc p s) = Pt.dep p := by rw [← Pt.dep_bare, Pt.bare_plc]
theorem cnt_plc {α : Type} (p : Pt α) (s : Nat) : Pt.cnt (Pt.plc p s) = Pt.cnt p := by rw [← Pt.cnt_bare, Pt.bare_plc]
theorem dp_strs {K : PySem.W.Frag} {H : Hp} : ∀ {l : List Str} {vs : List V}, DpAll K H vs (l.map PyData.str) → vs = l.map V.str
  | [], _, h => by
    cases h
    rfl
  | _ :: _, _, h => by
    cases h with
    | cons h1 h2 =>
      cases h1
      rw [dp_strs h2]
      rfl
def spDeeds (K : PySem.W.Frag) (C : Addr) : Sp := fun vs H Q E => ∃ (v : V) (d : PyData) (p : Pt Str), vs = [v] ∧ Dp K H v d ∧ Tm d ∧ Pt.partyP d = some p ∧ ∀ (t : Addr) (ks : List Str) H', Same H H' → (∀ k, k ∈ ks ↔ k ∈ Pt.names p) → ks.length ≤ 60 → SqT K H' t (ks.map V.str) → Q (.ref t) H'
def spWidth (K : PySem.W.Frag) (C : Addr) : Sp := fun vs H Q E => ∃ (v : V) (d : PyData), vs = [v] ∧ Dp K H v d ∧ Tm d ∧ (∀ p H', Pt.partyP d = some p → Same H H' → Q (.int ((Pt.widest (Pt.plc p 0)).length : Nat)) H') ∧ (∀ H', Pt.partyP d = none → Same H H' → E (.ref C) none H')
section
variable {P : Program} {w : World} {K : PySem.W.Frag} {mg : Str → Option Value} {base : Heap}
theorem sc_deeds_of : FnScope ["party"] ["party"] (defScope s_deeds_of) := ⟨rfl, rfl, rfl, by decide +kernel, rfl, by decide +kernel, by decide +kernel⟩
theorem ok_deeds_of {C : Addr} {f : Addr} {fd : FuncData} (F : Fun K "deeds_of" "deeds_of" s_deeds_of f fd) (c_check_party : ClX P w K mg base 73 "check_party" (spChk K C)) (c_names_in : Cl P w K mg base 32 "names_in" (spNames K 31)) (b_tuple : mg "tuple" = none) (b_set : mg "set" = none) (b_sorted : mg "sorted" = none) : FnOk P w K mg base (L2.CX P w) 74 f fd ["party"] (spDeeds K C) := by
  have nd := sc_deeds_of.nd
  refine F.okX sc_deeds_of (fun vs H Q E h => ?_) (fun cdv A outer s H vs Q E hr h => ?_)
  · obtain ⟨v, d, p, rfl, _⟩ := h
    rfl
  obtain ⟨v, d, p, rfl, hv, tm, hp, q⟩ := h
  obtain ⟨rfl, ho⟩ := party_ok hp
  refine ⟨_, (pss_cons (ps_expr (pclX c_check_party hr (by omega) (passes_call (takes_of rfl rfl rfl rfl) (fun _ _ _ _ h => h)) (pa_cons (pv 0) pa_nil)))
  (pss_one (ps_ret (pe_callTy call_tuple_of (by rfl) b_tuple (by decide +kernel) (pa_cons (pe_callB (R.cr_sortX rfl hr.units) (by rfl) b_sorted (by decide +kernel) (pa_cons (pe_callTy (R.cr_setX rfl) (by rfl) b_set (by decide +kernel) (pa_cons (pcl c_names_in hr (by omega) (pa_cons (pv 0) pa_nil)) pa_nil)) pa_nil)) pa_nil))))), ?_⟩
  walk_at "sx"
  refine ⟨v, _, rfl, hv, tm, fun H1 s1 _ => ?_, fun H1 s1 e => ?_⟩
  · refine ⟨v, p, rfl, L2.Dp.same s1 hv, ⟨ho, by have := ho.1.2; omega⟩, fun b us H2 nb s2 eb du => ?_⟩
    have e := dp_strs du
    subst e
    have hl : (Pt.names p).length ≤ 60 := by rw [Pt.names_len]; exact ho.2
    refine ⟨b, Pt.names p, rfl, SqL.of eb, by omega, fun p3 n3 => ⟨p3, _, _, rfl, upd_same, by omega, fun ys p4 hm hl2 n4 => ?_⟩⟩
    exact ⟨p4, rfl, _, .inl ⟨SqL.of upd_same, fun l nl => q l ys _ (s1.trans (s2.trans ((same_upd n3).trans ((same_upd n4).trans (same_upd nl))))) hm (by omega) (SqT.of upd_same)⟩⟩
  · rw [hp] at e
    cases e
theorem sc_width : FnScope ["party"] ["party"] (defScope s_width) := ⟨rfl, rfl, rfl, by decide +kernel, rfl, by decide +kernel, by decide +kernel⟩
theorem ok_width {C : Addr} {f : Addr} {fd : FuncData} (F : Fun K "width" "width" s_width f fd) (c_check_party : ClX P w K mg base 73 "check_party" (spChk K C)) (c_placed : Cl P w K mg base 32 "placed" (spPlaced K 31)) (c_widest_of : Cl P w K mg base 32 "widest_of" (spWidest K 31)) (b_len : mg "len" = none) : FnOk P w K mg base (L2.CX P w) 74 f fd ["party"] (spWidth K C) := by
  have nd := sc_width.nd
  refine F.okX sc_width (fun vs H Q E h => ?_) (fun cdv A outer s H vs Q E hr h => ?_)
  · obtain ⟨v, d, rfl, _⟩ := h
    rfl
  obtain ⟨v, d, rfl, hv, tm, q, e⟩ := h
  refine ⟨_, (pss_cons (ps_expr (pclX c_check_party hr (by omega) (passes_call (takes_of rfl rfl rfl rfl) (fun _ _ _ _ h => h)) (pa_cons (pv 0) pa_nil)))
  (pss_one (ps_ret (pe_callB (call_lenK (K := K) rfl) (by rfl) b_len (by decide +kernel) (pa_cons (pcl c_widest_of hr (by omega) (pa_cons (pe_ix (ix_tupK (K := K) rfl) (pcl c_placed hr (by omega) (pa_cons (pv 0) (pa_cons pe_int pa_nil))) pe_int (fun _ _ => rfl)) pa_nil)) pa_nil))))), ?_⟩
  walk_at "sx"
  refine ⟨v, d, rfl, hv, tm, fun H1 s1 hp => ?_, fun H1 s1 hp => e H1 hp s1⟩
  obtain ⟨p, hp⟩ := Option.isSome_iff_exists.mp hp
  obtain ⟨rfl, ho⟩ := party_ok hp
  refine ⟨v, p, 0, rfl, L2.Dp.same s1 hv, ho, by have := ho.1.2; omega, fun t u H2 s2 st du => ?_⟩
  refine ixt st rfl ⟨u, _, rfl, du, ⟨okT_plc ho 0, by have := ho.1.2; rw [dep_plc]; omega⟩, fun b us H3 nb s3 eb dw => ⟨_, len_l eb rfl, ?_⟩⟩
  rw [DpAll.length dw, List.length_map]
  exact q p H3 hp ((s1.trans s2).trans s3)
def spCover (K : PySem.W.Frag) (C : Addr) : Sp := fun vs H Q E => ∃ (v : V) (d : PyData), vs = [v] ∧ Dp K H v d ∧ Tm d ∧ (∀ p (cs : List (List Nat)) (ws : List Nat) v' H', Pt.partyP d = some p → cs.Perm (Pt.chains (Pt.plc p 0)) → ws.Perm (Pt.widest (Pt.plc p 0)) → Same H H' → Dp K H' v' (.tuple [.tuple (cs.map dN), dN ws]) → Q v' H') ∧
  (∀ H', Pt.partyP d = none → Same H H' → E (.ref C) none H')
theorem sc_cover : FnScope ["party", "tree"] ["party"] (defScope s_cover) := ⟨rfl, rfl, rfl, by decide +kernel, rfl, by decide +kernel, by decide +kernel⟩
theorem ok_cover {C : Addr} {f : Addr} {fd : FuncData} (F : Fun K "cover" "cover" s_cover f fd) (c_check_party : ClX P w K mg base 73 "check_party" (spChk K C)) (c_placed : Cl P w K mg base 32 "placed" (spPlaced K 31)) (c_chains_of : Cl P w K mg base 32 "chains_of" (spChains K 31)) (c_widest_of : Cl P w K mg base 32 "widest_of" (spWidest K 31)) (b_tuple : mg "tuple" = none) (b_sorted : mg "sorted" = none) : FnOk P w K mg base (L2.CX P w) 74 f fd ["party"] (spCover K C) := by
  have nd := sc_cover.nd
  refine F.okX sc_cover (fun vs H Q E h => ?_) (fun cdv A outer s H vs Q E hr h => ?_)
  · obtain ⟨v, d, rfl, _⟩ := h
    rfl
  obtain ⟨v, d, rfl, hv, tm, q, e⟩ := h
  refine ⟨_, (pss_cons (ps_expr (pclX c_check_party hr (by omega) (passes_call (takes_of rfl rfl rfl rfl) (fun _ _ _ _ h => h)) (pa_cons (pv 0) pa_nil)))
  (pss_cons (ps_set (i := 1) nd rfl (.inl rfl) (pe_ix (ix_tupK (K := K) rfl) (pcl c_placed hr (by omega) (pa_cons (pv 0) (pa_cons pe_int pa_nil))) pe_int (fun _ _ => rfl)))
  (pss_one (ps_ret (pe_tup (pa_cons (pe_callTy call_tuple_of (by rfl) b_tuple (by decide +kernel) (pa_cons (pe_callB (R.cr_sortedD hr.units) (by rfl) b_sorted (by decide +kernel) (pa_cons (pcl c_chains_of hr (by omega) (pa_cons (pv 1) pa_nil)) pa_nil)) pa_nil)) (pa_cons (pe_callTy call_tuple_of (by rfl) b_tuple (by decide +kernel) (pa_cons (pe_callB (R.cr_sortedD hr.units) (by rfl) b_sorted (by decide +kernel) (pa_cons (pcl c_widest_of hr (by omega) (pa_cons (pv 1) pa_nil)) pa_nil)) pa_nil)) pa_nil))))))), ?_⟩
  walk_at "sx"
  refine ⟨v, d, rfl, hv, tm, fun H1 s1 hp => ?_, fun H1 s1 hp => e H1 hp s1⟩
  obtain ⟨p, hp⟩ := Option.isSome_iff_exists.mp hp
  obtain ⟨rfl, ho⟩ := party_ok hp
  have hd : Pt.dep (Pt.plc p 0) < 31 := by have := ho.1.2; rw [dep_plc]; omega
  refine ⟨v, p, 0, rfl, L2.Dp.same s1 hv, ho, by have := ho.1.2; omega, fun t u H2 s2 st du => ?_⟩
  refine ixt st rfl ⟨u, _, rfl, du, ⟨okT_plc ho 0, hd⟩, fun b us H3 nb s3 eb dw => ?_⟩
  refine sortD (SqL.of eb) dw (alike_dN _) (sortable_dN fun c hc => ((Pt.chs p 0).pw c hc).1) (fun c _ => depth_dN c) fun p4 us4 n4 d4 => ?_
  have f4 := same_upd (o := .lst us4) n4
  refine ⟨p4, rfl, _, .inl ⟨SqL.of upd_same, fun l nl => ?_⟩⟩
  have f5 := same_upd (o := .tup us4) nl
  have g1 := s3.trans (f4.trans f5)
  have eT := upd_same (H := upd H3 p4 (.lst us4)) (a := l) (o := .tup us4)
  have d5 := DpAll.same f5 d4
  generalize upd (upd H3 p4 (.lst us4)) l (.tup us4) = G at g1 eT d5 ⊢
  refine ⟨u, _, rfl, L2.Dp.same g1 du, ⟨okT_plc ho 0, hd⟩, fun b2 us5 H6 nb5 s6 eb5 dw5 => ?_⟩
  refine sortD (SqL.of eb5) dw5 (alike_iN _) (sortable_iN _) (fun c _ => Nat.zero_le _) fun p7 us7 n7 d7 => ?_
  have f7 := same_upd (o := .lst us7) n7
  refine ⟨p7, rfl, _, .inl ⟨SqL.of upd_same, fun l2 nl2 => ⟨by decide, fun p9 n9 => ?_⟩⟩⟩
  have f8 := same_upd (o := .tup us7) nl2
  have f9 := same_upd (o := .tup [.ref l, .ref l2]) n9
  refine q p _ _ (.ref p9) _ hp (List.mergeSort_perm _ (PySem.W.dataLe false dN)) (List.mergeSort_perm _ (PySem.W.dataLe false iN)) ((s1.trans s2).trans (g1.trans (s6.trans (f7.trans (f8.trans f9))))) ?_
  exact .tup (SqT.of upd_same) (.cons (.tup (tup_same (s6.trans (f7.trans (f8.trans f9))) (SqT.of eT)) (DpAll.same (s6.trans (f7.trans (f8.trans f9))) d5)) (.cons (.tup (tup_same f9 (SqT.of upd_same)) (DpAll.same (f8.trans f9) d7)) .nil))
end

end Z

set_option Elab.async false
set_option linter.all false
set_option maxRecDepth 100000
set_option maxHeartbeats 4000000

namespace Z
open PySem PySem.Spec PyProof.Rows L2 Z.R
local macro_rules | `(tactic| walk_at "sx") => `(tactic| try simp only [and_assoc, cxOf_K, cxOf_Kn, C8.tCut, rEq, rNe, sc_ii, sc_ss, sc_bb, sc_is, sc_si, sc_bs, sc_sb, tSeq, tAsg, tPar, tPar3, tC, gName, gNil, gCons, gTup, gSub, rSetL, L2.start, tVar, tOp, tUn, rI0, rI, rU, tTest, tChain, tOrV, tAndV, tNotV, tCB, tCons, tNil, tLst, tTup, tIfS, tNext, tRet, tRetN, tDrop, tAnd, tOr, tNot, tB, tIf, tSl, tFld, sFld, putF, tNoPart, tPart, rSlL, tBM, tBM0, rAppend, rPop, rExtend, tCall, tMeth, tLstRg, tRg1, tRg2, List.map_cons, List.map_nil, List.replicate, List.length_cons, List.length_nil, List.append, List.cons_append, List.nil_append, List.append_nil, List.getElem?_cons_zero, List.getElem?_cons_succ, List.set_cons_zero, List.set_cons_succ, Option.some.injEq, exists_eq_left', exists_eq_left, exists_eq, exists_and_left, exists_const, wipe, tYes, upd_same, ↓reduceIte, decide_false, decide_true, Bool.not_true, Bool.not_false, Bool.false_eq_true, V.int.injEq, HO.lst.injEq, HO.tup.injEq, V.ref.injEq, V.str.injEq, one_inj, le_a, le_z, le_0, le_9, mem_let, mem_dig, V.bl.injEq, List.cons.injEq, and_true, true_and, reduceCtorEq, false_and, exists_false, or_false, false_or])
/-! ### places -/
def plN (n : Nat) : PyData → Option Nat
  | .int i => if 0 ≤ i ∧ i < (n : Int) then some i.toNat else none
  | _ => none
/-- the unlike places below n that a value tells -/
def plL (n : Nat) : PyData → Option (List Nat)
  | .tuple ds => match Pt.mapO (plN n) ds with
    | some l => if l.Nodup then some l else none
    | none => none
  | _ => none
theorem plN_ok {n : Nat} {d : PyData} {i : Nat} (h : plN n d = some i) : d = .int (i : Nat) ∧ i < n := by
  unfold plN at h
  split at h
  · split at h
    · rename_i z hz
      obtain rfl := Option.some.inj h
      exact ⟨by rw [show ((z.toNat : Nat) : Int) = z by omega], by omega⟩
    · cases h
  · cases h
theorem plN_map {n : Nat} : ∀ {ds : List PyData} {l : List Nat}, Pt.mapO (plN n) ds = some l → ds = l.map (fun i => .int (i : Nat)) ∧ ∀ i ∈ l, i < n
  | [], l, h => by
    rw [Pt.mapO] at h
    obtain rfl := Option.some.inj h
    exact ⟨rfl, nofun⟩
  | d :: ds, l, h => by
    rw [Pt.mapO] at h
    cases e1 : plN n d with
    | none =>
      rw [e1] at h
      cases h
    | some i =>
      rw [e1] at h
      cases e2 : Pt.mapO (plN n) ds with
      | none =>
        rw [e2] at h
        cases h
      | some m =>
        rw [e2] at h
        obtain rfl := Option.some.inj h
        obtain ⟨h1, h2⟩ := plN_map e2
        obtain ⟨h3, h4⟩ := plN_ok e1
        refine ⟨by rw [h3, h1]; rfl, fun j hj => ?_⟩
        rcases List.mem_cons.mp hj with rfl | hj
        · exact h4
        · exact h2 j hj
theorem plL_ok {n : Nat} {d : PyData} {l : List Nat} (h : plL n d = some l) : d = dN l ∧ (∀ i ∈ l, i < n) ∧ l.Nodup := by
  unfold plL at h
  split at h
  · split at h
    · rename_i ds m hm
      split at h
      · rename_i hn
        obtain rfl := Option.some.inj h
        obtain ⟨h1, h2⟩ := plN_map hm
        exact ⟨by rw [h1]; rfl, h2, hn⟩
      · cases h
    · cases h
  · cases h
theorem plL_tup {n : Nat} {ds : List PyData} : plL n (.tuple ds) = match Pt.mapO (plN n) ds with
    | some l => if l.Nodup then some l else none
    | none => none := rfl
theorem plL_not {n : Nat} {d : PyData} (h : isTup d = false) : plL n d = none := by
  cases d with
  | tuple ds => cases h
  | _ => rfl
def spAreP (K : PySem.W.Frag) : Sp := fun vs H Q _ => ∃ (v u : V) (p : Pt Str) (d : PyData), vs = [v, u] ∧ Dp K H v (Pt.enc .str p) ∧ Pt.Okc p ∧ Dp K H u d ∧ Tm d ∧ ∀ H', Same H H' → Q (.bl (plL (Pt.cnt p) d).isSome) H'
section
variable {P : Program} {w : World} {K : PySem.W.Frag} {mg : Str → Option Value} {base : Heap}
theorem sc_are_places : FnScope ["party", "value", "count", "place"] ["party", "value"] (defScope s_are_places) := ⟨rfl, rfl, rfl, by decide +kernel, rfl, by decide +kernel, by decide +kernel⟩
theorem ok_are_places {f : Addr} {fd : FuncData} (F : Fun K "are_places" "are_places" s_are_places f fd) (c_count_of : Cl P w K mg base 40 "count_of" (spCount K 31)) (c_is_whole : Cl P w K mg base 1 "is_whole" (spWhole K)) (b_isinstance : mg "isinstance" = none) (b_tuple : mg "tuple" = none) (b_all : mg "all" = none) (b_len : mg "len" = none) (b_set : mg "set" = none) {aE : Addr} (hE : ∀ H, SqT K H aE [.str "empty"]) (g_EMPTY : GV mg "EMPTY" (.ref aE)) : FnOk P w K mg base CX0 41 f fd ["party", "value"] (spAreP K) := by
  have nd := sc_are_places.nd
  refine F.ok sc_are_places (fun vs H Q E h => ?_) (fun cdv A outer s H vs Q E hr h => ?_)
  · obtain ⟨v, u, p, d, rfl, _⟩ := h
    rfl
  obtain ⟨v, u, p, d, rfl, hv, ho, hu, tm, q⟩ := h
  refine ⟨_, (pss_cons (ps_set (i := 2) nd rfl (.inr rfl) (pcl c_count_of hr (by omega) (pa_cons (pv 0) pa_nil)))
  (pss_cons (ps_if (PW.pt (pw_or (pt_not (pt_val (pe_callB (call_isK (K := K) rfl) (by rfl) b_isinstance (by decide +kernel) (pa_cons (pv 1) (pa_cons (pe_bltn (v := .ty "tuple") (by rfl) b_tuple (by decide +kernel) rfl) pa_nil))))) (pw_or1 (pt_not (pt_val (pe_callB (cr_allK (K := K) rfl rfl) (by rfl) b_all (by decide +kernel) (pa_cons (pe_lc (own := [("place", 3)]) rfl nd (pi_tup (pv 1)) (blkOk_by (N := ["party", "value", "count", "place"]) (sc := defScope s_are_places) (by decide +kernel)) (fun _ _ _ _ _ => (pg_name (i := 3) nd rfl (.inl rfl))) (fun _ _ _ _ _ => pts_nil) (fun _ _ _ _ _ => (pe_and (pcl c_is_whole hr (by omega) (pa_cons (pv 3) pa_nil)) (pe_one (pe_chain op_le op_lt pe_int (pv 3) (pv 2)))))) pa_nil))))))) (pss_one (ps_ret pe_bl)) pss_nil)
  (pss_one (ps_ret (pe_cmpR op_eq (pe_callB R.cr_lenSet (by rfl) b_len (by decide +kernel) (pa_cons (pe_callTy (R.cr_setI rfl) (by rfl) b_set (by decide +kernel) (pa_cons (pv 1) pa_nil)) pa_nil)) (pe_callB (call_lenK (K := K) rfl) (by rfl) b_len (by decide +kernel) (pa_cons (pv 1) pa_nil)) (nomark _)))))), ?_⟩
  walk_at "sx"
  refine ⟨v, p, rfl, hv, ⟨ho.1, by have := ho.1.2; omega⟩, fun v' H1 s1 dk => ?_⟩
  cases dk
  have hu1 := L2.Dp.same s1 hu
  refine isi_tup hu1 ⟨_, rfl, ?_⟩
  cases htb : isTup d with
  | false =>
    refine iteT ?_
    have := q H1 s1
    rw [plL_not htb] at this
    exact this
  | true =>
  obtain ⟨ds, rfl⟩ : ∃ ds, d = .tuple ds := by
    cases d with
    | tuple ds => exact ⟨ds, rfl⟩
    | _ => cases htb
  obtain ⟨t, us, rfl, hs, ha⟩ := dp_tup hu1
  have hul := DpAll.length ha
  obtain ⟨hl, tmd⟩ : ds.length ≤ 1000 ∧ ∀ d ∈ ds, Tm d := by
    cases tm with
    | tup _ l h => exact ⟨l, h⟩
  have hq : ∀ H', Same H1 H' → ∀ b : Bool, (plL (Pt.cnt p) (.tuple ds)).isSome = b → Q (.bl b) H' := fun H' sm b e => e ▸ q H' (s1.trans sm)
  refine iteF (lc_vt rfl hs (by omega) (ds.map fun d => .bool (plN (Pt.cnt p) d).isSome) (by rw [List.length_map, hul]) (fun d hd => by
    obtain ⟨e, _, rfl⟩ := List.mem_map.mp hd
    exact .bl _) ?_ ?_)
  · intro i x d hx hd H' R sm hR
    obtain ⟨e, he, hxe⟩ := DpAll.at ha hx
    rw [List.getElem?_map, he] at hd
    obtain rfl := Option.some.inj hd
    walk_at "sx"
    refine ⟨x, e, rfl, L2.Dp.same sm hxe, ?_⟩
    have hR' := fun b (h : (plN (Pt.cnt p) e).isSome = b) => hR (.bl b) H' (.refl _) (h ▸ .bl _)
    cases e with
    | int z =>
      cases hxe
      refine ⟨_, rfl, iteT ⟨z, rfl, ite2 (fun c1 => ⟨z, rfl, hR' _ ?_⟩) (fun c1 => hR' false ?_)⟩⟩
      · rw [decide_eq_true_eq] at c1
        unfold plN
        by_cases c2 : z < (Pt.cnt p : Int)
        · simp [c1, c2]
        · simp [c2]
      · rw [decide_eq_true_eq] at c1
        unfold plN
        simp [c1]
    | _ => exact ⟨_, rfl, iteF (hR' false rfl)⟩
  intro D H2 vs nD s2 eD dv
  have e := dp_bools dv
  subst e
  refine ⟨D, ds.map fun d => (plN (Pt.cnt p) d).isSome, rfl, SqL.of eD, _, rfl, ?_⟩
  rw [List.all_map]
  cases hall : ds.all (id ∘ fun d => (plN (Pt.cnt p) d).isSome) with
  | false =>
    refine iteT (hq _ s2 false ?_)
    rw [plL_tup, mapO_none hall]
    rfl
  | true =>
  obtain ⟨l, hm⟩ := mapO_ex hall
  have el := (plN_map hm).1
  subst el
  have e := dp_ints (g := fun i : Nat => (i : Int)) ha
  subst e
  refine iteF ⟨t, l.map fun i : Nat => (i : Int), rfl, tup_same s2 hs, ?_, fun p3 c n3 hc1 hc2 => ⟨p3, _, c, rfl, upd_same, ?_, _, len_t (tup_same (same_upd n3) (tup_same s2 hs)) rfl, rfl, hq _ (s2.trans (same_upd n3)) _ ?_⟩⟩
  · rw [List.length_map] at hl ⊢
    omega
  · rw [List.length_map] at hl hc1
    omega
  · rw [plL_tup, hm]
    have hn : (l.map fun i : Nat => (i : Int)).Nodup ↔ l.Nodup := by
      unfold List.Nodup
      rw [List.pairwise_map]
      exact ⟨fun h => h.imp fun hne e => hne (by rw [e]), fun h => h.imp fun hne e => hne (by omega)⟩
    rw [hn, List.length_map] at hc2
    have e : decide (V.int (c : Int) = V.int (((l.map fun i : Nat => (i : Int)).map V.int).length : Nat)) = decide l.Nodup := by
      rw [Bool.eq_iff_iff, decide_eq_true_eq, decide_eq_true_eq, ← hc2, List.length_map, List.length_map, V.int.injEq]
      omega
    rw [e]
    by_cases c3 : l.Nodup <;> simp [c3]
end

end Z

set_option Elab.async false
set_option linter.all false
set_option maxRecDepth 100000
set_option maxHeartbeats 4000000

namespace Z
open PySem PySem.Spec PyProof.Rows L2
local macro_rules | `(tactic| walk_at "sx") => `(tactic| try simp only [and_assoc, cxOf_K, cxOf_Kn, C8.tCut, rEq, rNe, sc_ii, sc_ss, sc_bb, sc_is, sc_si, sc_bs, sc_sb, tSeq, tAsg, tPar, tPar3, tC, gName, gNil, gCons, gTup, gSub, rSetL, L2.start, tVar, tOp, tUn, rI0, rI, rU, tTest, tChain, tOrV, tAndV, tNotV, tCB, tCons, tNil, tLst, tTup, tIfS, tNext, tRet, tRetN, tDrop, tAnd, tOr, tNot, tB, tIf, tSl, tFld, sFld, putF, tNoPart, tPart, rSlL, tBM, tBM0, rAppend, rPop, rExtend, tCall, tMeth, tLstRg, tRg1, tRg2, List.map_cons, List.map_nil, List.replicate, List.length_cons, List.length_nil, List.append, List.cons_append, List.nil_append, List.append_nil, List.getElem?_cons_zero, List.getElem?_cons_succ, List.set_cons_zero, List.set_cons_succ, Option.some.injEq, exists_eq_left', exists_eq_left, exists_eq, exists_and_left, exists_const, wipe, tYes, upd_same, ↓reduceIte, decide_false, decide_true, Bool.not_true, Bool.not_false, Bool.false_eq_true, V.int.injEq, HO.lst.injEq, HO.tup.injEq, V.ref.injEq, V.str.injEq, one_inj, le_a, le_z, le_0, le_9, mem_let, mem_dig, V.bl.injEq, List.cons.injEq, and_true, true_and, reduceCtorEq, false_and, exists_false, or_false, false_or])
open PySem.W
namespace R
open PyProof.Rows
/-! ### zip of two tuples, one name as the target: the pair that was handed out may live on -/
/-- the zip's own record -/
def ZAt (h : Heap) (z TI TO : Addr) (f : Value) (b : Bool) : Prop := h.get? z = some { cls := .type "zip", data := .fields #[f, .bool b, .bool false, .ref TI, .ref TO] }
def ZOut (f : Value) : Prop := f = .none ∨ ∃ T : Addr, f = rawInt T
section
variable {prog : Program} {w : World} {A : Around} {E : Value → Shared → Prop} {s : Shared}
theorem zp_free {z TI TO : Addr} {f : Value} {b : Bool} {Q : Bool → Shared → Prop} (hz : ZAt s.heap z TI TO f b) (hf : ZOut f) (yes : Q true s) (no : ∀ h', ZAt h' z TI TO f true → Heap.SameBut z s.heap h' → Q false { s with heap := h' }) :
    wpAny (model prog w) A (Builtin.SmallTypes.ownedTupleIsFree (.ref z)) Q E s := by
  unfold Builtin.SmallTypes.ownedTupleIsFree
  refine wpAny_bind (wpAny_field hz rfl (x := f) rfl ?_)
  rcases hf with rfl | ⟨T, rfl⟩
  · exact wpAny_pure yes
  · show wpAny _ _ (loadIfAlive (Int.toNat (T : Int)) >>= _) _ _ _
    rw [Int.toNat_natCast]
    refine wpAny_bind ?_
    cases ho : s.heap.get? T with
    | none =>
      have q : wpAny (model prog w) A (loadIfAlive T) (fun r t => r = none ∧ t = s) E s := fun _ _ _ => ⟨ho, rfl⟩
      refine thn q ?_
      rintro r t ⟨rfl, rfl⟩
      exact wpAny_pure yes
    | some o =>
      refine kdx_alive ho ?_
      show wpAny _ _ (field (.ref z) 1 >>= _) _ _ _
      refine wpAny_bind (wpAny_field hz rfl (x := .bool b) rfl ?_)
      cases b with
      | true => exact wpAny_pure (no s.heap hz (Heap.SameBut.refl z s.heap))
      | false => exact wpAny_bind (wpAny_setField_rec hz (by simp) fun h' hz' sb => wpAny_pure (no h' hz' sb))
theorem zp_next {z TI TO i1 i2 l1 l2 : Addr} {k1 k2 : Nat} {xs ys : Array Value} {x y a b f : Value} {fl : Bool} {Q : Value → Shared → Prop} (D : ZipApart z TI TO i1 i2 l1 l2) (hz : ZAt s.heap z TI TO f fl) (hf : ZOut f) (hTI : IsPair s.heap TI (.ref i1) (.ref i2)) (hTO : IsPair s.heap TO a b)
    (h1 : s.heap.IsTupleIter i1 l1 k1) (h2 : s.heap.IsTupleIter i2 l2 k2) (hl1 : s.heap.IsTuple l1 xs) (hl2 : s.heap.IsTuple l2 ys) (hx : xs[k1]? = some x) (hy : ys[k2]? = some y)
    (hQ : ∀ h' f' fl', ZOut f' → ZAt h' z TI TO f' fl' → (∃ a b, IsPair h' TO a b) → h'.IsTupleIter i1 l1 (k1 + 1) → h'.IsTupleIter i2 l2 (k2 + 1) → IsPair h' s.heap.objs.size x y →
      (∀ c o, c ≠ z → c ≠ TO → c ≠ i1 → c ≠ i2 → s.heap.get? c = some o → h'.get? c = some o) → Q (.ref s.heap.objs.size) { s with heap := h' }) :
    wpAny (model prog w) A (Builtin.«zip.__next__» ⟨[.ref z], []⟩) (fun fin s' => ∃ v, fin = .done (.ret v) ∧ Q v s') E s := by
  show wpAny _ _ (field (.ref z) 2 >>= _) _ _ _
  refine wpAny_bind (wpAny_field hz rfl (x := .bool false) rfl ?_)
  show wpAny _ _ (field (.ref z) 3 >>= _) _ _ _
  refine wpAny_bind (wpAny_field hz rfl (x := .ref TI) rfl (wpAny_bind (wpAny_seqItems hTI rfl ?_)))
  show wpAny _ _ (Builtin.SmallTypes.ownedTupleIsFree (.ref z) >>= _) _ _ _
  refine wpAny_bind (zp_free hz hf ?_ fun g0 hz0 sb0 => ?_)
  · simp only [if_true]
    refine wpAny_bind (wpAny_rule (wpAny_bind (wpAny_field hz rfl (x := .ref TO) rfl (wpAny_bind (wpAny_setField_rec hz (by simp) fun g1 z1 b1 => ?_)))))
    replace z1 : ZAt g1 z TI TO .ellipsis fl := z1
    refine wpAny_bind ?_
    simp only [List.zipIdx_cons, List.zipIdx_nil, List.forIn_cons, List.forIn_nil]
    refine wpAny_bind (wpAny_bind (wpAny_onRaise ?_))
    show wpAny _ _ (Builtin.SmallTypes.nextOf (.ref i1) >>= _) _ _ _
    refine wpAny_bind (RZ.nextOf_tuple_item (h1.extBut b1.extBut D.i1z) (hl1.extBut b1.extBut D.l1z) hx fun g2 n2 b2 => wpAny_pure ?_)
    have o2 : IsPair g2 TO a b := b2.extBut _ _ D.TOi1 (b1.extBut _ _ D.TOz hTO)
    refine wpAny_bind (wpAny_seqItems o2 rfl (wpAny_bind (wpAny_updateSeq_pair o2 fun g3 o3 b3 => ?_)))
    replace o3 : IsPair g3 TO x b := o3
    refine wpAny_bind (wpAny_letGo (wpAny_pure (wpAny_bind (wpAny_bind (wpAny_onRaise ?_)))))
    show wpAny _ _ (Builtin.SmallTypes.nextOf (.ref i2) >>= _) _ _ _
    have m2 := ((h2.extBut b1.extBut D.i2z).extBut b2.extBut D.i12.symm).extBut b3.extBut D.TOi2.symm
    have p2 := ((hl2.extBut b1.extBut D.l2z).extBut b2.extBut D.l2i1).extBut b3.extBut D.l2TO
    refine wpAny_bind (RZ.nextOf_tuple_item m2 p2 hy fun g4 n4 b4 => wpAny_pure ?_)
    have o4 : IsPair g4 TO x b := b4.extBut _ _ D.TOi2 o3
    refine wpAny_bind (wpAny_seqItems o4 rfl (wpAny_bind (wpAny_updateSeq_pair o4 fun g5 o5 b5 => ?_)))
    replace o5 : IsPair g5 TO x y := o5
    refine wpAny_bind (wpAny_letGo (wpAny_pure (wpAny_pure (wpAny_bind (wpAny_seqItems o5 rfl (wpAny_bind (wpAny_newTuple ?_)))))))
    have esz : g5.objs.size = s.heap.objs.size := by rw [b5.1, b4.1, b3.1, b2.1, b1.1]
    have z5 : ZAt g5 z TI TO .ellipsis fl := b5.extBut _ _ D.TOz.symm (b4.extBut _ _ D.i2z.symm (b3.extBut _ _ D.TOz.symm (b2.extBut _ _ D.i1z.symm z1)))
    have keep5 : ∀ c o, c ≠ z → c ≠ TO → c ≠ i1 → c ≠ i2 → s.heap.get? c = some o → g5.get? c = some o := fun c o q1 q2 q3 q4 e => b5.extBut _ _ q2 (b4.extBut _ _ q4 (b3.extBut _ _ q2 (b2.extBut _ _ q3 (b1.extBut _ _ q1 e))))
    have a5 : g5.IsTupleIter i1 l1 (k1 + 1) := ((n2.extBut b3.extBut D.TOi1.symm).extBut b4.extBut D.i12).extBut b5.extBut D.TOi1.symm
    have c5 : g5.IsTupleIter i2 l2 (k2 + 1) := n4.extBut b5.extBut D.TOi2.symm
    have zlt : z < g5.objs.size := Heap.lt_size z5
    show wpAny _ _ (Builtin.SmallTypes.ownedTupleHandOut (.ref z) (.ref g5.objs.size) >>= _) _ _ _
    refine wpAny_bind ?_
    unfold Builtin.SmallTypes.ownedTupleHandOut
    have z6 : ZAt (g5.push { cls := .type "tuple", data := .seq #[x, y] }) z TI TO .ellipsis fl := Heap.get?_push_of_some _ z5
    refine wpAny_bind (wpAny_setField_rec z6 (by simp) fun g7 z7 b7 => ?_)
    replace z7 : ZAt g7 z TI TO (rawInt g5.objs.size) fl := z7
    refine wpAny_setField_rec z7 (by simp) fun g8 z8 b8 => ?_
    replace z8 : ZAt g8 z TI TO (rawInt g5.objs.size) false := z8
    have up : ∀ c o, c ≠ z → g5.get? c = some o → g8.get? c = some o := fun c o q e => b8.extBut _ _ q (b7.extBut _ _ q (Heap.get?_push_of_some _ e))
    have t8 : IsPair g8 g5.objs.size x y := b8.extBut _ _ (Nat.ne_of_gt zlt) (b7.extBut _ _ (Nat.ne_of_gt zlt) (Heap.get?_push_size _ rfl))
    rw [esz] at z8 t8
    refine wpAny_pure ⟨_, rfl, ?_⟩
    show Q (.ref g5.objs.size) _
    rw [esz]
    exact hQ g8 _ _ (.inr ⟨_, rfl⟩) z8 ⟨_, _, up _ _ D.TOz o5⟩ (a5.at fun o e => up _ o D.i1z e) (c5.at fun o e => up _ o D.i2z e) t8 fun c o q1 q2 q3 q4 e => up c o q1 (keep5 c o q1 q2 q3 q4 e)
  · simp only [Bool.false_eq_true, if_false]
    refine wpAny_bind ?_
    rw [← Array.forIn_toList]
    simp only [List.forIn_cons, List.forIn_nil]
    have keep0 := sb0.extBut
    refine wpAny_bind (wpAny_bind (wpAny_holding ?_))
    show wpAny _ _ (Builtin.SmallTypes.nextOf (.ref i1) >>= _) _ _ _
    refine wpAny_bind (RZ.nextOf_tuple_item (h1.extBut keep0 D.i1z) (hl1.extBut keep0 D.l1z) hx fun g2 n2 b2 => wpAny_pure (wpAny_pure ?_))
    refine wpAny_bind (wpAny_bind (wpAny_holding ?_))
    show wpAny _ _ (Builtin.SmallTypes.nextOf (.ref i2) >>= _) _ _ _
    refine wpAny_bind (RZ.nextOf_tuple_item ((h2.extBut keep0 D.i2z).extBut b2.extBut D.i12.symm) ((hl2.extBut keep0 D.l2z).extBut b2.extBut D.l2i1) hy fun g3 n3 b3 => wpAny_pure (wpAny_pure (wpAny_pure ?_)))
    show wpAny _ _ (newTuple [x, y] >>= _) _ _ _
    refine wpAny_bind (wpAny_newTuple ?_)
    have esz : g3.objs.size = s.heap.objs.size := by rw [b3.1, b2.1, sb0.1]
    have z3 : ZAt g3 z TI TO f true := b3.extBut _ _ D.i2z.symm (b2.extBut _ _ D.i1z.symm hz0)
    have up : ∀ c o, g3.get? c = some o → (g3.push { cls := .type "tuple", data := .seq #[x, y] }).get? c = some o := fun c o e => Heap.get?_push_of_some _ e
    have t3 : IsPair (g3.push { cls := .type "tuple", data := .seq #[x, y] }) s.heap.objs.size x y := by
      rw [← esz]
      exact Heap.get?_push_size _ rfl
    refine wpAny_pure ⟨_, rfl, ?_⟩
    show Q (.ref g3.objs.size) _
    rw [esz]
    exact hQ _ f true hf (up _ _ z3) ⟨a, b, up _ _ (b3.extBut _ _ D.TOi2 (b2.extBut _ _ D.TOi1 (keep0 _ _ D.TOz hTO)))⟩ ((n2.extBut b3.extBut D.i12).at fun o e => up _ o e) (n3.at fun o e => up _ o e) t3
      fun c o q1 q2 q3 q4 e => up c o (b3.extBut _ _ q4 (b2.extBut _ _ q3 (keep0 _ _ q1 e)))
theorem zp_stop {z TI TO i1 i2 l1 l2 : Addr} {k1 k2 : Nat} {xs ys : Array Value} {a b f : Value} {fl : Bool} {Q : Fin → Shared → Prop} (hh : A.handled = none) (D : ZipApart z TI TO i1 i2 l1 l2) (hz : ZAt s.heap z TI TO f fl) (hf : ZOut f) (hTI : IsPair s.heap TI (.ref i1) (.ref i2)) (hTO : IsPair s.heap TO a b)
    (h1 : s.heap.IsTupleIter i1 l1 k1) (h2 : s.heap.IsTupleIter i2 l2 k2) (hl1 : s.heap.IsTuple l1 xs) (hl2 : s.heap.IsTuple l2 ys) (over : xs[k1]? = none ∨ ys[k2]? = none)
    (hE : ∀ h' e, (∀ c o, c ≠ z → c ≠ TO → c ≠ i1 → c ≠ i2 → s.heap.get? c = some o → h'.get? c = some o) → (∃ o, h'.get? e = some o ∧ o.cls = .type "StopIteration") → E (.ref e) { s with heap := h' }) :
    wpAny (model prog w) A (Builtin.«zip.__next__» ⟨[.ref z], []⟩) Q E s := by
  show wpAny _ _ (field (.ref z) 2 >>= _) _ _ _
  refine wpAny_bind (wpAny_field hz rfl (x := .bool false) rfl ?_)
  show wpAny _ _ (field (.ref z) 3 >>= _) _ _ _
  refine wpAny_bind (wpAny_field hz rfl (x := .ref TI) rfl (wpAny_bind (wpAny_seqItems hTI rfl ?_)))
  show wpAny _ _ (Builtin.SmallTypes.ownedTupleIsFree (.ref z) >>= _) _ _ _
  refine wpAny_bind (zp_free hz hf ?_ fun g0 hz0 sb0 => ?_)
  · simp only [if_true]
    refine wpAny_bind (wpAny_rule (wpAny_bind (wpAny_field hz rfl (x := .ref TO) rfl (wpAny_bind (wpAny_setField_rec hz (by simp) fun g1 z1 b1 => ?_)))))
    replace z1 : ZAt g1 z TI TO .ellipsis fl := z1
    refine wpAny_bind ?_
    simp only [List.zipIdx_cons, List.zipIdx_nil, List.forIn_cons, List.forIn_nil]
    refine wpAny_bind (wpAny_bind (wpAny_onRaise ?_))
    show wpAny _ _ (Builtin.SmallTypes.nextOf (.ref i1) >>= _) _ _ _
    cases hx : xs[k1]? with
    | none =>
      refine wpAny_bind (RZ.nextOf_tuple_end hh (h1.extBut b1.extBut D.i1z) (hl1.extBut b1.extBut D.l1z) hx fun g2 e b2 he => ?_)
      obtain ⟨oe, e1, e2⟩ := he
      have z2 : ZAt g2 z TI TO .ellipsis fl := b2 _ _ D.i1z.symm z1
      have ne : e ≠ z := fun q => by
        subst q
        rw [z2] at e1
        cases e1
        simp at e2
      exact wpAny_setField_rec z2 (by simp) fun g3 _ b3 => hE g3 e (fun c o q1 _ q3 _ k => b3.extBut _ _ q1 (b2 _ _ q3 (b1.extBut _ _ q1 k))) ⟨oe, b3.extBut _ _ ne e1, e2⟩
    | some x =>
      have hy : ys[k2]? = none := over.elim (fun h => by rw [hx] at h; cases h) id
      refine wpAny_bind (RZ.nextOf_tuple_item (h1.extBut b1.extBut D.i1z) (hl1.extBut b1.extBut D.l1z) hx fun g2 n2 b2 => wpAny_pure ?_)
      have o2 : IsPair g2 TO a b := b2.extBut _ _ D.TOi1 (b1.extBut _ _ D.TOz hTO)
      refine wpAny_bind (wpAny_seqItems o2 rfl (wpAny_bind (wpAny_updateSeq_pair o2 fun g3 o3 b3 => ?_)))
      refine wpAny_bind (wpAny_letGo (wpAny_pure (wpAny_bind (wpAny_bind (wpAny_onRaise ?_)))))
      show wpAny _ _ (Builtin.SmallTypes.nextOf (.ref i2) >>= _) _ _ _
      have m2 := ((h2.extBut b1.extBut D.i2z).extBut b2.extBut D.i12.symm).extBut b3.extBut D.TOi2.symm
      have p2 := ((hl2.extBut b1.extBut D.l2z).extBut b2.extBut D.l2i1).extBut b3.extBut D.l2TO
      refine wpAny_bind (RZ.nextOf_tuple_end hh m2 p2 hy fun g4 e b4 he => ?_)
      obtain ⟨oe, e1, e2⟩ := he
      have z4 : ZAt g4 z TI TO .ellipsis fl := b4 _ _ D.i2z.symm (b3.extBut _ _ D.TOz.symm (b2.extBut _ _ D.i1z.symm z1))
      have ne : e ≠ z := fun q => by
        subst q
        rw [z4] at e1
        cases e1
        simp at e2
      exact wpAny_setField_rec z4 (by simp) fun g5 _ b5 => hE g5 e (fun c o q1 q2 q3 q4 k => b5.extBut _ _ q1 (b4 _ _ q4 (b3.extBut _ _ q2 (b2.extBut _ _ q3 (b1.extBut _ _ q1 k))))) ⟨oe, b5.extBut _ _ ne e1, e2⟩
  · simp only [Bool.false_eq_true, if_false]
    refine wpAny_bind ?_
    rw [← Array.forIn_toList]
    simp only [List.forIn_cons, List.forIn_nil]
    have keep0 := sb0.extBut
    refine wpAny_bind (wpAny_bind (wpAny_holding ?_))
    show wpAny _ _ (Builtin.SmallTypes.nextOf (.ref i1) >>= _) _ _ _
    cases hx : xs[k1]? with
    | none => exact wpAny_bind (RZ.nextOf_tuple_end hh (h1.extBut keep0 D.i1z) (hl1.extBut keep0 D.l1z) hx fun g2 e b2 he => hE g2 e (fun c o q1 _ q3 _ k => b2 _ _ q3 (keep0 _ _ q1 k)) he)
    | some x =>
      have hy : ys[k2]? = none := over.elim (fun h => by rw [hx] at h; cases h) id
      refine wpAny_bind (RZ.nextOf_tuple_item (h1.extBut keep0 D.i1z) (hl1.extBut keep0 D.l1z) hx fun g2 n2 b2 => wpAny_pure (wpAny_pure ?_))
      refine wpAny_bind (wpAny_bind (wpAny_holding ?_))
      show wpAny _ _ (Builtin.SmallTypes.nextOf (.ref i2) >>= _) _ _ _
      exact wpAny_bind (RZ.nextOf_tuple_end hh ((h2.extBut keep0 D.i2z).extBut b2.extBut D.i12.symm) ((hl2.extBut keep0 D.l2z).extBut b2.extBut D.l2i1) hy fun g4 e b4 he => hE g4 e (fun c o q1 _ q3 q4 k => b4 _ _ q4 (b2.extBut _ _ q3 (keep0 _ _ q1 k))) he)
end
end R

end Z

set_option Elab.async false
set_option linter.all false
set_option maxRecDepth 100000
set_option maxHeartbeats 4000000

namespace Z
open PySem PySem.Spec PyProof.Rows L2
local macro_rules | `(tactic| walk_at "sx") => `(tactic| try simp only [and_assoc, cxOf_K, cxOf_Kn, C8.tCut, rEq, rNe, sc_ii, sc_ss, sc_bb, sc_is, sc_si, sc_bs, sc_sb, tSeq, tAsg, tPar, tPar3, tC, gName, gNil, gCons, gTup, gSub, rSetL, L2.start, tVar, tOp, tUn, rI0, rI, rU, tTest, tChain, tOrV, tAndV, tNotV, tCB, tCons, tNil, tLst, tTup, tIfS, tNext, tRet, tRetN, tDrop, tAnd, tOr, tNot, tB, tIf, tSl, tFld, sFld, putF, tNoPart, tPart, rSlL, tBM, tBM0, rAppend, rPop, rExtend, tCall, tMeth, tLstRg, tRg1, tRg2, List.map_cons, List.map_nil, List.replicate, List.length_cons, List.length_nil, List.append, List.cons_append, List.nil_append, List.append_nil, List.getElem?_cons_zero, List.getElem?_cons_succ, List.set_cons_zero, List.set_cons_succ, Option.some.injEq, exists_eq_left', exists_eq_left, exists_eq, exists_and_left, exists_const, wipe, tYes, upd_same, ↓reduceIte, decide_false, decide_true, Bool.not_true, Bool.not_false, Bool.false_eq_true, V.int.injEq, HO.lst.injEq, HO.tup.injEq, V.ref.injEq, V.str.injEq, one_inj, le_a, le_z, le_0, le_9, mem_let, mem_dig, V.bl.injEq, List.cons.injEq, and_true, true_and, reduceCtorEq, false_and, exists_false, or_false, false_or])
open PySem.W
namespace R
open PyProof.Rows
section
variable {prog : Program} {w : World} {A : Around} {E : Value → Shared → Prop} {s : Shared}
theorem pyNext_zp {z TI TO i1 i2 l1 l2 : Addr} {k1 k2 : Nat} {xs ys : Array Value} {x y a b f : Value} {fl : Bool} {Q : Option Value → Shared → Prop} (D : ZipApart z TI TO i1 i2 l1 l2) (hz : ZAt s.heap z TI TO f fl) (hf : ZOut f) (hTI : IsPair s.heap TI (.ref i1) (.ref i2)) (hTO : IsPair s.heap TO a b)
    (h1 : s.heap.IsTupleIter i1 l1 k1) (h2 : s.heap.IsTupleIter i2 l2 k2) (hl1 : s.heap.IsTuple l1 xs) (hl2 : s.heap.IsTuple l2 ys) (hx : xs[k1]? = some x) (hy : ys[k2]? = some y)
    (hQ : ∀ h' f' fl', ZOut f' → ZAt h' z TI TO f' fl' → (∃ a b, IsPair h' TO a b) → h'.IsTupleIter i1 l1 (k1 + 1) → h'.IsTupleIter i2 l2 (k2 + 1) → IsPair h' s.heap.objs.size x y →
      (∀ c o, c ≠ z → c ≠ TO → c ≠ i1 → c ≠ i2 → s.heap.get? c = some o → h'.get? c = some o) → Q (some (.ref s.heap.objs.size)) { s with heap := h' }) : wpAny (model prog w) A (pyNext (.ref z)) Q E s := by
  have ty : s.TypeIs (.ref z) "zip" := ⟨_, hz, rfl⟩
  unfold pyNext
  refine wpAny_bind (wpAny_attempt (wpAny_callSpecial?_slot (name := Str.ofString "__next__") ty F.slot_zip_next (wpAny_call_entry F.slot_zip_next ty F.entry_zip_next ?_ (F.args_zip_next_1 _))))
  exact zp_next D hz hf hTI hTO h1 h2 hl1 hl2 hx hy fun h' f' fl' q1 q2 q3 q4 q5 q6 q7 => wpAny_pure (hQ h' f' fl' q1 q2 q3 q4 q5 q6 q7)
theorem pyNext_zp_stop {z TI TO i1 i2 l1 l2 : Addr} {k1 k2 : Nat} {xs ys : Array Value} {a b f : Value} {fl : Bool} {Q : Option Value → Shared → Prop} (hh : A.handled = none) (D : ZipApart z TI TO i1 i2 l1 l2) (hz : ZAt s.heap z TI TO f fl) (hf : ZOut f) (hTI : IsPair s.heap TI (.ref i1) (.ref i2))
    (hTO : IsPair s.heap TO a b) (h1 : s.heap.IsTupleIter i1 l1 k1) (h2 : s.heap.IsTupleIter i2 l2 k2) (hl1 : s.heap.IsTuple l1 xs) (hl2 : s.heap.IsTuple l2 ys) (over : xs[k1]? = none ∨ ys[k2]? = none)
    (hQ : ∀ h', (∀ c o, c ≠ z → c ≠ TO → c ≠ i1 → c ≠ i2 → s.heap.get? c = some o → h'.get? c = some o) → Q none { s with heap := h' }) : wpAny (model prog w) A (pyNext (.ref z)) Q E s := by
  have ty : s.TypeIs (.ref z) "zip" := ⟨_, hz, rfl⟩
  unfold pyNext
  refine wpAny_bind (wpAny_attempt (wpAny_callSpecial?_slot (name := Str.ofString "__next__") ty F.slot_zip_next (wpAny_call_entry F.slot_zip_next ty F.entry_zip_next ?_ (F.args_zip_next_1 _))))
  refine zp_stop hh D hz hf hTI hTO h1 h2 hl1 hl2 over fun h' e keep ⟨o, ho, hc⟩ => ?_
  exact wpAny_bind (wpAny_isInstance (T := "StopIteration") (b := true) ⟨o, ho, hc⟩ isSubtype_stop (wpAny_pure (hQ _ keep)))
end
theorem turn_zipN {P : Program} {w : World} {K : PySem.W.Frag} {x : Str} {tpos : Pos} {a b z TI TO i1 i2 : Addr} (D : ZipApart z TI TO i1 i2 a b) :
    Turn P w K (.Name x tpos) (RZ.ItzT K a b) [z, TI, TO, i1, i2] z (fun i h => (∃ f fl, ZOut f ∧ ZAt h z TI TO f fl) ∧ IsPair h TI (.ref i1) (.ref i2) ∧ (∃ x y, IsPair h TO x y) ∧ h.IsTupleIter i1 a i ∧ h.IsTupleIter i2 b i) where
  mem := by simp
  obj := fun i h ⟨⟨f, fl, _, hz⟩, hTI, ⟨x, y, hTO⟩, ⟨o1, e1, _, d1⟩, ⟨o2, e2, _, d2⟩⟩ c hc => by
    simp only [List.mem_cons, List.not_mem_nil, or_false] at hc
    rcases hc with rfl | rfl | rfl | rfl | rfl
    · exact ⟨_, hz, nofun⟩
    · exact ⟨_, hTI, nofun⟩
    · exact ⟨_, hTO, nofun⟩
    · exact ⟨o1, e1, fun v q => by rw [d1] at q; cases q⟩
    · exact ⟨o2, e2, fun v q => by rw [d2] at q; cases q⟩
  keep := fun i h h' ⟨⟨f, fl, hf, hz⟩, hTI, ⟨x, y, hTO⟩, h1, h2⟩ k => ⟨⟨f, fl, hf, k z (by simp) _ hz⟩, k TI (by simp) _ hTI, ⟨x, y, k TO (by simp) _ hTO⟩, h1.at fun o q => k i1 (by simp) o q, h2.at fun o q => k i2 (by simp) o q⟩
  item := by
    intro X eP ew eK hc i pins s σ H E I free ⟨⟨f, fl, hf, hz⟩, hTI, ⟨x0, y0, hTO⟩, h1, h2⟩ ⟨xs, ys, x, y, qx, qy, hx, hy⟩
    subst eP ew eK
    obtain ⟨us, ru, pu, _⟩ := I.tuple qx
    obtain ⟨ws, rw', pw', _⟩ := I.tuple qy
    obtain ⟨u, hu, ru1⟩ := ru.get hx
    obtain ⟨u2, hu2, ru2⟩ := rw'.get hy
    refine pyNext_zp D hz hf hTI hTO h1 h2 pu pw' (x := u) (y := u2) (by simpa using hu) (by simpa using hu2) fun h' f' fl' q1 q2 q3 q4 q5 q6 q7 => ?_
    refine ⟨_, rfl, wpAny_pure ?_⟩
    have new : ObjOk X.prog X.w (upd H s.heap.objs.size (.tup [x, y])) h' s.heap.objs.size (.tup [x, y]) := ⟨by show 2 ≤ sizeLine; decide, [u, u2], .cons ru1 (.cons ru2 .nil), ⟨_, q6, rfl, _, rfl⟩⟩
    have fr : H s.heap.objs.size = none := I.hok.fresh (Nat.le_refl _)
    have out : ∀ c, c ∉ [z, TI, TO, i1, i2] → c ≠ z ∧ c ≠ TO ∧ c ≠ i1 ∧ c ≠ i2 := fun c hc => by
      simp only [List.mem_cons, List.not_mem_nil, or_false, not_or] at hc
      exact ⟨hc.1, hc.2.2.1, hc.2.2.2.1, hc.2.2.2.2⟩
    have I1 : Inv X pins σ (upd H s.heap.objs.size (.tup [x, y])) { s with heap := h' } :=
      I.turnedNew (t' := s.toks) (ch := [z, TI, TO, i1, i2]) (fun c o hb q => q7 c o (out c hb).1 (out c hb).2.1 (out c hb).2.2.1 (out c hb).2.2.2 q) free (Nat.le_refl _) new
    refine ⟨.ref s.heap.objs.size, _, I1, rfl, ⟨_, x, y, rfl, fr, rfl, fun l hl => by rw [I.tuple_inj hl qx]; exact hx, fun l hl => by rw [I.tuple_inj hl qy]; exact hy⟩, ⟨⟨f', fl', q1, q2⟩, q7 _ _ D.TIz D.TITO D.TIi1 D.TIi2 hTI, q3, q4, q5⟩, fun c hcm => ?_⟩
    have hn := (free c hcm).1
    have lt : c < s.heap.objs.size := by
      simp only [List.mem_cons, List.not_mem_nil, or_false] at hcm
      rcases hcm with rfl | rfl | rfl | rfl | rfl
      · exact Heap.lt_size hz
      · exact Heap.lt_size hTI
      · exact Heap.lt_size hTO
      · exact Heap.lt_size h1.choose_spec.1
      · exact Heap.lt_size h2.choose_spec.1
    rw [upd_ne (Nat.ne_of_lt lt)]
    exact hn
  done := by
    intro X eP ew eK hc i pins s σ H E I free ⟨⟨f, fl, hf, hz⟩, hTI, ⟨x0, y0, hTO⟩, h1, h2⟩ ⟨xs, ys, qx, qy, hend⟩
    subst eP ew eK
    obtain ⟨us, ru, pu, _⟩ := I.tuple qx
    obtain ⟨ws, rw', pw', _⟩ := I.tuple qy
    have l1 := ru.length
    have l2 := rw'.length
    have over : us.toArray[i]? = none ∨ ws.toArray[i]? = none := hend.imp (fun q => by simp; omega) (fun q => by simp; omega)
    refine pyNext_zp_stop (I.ok.hd hc) D hz hf hTI hTO h1 h2 pu pw' over fun h' keep => ⟨rfl, I.turnedL (t' := s.toks) (ch := [z, TI, TO, i1, i2]) (fun c o hb q => ?_) free⟩
    simp only [List.mem_cons, List.not_mem_nil, or_false, not_or] at hb
    exact keep c o hb.1 hb.2.2.1 hb.2.2.2.1 hb.2.2.2.2 q
  self := fun A i s Q E ⟨⟨f, fl, hf, hz⟩, _⟩ h => by
    have ty : s.TypeIs (.ref z) "zip" := ⟨_, hz, rfl⟩
    refine wpAny_pyIter_slot ty F.slot_zip_iter (wpAny_call_entry F.slot_zip_iter ty F.entry_zip_iter ?_ (F.args_zip_iter_1 _))
    show wpAny _ _ (ret (.ref z)) _ _ s
    exact wpAny_pure ⟨_, rfl, "zip", _, ty, F.slot_zip_next.lookup, h⟩
/-- zip(t, u) of tuples, one name as the target -/
def iZipN (K : PySem.W.Frag) (ta : TA) : TI := fun σ H R => ta σ H fun vs H1 => ∃ a b xs ys, vs = [.ref a, .ref b] ∧ SqT K H1 a xs ∧ SqT K H1 b ys ∧ R (RZ.ItzT K a b) H1
theorem pi_zipN {X : Cx} {e e2 : Expr} {ta : TA} {x : Str} {p pos tpos : Pos} (hg : Gl X "zip") (hm : X.mg "zip" = none) (ha : PA X [e, e2] ta) (hs : starEach [e, e2] X.env = (false, eval e X.env) :: starEach [e2] X.env := by rfl)
    (hpl : (backTo pos (starEach [e2] X.env)).any (·.1) = false := by rfl) : PI X (.Name x tpos) (.Call (.Name "zip" p) [e, e2] [] pos) (iZipN X.K ta) := by
  refine ⟨fun pins s σ H R I h => ?_⟩
  refine Call_ (ld_blt I hg hm PyProof.Rows.boot_zip (PyProof.Rows.callWith_type1 (thn (ha.run pos pins s σ H _ I h) fun us s1 ⟨vs, H1, I1, r1, q1⟩ => ?_) hs hpl))
  obtain ⟨a, b, xs, ys, rfl, qx, qy, q⟩ := q1
  cases r1 with
  | cons r rr =>
    cases rr with
    | cons r' rr =>
      cases rr
      cases r
      cases r'
      obtain ⟨us, ru, pu, _⟩ := I1.tuple qx
      obtain ⟨ws, rw', pw', _⟩ := I1.tuple qy
      have lt1 : a < s1.heap.objs.size := by
        obtain ⟨o, ho, _⟩ := id pu
        exact Heap.lt_size ho
      have lt2 : b < s1.heap.objs.size := by
        obtain ⟨o, ho, _⟩ := id pw'
        exact Heap.lt_size ho
      refine RZ.call_zipT (show s1.heap.IsTuple a us.toArray from pu) (show s1.heap.IsTuple b ws.toArray from pw') fun h' hz hTI hTO h1 h2 hsz hk => wpAny_pyIter_zip hz ?_
      have I2 : Inv X pins σ H1 { s1 with heap := h' } := I1.kept (t' := s1.toks) hk
      refine ⟨s1.heap.objs.size + 4, [s1.heap.objs.size + 4, s1.heap.objs.size + 2, s1.heap.objs.size + 3, s1.heap.objs.size, s1.heap.objs.size + 1], _, _, H1, rfl, I2, turn_zipN (PySem.W.ktu_apart s1.heap.objs.size a b lt1 lt2), ⟨⟨.none, false, .inl rfl, hz⟩, hTI, ⟨_, _, hTO⟩, h1, h2⟩, fun c hcm => ?_, q⟩
      have le : s1.heap.objs.size ≤ c := by
        simp only [List.mem_cons, List.not_mem_nil, or_false] at hcm
        rcases hcm with rfl | rfl | rfl | rfl | rfl
        · exact Nat.le_add_right _ _
        · exact Nat.le_add_right _ _
        · exact Nat.le_add_right _ _
        · exact Nat.le_refl _
        · exact Nat.le_add_right _ _
      exact I1.fpOk le (I1.hok.fresh le)
theorem walk_zipN {K : PySem.W.Frag} {a b : Addr} {xs ys : List V} {n : Nat} (hn : n = min xs.length ys.length) : Walk (RZ.ItzT K a b) n (fun H => SqT K H a xs ∧ SqT K H b ys) (YPair (fun i => xs[i]?) (fun i => ys[i]?)) := by
  subst hn
  refine ⟨fun i H hi q => ⟨xs, ys, xs[i]'(by omega), ys[i]'(by omega), q.1, q.2, List.getElem?_eq_getElem _, List.getElem?_eq_getElem _⟩, fun H q => ⟨xs, ys, q.1, q.2, by omega⟩, fun i H v H' _ q y => ?_⟩
  obtain ⟨T, x, z, h1, h2, h3, h4, h5⟩ := y
  exact ⟨T, x, z, h1, h2, h3, h4 xs q.1, h5 ys q.2⟩
end R

end Z

set_option Elab.async false
set_option linter.all false
set_option maxRecDepth 100000
set_option maxHeartbeats 4000000

namespace Z
open PySem PySem.Spec PyProof.Rows L2 Z.R
local macro_rules | `(tactic| walk_at "sx") => `(tactic| try simp only [and_assoc, cxOf_K, cxOf_Kn, C8.tCut, rEq, rNe, sc_ii, sc_ss, sc_bb, sc_is, sc_si, sc_bs, sc_sb, tSeq, tAsg, tPar, tPar3, tC, gName, gNil, gCons, gTup, gSub, rSetL, L2.start, tVar, tOp, tUn, rI0, rI, rU, tTest, tChain, tOrV, tAndV, tNotV, tCB, tCons, tNil, tLst, tTup, tIfS, tNext, tRet, tRetN, tDrop, tAnd, tOr, tNot, tB, tIf, tSl, tFld, sFld, putF, tNoPart, tPart, rSlL, tBM, tBM0, rAppend, rPop, rExtend, tCall, tMeth, tLstRg, tRg1, tRg2, List.map_cons, List.map_nil, List.replicate, List.length_cons, List.length_nil, List.append, List.cons_append, List.nil_append, List.append_nil, List.getElem?_cons_zero, List.getElem?_cons_succ, List.set_cons_zero, List.set_cons_succ, Option.some.injEq, exists_eq_left', exists_eq_left, exists_eq, exists_and_left, exists_const, wipe, tYes, upd_same, ↓reduceIte, decide_false, decide_true, Bool.not_true, Bool.not_false, Bool.false_eq_true, V.int.injEq, HO.lst.injEq, HO.tup.injEq, V.ref.injEq, V.str.injEq, one_inj, le_a, le_z, le_0, le_9, mem_let, mem_dig, V.bl.injEq, List.cons.injEq, and_true, true_and, reduceCtorEq, false_and, exists_false, or_false, false_or])
/-- a dict of the pairs P -/
def AhAt (H : Hp) (a : Addr) (P : List (Nat × Nat)) : Prop := ∃ kvs : List (List Key × V), H a = some (.dT kvs) ∧ ∀ i j : Nat, (valV kvs [.inl (i : Int), .inl (j : Int)]).isSome = decide ((i, j) ∈ P)
theorem AhAt.same {H H' : Hp} {a : Addr} {P : List (Nat × Nat)} (f : Same H H') (h : AhAt H a P) : AhAt H' a P := by
  obtain ⟨kvs, e, q⟩ := h
  exact ⟨kvs, f _ _ e, q⟩
/-- the pair (i, j), asked for -/
theorem AhAt.get {H : Hp} {a b : Addr} {P : List (Nat × Nat)} {i j : Nat} (h : AhAt H a P) (hb : H b = some (.tup [vN i, vN j])) : ∃ o, DGet H a (.ref b) o ∧ o.isSome = decide ((i, j) ∈ P) := by
  obtain ⟨kvs, e, q⟩ := h
  exact ⟨_, DGet.t (k := [.inl (i : Int), .inl (j : Int)]) e hb, q i j⟩
def chainB (P : List (Nat × Nat)) (l : List Nat) : Bool := (l.zip (l.drop 1)).all fun x => decide (x ∈ P)
def looseB (P : List (Nat × Nat)) (l : List Nat) : Bool := !(l.flatMap fun i => l.map fun j => decide ((i, j) ∈ P)).any id
def spAhead (K : PySem.W.Frag) : Sp := fun vs H Q _ => ∃ (v : V) (p : Pt Str), vs = [v] ∧ Dp K H v (Pt.enc .str p) ∧ Pt.Okc p ∧ ∀ a H', H a = none → Same H H' → AhAt H' a (Pt.told p 0) → Q (.ref a) H'
def spChain (K : PySem.W.Frag) : Sp := fun vs H Q _ => ∃ (a : Addr) (v : V) (P : List (Nat × Nat)) (l : List Nat), vs = [.ref a, v] ∧ AhAt H a P ∧ Dp K H v (dN l) ∧ l.length ≤ 1000 ∧ ∀ H', Same H H' → Q (.bl (chainB P l)) H'
def spLoose (K : PySem.W.Frag) : Sp := fun vs H Q _ => ∃ (a : Addr) (v : V) (P : List (Nat × Nat)) (l : List Nat), vs = [.ref a, v] ∧ AhAt H a P ∧ Dp K H v (dN l) ∧ l.length ≤ 1000 ∧ ∀ H', Same H H' → Q (.bl (looseB P l)) H'
/-- [test for one in places for two in places] -/
theorem lc2_grid {K : PySem.W.Frag} {H : Hp} {Q : VK} {a0 : Option V} {t : Addr} {l : List Nat} {te : TE} {f : Nat → Nat → Bool} (hs : SqT K H t (l.map vN)) (hl : l.length ≤ 1000)
    (step : ∀ (i j : Nat) (H' : Hp) (R : VK), Same H H' → (∀ H'', Same H' H'' → R (.bl (f i j)) H'') → te [a0, some (.ref t), some (vN i), some (vN j)] H' R)
    (done : ∀ (D : Addr) (H' : Hp), H D = none → Same H H' → H' D = some (.lst ((l.flatMap fun i => l.map fun j => f i j).map V.bl)) → Q (.ref D) H') :
    tLc2 (iTup K (tVar 1)) (gName 2) tYes (iTup K (tVar 1)) (gName 3) tYes te [2, 3] [3] [a0, some (.ref t), none, none] H Q := by
  have hll : (l.map vN).length = l.length := List.length_map _
  have hz : ∀ i, i ≤ l.length → ((l.take i).flatMap fun i => l.map fun j => f i j).length = i * l.length := fun i hi => by
    rw [List.length_flatMap]
    simp only [List.length_map, List.map_const', List.sum_replicate_nat, List.length_take, Nat.min_eq_left hi]
  refine ⟨_, rfl, t, rfl, ⟨_, hs⟩, fun D nD => ?_⟩
  refine ⟨fun i m G => m = l.length - i ∧ i ≤ l.length ∧ (Same H G ∧ G D = some (.lst (((l.take i).flatMap fun i => l.map fun j => f i j).map V.bl))), ⟨l.length, by simp, Nat.zero_le _, same_upd nD, upd_same⟩, ?_⟩
  rintro i m G ⟨rfl, hi, sm, eD⟩
  have hS := tup_same sm hs
  by_cases hlt : i < l.length
  · refine .inr ⟨walk_tup.goes i G (by rw [hll]; exact hlt) hS, fun G => (Same H G ∧ G D = some (.lst (((l.take (i + 1)).flatMap fun i => l.map fun j => f i j).map V.bl))), fun G' q => ⟨l.length - (i + 1), by omega, rfl, hlt, q⟩, fun x G' y => ?_⟩
    obtain ⟨rfl, hx⟩ := walk_tup.yields i G x G' (by rw [hll]; exact hlt) hS y
    obtain ⟨z, hz1⟩ : ∃ z, l[i]? = some z := ⟨l[i], List.getElem?_eq_getElem hlt⟩
    rw [List.getElem?_map, hz1] at hx
    obtain rfl := Option.some.inj hx
    refine ⟨rfl, ?_⟩
    show ∃ y, _ ∧ ∃ a, _ ∧ _ ∧ _
    refine ⟨_, rfl, t, rfl, ⟨_, hS⟩, fun j k G => k = l.length - j ∧ j ≤ l.length ∧ (Same H G ∧ G D = some (.lst ((((l.take i).flatMap fun i => l.map fun j => f i j) ++ (l.take j).map fun j => f z j).map V.bl))), ⟨l.length, by simp, Nat.zero_le _, sm, by simpa using eD⟩, ?_⟩
    rintro j k G2 ⟨rfl, hj, sm2, eD2⟩
    have hS2 := tup_same sm2 hs
    by_cases hjl : j < l.length
    · refine .inr ⟨walk_tup.goes j G2 (by rw [hll]; exact hjl) hS2, fun G => (Same H G ∧ G D = some (.lst ((((l.take i).flatMap fun i => l.map fun j => f i j) ++ (l.take (j + 1)).map fun j => f z j).map V.bl))), fun G' q => ⟨l.length - (j + 1), by omega, rfl, hjl, q⟩, fun x G' y => ?_⟩
      obtain ⟨rfl, hx⟩ := walk_tup.yields j G2 x G' (by rw [hll]; exact hjl) hS2 y
      obtain ⟨u, hu1⟩ : ∃ u, l[j]? = some u := ⟨l[j], List.getElem?_eq_getElem hjl⟩
      rw [List.getElem?_map, hu1] at hx
      obtain rfl := Option.some.inj hx
      refine ⟨rfl, ?_⟩
      show te [a0, some (.ref t), some (vN z), some (vN u)] _ _
      refine step z u _ _ sm2 fun G3 s3 => ⟨_, s3 _ _ eD2, ?_, same_D (sm2.trans s3) nD, ?_⟩
      · rw [List.length_map, List.length_append, hz i (by omega), List.length_map, List.length_take]
        have : (i + 1) * l.length ≤ 1000 * 1000 := Nat.mul_le_mul (by omega) hl
        rw [Nat.add_mul, Nat.one_mul] at this
        exact Nat.lt_of_lt_of_le (show _ < 1000000 by omega) (by decide)
      · rw [upd_same, List.take_add_one (i := j), hu1]
        simp
    · have e : j = l.length := by omega
      subst e
      refine .inl ⟨?_, sm2, ?_⟩
      · have := (walk_tup (K := K) (a := t)).stops G2 hS2
        rwa [hll] at this
      · rw [eD2, List.take_add_one, hz1, List.take_length]
        simp
  · have e : i = l.length := by omega
    subst e
    rw [List.take_length] at eD
    refine .inl ⟨?_, done D G nD sm eD⟩
    have := (walk_tup (K := K) (a := t)).stops G hS
    rwa [hll] at this
section
variable {P : Program} {w : World} {K : PySem.W.Frag} {mg : Str → Option Value} {base : Heap}
theorem sc_ahead_of : FnScope ["party", "pair"] ["party"] (defScope s_ahead_of) := ⟨rfl, rfl, rfl, by decide +kernel, rfl, by decide +kernel, by decide +kernel⟩
theorem ok_ahead_of {f : Addr} {fd : FuncData} (F : Fun K "ahead_of" "ahead_of" s_ahead_of f fd) (c_places_told : Cl P w K mg base 32 "places_told" (spTold K 31)) : FnOk P w K mg base CX0 33 f fd ["party"] (spAhead K) := by
  have nd := sc_ahead_of.nd
  refine F.ok sc_ahead_of (fun vs H Q E h => ?_) (fun cdv A outer s H vs Q E hr h => ?_)
  · obtain ⟨v, p, rfl, _⟩ := h
    rfl
  obtain ⟨v, p, rfl, hv, ho, q⟩ := h
  refine ⟨_, (pss_one (ps_ret (pe_dcT (own := [("pair", 1)]) (hu_of hr) rfl nd (pi_listK (K := K) rfl (pe_ix (ix_tupK (K := K) rfl) (pcl c_places_told hr (by omega) (pa_cons (pv 0) (pa_cons pe_int pa_nil))) pe_int (fun _ _ => rfl))) (blkOk_by (N := ["party", "pair"]) (sc := defScope s_ahead_of) (by decide +kernel)) (fun _ _ _ _ _ => (pg_name (i := 1) nd rfl (.inl rfl))) (fun _ _ _ _ _ => (pv 1)) (fun _ _ _ _ _ => pe_bl)))), ?_⟩
  walk_at "sx"
  have hdd := ho.1.2
  have hcc := ho.2
  refine ⟨v, rfl, v, p, 0, rfl, hv, ho, by omega, by omega, fun t b us H1 s1 nb st eb pr => ?_⟩
  refine ⟨t, _, 0, _, rfl, rfl, st, rfl, b, rfl, ⟨us, SqL.of eb⟩, fun D nD => ?_⟩
  have hlen := pr.len
  have hbig : (Pt.told p 0).length ≤ 3600 := Nat.le_trans (Pt.told_len _ _) (Nat.mul_le_mul hcc hcc)
  refine ⟨fun i m G => m = us.length - i ∧ i ≤ us.length ∧ (Same H1 G ∧ ∃ kvs : List (List Key × V), G D = some (.dT kvs) ∧ kvs.length ≤ i ∧ ∀ x y : Nat, (valV kvs [.inl (x : Int), .inl (y : Int)]).isSome = decide ((x, y) ∈ (Pt.told p 0).take i)),
    ⟨us.length, by simp, Nat.zero_le _, same_upd nD, [], upd_same, Nat.le_refl _, fun x y => by simp [valV]⟩, ?_⟩
  rintro i m G ⟨rfl, hi, sm, kvs, eD, hk, hm⟩
  have hS := SqL.of (K := K) (sm _ _ eb)
  by_cases hlt : i < us.length
  · refine .inr ⟨walk_list.goes i G hlt hS, fun G => (Same H1 G ∧ ∃ kvs : List (List Key × V), G D = some (.dT kvs) ∧ kvs.length ≤ i + 1 ∧ ∀ x y : Nat, (valV kvs [.inl (x : Int), .inl (y : Int)]).isSome = decide ((x, y) ∈ (Pt.told p 0).take (i + 1))), fun G' q => ⟨us.length - (i + 1), by omega, rfl, hlt, q⟩, fun x G' y => ?_⟩
    obtain ⟨rfl, hx⟩ := walk_list.yields i G x G' hlt hS y
    obtain ⟨z, hz⟩ : ∃ z, (Pt.told p 0)[i]? = some z := ⟨(Pt.told p 0)[i]'(by omega), List.getElem?_eq_getElem _⟩
    obtain ⟨c, rfl, hc⟩ := pr.2 i x z hx hz
    refine ⟨rfl, _, rfl, kvs, [.inl (z.1 : Int), .inl (z.2 : Int)], c, eD, rfl, sm _ _ hc, Nat.lt_of_le_of_lt (show _ ≤ 3600 by omega) (by decide), same_D sm nD, _, upd_same, Nat.le_trans (length_putK _ _ _) (by omega), fun x y => ?_⟩
    rw [valV_put, List.take_add_one, hz]
    by_cases c2 : (x, y) = z
    · subst c2
      rw [if_pos rfl]
      simp
    · rw [if_neg fun e => c2 ?_]
      · rw [hm x y, Bool.eq_iff_iff, decide_eq_true_eq, decide_eq_true_eq, List.mem_append]
        simp [c2]
      · simp only [List.cons.injEq, Sum.inl.injEq, and_true] at e
        exact Prod.ext (by have := e.1; show x = z.1; omega) (by have := e.2; show y = z.2; omega)
  · have e : i = us.length := by omega
    subst e
    refine .inl ⟨walk_list.stops G hS, q D G (none_back s1 nD) (s1.trans sm) ⟨kvs, eD, fun x y => ?_⟩⟩
    rw [hm x y, hlen, List.take_length]
theorem sc_is_chain : FnScope ["there", "places", "pair"] ["there", "places"] (defScope s_is_chain) := ⟨rfl, rfl, rfl, by decide +kernel, rfl, by decide +kernel, by decide +kernel⟩
theorem ok_is_chain {f : Addr} {fd : FuncData} (F : Fun K "is_chain" "is_chain" s_is_chain f fd) (b_all : mg "all" = none) (b_zip : mg "zip" = none) : FnOk P w K mg base CX0 1 f fd ["there", "places"] (spChain K) := by
  have nd := sc_is_chain.nd
  refine F.ok sc_is_chain (fun vs H Q E h => ?_) (fun cdv A outer s H vs Q E hr h => ?_)
  · obtain ⟨a, v, P, l, rfl, _⟩ := h
    rfl
  obtain ⟨a, v, P, l, rfl, hA, hv, hl, q⟩ := h
  refine ⟨_, (pss_one (ps_ret (pe_callB (cr_allK (K := K) rfl rfl) (by rfl) b_all (by decide +kernel) (pa_cons (pe_lc (own := [("pair", 2)]) rfl nd (R.pi_zipN (by rfl) b_zip (pa_cons (pv 1) (pa_cons (pe_slice sl_tupA (pv 1) (po_some pe_int) po_none) pa_nil))) (blkOk_by (N := ["there", "places", "pair"]) (sc := defScope s_is_chain) (by decide +kernel)) (fun _ _ _ _ _ => (pg_name (i := 2) nd rfl (.inl rfl))) (fun _ _ _ _ _ => pts_nil) (fun _ _ _ _ _ => (pe_cmp (pc_din (hu_of hr) (pv 2) (pv 0)) (by rfl)))) pa_nil)))), ?_⟩
  walk_at "sx"
  obtain ⟨t, rfl, hs⟩ := dp_dN hv
  have main : ∀ (b : Addr) (H1 : Hp), Same H H1 → SqT K H1 b ((l.drop 1).map vN) → ∃ a' b' xs ys, [V.ref t, V.ref b] = [.ref a', .ref b'] ∧ SqT K H1 a' xs ∧ SqT K H1 b' ys ∧ (fun J H1 => ∀ D, H1 D = none → ∃ W : Nat → Nat → Hp → Prop, (∃ m, W 0 m (upd H1 D (.lst []))) ∧ ∀ i m H, W i m H →
      (J.stop i H ∧ rAll K [.ref D] H Q) ∨ (J.go i H ∧ ∃ Nx : Hp → Prop, (∀ H', Nx H' → ∃ m', m' < m ∧ W (i + 1) m' H') ∧ ∀ x H', J.yld i H x H' → gName 2 x (wipe [some (V.ref a), some (.ref t), none] [2]) H' fun σ2 H2 => wipe σ2 [2] = wipe [some (V.ref a), some (.ref t), none] [2] ∧ tYes σ2 H2 fun b H3 =>
        if b = true then tDIn (tVar 2) (tVar 0) σ2 H3 fun y H4 => ∃ acc, H4 D = some (.lst acc) ∧ acc.length < sizeLine ∧ Nx (upd H4 D (.lst (acc ++ [y]))) else Nx H3)) (RZ.ItzT K a' b') H1 := fun b H1 s1 hb => by
    refine ⟨t, b, _, _, rfl, tup_same s1 hs, hb, fun D nD => ?_⟩
    refine lc_it (R.walk_zipN (n := (l.zip (l.drop 1)).length) (by rw [List.length_zip, List.length_map, List.length_map])) (fun i H' => Same H1 H' ∧ H' D = some (.lst (((l.zip (l.drop 1)).take i).map fun x => .bl (decide (x ∈ P))))) ⟨same_upd nD, upd_same⟩ (fun i H' _ p => ⟨tup_same p.1 (tup_same s1 hs), tup_same p.1 hb⟩) ?_ ?_
    · rintro i x H2 H3 hi ⟨sm, eD⟩ ⟨T, u, v, rfl, nT, rfl, hu, hv⟩
      obtain ⟨z, hz⟩ : ∃ z, (l.zip (l.drop 1))[i]? = some z := ⟨_, List.getElem?_eq_getElem hi⟩
      obtain ⟨hz1, hz2⟩ := List.getElem?_zip_eq_some.mp hz
      have hu : (l.map vN)[i]? = some u := hu
      have hv : ((l.drop 1).map vN)[i]? = some v := hv
      rw [List.getElem?_map, hz1] at hu
      rw [List.getElem?_map, hz2] at hv
      obtain rfl := Option.some.inj hu
      obtain rfl := Option.some.inj hv
      have f1 := same_upd (o := .tup [vN z.1, vN z.2]) nT
      obtain ⟨o, g, eo⟩ := (hA.same ((s1.trans sm).trans f1)).get (b := T) (i := z.1) (j := z.2) upd_same
      refine ⟨rfl, ?_⟩
      show ∃ y, _ ∧ ∃ x, _ ∧ ∃ a' o', x = V.ref a' ∧ _
      refine ⟨_, rfl, _, rfl, a, o, rfl, g, ?_⟩
      rw [eo]
      refine ⟨_, f1 _ _ eD, ?_, same_D (sm.trans f1) nD, ?_⟩
      · rw [List.length_map, List.length_take, List.length_zip]
        exact small1000 (by omega)
      · rw [upd_same, List.take_add_one, hz, List.map_append]
        rfl
    · rintro H' ⟨sm, eD⟩
      rw [List.take_of_length_le (Nat.le_refl _)] at eD
      refine ⟨D, (l.zip (l.drop 1)).map fun x => decide (x ∈ P), rfl, by rw [List.map_map]; exact SqL.of eD, ?_⟩
      rw [List.all_map]
      exact q H' (s1.trans sm)
  refine ⟨_, rfl, _, rfl, 1, rfl, t, _, rfl, hs, fun c => main t H (.refl H) ?_, fun c p np => main p _ (same_upd np) ?_⟩
  · have h1 : l.length = 0 := by
      have c1 := c.1
      rw [List.length_map] at c1
      have := HT.sIx_nat l.length 0 1
      rw [show ((1 : Nat) : Int) = 1 from rfl] at this
      omega
    rw [List.eq_nil_of_length_eq_zero h1] at hs ⊢
    exact hs
  · rw [show (1 : Int) = ((1 : Nat) : Int) from rfl, cut_from]
    exact sqt_new (by rw [List.map_drop]; rfl)
theorem sc_is_loose : FnScope ["there", "places", "one", "two"] ["there", "places"] (defScope s_is_loose) := ⟨rfl, rfl, rfl, by decide +kernel, rfl, by decide +kernel, by decide +kernel⟩
theorem ok_is_loose {f : Addr} {fd : FuncData} (F : Fun K "is_loose" "is_loose" s_is_loose f fd) (b_any : mg "any" = none) : FnOk P w K mg base CX0 1 f fd ["there", "places"] (spLoose K) := by
  have nd := sc_is_loose.nd
  refine F.ok sc_is_loose (fun vs H Q E h => ?_) (fun cdv A outer s H vs Q E hr h => ?_)
  · obtain ⟨a, v, P, l, rfl, _⟩ := h
    rfl
  obtain ⟨a, v, P, l, rfl, hA, hv, hl, q⟩ := h
  refine ⟨_, (pss_one (ps_ret (pe_not (pe_callB (cr_anyK (K := K) rfl rfl) (by rfl) b_any (by decide +kernel) (pa_cons (pe_lc2 (own := [("one", 2), ("two", 3)]) (vs1 := [3]) rfl nd (pi_tupK (K := K) rfl (pv 1)) (blkOk_by (N := ["there", "places", "one", "two"]) (sc := defScope s_is_loose) (by decide +kernel)) (by decide) (fun _ _ _ _ _ => (pg_name (i := 2) nd rfl (.inl rfl))) (fun _ _ _ _ _ => pts_nil) (fun _ _ _ _ _ => (pi_tupK (K := K) rfl (pv 1))) (fun _ _ _ _ _ => (pg_name (i := 3) nd rfl (.inl rfl))) (fun _ _ _ _ _ => pts_nil) (fun _ _ _ _ _ => (pe_cmp (pc_din (hu_of hr) (pe_tup (pa_cons (pv 2) (pa_cons (pv 3) pa_nil))) (pv 0)) (by rfl)))) pa_nil))))), ?_⟩
  walk_at "sx"
  obtain ⟨t, rfl, hs⟩ := dp_dN hv
  refine lc2_grid (f := fun i j => decide ((i, j) ∈ P)) hs hl (fun i j H1 R s1 hR => ?_) fun D H1 nD s1 eD => ?_
  · refine ⟨_, rfl, _, rfl, (by show 2 ≤ sizeLine; decide), fun T nT => ⟨_, rfl, ?_⟩⟩
    have f1 := same_upd (o := .tup [vN i, vN j]) nT
    obtain ⟨o, g, eo⟩ := (hA.same (s1.trans f1)).get (b := T) (i := i) (j := j) upd_same
    refine ⟨a, o, rfl, g, ?_⟩
    rw [eo]
    exact hR _ f1
  · refine ⟨D, l.flatMap fun i => l.map fun j => decide ((i, j) ∈ P), rfl, SqL.of eD, _, rfl, q H1 s1⟩
end

end Z

set_option Elab.async false
set_option linter.all false
set_option maxRecDepth 100000
set_option maxHeartbeats 4000000

namespace Z
open PySem PySem.Spec PyProof.Rows L2 Z.R
local macro_rules | `(tactic| walk_at "sx") => `(tactic| try simp only [and_assoc, cxOf_K, cxOf_Kn, C8.tCut, rEq, rNe, sc_ii, sc_ss, sc_bb, sc_is, sc_si, sc_bs, sc_sb, tSeq, tAsg, tPar, tPar3, tC, gName, gNil, gCons, gTup, gSub, rSetL, L2.start, tVar, tOp, tUn, rI0, rI, rU, tTest, tChain, tOrV, tAndV, tNotV, tCB, tCons, tNil, tLst, tTup, tIfS, tNext, tRet, tRetN, tDrop, tAnd, tOr, tNot, tB, tIf, tSl, tFld, sFld, putF, tNoPart, tPart, rSlL, tBM, tBM0, rAppend, rPop, rExtend, tCall, tMeth, tLstRg, tRg1, tRg2, List.map_cons, List.map_nil, List.replicate, List.length_cons, List.length_nil, List.append, List.cons_append, List.nil_append, List.append_nil, List.getElem?_cons_zero, List.getElem?_cons_succ, List.set_cons_zero, List.set_cons_succ, Option.some.injEq, exists_eq_left', exists_eq_left, exists_eq, exists_and_left, exists_const, wipe, tYes, upd_same, ↓reduceIte, decide_false, decide_true, Bool.not_true, Bool.not_false, Bool.false_eq_true, V.int.injEq, HO.lst.injEq, HO.tup.injEq, V.ref.injEq, V.str.injEq, one_inj, le_a, le_z, le_0, le_9, mem_let, mem_dig, V.bl.injEq, List.cons.injEq, and_true, true_and, reduceCtorEq, false_and, exists_false, or_false, false_or])
section
variable {J : It} {K : PySem.W.Frag} {G : Hp → Prop} {xs : List V} {H1 : Hp} {D : Addr} {Qd : Hp → Prop} {s s1 : Nat} {σ : L2.St}
/-- [y for x in .. for y in x], x tuples of places -/
theorem lc2_tups (w : Walk J xs.length G (YAt xs)) (hD : H1 D = none) (rows : List (List Nat)) (hlen : rows.length = xs.length) (hz : rows.flatten.length ≤ sizeLine) (hG : ∀ H' : Hp, Same H1 H' → G H') (hne : s1 ≠ s) (hl : s1 < σ.length) (hls : s < σ.length)
    (hs : ∀ (i : Nat) (x : V) (row : List Nat), xs[i]? = some x → rows[i]? = some row → ∃ t, x = .ref t ∧ SqT K H1 t (row.map vN))
    (hd : ∀ (H' : Hp), Same H1 H' → H' D = some (.lst (rows.flatten.map vN)) → Qd H') :
    ∃ W : Nat → Nat → Hp → Prop, (∃ m, W 0 m (upd H1 D (.lst []))) ∧ ∀ i m H, W i m H →
      (J.stop i H ∧ Qd H) ∨ (J.go i H ∧ ∃ Nx : Hp → Prop, (∀ H', Nx H' → ∃ m', m' < m ∧ W (i + 1) m' H') ∧ ∀ x H', J.yld i H x H' → gName s x (wipe σ [s, s1]) H' fun σ2 H2 => wipe σ2 [s, s1] = wipe σ [s, s1] ∧ tYes σ2 H2 fun b H3 =>
        if b = true then iTup K (tVar s) σ2 H3 fun J1 H4 => ∃ W1 : Nat → Nat → Hp → Prop, (∃ m, W1 0 m H4) ∧ ∀ j k H, W1 j k H →
          (J1.stop j H ∧ Nx H) ∨ (J1.go j H ∧ ∃ Nx1 : Hp → Prop, (∀ H', Nx1 H' → ∃ k', k' < k ∧ W1 (j + 1) k' H') ∧ ∀ x H', J1.yld j H x H' → gName s1 x (wipe σ2 [s1]) H' fun σ3 H5 => wipe σ3 [s1] = wipe σ2 [s1] ∧ tYes σ3 H5 fun b H6 =>
            if b = true then tVar s1 σ3 H6 fun y H7 => ∃ acc, H7 D = some (.lst acc) ∧ acc.length < sizeLine ∧ Nx1 (upd H7 D (.lst (acc ++ [y]))) else Nx1 H6)
        else Nx H3) := by
  refine ⟨fun i m H => m = xs.length - i ∧ i ≤ xs.length ∧ (Same H1 H ∧ H D = some (.lst ((rows.take i).flatten.map vN))), ⟨xs.length, by simp, Nat.zero_le _, same_upd hD, upd_same⟩, ?_⟩
  rintro i m H ⟨rfl, hi, sm, eD⟩
  have q := hG H sm
  by_cases hlt : i < xs.length
  · refine .inr ⟨w.goes i H hlt q, fun H => (Same H1 H ∧ H D = some (.lst ((rows.take (i + 1)).flatten.map vN))), fun H' p' => ⟨xs.length - (i + 1), by omega, rfl, hlt, p'⟩, fun x H' y => ?_⟩
    obtain ⟨rfl, hx⟩ := w.yields i H x H' hlt q y
    obtain ⟨row, hd1⟩ : ∃ d, rows[i]? = some d := ⟨rows[i]'(by omega), List.getElem?_eq_getElem _⟩
    obtain ⟨t, rfl, hst⟩ := hs i x row hx hd1
    simp only [gName, tYes, ↓reduceIte]
    refine ⟨by simp only [wipe, List.set_set, List.set_comm _ _ hne], ?_⟩
    refine ⟨.ref t, by simp [wipe, hls], t, rfl, ⟨_, tup_same sm hst⟩, fun j k H => k = row.length - j ∧ j ≤ row.length ∧ (Same H1 H ∧ H D = some (.lst (((rows.take i).flatten ++ row.take j).map vN))), ⟨row.length, by simp, Nat.zero_le _, sm, by rw [List.take_zero, List.append_nil]; exact eD⟩, ?_⟩
    rintro j k H ⟨rfl, hj, sm3, eD3⟩
    have hS := tup_same sm3 hst
    have hrl : (row.map vN).length = row.length := List.length_map _
    by_cases hjl : j < row.length
    · refine .inr ⟨walk_tup.goes j H (by rw [hrl]; exact hjl) hS, fun H => (Same H1 H ∧ H D = some (.lst (((rows.take i).flatten ++ row.take (j + 1)).map vN))), fun H' p' => ⟨row.length - (j + 1), by omega, rfl, hjl, p'⟩, fun y H' hy => ?_⟩
      obtain ⟨rfl, hyx⟩ := walk_tup.yields j H y H' (by rw [hrl]; exact hjl) hS hy
      obtain ⟨z, hz1⟩ : ∃ z, row[j]? = some z := ⟨row[j], List.getElem?_eq_getElem hjl⟩
      rw [List.getElem?_map, hz1] at hyx
      obtain rfl := Option.some.inj hyx
      refine ⟨by simp only [wipe, List.set_set], ?_⟩
      simp only [tVar]
      refine ⟨vN z, by simp [wipe, hl], _, eD3, ?_, same_D sm3 hD, ?_⟩
      · have h2 := flat_le hd1
        rw [List.length_map, List.length_append, List.length_take]
        omega
      · rw [upd_same, List.take_add_one (i := j), hz1]
        simp
    · have e : j = row.length := by omega
      subst e
      refine .inl ⟨?_, sm3, ?_⟩
      · have := (walk_tup (K := K) (a := t)).stops H hS
        rwa [hrl] at this
      · rw [List.take_length] at eD3
        rw [flat_take hd1]
        exact eD3
  · have e : i = xs.length := by omega
    subst e
    refine .inl ⟨w.stops H q, hd H sm ?_⟩
    rw [← hlen, List.take_length] at eD
    exact eD
end
theorem eqvAll_ints : ∀ a b : List Int, PyData.eqvAll (a.map PyData.int) (b.map PyData.int) = decide (a = b)
  | [], [] => by simp [PyData.eqvAll]
  | [], _ :: _ => by simp [PyData.eqvAll]
  | _ :: _, [] => by simp [PyData.eqvAll]
  | x :: a, y :: b => by
    rw [List.map_cons, List.map_cons, PyData.eqvAll, eqvAll_ints a b]
    by_cases h : x = y
    · subst h
      simp [PyData.eqv]
    · simp [PyData.eqv, h]
theorem eqv_ints (a b : List Int) : PyData.eqv (.list (a.map PyData.int)) (.list (b.map PyData.int)) = decide (a = b) := by
  rw [PyData.eqv]
  exact eqvAll_ints a b
theorem shaped_ints (a : List Int) : SeqAt.shaped (.list (a.map PyData.int)) = true := by
  unfold SeqAt.shaped
  simp only [PyData.canLay0, PyData.depth]
  rw [Pt.layAll PyData.int fun p _ => rfl, Bool.true_and]
  refine decide_eq_true ?_
  have := Pt.depAll PyData.int (n := 0) (ps := a) fun p hp => Nat.le_refl _
  omega
theorem dp_of_ints {K : PySem.W.Frag} {H : Hp} : ∀ a : List Int, DpAll K H (a.map V.int) (a.map PyData.int)
  | [] => .nil
  | _ :: a => .cons (.int _) (dp_of_ints a)
/-- a sorted list of places is the range exactly if the places are all places -/
theorem sorted_range {l : List Nat} {ns : List Int} {n : Nat} (pm : ns.Perm (l.map fun i : Nat => (i : Int))) (rs : ns.Pairwise (· ≤ ·)) : decide (ns = (List.range' 0 n).map fun i : Nat => (i : Int)) = decide (l.Perm (List.range n)) := by
  rw [Bool.eq_iff_iff, decide_eq_true_eq, decide_eq_true_eq, ← List.range_eq_range']
  constructor
  · rintro rfl
    have h : (l.map fun i : Nat => (i : Int)).Perm ((List.range n).map fun i : Nat => (i : Int)) := pm.symm
    have := h.map Int.toNat
    rw [List.map_map, List.map_map] at this
    simpa [Function.comp_def] using this
  · intro h
    refine List.Perm.eq_of_pairwise (le := (· ≤ ·)) ?_ rs ?_ (pm.trans (h.map _))
    · intro a b _ _ h1 h2
      omega
    · rw [List.pairwise_map]
      exact List.pairwise_lt_range.imp fun h => by omega
theorem flat_bound {γ : Type} {b : Nat} : ∀ {l : List (List γ)}, (∀ c ∈ l, c.length ≤ b) → l.flatten.length ≤ l.length * b
  | [], _ => Nat.zero_le _
  | c :: l, h => by
    rw [List.flatten_cons, List.length_append, List.length_cons, Nat.add_mul, Nat.one_mul]
    have := h c List.mem_cons_self
    have := flat_bound fun x hx => h x (List.mem_cons_of_mem _ hx)
    omega
theorem nodup_lt {c : List Nat} {n : Nat} (h : c.Nodup) (h2 : ∀ i ∈ c, i < n) : c.length ≤ n := by
  have := L2.nat_nodup_len c (List.range n) h fun x hx => List.mem_range.mpr (h2 x hx)
  rwa [List.length_range] at this

end Z

set_option Elab.async false
set_option linter.all false
set_option maxRecDepth 100000
set_option maxHeartbeats 4000000

namespace Z
open PySem PySem.Spec PyProof.Rows L2 Z.R
local macro_rules | `(tactic| walk_at "sx") => `(tactic| try simp only [and_assoc, cxOf_K, cxOf_Kn, C8.tCut, rEq, rNe, sc_ii, sc_ss, sc_bb, sc_is, sc_si, sc_bs, sc_sb, tSeq, tAsg, tPar, tPar3, tC, gName, gNil, gCons, gTup, gSub, rSetL, L2.start, tVar, tOp, tUn, rI0, rI, rU, tTest, tChain, tOrV, tAndV, tNotV, tCB, tCons, tNil, tLst, tTup, tIfS, tNext, tRet, tRetN, tDrop, tAnd, tOr, tNot, tB, tIf, tSl, tFld, sFld, putF, tNoPart, tPart, rSlL, tBM, tBM0, rAppend, rPop, rExtend, tCall, tMeth, tLstRg, tRg1, tRg2, List.map_cons, List.map_nil, List.replicate, List.length_cons, List.length_nil, List.append, List.cons_append, List.nil_append, List.append_nil, List.getElem?_cons_zero, List.getElem?_cons_succ, List.set_cons_zero, List.set_cons_succ, Option.some.injEq, exists_eq_left', exists_eq_left, exists_eq, exists_and_left, exists_const, wipe, tYes, upd_same, ↓reduceIte, decide_false, decide_true, Bool.not_true, Bool.not_false, Bool.false_eq_true, V.int.injEq, HO.lst.injEq, HO.tup.injEq, V.ref.injEq, V.str.injEq, one_inj, le_a, le_z, le_0, le_9, mem_let, mem_dig, V.bl.injEq, List.cons.injEq, and_true, true_and, reduceCtorEq, false_and, exists_false, or_false, false_or])
/-- a lot of places, not empty -/
def lotN (n : Nat) (d : PyData) : Option (List Nat) := match plL n d with
  | some (i :: l) => some (i :: l)
  | _ => none
/-- whether a value is a right paper: covers (false), levels (true) -/
def rightB (k : Bool) (n : Nat) (P : List (Nat × Nat)) : PyData → Bool
  | .tuple [.tuple ds, e] => match plL n e, Pt.mapO (lotN n) ds with
    | some row, some lots => decide (lots.flatten.Perm (List.range n)) && lots.all (if k then looseB P else chainB P) && decide (lots.length = row.length) && (if k then chainB P row else looseB P row)
    | _, _ => false
  | _ => false
theorem right_not2 {k : Bool} {n : Nat} {P : List (Nat × Nat)} {d : PyData} (h : ∀ a b, d ≠ .tuple [a, b]) : rightB k n P d = false := by
  unfold rightB
  split
  · exact absurd rfl (h _ _)
  · rfl
theorem right_notT {k : Bool} {n : Nat} {P : List (Nat × Nat)} {x y : PyData} (h : isTup x = false) : rightB k n P (.tuple [x, y]) = false := by
  cases x with
  | tuple ds => cases h
  | _ => rfl
theorem right_two {k : Bool} {n : Nat} {P : List (Nat × Nat)} {ds : List PyData} {y : PyData} : rightB k n P (.tuple [.tuple ds, y]) = match plL n y, Pt.mapO (lotN n) ds with
    | some row, some lots => decide (lots.flatten.Perm (List.range n)) && lots.all (if k then looseB P else chainB P) && decide (lots.length = row.length) && (if k then chainB P row else looseB P row)
    | _, _ => false := rfl
theorem right_norow {k : Bool} {n : Nat} {P : List (Nat × Nat)} {ds : List PyData} {y : PyData} (h : plL n y = none) : rightB k n P (.tuple [.tuple ds, y]) = false := by
  rw [right_two, h]
theorem right_nolots {k : Bool} {n : Nat} {P : List (Nat × Nat)} {ds : List PyData} {y : PyData} (h : Pt.mapO (lotN n) ds = none) : rightB k n P (.tuple [.tuple ds, y]) = false := by
  rw [right_two, h]
  cases plL n y <;> rfl
theorem right_eq {k : Bool} {n : Nat} {P : List (Nat × Nat)} {ds : List PyData} {y : PyData} {row : List Nat} {lots : List (List Nat)} (h : plL n y = some row) (h2 : Pt.mapO (lotN n) ds = some lots) : rightB k n P (.tuple [.tuple ds, y]) =
    (decide (lots.flatten.Perm (List.range n)) && lots.all (if k then looseB P else chainB P) && decide (lots.length = row.length) && (if k then chainB P row else looseB P row)) := by
  rw [right_two, h, h2]
theorem lotN_ok {n : Nat} {d : PyData} {l : List Nat} (h : lotN n d = some l) : plL n d = some l ∧ l ≠ [] := by
  unfold lotN at h
  split at h
  · rename_i i m e
    obtain rfl := Option.some.inj h
    exact ⟨e, nofun⟩
  · cases h
theorem lotN_map {n : Nat} : ∀ {ds : List PyData} {l : List (List Nat)}, Pt.mapO (lotN n) ds = some l → ds = l.map dN ∧ ∀ c ∈ l, (∀ i ∈ c, i < n) ∧ c.Nodup ∧ c ≠ []
  | [], l, h => by
    rw [Pt.mapO] at h
    obtain rfl := Option.some.inj h
    exact ⟨rfl, nofun⟩
  | d :: ds, l, h => by
    rw [Pt.mapO] at h
    cases e1 : lotN n d with
    | none =>
      rw [e1] at h
      cases h
    | some i =>
      rw [e1] at h
      cases e2 : Pt.mapO (lotN n) ds with
      | none =>
        rw [e2] at h
        cases h
      | some m =>
        rw [e2] at h
        obtain rfl := Option.some.inj h
        obtain ⟨h1, h2⟩ := lotN_map e2
        obtain ⟨h3, h4⟩ := lotN_ok e1
        obtain ⟨h5, h6, h7⟩ := plL_ok h3
        refine ⟨by rw [h5, h1]; rfl, fun j hj => ?_⟩
        rcases List.mem_cons.mp hj with rfl | hj
        · exact ⟨h6, h7, h4⟩
        · exact h2 j hj
def spTakes (k : Bool) (K : PySem.W.Frag) (C : Addr) : Sp := fun vs H Q E => ∃ (v u : V) (d e : PyData), vs = [v, u] ∧ Dp K H v d ∧ Tm d ∧ Dp K H u e ∧ Tm e ∧
  (∀ p H', Pt.partyP d = some p → Same H H' → Q (.bl (rightB k (Pt.cnt p) (Pt.told p 0) e)) H') ∧ (∀ H', Pt.partyP d = none → Same H H' → E (.ref C) none H')
section
variable {P : Program} {w : World} {K : PySem.W.Frag} {mg : Str → Option Value} {base : Heap}
theorem sc_takes_cover : FnScope ["party", "value", "chain", "there", "every", "place"] ["party", "value"] (defScope s_takes_cover) := ⟨rfl, rfl, rfl, by decide +kernel, rfl, by decide +kernel, by decide +kernel⟩
theorem ok_takes_cover {C : Addr} {f : Addr} {fd : FuncData} (F : Fun K "takes_cover" "takes_cover" s_takes_cover f fd) (c_check_party : ClX P w K mg base 73 "check_party" (spChk K C)) (c_has_shape : Cl P w K mg base 1 "has_shape" (spShape K)) (c_are_places : Cl P w K mg base 41 "are_places" (spAreP K)) (c_ahead_of : Cl P w K mg base 33 "ahead_of" (spAhead K)) (c_is_chain : Cl P w K mg base 1 "is_chain" (spChain K)) (c_is_loose : Cl P w K mg base 1 "is_loose" (spLoose K)) (c_count_of : Cl P w K mg base 40 "count_of" (spCount K 31)) (b_isinstance : mg "isinstance" = none) (b_tuple : mg "tuple" = none) (b_all : mg "all" = none) (b_len : mg "len" = none) (b_sorted : mg "sorted" = none) (b_list : mg "list" = none) (b_range : mg "range" = none) : FnOk P w K mg base (L2.CX P w) 74 f fd ["party", "value"] (spTakes false K C) := by
  have nd := sc_takes_cover.nd
  refine F.okX sc_takes_cover (fun vs H Q E h => ?_) (fun cdv A outer s H vs Q E hr h => ?_)
  · obtain ⟨v, u, d, e, rfl, _⟩ := h
    rfl
  obtain ⟨v, u, d, e, rfl, hv, tmd, hu, tme, q, bad⟩ := h
  refine ⟨_, (pss_cons (ps_expr (pclX c_check_party hr (by omega) (passes_call (takes_of rfl rfl rfl rfl) (fun _ _ _ _ h => h)) (pa_cons (pv 0) pa_nil)))
  (pss_cons (ps_if (PW.pt (pw_or (pt_not (pt_val (pcl c_has_shape hr (by omega) (pa_cons (pv 1) (pa_cons pe_int pa_nil))))) (pw_or (pt_not (pt_val (pe_callB (call_isK (K := K) rfl) (by rfl) b_isinstance (by decide +kernel) (pa_cons (pe_ix (ix_tupK (K := K) rfl) (pv 1) pe_int (fun _ _ => rfl)) (pa_cons (pe_bltn (v := .ty "tuple") (by rfl) b_tuple (by decide +kernel) rfl) pa_nil))))) (pw_or1 (pt_not (pt_val (pcl c_are_places hr (by omega) (pa_cons (pv 0) (pa_cons (pe_ix (ix_tupK (K := K) rfl) (pv 1) pe_int (fun _ _ => rfl)) pa_nil))))))))) (pss_one (ps_ret pe_bl)) pss_nil)
  (pss_cons (ps_if (pt_not (pt_val (pe_callB (cr_allK (K := K) rfl rfl) (by rfl) b_all (by decide +kernel) (pa_cons (pe_lc (own := [("chain", 2)]) rfl nd (pi_tup (pe_ix (ix_tupK (K := K) rfl) (pv 1) pe_int (fun _ _ => rfl))) (blkOk_by (N := ["party", "value", "chain", "there", "every", "place"]) (sc := defScope s_takes_cover) (by decide +kernel)) (fun _ _ _ _ _ => (pg_name (i := 2) nd rfl (.inl rfl))) (fun _ _ _ _ _ => pts_nil) (fun _ _ _ _ _ => (pe_and (pcl c_are_places hr (by omega) (pa_cons (pv 0) (pa_cons (pv 2) pa_nil))) (pe_one (pe_cmpR op_gt (pe_callB (call_lenK (K := K) rfl) (by rfl) b_len (by decide +kernel) (pa_cons (pv 2) pa_nil)) pe_int (nomark _)))))) pa_nil)))) (pss_one (ps_ret pe_bl)) pss_nil)
  (pss_cons (ps_asg (pe_tup (pa_cons (pcl c_ahead_of hr (by omega) (pa_cons (pv 0) pa_nil)) (pa_cons (pe_callB cr_sortedI (by rfl) b_sorted (by decide +kernel) (pa_cons (pe_lc2 (own := [("chain", 2), ("place", 5)]) (vs1 := [5]) rfl nd (pi_tup (pe_ix (ix_tupK (K := K) rfl) (pv 1) pe_int (fun _ _ => rfl))) (blkOk_by (N := ["party", "value", "chain", "there", "every", "place"]) (sc := defScope s_takes_cover) (by decide +kernel)) (by decide) (fun _ _ _ _ _ => (pg_name (i := 2) nd rfl (.inl rfl))) (fun _ _ _ _ _ => pts_nil) (fun _ _ _ _ _ => (pi_tupK (K := K) rfl (pv 2))) (fun _ _ _ _ _ => (pg_name (i := 5) nd rfl (.inl rfl))) (fun _ _ _ _ _ => pts_nil) (fun _ _ _ _ _ => (pv 5))) pa_nil)) pa_nil))) (pg_tupK (K := K) rfl (n := 2) (by rfl) (pgs_cons (pg_name (i := 3) nd rfl (.inr rfl)) (pgs_cons (pg_name (i := 4) nd rfl (.inl rfl)) pgs_nil))))
  (pss_cons (ps_if (PW.pt (pw_or (pt_cmpR (op_neD hr.units) (pv 4) (pe_listRg rfl (by rfl) b_list (prg_1 (by rfl) b_range (pcl c_count_of hr (by omega) (pa_cons (pv 0) pa_nil)))) (nomark _)) (pw_or1 (pt_not (pt_val (pe_callB (cr_allK (K := K) rfl rfl) (by rfl) b_all (by decide +kernel) (pa_cons (pe_lc (own := [("chain", 2)]) rfl nd (pi_tup (pe_ix (ix_tupK (K := K) rfl) (pv 1) pe_int (fun _ _ => rfl))) (blkOk_by (N := ["party", "value", "chain", "there", "every", "place"]) (sc := defScope s_takes_cover) (by decide +kernel)) (fun _ _ _ _ _ => (pg_name (i := 2) nd rfl (.inl rfl))) (fun _ _ _ _ _ => pts_nil) (fun _ _ _ _ _ => (pcl c_is_chain hr (by omega) (pa_cons (pv 3) (pa_cons (pv 2) pa_nil))))) pa_nil))))))) (pss_one (ps_ret pe_bl)) pss_nil)
  (pss_one (ps_ret (pe_and (pe_cmpR op_eq (pe_callB (call_lenK (K := K) rfl) (by rfl) b_len (by decide +kernel) (pa_cons (pe_ix (ix_tupK (K := K) rfl) (pv 1) pe_int (fun _ _ => rfl)) pa_nil)) (pe_callB (call_lenK (K := K) rfl) (by rfl) b_len (by decide +kernel) (pa_cons (pe_ix (ix_tupK (K := K) rfl) (pv 1) pe_int (fun _ _ => rfl)) pa_nil)) (nomark _)) (pe_one (pcl c_is_loose hr (by omega) (pa_cons (pv 3) (pa_cons (pe_ix (ix_tupK (K := K) rfl) (pv 1) pe_int (fun _ _ => rfl)) pa_nil)))))))))))), ?_⟩
  walk_at "sx"
  refine ⟨v, d, rfl, hv, tmd, fun H1 s1 hp => ?_, fun H1 s1 hp => bad H1 hp s1⟩
  obtain ⟨p, hp⟩ := Option.isSome_iff_exists.mp hp
  obtain ⟨rfl, ho⟩ := party_ok hp
  have qa := fun H' (b : Bool) (s : Same H1 H') (e : rightB false (Pt.cnt p) (Pt.told p 0) _ = b) => (e ▸ q p H' hp (s1.trans s) : Q (.bl b) H')
  clear bad
  have hv1 := L2.Dp.same s1 hv
  have hu1 := L2.Dp.same s1 hu
  refine ⟨u, e, 2, rfl, hu1, _, rfl, ?_⟩
  by_cases c2 : shapeD 2 e = true
  case neg =>
    have h0 := right_not2 (k := false) (n := Pt.cnt p) (P := Pt.told p 0) (d := e) fun a b h => c2 (by rw [h]; rfl)
    rw [Bool.not_eq_true] at c2
    rw [c2]
    exact iteT (qa H1 false (.refl H1) h0)
  obtain ⟨x, y, rfl⟩ := shape2 c2
  rw [c2]
  obtain ⟨t, vx, vy, rfl, hs, hx, hy⟩ := dp2d hu1
  have tmx : Tm x ∧ Tm y := by
    cases tme with
    | tup _ l h => exact ⟨h x (List.mem_cons_self ..), h y (List.mem_cons_of_mem _ (List.mem_cons_self ..))⟩
  refine iteF (ixt hs rfl (isi_tup hx ⟨_, rfl, ?_⟩))
  cases htb : isTup x with
  | false => exact iteT (qa H1 false (.refl H1) (right_notT htb))
  | true =>
  obtain ⟨ds, rfl⟩ : ∃ ds, x = .tuple ds := by
    cases x with
    | tuple ds => exact ⟨ds, rfl⟩
    | _ => cases htb
  obtain ⟨t2, us, rfl, hs2, ha⟩ := dp_tup hx
  have hul := DpAll.length ha
  obtain ⟨hdl, tmds⟩ : ds.length ≤ 1000 ∧ ∀ d ∈ ds, Tm d := by
    cases tmx.1 with
    | tup _ l h => exact ⟨l, h⟩
  refine iteF (ixt hs rfl ⟨v, vy, p, y, rfl, hv1, ho, hy, tmx.2, fun H2 s2 => ⟨_, rfl, ?_⟩⟩)
  have qb := fun H' (b : Bool) (s : Same H2 H') e => qa H' b (s2.trans s) e
  have hv2 := L2.Dp.same s2 hv1
  have hs_2 := tup_same s2 hs
  have hs2_2 := tup_same s2 hs2
  have ha2 := L2.DpAll.same s2 ha
  cases hrow : plL (Pt.cnt p) y with
  | none => exact iteT (qb H2 false (.refl H2) (right_norow hrow))
  | some row =>
  refine iteF (lc_ix rfl hs_2 rfl hs2_2 (by omega) (ds.map fun d => .bool (lotN (Pt.cnt p) d).isSome) (by rw [List.length_map, hul]) (fun d hd => by
    obtain ⟨e, _, rfl⟩ := List.mem_map.mp hd
    exact .bl _) ?_ ?_)
  · intro i x d hx hd H' R sm hR
    obtain ⟨e, he, hxe⟩ := DpAll.at ha2 hx
    rw [List.getElem?_map, he] at hd
    obtain rfl := Option.some.inj hd
    walk_at "sx"
    refine ⟨v, x, p, e, rfl, L2.Dp.same sm hv2, ho, L2.Dp.same sm hxe, tmds e (List.mem_of_getElem? he), fun H3 s3 => ⟨_, rfl, ?_⟩⟩
    have hR := fun (b : Bool) (h : (lotN (Pt.cnt p) e).isSome = b) => hR (.bl b) H3 s3 (h ▸ .bl _)
    cases hl : plL (Pt.cnt p) e with
    | none => exact iteF (hR false (by unfold lotN; rw [hl]; rfl))
    | some l =>
      obtain ⟨rfl, _⟩ := plL_ok hl
      obtain ⟨t3, rfl, hs3⟩ := dp_dN (L2.Dp.same (sm.trans s3) hxe)
      refine iteT ⟨_, len_t hs3 rfl, ?_⟩
      rw [List.length_map]
      refine hR _ ?_
      unfold lotN
      rw [hl]
      cases l with
      | nil => rfl
      | cons i l =>
        show true = decide (0 < ((i :: l).length : Int))
        rw [List.length_cons]
        exact (decide_eq_true (by omega)).symm
  intro D H3 vs nD s3 eD dv
  have e := dp_bools dv
  subst e
  refine ⟨D, ds.map fun d => (lotN (Pt.cnt p) d).isSome, rfl, SqL.of eD, _, rfl, ?_⟩
  rw [List.all_map]
  cases hall : ds.all (id ∘ fun d => (lotN (Pt.cnt p) d).isSome) with
  | false => exact iteT (qb H3 false s3 (right_nolots (mapO_none hall)))
  | true =>
  obtain ⟨lots, hm⟩ := mapO_ex hall
  have hlots := lotN_map hm
  obtain ⟨rfl, hlt⟩ := hlots
  have qc := fun H' (b : Bool) (s : Same H3 H') => qb H' b (s3.trans s)
  rw [right_eq hrow hm] at qc
  refine iteF ?_
  have hv3 := L2.Dp.same s3 hv2
  have hs_3 := tup_same s3 hs_2
  have hs2_3 := tup_same s3 hs2_2
  have ha3 := L2.DpAll.same s3 ha2
  have hll : us.length = lots.length := by rw [hul, List.length_map]
  have hcc := ho.2
  have h60 : ∀ c ∈ lots, c.length ≤ 60 := fun c hc => Nat.le_trans (nodup_lt (hlt c hc).2.1 (hlt c hc).1) hcc
  obtain ⟨rfl, hrw1, hrw2⟩ := plL_ok hrow
  have hrow60 := Nat.le_trans (nodup_lt hrw2 hrw1) hcc
  refine ⟨v, p, rfl, hv3, ho, fun a H4 na s4 hA => ?_⟩
  refine ⟨_, rfl, t, _, 0, _, rfl, rfl, tup_same s4 hs_3, rfl, t2, rfl, ⟨us, tup_same s4 hs2_3⟩, fun D2 nD2 => lc2_tups walk_tup nD2 lots hll.symm ?_ (fun H' f => tup_same f (tup_same s4 hs2_3)) (by decide) (by simp) (by simp) ?_ fun H5 s5 eD2 => ?_⟩
  · exact Nat.le_trans (Nat.le_trans (flat_bound h60) (Nat.mul_le_mul_right 60 (show _ ≤ 1000 by rw [← hll, hul]; exact hdl))) (by decide)
  · intro i x row hx hr
    obtain ⟨x', hx', dx⟩ := map_at (L2.DpAll.same s4 ha3) hr
    rw [hx] at hx'
    obtain rfl := Option.some.inj hx'
    exact dp_dN dx
  refine ⟨D2, lots.flatten.map fun i : Nat => (i : Int), rfl, by rw [List.map_map]; exact SqL.of eD2, fun ns' p6 pm rs n6 => ⟨by decide, fun p7 n7 => ⟨_, SqT.of upd_same, rfl, _, _, rfl, _, _, rfl, rfl, ?_⟩⟩⟩
  have f6 := same_upd (o := .lst (ns'.map V.int)) n6
  have f7 := same_upd (o := .tup [.ref a, .ref p6]) n7
  have e6 := f7 _ _ (upd_same (H := H5) (a := p6) (o := .lst (ns'.map V.int)))
  have s7 := (s4.trans s5).trans (f6.trans f7)
  have hA7 := hA.same (s5.trans (f6.trans f7))
  generalize upd (upd H5 p6 (.lst (ns'.map V.int))) p7 (.tup [.ref a, .ref p6]) = H7 at e6 s7 hA7 ⊢
  refine ⟨v, p, rfl, L2.Dp.same s7 hv3, ⟨ho.1, by have := ho.1.2; omega⟩, fun v' H8 s8 dk => ?_⟩
  cases dk
  refine ⟨_, rfl, RgOk.of_le (by omega) (by omega) (by omega) (by omega), fun q9 n9 => ?_⟩
  have f9 := same_upd (o := .lst (rgV 0 (Pt.cnt p : Int))) n9
  have erg : rgV 0 (Pt.cnt p : Int) = ((List.range' 0 (Pt.cnt p)).map fun i : Nat => (i : Int)).map V.int := by
    have := rgV_nat 0 (Pt.cnt p)
    rw [Nat.zero_add] at this
    rw [List.map_map]
    exact this
  refine ⟨.list (ns'.map PyData.int), .list (((List.range' 0 (Pt.cnt p)).map fun i : Nat => (i : Int)).map PyData.int), .lst (SqL.of (f9 _ _ (s8 _ _ e6))) (dp_of_ints _), .lst (SqL.of (by rw [upd_same, erg])) (dp_of_ints _), shaped_ints _, shaped_ints _, ?_⟩
  rw [eqv_ints, sorted_range pm rs]
  have s9 := s7.trans (s8.trans f9)
  refine ⟨_, rfl, ?_⟩
  cases hperm : decide (lots.flatten.Perm (List.range (Pt.cnt p))) with
  | false => exact iteT (qc _ false s9 (by rw [hperm]; rfl))
  | true =>
  rw [hperm] at qc
  have hA9 := hA7.same (s8.trans f9)
  have hs_9 := tup_same s9 hs_3
  have hs2_9 := tup_same s9 hs2_3
  have ha9 := L2.DpAll.same s9 ha3
  have hy9 := L2.Dp.same (s2.trans (s3.trans s9)) hy
  have qd := fun H' (b : Bool) (s : Same _ H') => qc H' b (s9.trans s)
  generalize upd H8 q9 (.lst (rgV 0 (Pt.cnt p : Int))) = H9 at hA9 hs_9 hs2_9 ha9 qd hy9 ⊢
  refine iteF (lc_ix rfl hs_9 rfl hs2_9 (by omega) (lots.map fun c => .bool (chainB (Pt.told p 0) c)) (by rw [List.length_map, hll]) (fun d hd => by
    obtain ⟨e, _, rfl⟩ := List.mem_map.mp hd
    exact .bl _) ?_ ?_)
  · intro i x d hx hd H' R sm hR
    rw [List.getElem?_map] at hd
    cases hc : lots[i]? with
    | none =>
      rw [hc] at hd
      cases hd
    | some c =>
      rw [hc] at hd
      obtain rfl := Option.some.inj hd
      obtain ⟨x', hx', dx⟩ := map_at ha9 hc
      rw [hx] at hx'
      obtain rfl := Option.some.inj hx'
      walk_at "sx"
      exact ⟨a, x, _, c, rfl, hA9.same sm, L2.Dp.same sm dx, by have := h60 c (List.mem_of_getElem? hc); omega, fun H'' s2 => hR _ _ s2 (.bl _)⟩
  intro D3 H10 vs3 nD3 s10 eD3 dv3
  have e := dp_bools dv3
  subst e
  refine ⟨D3, lots.map fun c => chainB (Pt.told p 0) c, rfl, SqL.of eD3, _, rfl, ?_⟩
  rw [List.all_map]
  cases hall2 : lots.all (id ∘ fun c => chainB (Pt.told p 0) c) with
  | false => exact iteT (qd H10 false s10 (by rw [show lots.all (if false then looseB (Pt.told p 0) else chainB (Pt.told p 0)) = false from hall2]; rfl))
  | true =>
  rw [show lots.all (if false then looseB (Pt.told p 0) else chainB (Pt.told p 0)) = true from hall2] at qd
  have hs_10 := tup_same s10 hs_9
  obtain ⟨t5, rfl, hs5⟩ := dp_dN hy9
  refine iteF (ixt hs_10 rfl ⟨_, len_t (tup_same s10 hs2_9) rfl, ixt hs_10 rfl ⟨_, len_t (tup_same s10 hs5) rfl, ?_⟩⟩)
  have el : decide ((us.length : Int) = ((row.map fun i : Nat => V.int (i : Nat)).length : Int)) = decide (lots.length = row.length) := by
    rw [hll, List.length_map, Bool.eq_iff_iff, decide_eq_true_eq, decide_eq_true_eq]
    omega
  rw [el]
  cases hlen : decide (lots.length = row.length) with
  | false => exact iteF (qd H10 false s10 (by rw [hlen]; rfl))
  | true =>
  rw [hlen] at qd
  refine iteT (ixt hs_10 rfl ⟨a, _, _, row, rfl, hA9.same s10, dN_of (tup_same s10 hs5), by omega, fun H11 s11 => qd H11 _ (s10.trans s11) rfl⟩)
theorem sc_takes_levels : FnScope ["party", "value", "lot", "there", "every", "place"] ["party", "value"] (defScope s_takes_levels) := ⟨rfl, rfl, rfl, by decide +kernel, rfl, by decide +kernel, by decide +kernel⟩
theorem ok_takes_levels {C : Addr} {f : Addr} {fd : FuncData} (F : Fun K "takes_levels" "takes_levels" s_takes_levels f fd) (c_check_party : ClX P w K mg base 73 "check_party" (spChk K C)) (c_has_shape : Cl P w K mg base 1 "has_shape" (spShape K)) (c_are_places : Cl P w K mg base 41 "are_places" (spAreP K)) (c_ahead_of : Cl P w K mg base 33 "ahead_of" (spAhead K)) (c_is_chain : Cl P w K mg base 1 "is_chain" (spChain K)) (c_is_loose : Cl P w K mg base 1 "is_loose" (spLoose K)) (c_count_of : Cl P w K mg base 40 "count_of" (spCount K 31)) (b_isinstance : mg "isinstance" = none) (b_tuple : mg "tuple" = none) (b_all : mg "all" = none) (b_len : mg "len" = none) (b_sorted : mg "sorted" = none) (b_list : mg "list" = none) (b_range : mg "range" = none) : FnOk P w K mg base (L2.CX P w) 74 f fd ["party", "value"] (spTakes true K C) := by
  have nd := sc_takes_levels.nd
  refine F.okX sc_takes_levels (fun vs H Q E h => ?_) (fun cdv A outer s H vs Q E hr h => ?_)
  · obtain ⟨v, u, d, e, rfl, _⟩ := h
    rfl
  obtain ⟨v, u, d, e, rfl, hv, tmd, hu, tme, q, bad⟩ := h
  refine ⟨_, (pss_cons (ps_expr (pclX c_check_party hr (by omega) (passes_call (takes_of rfl rfl rfl rfl) (fun _ _ _ _ h => h)) (pa_cons (pv 0) pa_nil)))
  (pss_cons (ps_if (PW.pt (pw_or (pt_not (pt_val (pcl c_has_shape hr (by omega) (pa_cons (pv 1) (pa_cons pe_int pa_nil))))) (pw_or (pt_not (pt_val (pe_callB (call_isK (K := K) rfl) (by rfl) b_isinstance (by decide +kernel) (pa_cons (pe_ix (ix_tupK (K := K) rfl) (pv 1) pe_int (fun _ _ => rfl)) (pa_cons (pe_bltn (v := .ty "tuple") (by rfl) b_tuple (by decide +kernel) rfl) pa_nil))))) (pw_or1 (pt_not (pt_val (pcl c_are_places hr (by omega) (pa_cons (pv 0) (pa_cons (pe_ix (ix_tupK (K := K) rfl) (pv 1) pe_int (fun _ _ => rfl)) pa_nil))))))))) (pss_one (ps_ret pe_bl)) pss_nil)
  (pss_cons (ps_if (pt_not (pt_val (pe_callB (cr_allK (K := K) rfl rfl) (by rfl) b_all (by decide +kernel) (pa_cons (pe_lc (own := [("lot", 2)]) rfl nd (pi_tup (pe_ix (ix_tupK (K := K) rfl) (pv 1) pe_int (fun _ _ => rfl))) (blkOk_by (N := ["party", "value", "lot", "there", "every", "place"]) (sc := defScope s_takes_levels) (by decide +kernel)) (fun _ _ _ _ _ => (pg_name (i := 2) nd rfl (.inl rfl))) (fun _ _ _ _ _ => pts_nil) (fun _ _ _ _ _ => (pe_and (pcl c_are_places hr (by omega) (pa_cons (pv 0) (pa_cons (pv 2) pa_nil))) (pe_one (pe_cmpR op_gt (pe_callB (call_lenK (K := K) rfl) (by rfl) b_len (by decide +kernel) (pa_cons (pv 2) pa_nil)) pe_int (nomark _)))))) pa_nil)))) (pss_one (ps_ret pe_bl)) pss_nil)
  (pss_cons (ps_asg (pe_tup (pa_cons (pcl c_ahead_of hr (by omega) (pa_cons (pv 0) pa_nil)) (pa_cons (pe_callB cr_sortedI (by rfl) b_sorted (by decide +kernel) (pa_cons (pe_lc2 (own := [("lot", 2), ("place", 5)]) (vs1 := [5]) rfl nd (pi_tup (pe_ix (ix_tupK (K := K) rfl) (pv 1) pe_int (fun _ _ => rfl))) (blkOk_by (N := ["party", "value", "lot", "there", "every", "place"]) (sc := defScope s_takes_levels) (by decide +kernel)) (by decide) (fun _ _ _ _ _ => (pg_name (i := 2) nd rfl (.inl rfl))) (fun _ _ _ _ _ => pts_nil) (fun _ _ _ _ _ => (pi_tupK (K := K) rfl (pv 2))) (fun _ _ _ _ _ => (pg_name (i := 5) nd rfl (.inl rfl))) (fun _ _ _ _ _ => pts_nil) (fun _ _ _ _ _ => (pv 5))) pa_nil)) pa_nil))) (pg_tupK (K := K) rfl (n := 2) (by rfl) (pgs_cons (pg_name (i := 3) nd rfl (.inr rfl)) (pgs_cons (pg_name (i := 4) nd rfl (.inl rfl)) pgs_nil))))
  (pss_cons (ps_if (PW.pt (pw_or (pt_cmpR (op_neD hr.units) (pv 4) (pe_listRg rfl (by rfl) b_list (prg_1 (by rfl) b_range (pcl c_count_of hr (by omega) (pa_cons (pv 0) pa_nil)))) (nomark _)) (pw_or1 (pt_not (pt_val (pe_callB (cr_allK (K := K) rfl rfl) (by rfl) b_all (by decide +kernel) (pa_cons (pe_lc (own := [("lot", 2)]) rfl nd (pi_tup (pe_ix (ix_tupK (K := K) rfl) (pv 1) pe_int (fun _ _ => rfl))) (blkOk_by (N := ["party", "value", "lot", "there", "every", "place"]) (sc := defScope s_takes_levels) (by decide +kernel)) (fun _ _ _ _ _ => (pg_name (i := 2) nd rfl (.inl rfl))) (fun _ _ _ _ _ => pts_nil) (fun _ _ _ _ _ => (pcl c_is_loose hr (by omega) (pa_cons (pv 3) (pa_cons (pv 2) pa_nil))))) pa_nil))))))) (pss_one (ps_ret pe_bl)) pss_nil)
  (pss_one (ps_ret (pe_and (pe_cmpR op_eq (pe_callB (call_lenK (K := K) rfl) (by rfl) b_len (by decide +kernel) (pa_cons (pe_ix (ix_tupK (K := K) rfl) (pv 1) pe_int (fun _ _ => rfl)) pa_nil)) (pe_callB (call_lenK (K := K) rfl) (by rfl) b_len (by decide +kernel) (pa_cons (pe_ix (ix_tupK (K := K) rfl) (pv 1) pe_int (fun _ _ => rfl)) pa_nil)) (nomark _)) (pe_one (pcl c_is_chain hr (by omega) (pa_cons (pv 3) (pa_cons (pe_ix (ix_tupK (K := K) rfl) (pv 1) pe_int (fun _ _ => rfl)) pa_nil)))))))))))), ?_⟩
  walk_at "sx"
  refine ⟨v, d, rfl, hv, tmd, fun H1 s1 hp => ?_, fun H1 s1 hp => bad H1 hp s1⟩
  obtain ⟨p, hp⟩ := Option.isSome_iff_exists.mp hp
  obtain ⟨rfl, ho⟩ := party_ok hp
  have qa := fun H' (b : Bool) (s : Same H1 H') (e : rightB true (Pt.cnt p) (Pt.told p 0) _ = b) => (e ▸ q p H' hp (s1.trans s) : Q (.bl b) H')
  clear bad
  have hv1 := L2.Dp.same s1 hv
  have hu1 := L2.Dp.same s1 hu
  refine ⟨u, e, 2, rfl, hu1, _, rfl, ?_⟩
  by_cases c2 : shapeD 2 e = true
  case neg =>
    have h0 := right_not2 (k := true) (n := Pt.cnt p) (P := Pt.told p 0) (d := e) fun a b h => c2 (by rw [h]; rfl)
    rw [Bool.not_eq_true] at c2
    rw [c2]
    exact iteT (qa H1 false (.refl H1) h0)
  obtain ⟨x, y, rfl⟩ := shape2 c2
  rw [c2]
  obtain ⟨t, vx, vy, rfl, hs, hx, hy⟩ := dp2d hu1
  have tmx : Tm x ∧ Tm y := by
    cases tme with
    | tup _ l h => exact ⟨h x (List.mem_cons_self ..), h y (List.mem_cons_of_mem _ (List.mem_cons_self ..))⟩
  refine iteF (ixt hs rfl (isi_tup hx ⟨_, rfl, ?_⟩))
  cases htb : isTup x with
  | false => exact iteT (qa H1 false (.refl H1) (right_notT htb))
  | true =>
  obtain ⟨ds, rfl⟩ : ∃ ds, x = .tuple ds := by
    cases x with
    | tuple ds => exact ⟨ds, rfl⟩
    | _ => cases htb
  obtain ⟨t2, us, rfl, hs2, ha⟩ := dp_tup hx
  have hul := DpAll.length ha
  obtain ⟨hdl, tmds⟩ : ds.length ≤ 1000 ∧ ∀ d ∈ ds, Tm d := by
    cases tmx.1 with
    | tup _ l h => exact ⟨l, h⟩
  refine iteF (ixt hs rfl ⟨v, vy, p, y, rfl, hv1, ho, hy, tmx.2, fun H2 s2 => ⟨_, rfl, ?_⟩⟩)
  have qb := fun H' (b : Bool) (s : Same H2 H') e => qa H' b (s2.trans s) e
  have hv2 := L2.Dp.same s2 hv1
  have hs_2 := tup_same s2 hs
  have hs2_2 := tup_same s2 hs2
  have ha2 := L2.DpAll.same s2 ha
  cases hrow : plL (Pt.cnt p) y with
  | none => exact iteT (qb H2 false (.refl H2) (right_norow hrow))
  | some row =>
  refine iteF (lc_ix rfl hs_2 rfl hs2_2 (by omega) (ds.map fun d => .bool (lotN (Pt.cnt p) d).isSome) (by rw [List.length_map, hul]) (fun d hd => by
    obtain ⟨e, _, rfl⟩ := List.mem_map.mp hd
    exact .bl _) ?_ ?_)
  · intro i x d hx hd H' R sm hR
    obtain ⟨e, he, hxe⟩ := DpAll.at ha2 hx
    rw [List.getElem?_map, he] at hd
    obtain rfl := Option.some.inj hd
    walk_at "sx"
    refine ⟨v, x, p, e, rfl, L2.Dp.same sm hv2, ho, L2.Dp.same sm hxe, tmds e (List.mem_of_getElem? he), fun H3 s3 => ⟨_, rfl, ?_⟩⟩
    have hR := fun (b : Bool) (h : (lotN (Pt.cnt p) e).isSome = b) => hR (.bl b) H3 s3 (h ▸ .bl _)
    cases hl : plL (Pt.cnt p) e with
    | none => exact iteF (hR false (by unfold lotN; rw [hl]; rfl))
    | some l =>
      obtain ⟨rfl, _⟩ := plL_ok hl
      obtain ⟨t3, rfl, hs3⟩ := dp_dN (L2.Dp.same (sm.trans s3) hxe)
      refine iteT ⟨_, len_t hs3 rfl, ?_⟩
      rw [List.length_map]
      refine hR _ ?_
      unfold lotN
      rw [hl]
      cases l with
      | nil => rfl
      | cons i l =>
        show true = decide (0 < ((i :: l).length : Int))
        rw [List.length_cons]
        exact (decide_eq_true (by omega)).symm
  intro D H3 vs nD s3 eD dv
  have e := dp_bools dv
  subst e
  refine ⟨D, ds.map fun d => (lotN (Pt.cnt p) d).isSome, rfl, SqL.of eD, _, rfl, ?_⟩
  rw [List.all_map]
  cases hall : ds.all (id ∘ fun d => (lotN (Pt.cnt p) d).isSome) with
  | false => exact iteT (qb H3 false s3 (right_nolots (mapO_none hall)))
  | true =>
  obtain ⟨lots, hm⟩ := mapO_ex hall
  have hlots := lotN_map hm
  obtain ⟨rfl, hlt⟩ := hlots
  have qc := fun H' (b : Bool) (s : Same H3 H') => qb H' b (s3.trans s)
  rw [right_eq hrow hm] at qc
  refine iteF ?_
  have hv3 := L2.Dp.same s3 hv2
  have hs_3 := tup_same s3 hs_2
  have hs2_3 := tup_same s3 hs2_2
  have ha3 := L2.DpAll.same s3 ha2
  have hll : us.length = lots.length := by rw [hul, List.length_map]
  have hcc := ho.2
  have h60 : ∀ c ∈ lots, c.length ≤ 60 := fun c hc => Nat.le_trans (nodup_lt (hlt c hc).2.1 (hlt c hc).1) hcc
  obtain ⟨rfl, hrw1, hrw2⟩ := plL_ok hrow
  have hrow60 := Nat.le_trans (nodup_lt hrw2 hrw1) hcc
  refine ⟨v, p, rfl, hv3, ho, fun a H4 na s4 hA => ?_⟩
  refine ⟨_, rfl, t, _, 0, _, rfl, rfl, tup_same s4 hs_3, rfl, t2, rfl, ⟨us, tup_same s4 hs2_3⟩, fun D2 nD2 => lc2_tups walk_tup nD2 lots hll.symm ?_ (fun H' f => tup_same f (tup_same s4 hs2_3)) (by decide) (by simp) (by simp) ?_ fun H5 s5 eD2 => ?_⟩
  · exact Nat.le_trans (Nat.le_trans (flat_bound h60) (Nat.mul_le_mul_right 60 (show _ ≤ 1000 by rw [← hll, hul]; exact hdl))) (by decide)
  · intro i x row hx hr
    obtain ⟨x', hx', dx⟩ := map_at (L2.DpAll.same s4 ha3) hr
    rw [hx] at hx'
    obtain rfl := Option.some.inj hx'
    exact dp_dN dx
  refine ⟨D2, lots.flatten.map fun i : Nat => (i : Int), rfl, by rw [List.map_map]; exact SqL.of eD2, fun ns' p6 pm rs n6 => ⟨by decide, fun p7 n7 => ⟨_, SqT.of upd_same, rfl, _, _, rfl, _, _, rfl, rfl, ?_⟩⟩⟩
  have f6 := same_upd (o := .lst (ns'.map V.int)) n6
  have f7 := same_upd (o := .tup [.ref a, .ref p6]) n7
  have e6 := f7 _ _ (upd_same (H := H5) (a := p6) (o := .lst (ns'.map V.int)))
  have s7 := (s4.trans s5).trans (f6.trans f7)
  have hA7 := hA.same (s5.trans (f6.trans f7))
  generalize upd (upd H5 p6 (.lst (ns'.map V.int))) p7 (.tup [.ref a, .ref p6]) = H7 at e6 s7 hA7 ⊢
  refine ⟨v, p, rfl, L2.Dp.same s7 hv3, ⟨ho.1, by have := ho.1.2; omega⟩, fun v' H8 s8 dk => ?_⟩
  cases dk
  refine ⟨_, rfl, RgOk.of_le (by omega) (by omega) (by omega) (by omega), fun q9 n9 => ?_⟩
  have f9 := same_upd (o := .lst (rgV 0 (Pt.cnt p : Int))) n9
  have erg : rgV 0 (Pt.cnt p : Int) = ((List.range' 0 (Pt.cnt p)).map fun i : Nat => (i : Int)).map V.int := by
    have := rgV_nat 0 (Pt.cnt p)
    rw [Nat.zero_add] at this
    rw [List.map_map]
    exact this
  refine ⟨.list (ns'.map PyData.int), .list (((List.range' 0 (Pt.cnt p)).map fun i : Nat => (i : Int)).map PyData.int), .lst (SqL.of (f9 _ _ (s8 _ _ e6))) (dp_of_ints _), .lst (SqL.of (by rw [upd_same, erg])) (dp_of_ints _), shaped_ints _, shaped_ints _, ?_⟩
  rw [eqv_ints, sorted_range pm rs]
  have s9 := s7.trans (s8.trans f9)
  refine ⟨_, rfl, ?_⟩
  cases hperm : decide (lots.flatten.Perm (List.range (Pt.cnt p))) with
  | false => exact iteT (qc _ false s9 (by rw [hperm]; rfl))
  | true =>
  rw [hperm] at qc
  have hA9 := hA7.same (s8.trans f9)
  have hs_9 := tup_same s9 hs_3
  have hs2_9 := tup_same s9 hs2_3
  have ha9 := L2.DpAll.same s9 ha3
  have hy9 := L2.Dp.same (s2.trans (s3.trans s9)) hy
  have qd := fun H' (b : Bool) (s : Same _ H') => qc H' b (s9.trans s)
  generalize upd H8 q9 (.lst (rgV 0 (Pt.cnt p : Int))) = H9 at hA9 hs_9 hs2_9 ha9 qd hy9 ⊢
  refine iteF (lc_ix rfl hs_9 rfl hs2_9 (by omega) (lots.map fun c => .bool (looseB (Pt.told p 0) c)) (by rw [List.length_map, hll]) (fun d hd => by
    obtain ⟨e, _, rfl⟩ := List.mem_map.mp hd
    exact .bl _) ?_ ?_)
  · intro i x d hx hd H' R sm hR
    rw [List.getElem?_map] at hd
    cases hc : lots[i]? with
    | none =>
      rw [hc] at hd
      cases hd
    | some c =>
      rw [hc] at hd
      obtain rfl := Option.some.inj hd
      obtain ⟨x', hx', dx⟩ := map_at ha9 hc
      rw [hx] at hx'
      obtain rfl := Option.some.inj hx'
      walk_at "sx"
      exact ⟨a, x, _, c, rfl, hA9.same sm, L2.Dp.same sm dx, by have := h60 c (List.mem_of_getElem? hc); omega, fun H'' s2 => hR _ _ s2 (.bl _)⟩
  intro D3 H10 vs3 nD3 s10 eD3 dv3
  have e := dp_bools dv3
  subst e
  refine ⟨D3, lots.map fun c => looseB (Pt.told p 0) c, rfl, SqL.of eD3, _, rfl, ?_⟩
  rw [List.all_map]
  cases hall2 : lots.all (id ∘ fun c => looseB (Pt.told p 0) c) with
  | false => exact iteT (qd H10 false s10 (by rw [show lots.all (if true then looseB (Pt.told p 0) else chainB (Pt.told p 0)) = false from hall2]; rfl))
  | true =>
  rw [show lots.all (if true then looseB (Pt.told p 0) else chainB (Pt.told p 0)) = true from hall2] at qd
  have hs_10 := tup_same s10 hs_9
  obtain ⟨t5, rfl, hs5⟩ := dp_dN hy9
  refine iteF (ixt hs_10 rfl ⟨_, len_t (tup_same s10 hs2_9) rfl, ixt hs_10 rfl ⟨_, len_t (tup_same s10 hs5) rfl, ?_⟩⟩)
  have el : decide ((us.length : Int) = ((row.map fun i : Nat => V.int (i : Nat)).length : Int)) = decide (lots.length = row.length) := by
    rw [hll, List.length_map, Bool.eq_iff_iff, decide_eq_true_eq, decide_eq_true_eq]
    omega
  rw [el]
  cases hlen : decide (lots.length = row.length) with
  | false => exact iteF (qd H10 false s10 (by rw [hlen]; rfl))
  | true =>
  rw [hlen] at qd
  refine iteT (ixt hs_10 rfl ⟨a, _, _, row, rfl, hA9.same s10, dN_of (tup_same s10 hs5), by omega, fun H11 s11 => qd H11 _ (s10.trans s11) rfl⟩)
end

end Z

set_option Elab.async false
set_option linter.all false
set_option maxRecDepth 100000
set_option maxHeartbeats 4000000

namespace Z
open PySem PySem.Spec PyProof.Rows L2
local macro_rules | `(tactic| walk_at "sx") => `(tactic| try simp only [and_assoc, cxOf_K, cxOf_Kn, C8.tCut, rEq, rNe, sc_ii, sc_ss, sc_bb, sc_is, sc_si, sc_bs, sc_sb, tSeq, tAsg, tPar, tPar3, tC, gName, gNil, gCons, gTup, gSub, rSetL, L2.start, tVar, tOp, tUn, rI0, rI, rU, tTest, tChain, tOrV, tAndV, tNotV, tCB, tCons, tNil, tLst, tTup, tIfS, tNext, tRet, tRetN, tDrop, tAnd, tOr, tNot, tB, tIf, tSl, tFld, sFld, putF, tNoPart, tPart, rSlL, tBM, tBM0, rAppend, rPop, rExtend, tCall, tMeth, tLstRg, tRg1, tRg2, List.map_cons, List.map_nil, List.replicate, List.length_cons, List.length_nil, List.append, List.cons_append, List.nil_append, List.append_nil, List.getElem?_cons_zero, List.getElem?_cons_succ, List.set_cons_zero, List.set_cons_succ, Option.some.injEq, exists_eq_left', exists_eq_left, exists_eq, exists_and_left, exists_const, wipe, tYes, upd_same, ↓reduceIte, decide_false, decide_true, Bool.not_true, Bool.not_false, Bool.false_eq_true, V.int.injEq, HO.lst.injEq, HO.tup.injEq, V.ref.injEq, V.str.injEq, one_inj, le_a, le_z, le_0, le_9, mem_let, mem_dig, V.bl.injEq, List.cons.injEq, and_true, true_and, reduceCtorEq, false_and, exists_false, or_false, false_or])
open PySem.W
namespace R
/-- d.update(e), two dicts -/
def rUpd : V → List V → Hp → VK → Prop := fun x xs H Q => ∃ (d o : Addr) (kvs more : List (Key × V)), x = .ref d ∧ xs = [.ref o] ∧ H d = some (.dK kvs) ∧ H o = some (.dK more) ∧ d ≠ o ∧ kvs.length + more.length ≤ sizeLine ∧ Q .non (upd H d (.dK (mergeK kvs more)))
theorem mt_upd {X : Cx} : MtR X "dict.update" rUpd := by
  intro pins s σ H x xs v us Q I rx rxs h
  obtain ⟨d, o, kvs, more, rfl, rfl, hd, ho, hne, hz, q⟩ := h
  cases rx
  cases rxs with
  | cons ry rt =>
    cases rt
    cases ry
    obtain ⟨z1, y1, vs, k1, d1⟩ := dk_of I.hok hd
    obtain ⟨z2, y2, ws, k2, d2⟩ := dk_of I.hok ho
    have l1 := KV.length k1
    have l2 := KV.length k2
    refine call_meetsIn PySem.F.slot_dict_update d1.typeIs PySem.F.entry_dict_update (PySem.F.args_dict_update_2 _ _) (meets_dict_update (mixKind X.prog X.w) d o hne y2) ⟨vs, ws, d1, d2, by omega, fun h' e1 _ sb => ?_⟩
    have there : ∃ q, h'.get? d = some q := let ⟨q, _, _, hq, _⟩ := e1; ⟨q, hq⟩
    have hl : (mergeK kvs more).length ≤ sizeLine := Nat.le_trans (length_mergeK more kvs) hz
    exact ⟨.non, _, d_write (t' := s.toks) I (by rw [hd]; trivial) sb there (dk_new hl y1 (KV.merge k2 k1) e1), rfl, q⟩
section
variable {X : Cx}
theorem sw_dict {kx vx : Expr} {gs : List Comprehension} {scope : Scope} {pos py : Pos} {y : Str} {l : Nat} {env : Env} (hk : env.scope.kind = .function) (hy : env.scope.names.lookup y = some .local) (hl : (py.line == pos.line) = true)
    (ha : (scope.names.any fun (n, k) => n == y && (k == .local || k == .cell)) = false) : swapsWith (.DictComp kx vx gs scope pos) (some (.Name y py)) l env = pure true := by
  have k1 : env.kindOf y = some .local := hy
  have k2 : env.blockKind = .function := by
    unfold Env.blockKind
    rw [hk]
    rfl
  unfold swapsWith
  simp only [k2, k1, ha, Expr.pos, hl]
  rfl
/-- y = {k: v for ..} -/
theorem ps_setDc {i : Nat} {y : Str} {py : Pos} {kx vx tg walked : Expr} {ifs : List Expr} {sc : Scope} {own : List (Str × Nat)} {pos spos : Pos} {wi : TI} {g : TG} {tt : TT} {tk tv : TE} (calm : X.calm = true) (nd : X.N.Nodup) (hy : X.N[i]? = some y) (loc : X.env.scope.names.lookup y = some .local)
    (sw : swapsWith (.DictComp kx vx [⟨tg, walked, ifs, 0⟩] sc pos) (some (.Name y py)) spos.line X.env = pure true) (hw : PI X tg walked wi) (bo : BlkOk X.N X.env.scope sc own)
    (hg : ∀ (s : Shared) (H : Hp) (C : Addr) (cl : List (Str × Addr)) (fp : List Addr), PG (X.blk s H sc (compEnvC sc cl C X.env) fp) tg g)
    (ht : ∀ (s : Shared) (H : Hp) (C : Addr) (cl : List (Str × Addr)) (fp : List Addr), PTs (X.blk s H sc (compEnvC sc cl C X.env) fp) ifs tt)
    (hk : ∀ (s : Shared) (H : Hp) (C : Addr) (cl : List (Str × Addr)) (fp : List Addr), PE (X.blk s H sc (compEnvC sc cl C X.env) fp) kx tk)
    (hv : ∀ (s : Shared) (H : Hp) (C : Addr) (cl : List (Str × Addr)) (fp : List Addr), PE (X.blk s H sc (compEnvC sc cl C X.env) fp) vx tv) (hf : ∀ x, foldedSetIterable walked X.env x = pure x := by intro _; rfl) :
    PS X (.Assign [.Name y py] (.DictComp kx vx [⟨tg, walked, ifs, 0⟩] sc pos) spos) (tAsg (tDc wi g tt tk tv (own.map (·.2))) (gName i)) := by
  refine ⟨fun pins m0 σ H D I reading => ?_⟩
  rw [exec_Assign_Name_used _ _ _ _ sw]
  refine wpAny_bind (wpAny_standAt (wpAny_bind ?_))
  show wpAny _ X.A (do let _ ← comprehension (.DictComp kx vx [⟨tg, walked, ifs, 0⟩] sc pos) sc X.env (firstIterPos [⟨tg, walked, ifs, 0⟩] pos) newDict false (eval walked X.env) (some (assign (.Name y py) X.env))) _ _ m0
  have told : tDc wi g tt tk tv (own.map (·.2)) σ H (fun x H1 => gName i x σ H1 D.nx) := reading
  refine wpAny_bind (thn (dc_core (Qf := fun _ s' => SP X pins D .next s') calm nd I hw bo hg ht hk hv hf told fun L C m1 loc1 H1 I1 q ns fr => ?_) fun _ m2 hq => wpAny_pure (wpAny_pure hq))
  show wpAny _ _ (assign (.Name y py) X.env (.ref L)) _ _ _
  refine wpAny_assign_Name (store_ok2 (v := V.ref L) I1 nd hy (.inl loc) rfl (fun m2 I2 ⟨a, sb, ha⟩ => ?_) (.inr loc))
  obtain ⟨f0, f1, f2, f3, f4, f5⟩ := fr
  have ne : C ≠ a := ha.elim (fun z => by rw [z]; exact f1) fun z e => f4 y a z e.symm
  exact ⟨loc1, ns.sameBut sb ne, fun h3 sb3 => ⟨_, H1, I2.turned (t' := m2.toks) (fun b o hb e => (sb3.2 b hb).trans e) f0 f1 f3 f4 f5, q⟩⟩
theorem call_tupleK {K : PySem.W.Frag} (h : X.K = K) : CallR X (.type "tuple") (fun xs H Q => ∃ p ys, xs = [.ref p] ∧ ((SqL K H p ys ∧ ∀ l, H l = none → Q (.ref l) (upd H l (.tup ys))) ∨ (SqT K H p ys ∧ Q (.ref p) H))) := h ▸ call_tuple_of
end
end R

end Z

set_option Elab.async false
set_option linter.all false
set_option maxRecDepth 100000
set_option maxHeartbeats 4000000

namespace Z
open PySem PySem.Spec PyProof.Rows L2 Z.R
local macro_rules | `(tactic| walk_at "sx") => `(tactic| try simp only [and_assoc, cxOf_K, cxOf_Kn, C8.tCut, rEq, rNe, sc_ii, sc_ss, sc_bb, sc_is, sc_si, sc_bs, sc_sb, tSeq, tAsg, tPar, tPar3, tC, gName, gNil, gCons, gTup, gSub, rSetL, L2.start, tVar, tOp, tUn, rI0, rI, rU, tTest, tChain, tOrV, tAndV, tNotV, tCB, tCons, tNil, tLst, tTup, tIfS, tNext, tRet, tRetN, tDrop, tAnd, tOr, tNot, tB, tIf, tSl, tFld, sFld, putF, tNoPart, tPart, rSlL, tBM, tBM0, rAppend, rPop, rExtend, tCall, tMeth, tLstRg, tRg1, tRg2, List.map_cons, List.map_nil, List.replicate, List.length_cons, List.length_nil, List.append, List.cons_append, List.nil_append, List.append_nil, List.getElem?_cons_zero, List.getElem?_cons_succ, List.set_cons_zero, List.set_cons_succ, Option.some.injEq, exists_eq_left', exists_eq_left, exists_eq, exists_and_left, exists_const, wipe, tYes, upd_same, ↓reduceIte, decide_false, decide_true, Bool.not_true, Bool.not_false, Bool.false_eq_true, V.int.injEq, HO.lst.injEq, HO.tup.injEq, V.ref.injEq, V.str.injEq, one_inj, le_a, le_z, le_0, le_9, mem_let, mem_dig, V.bl.injEq, List.cons.injEq, and_true, true_and, reduceCtorEq, false_and, exists_false, or_false, false_or])
/-- a dict of times: tb of each name in l -/
def TbAt (H : Hp) (a : Addr) (tb : Str → Nat) (l : List Str) : Prop := ∃ kvs : List (Key × V), H a = some (.dK kvs) ∧ ∀ x ∈ l, valV kvs (.inr x) = some (.int (tb x : Nat))
theorem TbAt.same {H H' : Hp} {a : Addr} {tb : Str → Nat} {l : List Str} (f : Same H H') (h : TbAt H a tb l) : TbAt H' a tb l := by
  obtain ⟨kvs, e, q⟩ := h
  exact ⟨kvs, f _ _ e, q⟩
theorem TbAt.sub {H : Hp} {a : Addr} {tb : Str → Nat} {l m : List Str} (h : TbAt H a tb l) (s : ∀ x ∈ m, x ∈ l) : TbAt H a tb m := by
  obtain ⟨kvs, e, q⟩ := h
  exact ⟨kvs, e, fun x hx => q x (s x hx)⟩
theorem names_part {α : Type} {r : Bool} {ps : List (Pt α)} {p : Pt α} (h : p ∈ ps) : ∀ x ∈ Pt.names p, x ∈ Pt.names (.nd r ps) := fun x hx => by
  rw [Pt.names_nd]
  exact List.mem_flatten.mpr ⟨_, List.mem_map.mpr ⟨p, h, rfl⟩, hx⟩
def spTime (K : PySem.W.Frag) (n : Nat) : Sp := fun vs H Q _ => ∃ (v : V) (a : Addr) (p : Pt Str) (tb : Str → Nat), vs = [v, .ref a] ∧ Dp K H v (Pt.enc .str p) ∧ Pt.Okc p ∧ Pt.dep p < n ∧ TbAt H a tb (Pt.names p) ∧ ∀ H', Same H H' → Q (.int (Pt.time tb p : Nat)) H'
section
variable {P : Program} {w : World} {K : PySem.W.Frag} {mg : Str → Option Value} {base : Heap}
theorem sc_time_in : FnScope ["party", "table", "times", "part"] ["party", "table"] (defScope s_time_in) := ⟨rfl, rfl, rfl, by decide +kernel, rfl, by decide +kernel, by decide +kernel⟩
theorem step_time_in {f : Addr} {fd : FuncData} {n : Nat} (F : Fun K "time_in" "time_in" s_time_in f fd) (c_time_in : Cl P w K mg base (n + 1) "time_in" (spTime K n)) (b_sum : mg "sum" = none) (b_max : mg "max" = none) {aE : Addr} (hE : ∀ H, SqT K H aE [.str "empty"]) (g_EMPTY : GV mg "EMPTY" (.ref aE)) : FnOk P w K mg base CX0 (n + 2) f fd ["party", "table"] (spTime K (n + 1)) := by
  have nd := sc_time_in.nd
  refine F.ok sc_time_in (fun vs H Q E h => ?_) (fun cdv A outer s H vs Q E hr h => ?_)
  · obtain ⟨v, a, p, tb, rfl, _⟩ := h
    rfl
  obtain ⟨v, a, p, tb, rfl, hv, ho, hn, hT, q⟩ := h
  refine ⟨_, (pss_cons (ps_if (pt_cmpR (op_eqD hr.units) (pv 0) (pe_gv g_EMPTY) (nomark _)) (pss_one (ps_ret pe_int)) pss_nil)
  (pss_cons (ps_if (pt_cmpR op_eq (pe_ix (ix_tupK (K := K) rfl) (pv 0) pe_int (fun _ _ => rfl)) pe_str (nomark _)) (pss_one (ps_ret (pe_dget (hu_of hr) (pv 1) (pe_ix (ix_tupK (K := K) rfl) (pv 0) pe_int (fun _ _ => rfl)) (fun _ _ => rfl)))) pss_nil)
  (pss_cons (ps_setLc (i := 2) (own := [("part", 3)]) rfl nd rfl rfl (sw_true rfl rfl rfl (by decide +kernel)) (pi_tup (pe_ix (ix_tupK (K := K) rfl) (pv 0) pe_int (fun _ _ => rfl))) (blkOk_by (N := ["party", "table", "times", "part"]) (sc := defScope s_time_in) (by decide +kernel)) (fun _ _ _ _ _ => (pg_name (i := 3) nd rfl (.inl rfl))) (fun _ _ _ _ _ => pts_nil) (fun _ _ _ _ _ => (pcl c_time_in hr (by omega) (pa_cons (pv 3) (pa_cons (pv 1) pa_nil)))))
  (pss_one (ps_ret (pe_ifExp (pt_cmpR op_eq (pe_ix (ix_tupK (K := K) rfl) (pv 0) pe_int (fun _ _ => rfl)) pe_str (nomark _)) (pe_callB (cr_sumK (K := K) rfl rfl) (by rfl) b_sum (by decide +kernel) (pa_cons (pv 2) pa_nil)) (pe_callB (cr_maxK (K := K) rfl rfl) (by rfl) b_max (by decide +kernel) (pa_cons (pv 2) pa_nil)))))))), ?_⟩
  walk_at "sx"
  refine eq_emp hv hE (Pt.shp_enc ho.1) ⟨_, rfl, ?_⟩
  cases p with
  | emp =>
    have := q H (.refl H)
    rw [Pt.time] at this
    exact iteT this
  | deed x =>
    obtain ⟨t, u, rfl, hs, hu⟩ := dp_deed hv
    cases hu
    obtain ⟨kvs, e, hq⟩ := hT
    have h1 := hq x (by rw [Pt.names]; exact List.mem_singleton_self x)
    have := q H (.refl H)
    rw [Pt.time] at this
    refine iteF (ixt hs rfl ⟨rfl, iteT ?_⟩)
    exact ⟨_, rfl, _, rfl, t, _, 1, _, rfl, rfl, hs, rfl, a, _, rfl, h1 ▸ DGet.k (k := .inr x) e, this⟩
  | nd r ps =>
    obtain ⟨t, t2, us, rfl, hs, hs2, hu⟩ := dp_nd hv
    refine iteF (ixt hs rfl ⟨rfl, ?_⟩)
    rw [deed_ne]
    refine iteF (lc_kids rfl hs hs2 hu ho.1.fl.len.2 (fun p => .int (Pt.time tb p : Nat)) (fun p => .int _) ?_ ?_)
    · intro p hp x H' R sm hx hR
      walk_at "sx"
      have := Pt.dep_mem (r := r) hp
      exact ⟨x, a, p, tb, rfl, hx, ho.part hp, by omega, (hT.same sm).sub (names_part hp), fun H'' s2 => hR _ _ s2 (.int _)⟩
    · intro D H1 vs nD s1 eD dv
      have e := dp_ints dv
      subst e
      have h26 := ho.1.fl.len
      refine ixt (tup_same s1 hs) rfl ⟨rfl, ?_⟩
      rw [row_word]
      have q := q H1 s1
      rw [Pt.time_nd] at q
      cases r with
      | true =>
        refine iteT ⟨D, ps.map fun p => (Pt.time tb p : Int), rfl, SqL.of eD, ?_⟩
        rw [sum_cast (Pt.time tb) ps]
        exact q
      | false =>
        refine iteF ⟨D, ps.map fun p => (Pt.time tb p : Int), rfl, SqL.of eD, by rw [List.length_map]; omega, fun m hm hm2 => ?_⟩
        have em : m = ((ps.map (Pt.time tb)).foldr Nat.max 0 : Nat) := max_int (by rw [List.map_map]; exact hm) (by rw [List.map_map]; exact hm2)
        rw [em]
        exact q
theorem ok_time_in {f : Addr} {fd : FuncData} (F : Fun K "time_in" "time_in" s_time_in f fd) (hm : mg "time_in" = some (.ref f)) (hb : Binds K fd ["party", "table"] []) (b_sum : mg "sum" = none) (b_max : mg "max" = none) {aE : Addr} (hE : ∀ H, SqT K H aE [.str "empty"]) (g_EMPTY : GV mg "EMPTY" (.ref aE)) : ∀ n : Nat, FnOk P w K mg base CX0 (n + 1) f fd ["party", "table"] (spTime K n)
  | 0 => fn_false fun vs H Q E h => by
    obtain ⟨v, a, p, tb, _, _, _, h, _⟩ := h; omega
  | n + 1 => step_time_in F ⟨f, fd, _, ok_time_in F hm hb b_sum b_max hE g_EMPTY n, hm, F.kp, hb⟩ b_sum b_max hE g_EMPTY
end

end Z

set_option Elab.async false
set_option linter.all false
set_option maxRecDepth 100000
set_option maxHeartbeats 4000000

namespace Z
open PySem PySem.Spec PyProof.Rows L2 Z.R
local macro_rules | `(tactic| walk_at "sx") => `(tactic| try simp only [and_assoc, cxOf_K, cxOf_Kn, C8.tCut, rEq, rNe, sc_ii, sc_ss, sc_bb, sc_is, sc_si, sc_bs, sc_sb, tSeq, tAsg, tPar, tPar3, tC, gName, gNil, gCons, gTup, gSub, rSetL, L2.start, tVar, tOp, tUn, rI0, rI, rU, tTest, tChain, tOrV, tAndV, tNotV, tCB, tCons, tNil, tLst, tTup, tIfS, tNext, tRet, tRetN, tDrop, tAnd, tOr, tNot, tB, tIf, tSl, tFld, sFld, putF, tNoPart, tPart, rSlL, tBM, tBM0, rAppend, rPop, rExtend, tCall, tMeth, tLstRg, tRg1, tRg2, List.map_cons, List.map_nil, List.replicate, List.length_cons, List.length_nil, List.append, List.cons_append, List.nil_append, List.append_nil, List.getElem?_cons_zero, List.getElem?_cons_succ, List.set_cons_zero, List.set_cons_succ, Option.some.injEq, exists_eq_left', exists_eq_left, exists_eq, exists_and_left, exists_const, wipe, tYes, upd_same, ↓reduceIte, decide_false, decide_true, Bool.not_true, Bool.not_false, Bool.false_eq_true, V.int.injEq, HO.lst.injEq, HO.tup.injEq, V.ref.injEq, V.str.injEq, one_inj, le_a, le_z, le_0, le_9, mem_let, mem_dig, V.bl.injEq, List.cons.injEq, and_true, true_and, reduceCtorEq, false_and, exists_false, or_false, false_or])
namespace Pt
theorem names_bare {α : Type} : ∀ t : Pt (α × Nat), names (bare t) = (names t).map (·.1) := by
  refine ind ?_ (fun x => ?_) fun r ps ih => ?_
  · rw [bare, names, names]; rfl
  · rw [bare, names, names]; rfl
  · rw [bare_nd, names_nd, names_nd, List.map_flatten, List.map_map, List.map_map]
    congr 1
    exact List.map_congr_left fun p hp => ih p hp
/-- the places of a party with places -/
def places {α : Type} (t : Pt (α × Nat)) : List Nat := (names t).map (·.2)
theorem places_nd {α : Type} (r : Bool) (ps : List (Pt (α × Nat))) : places (.nd r ps) = (ps.map places).flatten := by
  unfold places
  rw [names_nd, List.map_flatten, List.map_map]
  rfl
theorem starts_places {α : Type} (tb : α → Nat) : ∀ (t : Pt (α × Nat)) (st : Nat), (starts tb t st).map (·.1) = places t := by
  refine ind (fun st => ?_) (fun x st => ?_) fun r ps ih st => ?_
  · rw [starts, places, names]; rfl
  · rw [starts, places, names]; rfl
  · rw [starts_nd, places_nd]

    induction ps generalizing st with
    | nil => rw [starts.go]; rfl
    | cons p ps ih2 =>
      rw [starts.go, List.map_append, ih p List.mem_cons_self, ih2 (fun q hq => ih q (List.mem_cons_of_mem _ hq))]
      rfl
theorem starts_len {α : Type} (tb : α → Nat) (t : Pt (α × Nat)) (st : Nat) : (starts tb t st).length = cnt t := by
  have := congrArg List.length (starts_places tb t st)
  rw [List.length_map, places, List.length_map, names_len] at this
  exact this
/-- when the i-th part begins -/
def stAt {α : Type} (tb : α → Nat) (r : Bool) (ps : List (Pt (α × Nat))) (st : Nat) (i : Nat) : Nat := if r then st + ((ps.take i).map fun p => time tb (bare p)).sum else st
theorem stAt_succ {α : Type} {tb : α → Nat} {r : Bool} {ps : List (Pt (α × Nat))} {st i : Nat} {p : Pt (α × Nat)} (h : ps[i]? = some p) : stAt tb r ps st (i + 1) = stAt tb r ps st i + if r then time tb (bare p) else 0 := by
  unfold stAt
  cases r with
  | false => rfl
  | true =>
    simp only [if_true]
    rw [List.take_add_one, h]
    simp [Nat.add_assoc]
end Pt
def kvN (x : Nat × Nat) : Key × V := (.inl (x.1 : Int), .int (x.2 : Nat))
theorem putK_new {κ : Type} [DecidableEq κ] {kvs : List (κ × V)} {k : κ} {v : V} (h : k ∉ kvs.map (·.1)) : putK kvs k v = kvs ++ [(k, v)] := by
  unfold putK
  rw [if_neg]
  rw [List.any_eq_true]
  rintro ⟨x, hx, e⟩
  exact h (List.mem_map.mpr ⟨x, hx, of_decide_eq_true e⟩)
theorem mergeK_new : ∀ {more kvs : List (Key × V)}, ((kvs ++ more).map (·.1)).Nodup → mergeK kvs more = kvs ++ more
  | [], kvs, _ => by rw [List.append_nil]; rfl
  | x :: more, kvs, h => by
    show mergeK (putK kvs x.1 x.2) more = _
    have hn : x.1 ∉ kvs.map (·.1) := fun hx => by
      rw [List.map_append, List.map_cons] at h
      exact (List.nodup_append.mp h).2.2 _ hx _ List.mem_cons_self rfl
    rw [putK_new hn, mergeK_new (by rw [List.append_assoc]; exact h), List.append_assoc]
    rfl
theorem kvN_keys (l : List (Nat × Nat)) : (l.map kvN).map (·.1) = (l.map (·.1)).map fun i : Nat => (Sum.inl (i : Int) : Key) := by
  rw [List.map_map, List.map_map]
  rfl
theorem keys_nodup {l : List Nat} (h : l.Nodup) : (l.map fun i : Nat => (Sum.inl (i : Int) : Key)).Nodup := by
  unfold List.Nodup
  rw [List.pairwise_map]
  exact List.Pairwise.imp (fun {a b} hne e => hne (by have := Sum.inl.inj e; omega)) h
theorem valV_at {κ : Type} [DecidableEq κ] : ∀ {kvs : List (κ × V)} {k : κ} {v : V}, (kvs.map (·.1)).Nodup → (k, v) ∈ kvs → valV kvs k = some v
  | [], _, _, _, h => by cases h
  | x :: kvs, k, v, hn, h => by
    rw [List.map_cons, List.nodup_cons] at hn
    unfold valV
    rcases List.mem_cons.mp h with rfl | h
    · simp
    · have hne : x.1 ≠ k := fun e => hn.1 (List.mem_map.mpr ⟨(k, v), h, e.symm⟩)
      have ih := valV_at hn.2 h
      unfold valV at ih
      simp [hne]
      simpa using ih
theorem first_idx {γ : Type} {p : γ → Bool} : ∀ {l : List γ}, (∃ x ∈ l, p x = true) → ∃ (j : Nat) (x : γ), l[j]? = some x ∧ p x = true ∧ (∀ (m : Nat) (y : γ), m < j → l[m]? = some y → p y = false) ∧ (l.filter p).head? = some x
  | [], ⟨_, h, _⟩ => by cases h
  | a :: l, ⟨x, h, hx⟩ => by
    by_cases c : p a = true
    · exact ⟨0, a, rfl, c, fun m y hm => by omega, by rw [List.filter_cons_of_pos c]; rfl⟩
    · obtain ⟨j, y, h1, h2, h3, h4⟩ := first_idx (p := p) (l := l) ⟨x, (List.mem_cons.mp h).resolve_left fun e => c (e ▸ hx), hx⟩
      refine ⟨j + 1, y, h1, h2, fun m z hm hz => ?_, by rw [List.filter_cons_of_neg c]; exact h4⟩
      cases m with
      | zero =>
        obtain rfl := Option.some.inj hz
        exact Bool.eq_false_iff.mpr c
      | succ m => exact h3 m z (by omega) hz

end Z

set_option Elab.async false
set_option linter.all false
set_option maxRecDepth 100000
set_option maxHeartbeats 4000000

namespace Z
open PySem PySem.Spec PyProof.Rows L2 Z.R
local macro_rules | `(tactic| walk_at "sx") => `(tactic| try simp only [and_assoc, cxOf_K, cxOf_Kn, C8.tCut, rEq, rNe, sc_ii, sc_ss, sc_bb, sc_is, sc_si, sc_bs, sc_sb, tSeq, tAsg, tPar, tPar3, tC, gName, gNil, gCons, gTup, gSub, rSetL, L2.start, tVar, tOp, tUn, rI0, rI, rU, tTest, tChain, tOrV, tAndV, tNotV, tCB, tCons, tNil, tLst, tTup, tIfS, tNext, tRet, tRetN, tDrop, tAnd, tOr, tNot, tB, tIf, tSl, tFld, sFld, putF, tNoPart, tPart, rSlL, tBM, tBM0, rAppend, rPop, rExtend, tCall, tMeth, tLstRg, tRg1, tRg2, List.map_cons, List.map_nil, List.replicate, List.length_cons, List.length_nil, List.append, List.cons_append, List.nil_append, List.append_nil, List.getElem?_cons_zero, List.getElem?_cons_succ, List.set_cons_zero, List.set_cons_succ, Option.some.injEq, exists_eq_left', exists_eq_left, exists_eq, exists_and_left, exists_const, wipe, tYes, upd_same, ↓reduceIte, decide_false, decide_true, Bool.not_true, Bool.not_false, Bool.false_eq_true, V.int.injEq, HO.lst.injEq, HO.tup.injEq, V.ref.injEq, V.str.injEq, one_inj, le_a, le_z, le_0, le_9, mem_let, mem_dig, V.bl.injEq, List.cons.injEq, and_true, true_and, reduceCtorEq, false_and, exists_false, or_false, false_or])
/-- what a tree needs to be timed -/
def TrOk (n : Nat) (H : Hp) (a : Addr) (t : Pt (Str × Nat)) (tb : Str → Nat) : Prop := Pt.OkT t ∧ Pt.dep t < n ∧ (Pt.places t).Nodup ∧ TbAt H a tb (Pt.names (Pt.bare t))
theorem TrOk.same {n : Nat} {H H' : Hp} {a : Addr} {t : Pt (Str × Nat)} {tb : Str → Nat} (f : Same H H') (h : TrOk n H a t tb) : TrOk n H' a t tb := ⟨h.1, h.2.1, h.2.2.1, h.2.2.2.same f⟩
theorem nodup_flat {γ : Type} : ∀ {l : List (List γ)} {c : List γ}, l.flatten.Nodup → c ∈ l → c.Nodup
  | x :: l, c, h, hc => by
    rw [List.flatten_cons, List.nodup_append] at h
    rcases List.mem_cons.mp hc with rfl | hc
    · exact h.1
    · exact nodup_flat h.2.1 hc
theorem TrOk.part {n : Nat} {H : Hp} {a : Addr} {r : Bool} {ps : List (Pt (Str × Nat))} {t : Pt (Str × Nat)} {tb : Str → Nat} (h : TrOk (n + 1) H a (.nd r ps) tb) (ht : t ∈ ps) : TrOk n H a t tb := by
  refine ⟨h.1.part ht, ?_, ?_, h.2.2.2.sub fun x hx => ?_⟩
  · have := Pt.dep_mem (r := r) ht
    have := h.2.1
    omega
  · have := h.2.2.1
    rw [Pt.places_nd] at this
    exact nodup_flat this (List.mem_map.mpr ⟨t, ht, rfl⟩)
  · rw [Pt.bare_nd]
    exact names_part (List.mem_map.mpr ⟨t, ht, rfl⟩) x hx
theorem OkT.okc {t : Pt (Str × Nat)} (h : Pt.OkT t) : Pt.Okc (Pt.bare t) := ⟨h.1, by rw [Pt.cnt_bare]; exact h.2⟩
def spStarts (K : PySem.W.Frag) (n : Nat) : Sp := fun vs H Q _ => ∃ (v : V) (a : Addr) (st : Nat) (t : Pt (Str × Nat)) (tb : Str → Nat), vs = [v, .ref a, .int (st : Nat)] ∧ Dp K H v (Pt.enc Pt.pr t) ∧ TrOk n H a t tb ∧
  ∀ b H', H b = none → Same H H' → H' b = some (.dK ((Pt.starts tb t st).map kvN)) → Q (.ref b) H'
def spLongest (K : PySem.W.Frag) (n : Nat) : Sp := fun vs H Q _ => ∃ (v : V) (a : Addr) (t : Pt (Str × Nat)) (tb : Str → Nat), vs = [v, .ref a] ∧ Dp K H v (Pt.enc Pt.pr t) ∧ TrOk n H a t tb ∧
  ∀ b us H', H b = none → Same H H' → H' b = some (.lst us) → DpAll K H' us ((Pt.longest tb t).map iN) → Q (.ref b) H'
section
variable {P : Program} {w : World} {K : PySem.W.Frag} {mg : Str → Option Value} {base : Heap}
theorem sc_starts_in : FnScope ["tree", "table", "start", "found", "part"] ["tree", "table", "start"] (defScope s_starts_in) := ⟨rfl, rfl, rfl, by decide +kernel, rfl, by decide +kernel, by decide +kernel⟩
theorem step_starts_in {f : Addr} {fd : FuncData} {n : Nat} (F : Fun K "starts_in" "starts_in" s_starts_in f fd) (c_starts_in : Cl P w K mg base (n + 39) "starts_in" (spStarts K n)) (c_time_in : Cl P w K mg base 32 "time_in" (spTime K 31)) (c_bare : Cl P w K mg base 32 "bare" (spBare K 31)) {aE : Addr} (hE : ∀ H, SqT K H aE [.str "empty"]) (g_EMPTY : GV mg "EMPTY" (.ref aE)) : FnOk P w K mg base CX0 (n + 40) f fd ["tree", "table", "start"] (spStarts K (n + 1)) := by
  have nd := sc_starts_in.nd
  refine F.ok sc_starts_in (fun vs H Q E h => ?_) (fun cdv A outer s H vs Q E hr h => ?_)
  · obtain ⟨v, a, st, t, tb, rfl, _⟩ := h
    rfl
  obtain ⟨v, a, st, t, tb, rfl, hv, hk, q⟩ := h
  refine ⟨_, (pss_cons (ps_if (pt_cmpR (op_eqD hr.units) (pv 0) (pe_gv g_EMPTY) (nomark _)) (pss_one (ps_ret pe_dnewK)) pss_nil)
  (pss_cons (ps_if (pt_cmpR op_eq (pe_ix (ix_tupK (K := K) rfl) (pv 0) pe_int (fun _ _ => rfl)) pe_str (nomark _)) (pss_one (ps_ret (pe_disp (pps_cons (pe_ix (ix_tupK (K := K) rfl) (pe_ix (ix_tupK (K := K) rfl) (pv 0) pe_int (fun _ _ => rfl)) pe_int (fun _ _ => rfl)) (pv 2) pps_nil) rfl rfl (List.cons_ne_nil _ _) (by decide)))) pss_nil)
  (pss_cons (ps_set (i := 3) nd rfl (.inl rfl) pe_dnewK)
  (pss_cons (ps_for PassesOwn.never rfl (pi_tup (pe_ix (ix_tupK (K := K) rfl) (pv 0) pe_int (fun _ _ => rfl))) (pg_name (i := 4) nd rfl (.inl rfl))
    (pss_cons (ps_expr (pe_bm PySem.F.plainAttrs_dict PySem.F.slot_dict_update PySem.F.type_dict_update R.mt_upd (pv 3) (pa_cons (pcl c_starts_in hr (by omega) (pa_cons (pv 4) (pa_cons (pv 1) (pa_cons (pv 2) pa_nil)))) pa_nil)))
  (pss_one (ps_aug (i := 2) nd rfl (.inl rfl) (pe_ifExp (pt_cmpR op_eq (pe_ix (ix_tupK (K := K) rfl) (pv 0) pe_int (fun _ _ => rfl)) pe_str (nomark _)) (pcl c_time_in hr (by omega) (pa_cons (pcl c_bare hr (by omega) (pa_cons (pv 4) pa_nil)) (pa_cons (pv 1) pa_nil))) pe_int) ip_add))))
  (pss_one (ps_ret (pv 3))))))), ?_⟩
  walk_at "sx"
  refine eq_emp hv hE (Pt.shp_tree hk.1) ⟨_, rfl, ?_⟩
  cases t with
  | emp =>
    rw [Pt.starts] at q
    exact iteT fun p np => q p _ np (same_upd np) upd_same
  | deed x =>
    obtain ⟨t, u, rfl, hs, hu⟩ := dp_deed hv
    obtain ⟨t2, u2, rfl, hs2, hu2⟩ := dp2 hu
    cases hu2
    rw [Pt.starts] at q
    refine iteF (ixt hs rfl ⟨rfl, iteT ?_⟩)
    intro p np
    have f1 := same_upd (o := .dK []) np
    have e : mergeK [] [((.inl (x.2 : Int) : Key), V.int (st : Nat))] = [(x.2, st)].map kvN := rfl
    refine ⟨_, rfl, t, _, 1, _, rfl, rfl, tup_same f1 hs, rfl, t2, _, 1, _, rfl, rfl, tup_same f1 hs2, rfl, _, rfl, upd_same, [(.inl (x.2 : Int), .int (st : Nat))], rfl, by simp, ?_⟩
    rw [upd_upd]
    exact q p _ np (same_upd np) upd_same
  | nd r ps =>
    obtain ⟨t, t2, us, rfl, hs, hs2, hu⟩ := dp_nd hv
    refine iteF (ixt hs rfl ⟨rfl, ?_⟩)
    rw [deed_ne]
    refine iteF fun F nF => ?_
    have f0 := same_upd (o := .dK []) nF
    have h26 := hk.1.len
    have hul := kids_len hu
    refine ⟨_, rfl, t, _, 1, _, rfl, rfl, tup_same f0 hs, rfl, t2, rfl, ⟨us, tup_same f0 hs2⟩, for_tup (K := K) (a := t2) (xs := us) (fun i σ H' => ∃ (x : Option V) (L : List (Nat × Nat)), σ = [some (.ref t), some (.ref a), some (.int (Pt.stAt tb r ps st i : Nat)), some (.ref F), x] ∧ Same H H' ∧
      H' F = some (.dK (L.map kvN)) ∧ Pt.starts tb (.nd r ps) st = L ++ Pt.starts.go tb r (ps.drop i) (Pt.stAt tb r ps st i)) ⟨none, [], by simp [Pt.stAt], f0, upd_same, by rw [Pt.starts_nd]; simp [Pt.stAt]⟩ (fun i σ H' _ ⟨_, _, _, sm, _⟩ => tup_same sm hs2) ?_ ?_⟩
    · rintro i x σ H1 hx ⟨y, L, rfl, sm, eF, eL⟩
      obtain ⟨p, hp, hm, hxp⟩ := kid_at hu hx
      walk_at "sx"
      refine ⟨.inr (.inr (.inl ⟨rfl, .inl ⟨_, eF⟩⟩)), x, a, Pt.stAt tb r ps st i, p, tb, rfl, L2.Dp.same sm hxp, (hk.same sm).part hm, fun b H2 nb s2 eb => ?_⟩
      have hnd := hk.2.2.1
      rw [← Pt.starts_places tb (.nd r ps) st, eL] at hnd
      have edr : ps.drop i = p :: ps.drop (i + 1) := by
        obtain ⟨h1, h2⟩ := List.getElem?_eq_some_iff.mp hp
        rw [← h2, List.drop_eq_getElem_cons h1]
      rw [edr, Pt.starts.go] at eL hnd
      have eM : mergeK (L.map kvN) ((Pt.starts tb p (Pt.stAt tb r ps st i)).map kvN) = (L ++ Pt.starts tb p (Pt.stAt tb r ps st i)).map kvN := by
        rw [mergeK_new, List.map_append]
        rw [← List.map_append, kvN_keys]
        refine keys_nodup ?_
        rw [← List.append_assoc, List.map_append] at hnd
        exact (List.nodup_append.mp hnd).1
      have hbF : F ≠ b := fun e => by
        rw [← e, eF] at nb
        cases nb
      have htot : L.length + (Pt.starts tb p (Pt.stAt tb r ps st i)).length ≤ 60 := by
        have := congrArg List.length eL
        rw [Pt.starts_len, List.length_append, List.length_append] at this
        have := hk.1.2
        omega
      refine ⟨F, b, _, _, rfl, rfl, s2 _ _ eF, eb, hbF, by rw [List.length_map, List.length_map]; exact size60 htot, ?_⟩
      rw [eM]
      have sm3 := same_D (o := .dK ((L ++ Pt.starts tb p (Pt.stAt tb r ps st i)).map kvN)) (sm.trans s2) nF
      have eF3 := upd_same (H := H2) (a := F) (o := .dK ((L ++ Pt.starts tb p (Pt.stAt tb r ps st i)).map kvN))
      generalize upd H2 F (.dK ((L ++ Pt.starts tb p (Pt.stAt tb r ps st i)).map kvN)) = H3 at sm3 eF3 ⊢
      refine ⟨_, rfl, ?_⟩
      walk_at "sx"
      refine ixt (tup_same sm3 hs) rfl ⟨rfl, ?_⟩
      rw [row_word]
      have es := Pt.stAt_succ (tb := tb) (r := r) (st := st) hp
      have fin : ∀ H4, Same H3 H4 → ∀ z : Int, z = ((if r then Pt.time tb (Pt.bare p) else 0 : Nat) : Int) → V.int ((Pt.stAt tb r ps st i : Nat) + z) = .int (Pt.stAt tb r ps st (i + 1) : Nat) ∧ Same H H4 ∧ ∃ L, H4 F = some (.dK (L.map kvN)) ∧
          Pt.starts tb (.nd r ps) st = L ++ Pt.starts.go tb r (ps.drop (i + 1)) (Pt.stAt tb r ps st (i + 1)) := fun H4 s4 z hz => by
        refine ⟨?_, sm3.trans s4, L ++ Pt.starts tb p (Pt.stAt tb r ps st i), s4 _ _ eF3, ?_⟩
        · rw [hz, es, Int.natCast_add]
        · rw [eL, es, List.append_assoc]
      cases r with
      | true =>
        have hpk := hk.part hm
        refine iteT ⟨x, p, rfl, L2.Dp.same sm3 hxp, ⟨hpk.1, by have := hpk.1.1.2; rw [Pt.dep_bare] at this; omega⟩, fun v' H4 s4 dk => ?_⟩
        refine ⟨v', a, Pt.bare p, tb, rfl, dk, OkT.okc hpk.1, by have := hpk.1.1.2; omega, hpk.2.2.2.same (sm3.trans s4), fun H5 s5 => ⟨_, _, rfl, rfl, fin H5 (s4.trans s5) _ rfl⟩⟩
      | false => exact iteF ⟨_, _, rfl, rfl, fin H3 (.refl _) 0 rfl⟩
    · rintro σ H1 ⟨y, L, rfl, sm, eF, eL⟩
      walk_at "sx"
      rw [List.drop_of_length_le (by omega), Pt.starts.go, List.append_nil] at eL
      rw [eL] at q
      exact q F H1 nF sm eF
theorem ok_starts_in {f : Addr} {fd : FuncData} (F : Fun K "starts_in" "starts_in" s_starts_in f fd) (hm : mg "starts_in" = some (.ref f)) (hb : Binds K fd ["tree", "table", "start"] []) (c_time_in : Cl P w K mg base 32 "time_in" (spTime K 31)) (c_bare : Cl P w K mg base 32 "bare" (spBare K 31)) {aE : Addr} (hE : ∀ H, SqT K H aE [.str "empty"]) (g_EMPTY : GV mg "EMPTY" (.ref aE)) : ∀ n : Nat, FnOk P w K mg base CX0 (n + 39) f fd ["tree", "table", "start"] (spStarts K n)
  | 0 => fn_false fun vs H Q E h => by
    obtain ⟨v, a, st, t, tb, _, _, h, _⟩ := h; exact absurd h.2.1 (Nat.not_lt_zero _)
  | n + 1 => step_starts_in F ⟨f, fd, _, ok_starts_in F hm hb c_time_in c_bare hE g_EMPTY n, hm, F.kp, hb⟩ c_time_in c_bare hE g_EMPTY
end

end Z

set_option Elab.async false
set_option linter.all false
set_option maxRecDepth 100000
set_option maxHeartbeats 4000000

namespace Z
open PySem PySem.Spec PyProof.Rows L2 Z.R
local macro_rules | `(tactic| walk_at "sx") => `(tactic| try simp only [and_assoc, cxOf_K, cxOf_Kn, C8.tCut, rEq, rNe, sc_ii, sc_ss, sc_bb, sc_is, sc_si, sc_bs, sc_sb, tSeq, tAsg, tPar, tPar3, tC, gName, gNil, gCons, gTup, gSub, rSetL, L2.start, tVar, tOp, tUn, rI0, rI, rU, tTest, tChain, tOrV, tAndV, tNotV, tCB, tCons, tNil, tLst, tTup, tIfS, tNext, tRet, tRetN, tDrop, tAnd, tOr, tNot, tB, tIf, tSl, tFld, sFld, putF, tNoPart, tPart, rSlL, tBM, tBM0, rAppend, rPop, rExtend, tCall, tMeth, tLstRg, tRg1, tRg2, List.map_cons, List.map_nil, List.replicate, List.length_cons, List.length_nil, List.append, List.cons_append, List.nil_append, List.append_nil, List.getElem?_cons_zero, List.getElem?_cons_succ, List.set_cons_zero, List.set_cons_succ, Option.some.injEq, exists_eq_left', exists_eq_left, exists_eq, exists_and_left, exists_const, wipe, tYes, upd_same, ↓reduceIte, decide_false, decide_true, Bool.not_true, Bool.not_false, Bool.false_eq_true, V.int.injEq, HO.lst.injEq, HO.tup.injEq, V.ref.injEq, V.str.injEq, one_inj, le_a, le_z, le_0, le_9, mem_let, mem_dig, V.bl.injEq, List.cons.injEq, and_true, true_and, reduceCtorEq, false_and, exists_false, or_false, false_or])
theorem Pt.longest_len {α : Type} (tb : α → Nat) : ∀ t : Pt (α × Nat), (Pt.longest tb t).length ≤ Pt.cnt t := by
  refine Pt.ind ?_ (fun x => ?_) fun r ps ih => ?_
  · rw [Pt.longest]; exact Nat.zero_le _
  · rw [Pt.longest, Pt.cnt]; exact Nat.le_refl _
  · rw [Pt.longest_nd]
    cases r with
    | false =>
      rw [if_neg Bool.false_ne_true]
      cases e : Pt.fmax (fun x : Nat × List Nat => x.1) (ps.map fun p => (Pt.time tb (Pt.bare p), Pt.longest tb p)) with
      | none => exact Nat.zero_le _
      | some x =>
        have hm : x ∈ ps.map fun p => (Pt.time tb (Pt.bare p), Pt.longest tb p) := by
          unfold Pt.fmax at e
          exact (List.mem_filter.mp (List.mem_of_mem_head? e)).1
        obtain ⟨p, hp, rfl⟩ := List.mem_map.mp hm
        exact Nat.le_trans (ih p hp) (Pt.cnt_mem hp)
    | true =>
      rw [if_pos rfl, List.length_flatten, List.map_map, Pt.cnt_nd]
      induction ps with
      | nil => exact Nat.le_refl _
      | cons p ps ih2 =>
        rw [List.map_cons, List.map_cons, List.sum_cons, List.sum_cons]
        have h1 := ih p (List.mem_cons_self ..)
        have h2 := ih2 fun q hq => ih q (List.mem_cons_of_mem _ hq)
        show (Pt.longest tb p).length + _ ≤ _
        omega
section
variable {P : Program} {w : World} {K : PySem.W.Frag} {mg : Str → Option Value} {base : Heap}
theorem sc_longest_in : FnScope ["tree", "table", "part", "place", "times"] ["tree", "table"] (defScope s_longest_in) := ⟨rfl, rfl, rfl, by decide +kernel, rfl, by decide +kernel, by decide +kernel⟩
theorem step_longest_in {f : Addr} {fd : FuncData} {n : Nat} (F : Fun K "longest_in" "longest_in" s_longest_in f fd) (c_longest_in : Cl P w K mg base (n + 39) "longest_in" (spLongest K n)) (c_time_in : Cl P w K mg base 32 "time_in" (spTime K 31)) (c_bare : Cl P w K mg base 32 "bare" (spBare K 31)) (b_max : mg "max" = none) {aE : Addr} (hE : ∀ H, SqT K H aE [.str "empty"]) (g_EMPTY : GV mg "EMPTY" (.ref aE)) : FnOk P w K mg base CX0 (n + 40) f fd ["tree", "table"] (spLongest K (n + 1)) := by
  have nd := sc_longest_in.nd
  refine F.ok sc_longest_in (fun vs H Q E h => ?_) (fun cdv A outer s H vs Q E hr h => ?_)
  · obtain ⟨v, a, t, tb, rfl, _⟩ := h
    rfl
  obtain ⟨v, a, t, tb, rfl, hv, hk, q⟩ := h
  refine ⟨_, (pss_cons (ps_if (pt_cmpR (op_eqD hr.units) (pv 0) (pe_gv g_EMPTY) (nomark _)) (pss_one (ps_ret (pe_lst pa_nil))) pss_nil)
  (pss_cons (ps_if (pt_cmpR op_eq (pe_ix (ix_tupK (K := K) rfl) (pv 0) pe_int (fun _ _ => rfl)) pe_str (nomark _)) (pss_one (ps_ret (pe_lst (pa_cons (pe_ix (ix_tupK (K := K) rfl) (pe_ix (ix_tupK (K := K) rfl) (pv 0) pe_int (fun _ _ => rfl)) pe_int (fun _ _ => rfl)) pa_nil)))) pss_nil)
  (pss_cons (ps_if (pt_cmpR op_eq (pe_ix (ix_tupK (K := K) rfl) (pv 0) pe_int (fun _ _ => rfl)) pe_str (nomark _)) (pss_one (ps_ret (pe_lc2 (own := [("part", 2), ("place", 3)]) (vs1 := [3]) rfl nd (pi_tup (pe_ix (ix_tupK (K := K) rfl) (pv 0) pe_int (fun _ _ => rfl))) (blkOk_by (N := ["tree", "table", "part", "place", "times"]) (sc := defScope s_longest_in) (by decide +kernel)) (by decide) (fun _ _ _ _ _ => (pg_name (i := 2) nd rfl (.inl rfl))) (fun _ _ _ _ _ => pts_nil) (fun _ _ _ _ _ => (pi_listK (K := K) rfl (pcl c_longest_in hr (by omega) (pa_cons (pv 2) (pa_cons (pv 1) pa_nil))))) (fun _ _ _ _ _ => (pg_name (i := 3) nd rfl (.inl rfl))) (fun _ _ _ _ _ => pts_nil) (fun _ _ _ _ _ => (pv 3))))) pss_nil)
  (pss_cons (ps_setLc (i := 4) (own := [("part", 2)]) rfl nd rfl rfl (sw_true rfl rfl rfl (by decide +kernel)) (pi_tup (pe_ix (ix_tupK (K := K) rfl) (pv 0) pe_int (fun _ _ => rfl))) (blkOk_by (N := ["tree", "table", "part", "place", "times"]) (sc := defScope s_longest_in) (by decide +kernel)) (fun _ _ _ _ _ => (pg_name (i := 2) nd rfl (.inl rfl))) (fun _ _ _ _ _ => pts_nil) (fun _ _ _ _ _ => (pcl c_time_in hr (by omega) (pa_cons (pcl c_bare hr (by omega) (pa_cons (pv 2) pa_nil)) (pa_cons (pv 1) pa_nil)))))
  (pss_one (ps_ret (pcl c_longest_in hr (by omega) (pa_cons (pe_ix (ix_tupK (K := K) rfl) (pe_ix (ix_tupK (K := K) rfl) (pv 0) pe_int (fun _ _ => rfl)) (pe_bm PySem.F.plainAttrs_list PySem.F.slot_list_index PySem.F.type_list_index mt_index (pv 4) (pa_cons (pe_callB (cr_maxK (K := K) rfl rfl) (by rfl) b_max (by decide +kernel) (pa_cons (pv 4) pa_nil)) pa_nil)) (fun _ _ => rfl)) (pa_cons (pv 1) pa_nil))))))))), ?_⟩
  walk_at "sx"
  refine eq_emp hv hE (Pt.shp_tree hk.1) ⟨_, rfl, ?_⟩
  cases t with
  | emp => exact iteT ⟨by decide, fun l nl => q l [] _ nl (same_upd nl) upd_same (by rw [Pt.longest]; exact .nil)⟩
  | deed x =>
    obtain ⟨t, u, rfl, hs, hu⟩ := dp_deed hv
    obtain ⟨t2, u2, rfl, hs2, hu2⟩ := dp2 hu
    cases hu2
    refine iteF (ixt hs rfl ⟨rfl, iteT (ixt hs rfl (ixt hs2 rfl ⟨by decide, fun l nl => ?_⟩))⟩)
    refine q l _ _ nl (same_upd nl) upd_same ?_
    rw [Pt.longest]
    exact .cons (.int _) .nil
  | nd r ps =>
    obtain ⟨t, t2, us, rfl, hs, hs2, hu⟩ := dp_nd hv
    have h26 := hk.1.len
    have hul := kids_len hu
    refine iteF (ixt hs rfl ⟨rfl, ?_⟩)
    rw [deed_ne]
    refine iteF (ixt hs rfl ⟨rfl, ?_⟩)
    rw [row_word]
    cases r with
    | true =>
      have e : (ps.map fun p => (Pt.longest tb p).map iN).flatten = (Pt.longest tb (.nd true ps)).map iN := by rw [flat_map, Pt.longest_nd, if_pos rfl]
      refine iteT (lc2_kids rfl hs hs2 hu (fun t => (Pt.longest tb t).map iN) (fun p d hd => by
        obtain ⟨c, _, rfl⟩ := List.mem_map.mp hd
        exact iN_to c) (by rw [e, List.length_map]; exact size60 (Nat.le_trans (Pt.longest_len tb _) hk.1.2)) (by decide) (by simp) ?_ ?_)
      · intro p hp x H' R sm hx hR
        walk_at "sx"
        exact ⟨x, a, p, tb, rfl, hx, (hk.same sm).part hp, fun b us H'' nb s2 eb dk => hR b us H'' nb s2 eb dk⟩
      · intro D H1 vs nD s1 eD dv
        rw [e] at dv
        exact q D vs H1 nD s1 eD dv
    | false =>
      refine iteF (lc_kids rfl hs hs2 hu h26.2 (fun p => .int (Pt.time tb (Pt.bare p) : Nat)) (fun p => .int _) ?_ ?_)
      · intro p hp x H' R sm hx hR
        walk_at "sx"
        have hpk := (hk.same sm).part hp
        refine ⟨x, p, rfl, hx, ⟨hpk.1, by have := hpk.1.1.2; rw [Pt.dep_bare] at this; omega⟩, fun v' H4 s4 dk => ?_⟩
        exact ⟨v', a, Pt.bare p, tb, rfl, dk, OkT.okc hpk.1, by have := hpk.1.1.2; omega, hpk.2.2.2.same s4, fun H5 s5 => hR _ _ (s4.trans s5) (.int _)⟩
      · intro D H1 vs nD s1 eD dv
        have e := dp_ints dv
        subst e
        refine ixt (tup_same s1 hs) rfl ⟨.inl ⟨rfl, _, SqL.of eD⟩, ?_⟩
        refine ⟨D, ps.map fun p => (Pt.time tb (Pt.bare p) : Int), rfl, SqL.of eD, by rw [List.length_map]; omega, fun m hm1 hm2 => ?_⟩
        have em : m = ((ps.map fun p => Pt.time tb (Pt.bare p)).foldr Nat.max 0 : Nat) := max_int (by rw [List.map_map]; exact hm1) (by rw [List.map_map]; exact hm2)
        subst em
        generalize hM : (ps.map fun p => Pt.time tb (Pt.bare p)).foldr Nat.max 0 = M at *
        have hne : ps.map (fun p => Pt.time tb (Pt.bare p)) ≠ [] := fun e => by
          have := congrArg List.length e
          rw [List.length_map] at this
          simp only [List.length_nil] at this
          omega
        have hmem := Pt.max_mem hne
        rw [hM] at hmem
        obtain ⟨p0, hp0, ep0⟩ := List.mem_map.mp hmem
        obtain ⟨j, x, h1, h2, h3, h4⟩ := first_idx (p := fun x : Nat × List Nat => x.1 == M) (l := ps.map fun p => (Pt.time tb (Pt.bare p), Pt.longest tb p)) ⟨_, List.mem_map.mpr ⟨p0, hp0, rfl⟩, by simpa using ep0⟩
        rw [List.getElem?_map] at h1
        cases hpj : ps[j]? with
        | none =>
          rw [hpj] at h1
          cases h1
        | some p =>
        rw [hpj] at h1
        obtain rfl := Option.some.inj h1
        have hm := List.mem_of_getElem? hpj
        have ef : Pt.fmax (fun x : Nat × List Nat => x.1) (ps.map fun p => (Pt.time tb (Pt.bare p), Pt.longest tb p)) = some (Pt.time tb (Pt.bare p), Pt.longest tb p) := by
          unfold Pt.fmax
          rw [List.map_map, show ((fun x : Nat × List Nat => x.1) ∘ fun p => (Pt.time tb (Pt.bare p), Pt.longest tb p)) = fun p => Pt.time tb (Pt.bare p) from rfl, hM]
          exact h4
        obtain ⟨x', hx', dx⟩ := map_at (L2.DpAll.same s1 hu) hpj
        have at_j : ∀ (m : Nat) (z : V), ((ps.map fun p => (Pt.time tb (Pt.bare p) : Int)).map V.int)[m]? = some z → ∃ p', ps[m]? = some p' ∧ z = .int (Pt.time tb (Pt.bare p') : Nat) := fun m z hz => by
          rw [List.getElem?_map, List.getElem?_map] at hz
          cases hpm : ps[m]? with
          | none =>
            rw [hpm] at hz
            cases hz
          | some p' =>
            rw [hpm] at hz
            exact ⟨p', rfl, (Option.some.inj hz).symm⟩
        refine ⟨D, _, _, j, .int (Pt.time tb (Pt.bare p) : Nat), rfl, rfl, SqL.of eD, rfl, ?_, ?_, ?_, fun m z' hm' hz' => ?_, ?_⟩
        · rw [List.all_eq_true]
          intro z hz
          obtain ⟨i, _, rfl⟩ := List.mem_map.mp hz
          rfl
        · rw [List.getElem?_map, List.getElem?_map, hpj]
          rfl
        · have h2 : Pt.time tb (Pt.bare p) = M := by simpa using h2
          rw [h2]
          simp [eqV]
        · obtain ⟨p', hp', rfl⟩ := at_j m z' hz'
          have := h3 m _ hm' (by rw [List.getElem?_map, hp']; rfl)
          have : Pt.time tb (Pt.bare p') ≠ M := by simpa using this
          simp [eqV]
          omega
        · refine ⟨t2, us, (j : Int), x', rfl, rfl, tup_same s1 hs2, atI_nat hx', ?_⟩
          refine ⟨x', a, p, tb, rfl, dx, (hk.same s1).part hm, fun b us' H'' nb s2 eb dk => ?_⟩
          refine q b us' H'' (none_back s1 nb) (s1.trans s2) eb ?_
          rw [Pt.longest_nd, if_neg Bool.false_ne_true, ef]
          exact dk
theorem ok_longest_in {f : Addr} {fd : FuncData} (F : Fun K "longest_in" "longest_in" s_longest_in f fd) (hm : mg "longest_in" = some (.ref f)) (hb : Binds K fd ["tree", "table"] []) (c_time_in : Cl P w K mg base 32 "time_in" (spTime K 31)) (c_bare : Cl P w K mg base 32 "bare" (spBare K 31)) (b_max : mg "max" = none) {aE : Addr} (hE : ∀ H, SqT K H aE [.str "empty"]) (g_EMPTY : GV mg "EMPTY" (.ref aE)) : ∀ n : Nat, FnOk P w K mg base CX0 (n + 39) f fd ["tree", "table"] (spLongest K n)
  | 0 => fn_false fun vs H Q E h => by
    obtain ⟨v, a, t, tb, _, _, h, _⟩ := h; exact absurd h.2.1 (Nat.not_lt_zero _)
  | n + 1 => step_longest_in F ⟨f, fd, _, ok_longest_in F hm hb c_time_in c_bare b_max hE g_EMPTY n, hm, F.kp, hb⟩ c_time_in c_bare b_max hE g_EMPTY
end

end Z

set_option Elab.async false
set_option linter.all false
set_option maxRecDepth 100000
set_option maxHeartbeats 4000000

namespace Z
open PySem PySem.Spec PyProof.Rows L2 Z.R
local macro_rules | `(tactic| walk_at "sx") => `(tactic| try simp only [and_assoc, cxOf_K, cxOf_Kn, C8.tCut, rEq, rNe, sc_ii, sc_ss, sc_bb, sc_is, sc_si, sc_bs, sc_sb, tSeq, tAsg, tPar, tPar3, tC, gName, gNil, gCons, gTup, gSub, rSetL, L2.start, tVar, tOp, tUn, rI0, rI, rU, tTest, tChain, tOrV, tAndV, tNotV, tCB, tCons, tNil, tLst, tTup, tIfS, tNext, tRet, tRetN, tDrop, tAnd, tOr, tNot, tB, tIf, tSl, tFld, sFld, putF, tNoPart, tPart, rSlL, tBM, tBM0, rAppend, rPop, rExtend, tCall, tMeth, tLstRg, tRg1, tRg2, List.map_cons, List.map_nil, List.replicate, List.length_cons, List.length_nil, List.append, List.cons_append, List.nil_append, List.append_nil, List.getElem?_cons_zero, List.getElem?_cons_succ, List.set_cons_zero, List.set_cons_succ, Option.some.injEq, exists_eq_left', exists_eq_left, exists_eq, exists_and_left, exists_const, wipe, tYes, upd_same, ↓reduceIte, decide_false, decide_true, Bool.not_true, Bool.not_false, Bool.false_eq_true, V.int.injEq, HO.lst.injEq, HO.tup.injEq, V.ref.injEq, V.str.injEq, one_inj, le_a, le_z, le_0, le_9, mem_let, mem_dig, V.bl.injEq, List.cons.injEq, and_true, true_and, reduceCtorEq, false_and, exists_false, or_false, false_or])
/-- the places of a level -/
def lvl (L : List (Nat × Nat)) (l : Nat) : List Nat := (L.filter fun x => x.2 == l).map (·.1)
theorem But.fresh {a D : Addr} {H H1 : Hp} {o : HO} (f : But a H H1) (h : H D = none) : But a H (L2.upd H1 D o) := fun b u e n => by
  rw [upd_ne (ne_of_none e h)]
  exact f b u e n
theorem But.same_of {a : Addr} {H0 H H' : Hp} (s : Same H0 H) (n : H0 a = none) (f : But a H H') : Same H0 H' := fun b u e => f b u (s b u e) (ne_of_none e n)
theorem valV_no {κ : Type} [DecidableEq κ] {kvs : List (κ × V)} {k : κ} (h : k ∉ kvs.map (·.1)) : valV kvs k = none := by
  unfold valV
  rw [List.find?_eq_none.mpr fun x hx e => h (List.mem_map.mpr ⟨x, hx, of_decide_eq_true e⟩)]
  rfl
def kvA (e : Nat × Addr) : Key × V := (.inl (e.1 : Int), .ref e.2)
theorem kvA_keys (es : List (Nat × Addr)) : (es.map kvA).map (·.1) = (es.map (·.1)).map fun i : Nat => (Sum.inl (i : Int) : Key) := by
  rw [List.map_map, List.map_map]
  rfl
theorem kvA_in {es : List (Nat × Addr)} {l : Nat} : (Sum.inl (l : Int) : Key) ∈ (es.map kvA).map (·.1) ↔ l ∈ es.map (·.1) := by
  rw [kvA_keys, List.mem_map]
  exact ⟨fun ⟨i, hi, e⟩ => (show i = l by have := Sum.inl.inj e; omega) ▸ hi, fun h => ⟨l, h, rfl⟩⟩
/-- the places by their levels, as far as M -/
structure FdAt (H0 H : Hp) (F : Addr) (M : List (Nat × Nat)) (es : List (Nat × Addr)) : Prop where
  dict : H F = some (.dK (es.map kvA))
  keys : (es.map (·.1)).Nodup
  apart : (es.map (·.2)).Nodup
  rows : ∀ e ∈ es, H e.2 = some (.lst ((lvl M e.1).map vN)) ∧ H0 e.2 = none
  all : ∀ l, l ∈ es.map (·.1) ↔ ∃ x ∈ M, x.2 = l
theorem lvl_snoc (M : List (Nat × Nat)) (x : Nat × Nat) (l : Nat) : lvl (M ++ [x]) l = lvl M l ++ if x.2 = l then [x.1] else [] := by
  unfold lvl
  rw [List.filter_append, List.map_append]
  congr 1
  by_cases h : x.2 = l
  · simp [h]
  · simp [h]
theorem inj_at {es : List (Nat × Addr)} (h : (es.map (·.2)).Nodup) {e f : Nat × Addr} (he : e ∈ es) (hf : f ∈ es) (q : e.2 = f.2) : e = f := by
  induction es with
  | nil => cases he
  | cons a es ih =>
    rw [List.map_cons, List.nodup_cons] at h
    rcases List.mem_cons.mp he with rfl | he2
    · rcases List.mem_cons.mp hf with rfl | hf2
      · rfl
      · exact absurd (q ▸ List.mem_map.mpr ⟨f, hf2, rfl⟩ : e.2 ∈ es.map (·.2)) h.1
    · rcases List.mem_cons.mp hf with rfl | hf2
      · exact absurd (q ▸ List.mem_map.mpr ⟨e, he2, rfl⟩ : f.2 ∈ es.map (·.2)) h.1
      · exact ih h.2 he2 hf2
theorem inj_key {es : List (Nat × Addr)} (h : (es.map (·.1)).Nodup) {e f : Nat × Addr} (he : e ∈ es) (hf : f ∈ es) (q : e.1 = f.1) : e = f := by
  induction es with
  | nil => cases he
  | cons a es ih =>
    rw [List.map_cons, List.nodup_cons] at h
    rcases List.mem_cons.mp he with rfl | he2
    · rcases List.mem_cons.mp hf with rfl | hf2
      · rfl
      · exact absurd (q ▸ List.mem_map.mpr ⟨f, hf2, rfl⟩ : e.1 ∈ es.map (·.1)) h.1
    · rcases List.mem_cons.mp hf with rfl | hf2
      · exact absurd (q ▸ List.mem_map.mpr ⟨e, he2, rfl⟩ : f.1 ∈ es.map (·.1)) h.1
      · exact ih h.2 he2 hf2
/-- one more place, its level there -/
theorem FdAt.old {H0 H H' : Hp} {F : Addr} {M : List (Nat × Nat)} {es : List (Nat × Addr)} {x : Nat × Nat} {e : Nat × Addr} (h : FdAt H0 H F M es) (he : e ∈ es) (hx : e.1 = x.2) (s : Same H H') : FdAt H0 (upd H' e.2 (.lst ((lvl M e.1).map vN ++ [vN x.1]))) F (M ++ [x]) es := by
  have hFe : F ≠ e.2 := ne_of h.dict (h.rows e he).1 (by intro q; cases q)
  refine ⟨by rw [upd_ne hFe]; exact s _ _ h.dict, h.keys, h.apart, fun f hf => ⟨?_, (h.rows f hf).2⟩, fun l => ?_⟩
  · rw [lvl_snoc]
    by_cases c : f = e
    · subst c
      rw [upd_same, if_pos hx.symm, List.map_append]
      rfl
    · rw [upd_ne fun q => c (inj_at h.apart hf he q), if_neg (fun q : x.2 = f.1 => c (inj_key h.keys hf he (by rw [hx, q]))), List.append_nil]
      exact s _ _ (h.rows f hf).1
  · rw [h.all l]
    constructor
    · rintro ⟨y, hy, q⟩
      exact ⟨y, List.mem_append_left _ hy, q⟩
    · rintro ⟨y, hy, q⟩
      rcases List.mem_append.mp hy with hy | hy
      · exact ⟨y, hy, q⟩
      · rw [List.mem_singleton.mp hy, ← hx] at q
        exact (h.all l).mp (q ▸ List.mem_map.mpr ⟨e, he, rfl⟩)
/-- one more place, its level new -/
theorem FdAt.new {H0 H H' : Hp} {F D : Addr} {M : List (Nat × Nat)} {es : List (Nat × Addr)} {x : Nat × Nat} (h : FdAt H0 H F M es) (hx : x.2 ∉ es.map (·.1)) (s : Same H H') (nD : H D = none) (n0 : H0 D = none) :
    FdAt H0 (upd (upd H' F (.dK ((es ++ [(x.2, D)]).map kvA))) D (.lst [vN x.1])) F (M ++ [x]) (es ++ [(x.2, D)]) := by
  have hFD : F ≠ D := ne_of_none h.dict nD
  have hno : lvl M x.2 = [] := by
    unfold lvl
    rw [List.map_eq_nil_iff, List.filter_eq_nil_iff]
    intro y hy q
    exact hx ((h.all x.2).mpr ⟨y, hy, by simpa using q⟩)
  have hD : ∀ e ∈ es, e.2 ≠ D := fun e he => ne_of_none (h.rows e he).1 nD
  refine ⟨by rw [upd_ne hFD, upd_same], ?_, ?_, fun f hf => ?_, fun l => ?_⟩
  · rw [List.map_append]
    exact List.nodup_append.mpr ⟨h.keys, List.pairwise_singleton _ _, fun a ha b hb => by rw [List.mem_singleton.mp hb]; exact fun e : a = x.2 => hx (e ▸ ha)⟩
  · rw [List.map_append]
    refine List.nodup_append.mpr ⟨h.apart, List.pairwise_singleton _ _, fun a ha b hb => ?_⟩
    rw [List.mem_singleton.mp hb]
    obtain ⟨e, he, rfl⟩ := List.mem_map.mp ha
    exact hD e he
  · rcases List.mem_append.mp hf with hf | hf
    · refine ⟨?_, (h.rows f hf).2⟩
      have hne : x.2 ≠ f.1 := fun q => hx (q ▸ List.mem_map.mpr ⟨f, hf, rfl⟩)
      have hfF : f.2 ≠ F := (ne_of h.dict (h.rows f hf).1 (by intro q; cases q)).symm
      rw [lvl_snoc, if_neg hne, List.append_nil, upd_ne (hD f hf), upd_ne hfF]
      exact s _ _ (h.rows f hf).1
    · rw [List.mem_singleton.mp hf]
      refine ⟨?_, n0⟩
      rw [upd_same, lvl_snoc, if_pos rfl, hno]
      rfl
  · rw [List.map_append, List.mem_append, h.all l]
    constructor
    · rintro (⟨y, hy, q⟩ | hl)
      · exact ⟨y, List.mem_append_left _ hy, q⟩
      · exact ⟨x, List.mem_append_right _ (List.mem_singleton_self x), (List.mem_singleton.mp hl).symm⟩
    · rintro ⟨y, hy, q⟩
      rcases List.mem_append.mp hy with hy | hy
      · exact .inl ⟨y, hy, q⟩
      · rw [List.mem_singleton.mp hy] at q
        exact .inr (List.mem_singleton.mpr q.symm)
theorem Pt.time_le {α : Type} (tb : α → Nat) (h : ∀ x, tb x ≤ 1) : ∀ p : Pt α, Pt.time tb p ≤ Pt.cnt p := by
  refine Pt.ind ?_ (fun x => ?_) fun r ps ih => ?_
  · rw [Pt.time]; exact Nat.zero_le _
  · rw [Pt.time, Pt.cnt]; exact h x
  · rw [Pt.time_nd]
    cases r with
    | true =>
      rw [if_pos rfl, Pt.cnt_nd]
      induction ps with
      | nil => exact Nat.le_refl _
      | cons p ps ih2 =>
        rw [List.map_cons, List.map_cons, List.sum_cons, List.sum_cons]
        have := ih p List.mem_cons_self
        have := ih2 fun q hq => ih q (List.mem_cons_of_mem _ hq)
        omega
    | false =>
      rw [if_neg Bool.false_ne_true]
      refine Pt.max_le fun x hx => ?_
      obtain ⟨p, hp, rfl⟩ := List.mem_map.mp hx
      exact Nat.le_trans (ih p hp) (Pt.cnt_mem hp)
theorem rel_map {K : PySem.W.Frag} {H : Hp} {γ : Type} {g : γ → PyData} {vs : List V} {l : List γ} (r : Rel (fun v c => Dp K H v (g c)) vs l) : DpAll K H vs (l.map g) := by
  refine Rel.to_all ⟨by rw [List.length_map]; exact r.1, fun i v d a b => ?_⟩
  rw [List.getElem?_map] at b
  cases e : l[i]? with
  | none =>
    rw [e] at b
    cases b
  | some x =>
    rw [e] at b
    obtain rfl := Option.some.inj b
    exact r.2 i v x a e

end Z

set_option Elab.async false
set_option linter.all false
set_option maxRecDepth 100000
set_option maxHeartbeats 4000000

namespace Z
open PySem PySem.Spec PyProof.Rows L2 Z.R
local macro_rules | `(tactic| walk_at "sx") => `(tactic| try simp only [and_assoc, cxOf_K, cxOf_Kn, C8.tCut, rEq, rNe, sc_ii, sc_ss, sc_bb, sc_is, sc_si, sc_bs, sc_sb, tSeq, tAsg, tPar, tPar3, tC, gName, gNil, gCons, gTup, gSub, rSetL, L2.start, tVar, tOp, tUn, rI0, rI, rU, tTest, tChain, tOrV, tAndV, tNotV, tCB, tCons, tNil, tLst, tTup, tIfS, tNext, tRet, tRetN, tDrop, tAnd, tOr, tNot, tB, tIf, tSl, tFld, sFld, putF, tNoPart, tPart, rSlL, tBM, tBM0, rAppend, rPop, rExtend, tCall, tMeth, tLstRg, tRg1, tRg2, List.map_cons, List.map_nil, List.replicate, List.length_cons, List.length_nil, List.append, List.cons_append, List.nil_append, List.append_nil, List.getElem?_cons_zero, List.getElem?_cons_succ, List.set_cons_zero, List.set_cons_succ, Option.some.injEq, exists_eq_left', exists_eq_left, exists_eq, exists_and_left, exists_const, wipe, tYes, upd_same, ↓reduceIte, decide_false, decide_true, Bool.not_true, Bool.not_false, Bool.false_eq_true, V.int.injEq, HO.lst.injEq, HO.tup.injEq, V.ref.injEq, V.str.injEq, one_inj, le_a, le_z, le_0, le_9, mem_let, mem_dig, V.bl.injEq, List.cons.injEq, and_true, true_and, reduceCtorEq, false_and, exists_false, or_false, false_or])
def spHeight (K : PySem.W.Frag) (C : Addr) : Sp := fun vs H Q E => ∃ (v : V) (d : PyData), vs = [v] ∧ Dp K H v d ∧ Tm d ∧ (∀ p H', Pt.partyP d = some p → Same H H' → Q (.int (Pt.time (fun _ => 1) p : Nat)) H') ∧ (∀ H', Pt.partyP d = none → Same H H' → E (.ref C) none H')
def spLevels (K : PySem.W.Frag) (C : Addr) : Sp := fun vs H Q E => ∃ (v : V) (d : PyData), vs = [v] ∧ Dp K H v d ∧ Tm d ∧ (∀ p (ys : List Nat) v' H', Pt.partyP d = some p → ys.Nodup → (∀ l, l ∈ ys ↔ ∃ x ∈ Pt.starts (fun _ => 1) (Pt.plc p 0) 0, x.2 = l) → Same H H' →
  Dp K H' v' (.tuple [.tuple ((ys.map (lvl (Pt.starts (fun _ => 1) (Pt.plc p 0) 0))).map dN), dN (Pt.longest (fun _ => 1) (Pt.plc p 0))]) → Q v' H') ∧ (∀ H', Pt.partyP d = none → Same H H' → E (.ref C) none H')
/-- {x: 1 for x in ks} -/
theorem dc_ones {K : PySem.W.Frag} {H : Hp} {Qd : Addr → Hp → Prop} {σ : L2.St} {s : Nat} {t : Addr} {ks : List Str} (hs : SqT K H t (ks.map V.str)) (hl : ks.length ≤ 60) (hsl : s < σ.length)
    (done : ∀ (D : Addr) (H' : Hp), H D = none → Same H H' → TbAt H' D (fun _ => 1) ks → Qd D H') :
    ∀ D, H D = none → ∃ W : Nat → Nat → Hp → Prop, (∃ m, W 0 m (upd H D (.dK []))) ∧ ∀ i m H, W i m H →
      ((Itt K t).stop i H ∧ Qd D H) ∨ ((Itt K t).go i H ∧ ∃ Nx : Hp → Prop, (∀ H', Nx H' → ∃ m', m' < m ∧ W (i + 1) m' H') ∧ ∀ x H', (Itt K t).yld i H x H' → gName s x (wipe σ [s]) H' fun σ2 H2 => wipe σ2 [s] = wipe σ [s] ∧ tYes σ2 H2 fun b H3 =>
        if b = true then tVar s σ2 H3 fun y H4 => tC (.int 1) σ2 H4 fun z H5 => ∃ kvs k, y = kV k ∧ H5 D = some (.dK kvs) ∧ kvs.length < sizeLine ∧ Nx (upd H5 D (.dK (putK kvs k z))) else Nx H3) := by
  intro D nD
  have hll : (ks.map V.str).length = ks.length := List.length_map _
  refine ⟨fun i m G => m = ks.length - i ∧ i ≤ ks.length ∧ (Same H G ∧ ∃ kvs : List (Key × V), G D = some (.dK kvs) ∧ kvs.length ≤ i ∧ ∀ x ∈ ks.take i, valV kvs (.inr x) = some (.int 1)), ⟨ks.length, by simp, Nat.zero_le _, same_upd nD, [], upd_same, Nat.le_refl _, fun x hx => by simp at hx⟩, ?_⟩
  rintro i m G ⟨rfl, hi, sm, kvs, eD, hk, hm⟩
  have hS := tup_same sm hs
  by_cases hlt : i < ks.length
  · refine .inr ⟨walk_tup.goes i G (by rw [hll]; exact hlt) hS, fun G => (Same H G ∧ ∃ kvs : List (Key × V), G D = some (.dK kvs) ∧ kvs.length ≤ i + 1 ∧ ∀ x ∈ ks.take (i + 1), valV kvs (.inr x) = some (.int 1)), fun G' q => ⟨ks.length - (i + 1), by omega, rfl, hlt, q⟩, fun x G' y => ?_⟩
    obtain ⟨rfl, hx⟩ := walk_tup.yields i G x G' (by rw [hll]; exact hlt) hS y
    obtain ⟨z, hz⟩ : ∃ z, ks[i]? = some z := ⟨ks[i], List.getElem?_eq_getElem hlt⟩
    rw [List.getElem?_map, hz] at hx
    obtain rfl := Option.some.inj hx
    simp only [gName, tYes, ↓reduceIte]
    refine ⟨by simp only [wipe, List.set_set], .str z, by simp [wipe, hsl], kvs, .inr z, rfl, eD, Nat.lt_of_le_of_lt (show _ ≤ 60 by omega) (by decide), same_D sm nD, _, upd_same, Nat.le_trans (length_putK _ _ _) (by omega), fun x hx => ?_⟩
    rw [valV_put]
    by_cases c2 : x = z
    · rw [if_pos (by rw [c2])]
    · rw [if_neg fun e => c2 (Sum.inr.inj e)]
      refine hm x ?_
      rw [List.take_add_one, hz] at hx
      rcases List.mem_append.mp hx with h | h
      · exact h
      · exact absurd (List.mem_singleton.mp h) c2
  · have e : i = ks.length := by omega
    subst e
    refine .inl ⟨?_, done D G nD sm ⟨kvs, eD, fun x hx => hm x (by rw [List.take_length]; exact hx)⟩⟩
    have := (walk_tup (K := K) (a := t)).stops G hS
    rwa [hll] at this
section
variable {P : Program} {w : World} {K : PySem.W.Frag} {mg : Str → Option Value} {base : Heap}
theorem sc_height : FnScope ["party", "name"] ["party"] (defScope s_height) := ⟨rfl, rfl, rfl, by decide +kernel, rfl, by decide +kernel, by decide +kernel⟩
theorem ok_height {C : Addr} {f : Addr} {fd : FuncData} (F : Fun K "height" "height" s_height f fd) (c_check_party : ClX P w K mg base 73 "check_party" (spChk K C)) (c_deeds_of : ClX P w K mg base 74 "deeds_of" (spDeeds K C)) (c_time_in : Cl P w K mg base 32 "time_in" (spTime K 31)) : FnOk P w K mg base (L2.CX P w) 75 f fd ["party"] (spHeight K C) := by
  have nd := sc_height.nd
  refine F.okX sc_height (fun vs H Q E h => ?_) (fun cdv A outer s H vs Q E hr h => ?_)
  · obtain ⟨v, d, rfl, _⟩ := h
    rfl
  obtain ⟨v, d, rfl, hv, tm, q, e⟩ := h
  refine ⟨_, (pss_cons (ps_expr (pclX c_check_party hr (by omega) (passes_call (takes_of rfl rfl rfl rfl) (fun _ _ _ _ h => h)) (pa_cons (pv 0) pa_nil)))
  (pss_one (ps_ret (pcl c_time_in hr (by omega) (pa_cons (pv 0) (pa_cons (pe_dc (own := [("name", 1)]) rfl nd (pi_tupK (K := K) rfl (pclX c_deeds_of hr (by omega) (passes_call (takes_of rfl rfl rfl rfl) (fun _ _ _ _ h => h)) (pa_cons (pv 0) pa_nil))) (blkOk_by (N := ["party", "name"]) (sc := defScope s_height) (by decide +kernel)) (fun _ _ _ _ _ => (pg_name (i := 1) nd rfl (.inl rfl))) (fun _ _ _ _ _ => pts_nil) (fun _ _ _ _ _ => (pv 1)) (fun _ _ _ _ _ => pe_int)) pa_nil)))))), ?_⟩
  walk_at "sx"
  refine ⟨v, d, rfl, hv, tm, fun H1 s1 hp => ?_, fun H1 s1 hp => e H1 hp s1⟩
  obtain ⟨p, hp⟩ := Option.isSome_iff_exists.mp hp
  obtain ⟨rfl, ho⟩ := party_ok hp
  have hv1 := L2.Dp.same s1 hv
  refine ⟨_, rfl, v, _, p, rfl, hv1, tm, hp, fun t ks H2 s2 hm hl hs => ⟨t, rfl, ⟨_, hs⟩, dc_ones (σ := [some v, none]) (s := 1) hs hl ?_ fun D H3 nD s3 hT => ?_⟩⟩
  · show 1 < 2
    omega
  exact ⟨v, D, p, fun _ => 1, rfl, L2.Dp.same (s2.trans s3) hv1, ho, by have := ho.1.2; omega, hT.sub fun x hx => (hm x).mpr hx, fun H4 s4 => q p H4 hp (s1.trans (s2.trans (s3.trans s4)))⟩
theorem sc_levels : FnScope ["party", "table", "name", "tree", "told", "found", "place", "level"] ["party"] (defScope s_levels) := ⟨rfl, rfl, rfl, by decide +kernel, rfl, by decide +kernel, by decide +kernel⟩
theorem ok_levels {C : Addr} {f : Addr} {fd : FuncData} (F : Fun K "levels" "levels" s_levels f fd) (c_check_party : ClX P w K mg base 73 "check_party" (spChk K C)) (c_deeds_of : ClX P w K mg base 74 "deeds_of" (spDeeds K C)) (c_placed : Cl P w K mg base 32 "placed" (spPlaced K 31)) (c_starts_in : Cl P w K mg base 70 "starts_in" (spStarts K 31)) (c_longest_in : Cl P w K mg base 70 "longest_in" (spLongest K 31)) (b_tuple : mg "tuple" = none) (b_sorted : mg "sorted" = none) : FnOk P w K mg base (L2.CX P w) 75 f fd ["party"] (spLevels K C) := by
  have nd := sc_levels.nd
  refine F.okX sc_levels (fun vs H Q E h => ?_) (fun cdv A outer s H vs Q E hr h => ?_)
  · obtain ⟨v, d, rfl, _⟩ := h
    rfl
  obtain ⟨v, d, rfl, hv, tm, q, e⟩ := h
  refine ⟨_, (pss_cons (ps_expr (pclX c_check_party hr (by omega) (passes_call (takes_of rfl rfl rfl rfl) (fun _ _ _ _ h => h)) (pa_cons (pv 0) pa_nil)))
  (pss_cons (R.ps_setDc (i := 1) (own := [("name", 2)]) rfl nd rfl rfl (R.sw_dict rfl rfl rfl (by decide +kernel)) (pi_tupK (K := K) rfl (pclX c_deeds_of hr (by omega) (passes_call (takes_of rfl rfl rfl rfl) (fun _ _ _ _ h => h)) (pa_cons (pv 0) pa_nil))) (blkOk_by (N := ["party", "table", "name", "tree", "told", "found", "place", "level"]) (sc := defScope s_levels) (by decide +kernel)) (fun _ _ _ _ _ => (pg_name (i := 2) nd rfl (.inl rfl))) (fun _ _ _ _ _ => pts_nil) (fun _ _ _ _ _ => (pv 2)) (fun _ _ _ _ _ => pe_int))
  (pss_cons (ps_set (i := 3) nd rfl (.inl rfl) (pe_ix (ix_tupK (K := K) rfl) (pcl c_placed hr (by omega) (pa_cons (pv 0) (pa_cons pe_int pa_nil))) pe_int (fun _ _ => rfl)))
  (pss_cons (ps_asg (pe_tup (pa_cons (pcl c_starts_in hr (by omega) (pa_cons (pv 3) (pa_cons (pv 1) (pa_cons pe_int pa_nil)))) (pa_cons pe_dnewK pa_nil))) (pg_tupK (K := K) rfl (n := 2) (by rfl) (pgs_cons (pg_name (i := 4) nd rfl (.inl rfl)) (pgs_cons (pg_name (i := 5) nd rfl (.inr rfl)) pgs_nil))))
  (pss_cons (ps_for (passes_of rfl) rfl (pi_listK (K := K) rfl (pe_callB (call_sortedDI rfl) (by rfl) b_sorted (by decide +kernel) (pa_cons (pv 4) pa_nil))) (pg_name (i := 6) nd rfl (.inl rfl))
    (pss_one (ps_expr (pe_bm PySem.F.plainAttrs_list PySem.F.slot_list_append PySem.F.type_list_append mt_append (pe_dsetd (pv 5) (pe_dget (hu_of hr) (pv 4) (pv 6) (fun _ _ => rfl)) (pe_lst pa_nil) ⟨rfl, rfl, rfl, rfl⟩) (pa_cons (pv 6) pa_nil)))))
  (pss_one (ps_ret (pe_tup (pa_cons (pe_callTy (R.call_tupleK (K := K) rfl) (by rfl) b_tuple (by decide +kernel) (pa_cons (pe_lc (own := [("level", 7)]) rfl nd (pi_listK (K := K) rfl (pe_callB (call_sortedDI rfl) (by rfl) b_sorted (by decide +kernel) (pa_cons (pv 5) pa_nil))) (blkOk_by (N := ["party", "table", "name", "tree", "told", "found", "place", "level"]) (sc := defScope s_levels) (by decide +kernel)) (fun _ _ _ _ _ => (pg_name (i := 7) nd rfl (.inl rfl))) (fun _ _ _ _ _ => pts_nil) (fun _ _ _ _ _ => (pe_callTy (R.call_tupleK (K := K) rfl) (by rfl) b_tuple (by decide +kernel) (pa_cons (pe_dget (hu_of hr) (pv 5) (pv 7) (fun _ _ => rfl)) pa_nil)))) pa_nil)) (pa_cons (pe_callTy (R.call_tupleK (K := K) rfl) (by rfl) b_tuple (by decide +kernel) (pa_cons (pcl c_longest_in hr (by omega) (pa_cons (pv 3) (pa_cons (pv 1) pa_nil))) pa_nil)) pa_nil)))))))))), ?_⟩
  walk_at "sx"
  refine ⟨v, d, rfl, hv, tm, fun H1 s1 hp => ?_, fun H1 s1 hp => e H1 hp s1⟩
  obtain ⟨p, hp⟩ := Option.isSome_iff_exists.mp hp
  obtain ⟨rfl, ho⟩ := party_ok hp
  have hv1 := L2.Dp.same s1 hv
  refine ⟨_, rfl, v, _, p, rfl, hv1, tm, hp, fun t ks H2 s2 hm hl hs => ⟨t, rfl, ⟨_, hs⟩, dc_ones (σ := [some v, none, none, none, none, none, none, none]) (s := 2) hs hl ?_ fun T H3 nT s3 hT => ?_⟩⟩
  · show 2 < 8
    omega
  have hv3 := L2.Dp.same (s2.trans s3) hv1
  have hdp := ho.1.2
  walk_at "sx"
  refine ⟨v, p, 0, rfl, hv3, ho, by omega, fun t3 u H4 s4 st du => ?_⟩
  refine ixt st rfl ?_
  walk_at "sx"
  have hk : TrOk 31 H4 T (Pt.plc p 0) (fun _ => 1) := ⟨okT_plc ho 0, by rw [dep_plc]; omega, by
    have := (Pt.lev (tb := fun _ : Str => 1) (fun _ => rfl) p 0 0).fst
    rw [Pt.starts_places] at this
    rw [this]
    exact List.nodup_range', (hT.same s4).sub fun x hx => (hm x).mpr (by rw [Pt.bare_plc] at hx; exact hx)⟩
  refine ⟨u, T, 0, Pt.plc p 0, _, rfl, du, hk, fun b H5 nb s5 eb => ?_⟩
  intro F nF
  refine ⟨by decide, fun p2 n2 => ⟨_, SqT.of upd_same, rfl, _, _, rfl, _, _, rfl, rfl, ?_⟩⟩
  have fF := same_upd (o := .dK []) nF
  have f2 := same_upd (o := .tup [.ref b, .ref F]) n2
  have g := fF.trans f2
  have eFG := f2 _ _ (upd_same (H := H5) (a := F) (o := .dK []))
  have hLev := Pt.lev (tb := fun _ : Str => 1) (fun _ => rfl) p 0 0
  have hLn : (Pt.starts (fun _ => 1) (Pt.plc p 0) 0).length = Pt.cnt p := by rw [Pt.starts_len, cnt_plc]
  generalize hL : Pt.starts (fun _ : Str => 1) (Pt.plc p 0) 0 = L at *
  have hL1 : L.map (·.1) = List.range' 0 (Pt.cnt p) := by
    have := hLev.fst
    rwa [hL] at this
  generalize upd (upd H5 F (.dK [])) p2 (.tup [.ref b, .ref F]) = G at g eFG ⊢
  refine ⟨_, rfl, b, rfl, L.map kvN, .inl (g _ _ eb), (List.range' 0 (Pt.cnt p)).map fun i : Nat => (i : Int), by rw [kvN_keys, hL1, List.map_map]; rfl, by rw [List.length_map, List.length_range']; have := ho.2; omega, fun ys p3 pm rs n3 => ⟨p3, rfl, ⟨_, SqL.of upd_same⟩, ?_⟩⟩
  have eys : ys = (List.range' 0 (Pt.cnt p)).map fun i : Nat => (i : Int) := by
    have := sorted_range (l := List.range' 0 (Pt.cnt p)) (n := Pt.cnt p) pm rs
    rw [decide_eq_true (show (List.range' 0 (Pt.cnt p)).Perm (List.range (Pt.cnt p)) by rw [List.range_eq_range'])] at this
    exact of_decide_eq_true this
  subst eys
  have f3 := same_upd (o := .lst (((List.range' 0 (Pt.cnt p)).map fun i : Nat => (i : Int)).map V.int)) n3
  have e3 := upd_same (H := G) (a := p3) (o := .lst (((List.range' 0 (Pt.cnt p)).map fun i : Nat => (i : Int)).map V.int))
  have eF7 := f3 _ _ eFG
  have s7 := g.trans f3
  generalize upd G p3 (.lst (((List.range' 0 (Pt.cnt p)).map fun i : Nat => (i : Int)).map V.int)) = H7 at e3 eF7 s7 ⊢
  have hF3 : p3 ≠ F := ne_of e3 eF7 (by intro q; cases q)
  refine for_list (K := K) (a := p3) (xs := ((List.range' 0 (Pt.cnt p)).map fun i : Nat => (i : Int)).map V.int) (fun i σ H' => ∃ (x6 : Option V) (es : List (Nat × Addr)), σ = [some v, some (.ref T), none, some u, some (.ref b), some (.ref F), x6, none] ∧ But F H7 H' ∧ FdAt H7 H' F (L.take i) es)
    ⟨none, [], rfl, .refl _ _, ⟨eF7, List.nodup_nil, List.nodup_nil, fun e he => (by cases he), fun l => (by simp)⟩⟩ (fun i σ H' _ ⟨_, _, _, bt, _⟩ => SqL.of (bt _ _ e3 hF3)) ?_ ?_
  · rintro i x σ H8 hx ⟨y, es, rfl, bt, fd⟩
    walk_at "sx"
    obtain ⟨z, hz⟩ : ∃ z, L[i]? = some z := by
      have hi := (List.getElem?_eq_some_iff.mp hx).1
      rw [List.length_map, List.length_map, List.length_range'] at hi
      exact ⟨L[i]'(by omega), List.getElem?_eq_getElem _⟩
    have hxz : x = vN z.1 := by
      have h1 := congrArg (fun l => l[i]?) hL1
      simp only [List.getElem?_map, hz] at h1
      rw [List.getElem?_map, List.getElem?_map, ← h1] at hx
      exact (Option.some.inj hx).symm
    subst hxz
    have hLk : ((L.map kvN).map (·.1)).Nodup := by
      rw [kvN_keys, hL1]
      exact keys_nodup List.nodup_range'
    have hlu := valV_at hLk (List.mem_map.mpr ⟨z, List.mem_of_getElem? hz, rfl⟩ : kvN z ∈ L.map kvN)
    have sb8 := But.same_of s7 nF bt
    have eb8 := sb8 _ _ eb
    refine ⟨_, rfl, F, rfl, .inl ⟨_, .inl fd.dict⟩, _, rfl, _, rfl, b, _, rfl, hlu ▸ DGet.k (k := .inl (z.1 : Int)) eb8, by decide, fun D nD => ?_⟩
    have sD := same_upd (o := .lst []) nD
    have n0 : H7 D = none := by
      cases e : H7 D with
      | none => rfl
      | some o =>
        have : H8 D = some o := bt _ _ e fun q => by rw [q, fd.dict] at nD; cases nD
        rw [nD] at this
        cases this
    have hes : es.length ≤ 60 := by
      have h1 := nodup_lt (n := 60) fd.keys fun l hl => by
        obtain ⟨y, hy, rfl⟩ := (fd.all l).mp hl
        have hb := (hLev.bnd y (by rw [hL]; exact List.mem_of_mem_take hy)).2
        have := Pt.time_le (fun _ : Str => 1) (fun _ => Nat.le_refl 1) p
        have := ho.2
        omega
      rwa [List.length_map] at h1
    have etk : L.take (i + 1) = L.take i ++ [z] := by rw [List.take_add_one, hz]; rfl
    refine ⟨es.map kvA, .inl (z.2 : Int), sD _ _ fd.dict, rfl, by rw [List.length_map]; exact small1000 (by omega), fun v' hv' => ?_, fun hno => ?_⟩
    · by_cases hl : z.2 ∈ es.map (·.1)
      · obtain ⟨e, he, hel⟩ := List.mem_map.mp hl
        have hva := valV_at (by rw [kvA_keys]; exact keys_nodup fd.keys) (List.mem_map.mpr ⟨e, he, rfl⟩ : kvA e ∈ es.map kvA)
        have hva : valV (es.map kvA) (.inl (z.2 : Int)) = some (.ref e.2) := by rw [← hel]; exact hva
        rw [hva] at hv'
        obtain rfl := Option.some.inj hv'
        have er := sD _ _ (fd.rows e he).1
        refine ⟨tyl er, e.2, rfl, _, er, ?_, (bt.trans (.of sD)).fresh (fd.rows e he).2, es, ?_⟩
        · rw [List.length_map]
          unfold lvl
          rw [List.length_map]
          have := List.length_filter_le (fun x : Nat × Nat => x.2 == e.1) (L.take i)
          rw [List.length_take] at this
          have := ho.2
          exact small1000 (by omega)
        · rw [etk]
          exact fd.old he hel sD
      · rw [valV_no fun h => hl (kvA_in.mp h)] at hv'
        cases hv'
    · by_cases hl : z.2 ∈ es.map (·.1)
      · obtain ⟨e, he, hel⟩ := List.mem_map.mp hl
        have hva := valV_at (by rw [kvA_keys]; exact keys_nodup fd.keys) (List.mem_map.mpr ⟨e, he, rfl⟩ : kvA e ∈ es.map kvA)
        have hva : valV (es.map kvA) (.inl (z.2 : Int)) = some (.ref e.2) := by rw [← hel]; exact hva
        rw [hva] at hno
        cases hno
      · have hFD : F ≠ D := ne_of_none fd.dict nD
        have eput : putK (es.map kvA) (.inl (z.2 : Int)) (.ref D) = (es ++ [(z.2, D)]).map kvA := by
          rw [putK_new fun h => hl (kvA_in.mp h), List.map_append]
          rfl
        rw [eput]
        have eD : upd (upd H8 D (.lst [])) F (.dK ((es ++ [(z.2, D)]).map kvA)) D = some (.lst []) := by rw [upd_ne hFD.symm, upd_same]
        refine ⟨tyl eD, D, rfl, [], eD, by decide, ?_, es ++ [(z.2, D)], ?_⟩
        · exact (But.upd (bt.trans (.of sD))).fresh n0
        · rw [etk]
          exact fd.new hl sD nD n0
  · rintro σ H8 ⟨y, es, rfl, bt, fd⟩
    walk_at "sx"
    have sb8 := But.same_of s7 nF bt
    have hxl : (((List.range' 0 (Pt.cnt p)).map fun i : Nat => (i : Int)).map V.int).length = L.length := by rw [List.length_map, List.length_map, List.length_range', hLn]
    rw [hxl, List.take_length] at fd
    have hes : es.length ≤ 60 := by
      have h1 := nodup_lt (n := 60) fd.keys fun l hl => by
        obtain ⟨y, hy, rfl⟩ := (fd.all l).mp hl
        have hb := (hLev.bnd y (by rw [hL]; exact hy)).2
        have := Pt.time_le (fun _ : Str => 1) (fun _ => Nat.le_refl 1) p
        have := ho.2
        omega
      rwa [List.length_map] at h1
    refine ⟨_, rfl, F, rfl, es.map kvA, .inl fd.dict, (es.map (·.1)).map fun i : Nat => (i : Int), by rw [kvA_keys, List.map_map, List.map_map, List.map_map]; rfl, by rw [List.length_map, List.length_map]; omega, fun ys2 p5 pm2 rs2 n5 => ⟨p5, rfl, ⟨_, SqL.of upd_same⟩, fun D nD => ?_⟩⟩
    obtain ⟨ys, rfl, pm⟩ : ∃ ys : List Nat, ys2 = ys.map (fun i : Nat => (i : Int)) ∧ ys.Perm (es.map (·.1)) := by
      refine ⟨ys2.map Int.toNat, ?_, ?_⟩
      · rw [List.map_map]
        have h0 : ∀ a ∈ ys2, ((fun i : Nat => (i : Int)) ∘ Int.toNat) a = a := fun a ha => by
          obtain ⟨i, _, rfl⟩ := List.mem_map.mp (pm2.mem_iff.mp ha)
          rfl
        rw [List.map_congr_left h0, List.map_id']
      · have := pm2.map Int.toNat
        rw [List.map_map] at this
        simpa [Function.comp_def] using this
    have f5 := same_upd (o := .lst ((ys.map fun i : Nat => (i : Int)).map V.int)) n5
    have e5 := upd_same (H := H8) (a := p5) (o := .lst ((ys.map fun i : Nat => (i : Int)).map V.int))
    have e5F := f5 _ _ fd.dict
    generalize upd H8 p5 (.lst ((ys.map fun i : Nat => (i : Int)).map V.int)) = H9 at f5 e5 e5F nD ⊢
    refine lc_rel (xs := (ys.map fun i : Nat => (i : Int)).map V.int) walk_list nD (fun H' v c => Dp K H' v (dN c)) (fun s h => L2.Dp.same s h) (fun e h => (dN_to _).mono (Tp.upd (.refl _) e) _ h) (ys.map (lvl L)) (by rw [List.length_map, List.length_map, List.length_map]) ?_ (fun H' f => SqL.of (f _ _ e5)) ?_ ?_
    · have := pm.length_eq
      rw [List.length_map] at this
      rw [List.length_map, List.length_map, this]
      exact size60 hes
    · intro i x c hx hc H' R sm hD' hR
      rw [List.getElem?_map, List.getElem?_map] at hx
      rw [List.getElem?_map] at hc
      cases hyi : ys[i]? with
      | none =>
        rw [hyi] at hx
        cases hx
      | some l =>
      rw [hyi] at hx hc
      obtain rfl := Option.some.inj hx
      obtain rfl := Option.some.inj hc
      obtain ⟨e, he, rfl⟩ := List.mem_map.mp (pm.mem_iff.mp (List.mem_of_getElem? hyi))
      have hva := valV_at (by rw [kvA_keys]; exact keys_nodup fd.keys) (List.mem_map.mpr ⟨e, he, rfl⟩ : kvA e ∈ es.map kvA)
      have hva : valV (es.map kvA) (.inl (e.1 : Int)) = some (.ref e.2) := hva
      have er := (f5.trans sm) _ _ (fd.rows e he).1
      refine ⟨_, rfl, _, rfl, F, _, rfl, hva ▸ DGet.k (k := .inl (e.1 : Int)) (sm _ _ e5F), e.2, rfl, _, .inl ⟨SqL.of er, fun l nl => ?_⟩⟩
      exact hR _ _ (same_upd nl) (dN_of (SqT.of upd_same))
    · intro H10 vs sm eD r
      have dvs := rel_map r
      refine ⟨D, rfl, vs, .inl ⟨SqL.of eD, fun l nl => ?_⟩⟩
      have f11 := same_upd (o := .tup vs) nl
      have e11 := upd_same (H := H10) (a := l) (o := .tup vs)
      have d11 := DpAll.same f11 dvs
      have s11 := s5.trans (sb8.trans (f5.trans (sm.trans f11)))
      generalize upd H10 l (.tup vs) = H11 at e11 d11 s11 ⊢
      refine ⟨u, T, Pt.plc p 0, _, rfl, L2.Dp.same s11 du, hk.same s11, fun b2 us2 H12 nb2 s12 eb2 dl => ⟨b2, rfl, us2, .inl ⟨SqL.of eb2, fun l2 nl2 => ⟨by decide, fun p9 n9 => ?_⟩⟩⟩⟩
      have f13 := same_upd (o := .tup us2) nl2
      have f14 := same_upd (o := .tup [.ref l, .ref l2]) n9
      refine q p ys (.ref p9) _ hp (pm.nodup_iff.mpr fd.keys) (fun l => by rw [pm.mem_iff, fd.all l, hL]) (s1.trans (s2.trans (s3.trans (s4.trans (s11.trans (s12.trans (f13.trans f14))))))) ?_
      rw [hL]
      exact .tup (SqT.of upd_same) (.cons (.tup (tup_same (s12.trans (f13.trans f14)) (SqT.of e11)) (DpAll.same (s12.trans (f13.trans f14)) d11)) (.cons (.tup (tup_same f14 (SqT.of upd_same)) (DpAll.same (f13.trans f14) dl)) .nil))
end

end Z

set_option Elab.async false
set_option linter.all false
set_option maxRecDepth 100000
set_option maxHeartbeats 4000000

namespace Z
open PySem PySem.Spec PyProof.Rows L2 Z.R
local macro_rules | `(tactic| walk_at "sx") => `(tactic| try simp only [and_assoc, cxOf_K, cxOf_Kn, C8.tCut, rEq, rNe, sc_ii, sc_ss, sc_bb, sc_is, sc_si, sc_bs, sc_sb, tSeq, tAsg, tPar, tPar3, tC, gName, gNil, gCons, gTup, gSub, rSetL, L2.start, tVar, tOp, tUn, rI0, rI, rU, tTest, tChain, tOrV, tAndV, tNotV, tCB, tCons, tNil, tLst, tTup, tIfS, tNext, tRet, tRetN, tDrop, tAnd, tOr, tNot, tB, tIf, tSl, tFld, sFld, putF, tNoPart, tPart, rSlL, tBM, tBM0, rAppend, rPop, rExtend, tCall, tMeth, tLstRg, tRg1, tRg2, List.map_cons, List.map_nil, List.replicate, List.length_cons, List.length_nil, List.append, List.cons_append, List.nil_append, List.append_nil, List.getElem?_cons_zero, List.getElem?_cons_succ, List.set_cons_zero, List.set_cons_succ, Option.some.injEq, exists_eq_left', exists_eq_left, exists_eq, exists_and_left, exists_const, wipe, tYes, upd_same, ↓reduceIte, decide_false, decide_true, Bool.not_true, Bool.not_false, Bool.false_eq_true, V.int.injEq, HO.lst.injEq, HO.tup.injEq, V.ref.injEq, V.str.injEq, one_inj, le_a, le_z, le_0, le_9, mem_let, mem_dig, V.bl.injEq, List.cons.injEq, and_true, true_and, reduceCtorEq, false_and, exists_false, or_false, false_or])
section
variable {P : Program} {w : World} {K : PySem.W.Frag} {mg : Str → Option Value} {base : Heap}
theorem sc__law_draw : FnScope ["script", "seed", "cell"] ["script"] (defScope s__law_draw) := ⟨rfl, rfl, rfl, by decide +kernel, rfl, by decide +kernel, by decide +kernel⟩
theorem ok__law_draw {f : Addr} {fd : FuncData} (F : Fun K "_law_draw" "_law_draw" s__law_draw f fd) (b_int : mg "int" = none) (b_abs : mg "abs" = none) : FnOk P w K mg base CX0 1 f fd ["script"] (spDraw K) := by
  have nd := sc__law_draw.nd
  refine F.ok sc__law_draw (fun vs H Q E h => ?_) (fun cdv A outer s H vs Q E hr h => ?_)
  · obtain ⟨a, ns, rfl, _⟩ := h
    rfl
  obtain ⟨a, ns, rfl, hS, h63, q⟩ := h
  refine ⟨_, (pss_cons (ps_set (i := 1) nd rfl (.inl rfl) pe_int)
  (pss_cons (ps_for PassesOwn.never rfl (pi_list (pe_slice sl_list (pv 0) po_none (po_some pe_int))) (pg_name (i := 2) nd rfl (.inl rfl))
    (pss_one (ps_set (i := 1) nd rfl (.inl rfl) (pe_op op_add (pe_op op_modN (pe_callTy call_int1 (by rfl) b_int (by decide +kernel) (pa_cons (pe_op op_add (pe_op op_mul (pv 1) pe_int) (pv 2)) pa_nil)) pe_int) pe_int))))
  (pss_one (ps_ret (pe_lst (pa_cons (pe_lc (own := [("cell", 2)]) rfl nd (pi_list (pe_slice sl_list (pv 0) po_none (po_some pe_int))) (blkOk_by (N := ["script", "seed", "cell"]) (sc := defScope s__law_draw) (by decide +kernel)) (fun _ _ _ _ _ => (pg_name (i := 2) nd rfl (.inl rfl))) (fun _ _ _ _ _ => pts_nil) (fun _ _ _ _ _ => (pe_callB call_abs (by rfl) b_abs (by decide +kernel) (pa_cons (pe_callTy call_int1 (by rfl) b_int (by decide +kernel) (pa_cons (pv 2) pa_nil)) pa_nil)))) (pa_cons pe_int (pa_cons pe_int (pa_cons pe_int (pa_cons (pv 1) (pa_cons pe_int pa_nil))))))))))), ?_⟩
  walk_at "sx"
  refine ⟨.ref a, rfl, 63, rfl, a, _, rfl, hS, fun p np => ⟨p, rfl, ⟨_, SqL.of upd_same⟩, for_list (K := K) (a := p) (xs := cutV (ns.map V.int) none (some 63)) (fun i σ H' => ∃ (seed : Int) (c : Option V), σ = [some (.ref a), some (.int seed), c] ∧ Same H H' ∧ H' p = some (.lst (cutV (ns.map V.int) none (some 63))) ∧ 1 ≤ seed ∧ seed ≤ 2147483629)
    ⟨7, none, rfl, same_upd np, upd_same, by decide, by decide⟩ (fun i σ H' _ ⟨_, _, _, _, e, _⟩ => SqL.of e) ?_ ?_⟩⟩
  · rintro i x σ H' hi ⟨seed, c, rfl, sm, ep, s1, s2⟩
    rw [cut63 h63] at hi
    obtain ⟨z, _, rfl⟩ := int_at hi
    walk_at "sx"
    refine ⟨.inr ⟨by decide, by decide⟩, by decide, sm, ep, ?_, ?_⟩
    · have h0 := Int.fmod_nonneg_of_pos (seed * 48271 + z) (b := 2147483629) (by decide)
      omega
    · have h0 := Int.fmod_lt_of_pos (seed * 48271 + z) (b := 2147483629) (by decide)
      omega
  · rintro σ H' ⟨seed, c, rfl, sm, ep, s1, s2⟩
    walk_at "sx"
    refine ⟨.ref a, rfl, 63, rfl, a, _, rfl, sm.seq hS, fun p2 np2 => ⟨p2, rfl, ⟨_, SqL.of upd_same⟩, fun D nD => lc_list (K := K) (a := p2) (xs := cutV (ns.map V.int) none (some 63)) (fun i H2 => Same H' H2 ∧ H2 p2 = some (.lst (cutV (ns.map V.int) none (some 63))) ∧ H2 D = some (.lst (((ns.take i).map fun z => (z.natAbs : Int)).map V.int)))
      ⟨(same_upd np2).trans (same_upd nD), (by rw [upd_ne (ne_of_none upd_same nD), upd_same]), upd_same⟩ (fun i H2 _ h => SqL.of h.2.1) ?_ ?_⟩⟩
    · rintro i x H2 hi ⟨sm2, e2, eD⟩
      rw [cut63 h63] at hi
      obtain ⟨z, hz, rfl⟩ := int_at hi
      walk_at "sx"
      have hl : i < ns.length := (List.getElem?_eq_some_iff.mp hz).1
      refine ⟨_, eD, ?_, fun b o e => ?_, ?_, ?_⟩
      · rw [List.length_map, List.length_map, List.length_take]
        exact small1000 (by omega)
      · rw [upd_ne (fun z => ?_)]
        · exact sm2 b o e
        · subst z
          rw [(same_upd np2).trans (Same.refl _) _ _ e] at nD
          cases nD
      · rw [upd_ne (ne_of_none upd_same nD)]
        exact e2
      · have ea : (if z < 0 then -z else z) = (z.natAbs : Int) := by
          split <;> omega
        rw [List.take_add_one, hz, List.map_append, List.map_append, ea]
        rfl
    · rintro H2 ⟨sm2, e2, eD⟩
      walk_at "sx"
      refine ⟨by decide, fun r nr => q r D _ (sm.trans sm2 |>.free nr) (sm.free ((same_upd np2).free nD)) ((sm.trans sm2).trans (same_upd nr)) ⟨_, _, _, _, _, _, upd_same, (by rw [upd_ne (ne_of_none eD nr)]; exact eD), ?_, ?_, by omega, by omega, by omega, by omega, by omega⟩⟩
      · rw [List.length_map, List.length_take]
        omega
      · intro x hx
        obtain ⟨y, _, rfl⟩ := List.mem_map.mp hx
        exact Int.natCast_nonneg _
end
section
variable {P : Program} {w : World} {K : PySem.W.Frag} {mg : Str → Option Value} {base : Heap}
theorem sc__law_take : FnScope ["draw", "many", "found"] ["draw", "many"] (defScope s__law_take) := ⟨rfl, rfl, rfl, by decide +kernel, rfl, by decide +kernel, by decide +kernel⟩
theorem ok__law_take {f : Addr} {fd : FuncData} (F : Fun K "_law_take" "_law_take" s__law_take f fd) (b_int : mg "int" = none) (b_len : mg "len" = none) : FnOk P w K mg base CX0 1 f fd ["draw", "many"] spTake := by
  have nd := sc__law_take.nd
  refine F.ok sc__law_take (fun vs H Q E h => ?_) (fun cdv A outer s H vs Q E hr h => ?_)
  · obtain ⟨a, c, m, n, rfl, _⟩ := h
    rfl
  obtain ⟨a, c, m, n, rfl, ⟨xs, d1, d2, d3, d4, d5, ha, hc, h63, hx, g1, g4, g4', g5, g5'⟩, m0, m1, hn, q⟩ := h
  have nca : c ≠ a := ref_int_ne ha hc
  refine ⟨_, (C8.pss_cut (ps_if (PW.pt (pw_and (pt_cmpR op_eq (pe_ix (ix_listK (K := K) rfl) (pv 0) pe_int (fun _ _ => rfl)) pe_int (nomark _)) (pw_and1 (pt_cmpR op_lt (pe_ix (ix_listK (K := K) rfl) (pv 0) pe_int (fun _ _ => rfl)) (pe_callB (call_lenK (K := K) rfl) (by rfl) b_len (by decide +kernel) (pa_cons (pe_ix (ix_listK (K := K) rfl) (pv 0) pe_int (fun _ _ => rfl)) pa_nil)) (nomark _))))) (pss_one (ps_asg (pe_tup (pa_cons (pe_ix (ix_listK (K := K) rfl) (pe_ix (ix_listK (K := K) rfl) (pv 0) pe_int (fun _ _ => rfl)) (pe_ix (ix_listK (K := K) rfl) (pv 0) pe_int (fun _ _ => rfl)) (fun _ _ => rfl)) (pa_cons pe_int (pa_cons (pe_op op_add (pe_ix (ix_listK (K := K) rfl) (pv 0) pe_int (fun _ _ => rfl)) pe_int) pa_nil)))) (pg_tupK (K := K) rfl (n := 3) (by rfl) (pgs_cons (pg_sub (pv 0) pe_int set_list) (pgs_cons (pg_sub (pv 0) pe_int set_list) (pgs_cons (pg_sub (pv 0) pe_int set_list) pgs_nil)))))) pss_nil)
  (pss_cons (ps_if (pt_cmpR op_gt (pe_ix (ix_listK (K := K) rfl) (pv 0) pe_int (fun _ _ => rfl)) pe_int (nomark _)) (pss_cons (ps_set (i := 2) nd rfl (.inl rfl) (pe_op op_modN (pe_callTy call_int1 (by rfl) b_int (by decide +kernel) (pa_cons (pe_ix (ix_listK (K := K) rfl) (pv 0) pe_int (fun _ _ => rfl)) pa_nil)) (pv 1)))
  (pss_cons (ps_asg (pe_op op_fdivN (pe_ix (ix_listK (K := K) rfl) (pv 0) pe_int (fun _ _ => rfl)) (pv 1)) (pg_sub (pv 0) pe_int set_list))
  (pss_cons (ps_asg (pe_ifExp (pt_cmpR op_gt (pe_ix (ix_listK (K := K) rfl) (pv 0) pe_int (fun _ _ => rfl)) pe_int (nomark _)) (pe_op op_sub (pe_ix (ix_listK (K := K) rfl) (pv 0) pe_int (fun _ _ => rfl)) pe_int) pe_int) (pg_sub (pv 0) pe_int set_list))
  (pss_one (ps_ret (pv 2)))))) pss_nil)
  (pss_cons (ps_asg (pe_op op_add (pe_ix (ix_listK (K := K) rfl) (pv 0) pe_int (fun _ _ => rfl)) pe_int) (pg_sub (pv 0) pe_int set_list))
  (pss_cons (ps_asg (pe_op op_modN (pe_callTy call_int1 (by rfl) b_int (by decide +kernel) (pa_cons (pe_op op_add (pe_op op_add (pe_op op_mul (pe_ix (ix_listK (K := K) rfl) (pv 0) pe_int (fun _ _ => rfl)) pe_int) (pe_op op_mul (pe_op op_mul (pe_ix (ix_listK (K := K) rfl) (pv 0) pe_int (fun _ _ => rfl)) (pe_ix (ix_listK (K := K) rfl) (pv 0) pe_int (fun _ _ => rfl))) pe_int)) pe_int) pa_nil)) pe_int) (pg_sub (pv 0) pe_int set_list))
  (pss_one (ps_ret (pe_op op_modN (pe_callTy call_int1 (by rfl) b_int (by decide +kernel) (pa_cons (pe_op op_fdivN (pe_ix (ix_listK (K := K) rfl) (pv 0) pe_int (fun _ _ => rfl)) pe_int) pa_nil)) (pv 1)))))))), ?_⟩
  simp only [C8.tCut, L2.start]
  refine ⟨fun σ H1 => ∃ e1 e2 e3, σ = [some (.ref a), some (.int m), none] ∧ H1 a = some (.lst [.ref c, .int e1, .int e2, .int e3, .int d4, .int d5]) ∧ But a H H1 ∧ 0 ≤ e1, ?_, ?_⟩
  · walk_at "sx"
    refine ixl ha rfl ?_
    walk_at "sx"
    refine ite2 (fun k0 => ?_) (fun k0 => ⟨d1, d2, d3, ha, .refl a H, g1⟩)
    refine ixl ha rfl (ixl ha rfl ⟨_, len_l hc rfl, _, rfl, ite2 (fun k1 => ?_) (fun k1 => ⟨d1, d2, d3, ha, .refl a H, g1⟩)⟩)
    have k2 : d1 < (xs.length : Int) := by
      have := of_decide_eq_true k1
      rw [List.length_map] at this
      exact this
    have hz : atI (xs.map V.int) d1 = some (.int xs[d1.toNat]) := by
      have q := atI_nat (xs := xs.map V.int) (j := d1.toNat) (v := .int xs[d1.toNat]) (by rw [List.getElem?_map, List.getElem?_eq_getElem (by omega)]; rfl)
      rwa [Int.toNat_of_nonneg g1] at q
    refine ixl ha rfl (ixl ha rfl (ixl hc hz (ixl ha rfl ?_)))
    walk_at "sx"
    refine ⟨by decide, fun p np => ?_⟩
    have npa : a ≠ p := ne_of_none ha np
    refine ⟨_, SqT.of upd_same, rfl, _, _, rfl, _, (by rw [upd_ne npa]; exact ha), _, rfl, _, _, rfl, _, rfl, _, _, rfl, _, rfl, rfl, _, _, _, rfl, But.upd (But.upd (But.upd (But.new (.refl a H) np))), by omega⟩
  · rintro σ H1 ⟨e1, e2, e3, rfl, h1, sb, ge⟩
    walk_at "sx"
    refine ixl h1 rfl ⟨_, rfl, ite2 (fun k0 => ?_) (fun k0 => ?_)⟩
    · refine ixl h1 rfl (.inl ⟨_, rfl, by omega, ixl h1 rfl ⟨_, rfl, ⟨by omega, by omega⟩, _, h1, _, rfl, ixl upd_same rfl ⟨_, rfl, ite2 (fun k1 => ixl upd_same rfl ⟨_, rfl, _, upd_same, _, rfl, ?_⟩) (fun k1 => ⟨_, upd_same, _, rfl, ?_⟩)⟩⟩⟩)
      all_goals
        refine q _ _ (Int.fmod_nonneg_of_pos _ m0) (Int.fmod_lt_of_pos _ m0) ⟨xs, e1, _, _, d4, d5, upd_same, ?_, h63, hx, ge, g4, g4', g5, by omega⟩ (But.upd (But.upd sb))
        rw [upd_ne nca, upd_ne nca]
        exact sb _ _ hc nca
    · refine ixl h1 rfl ⟨_, rfl, _, h1, _, rfl, ixl upd_same rfl ⟨_, rfl, .inr ⟨by decide, by decide⟩, ixl upd_same rfl (ixl upd_same rfl ⟨_, rfl, _, rfl, .inl ⟨by omega, by omega⟩, .inr ⟨by decide, by decide⟩, ?_⟩)⟩⟩
      refine ⟨by decide, _, upd_same, _, rfl, ixl upd_same rfl ⟨_, rfl, ⟨by decide, by decide⟩, by omega, ?_⟩⟩
      have z0 := Int.fmod_nonneg_of_pos (d4 * 48271 + (d5 + 1) * (d5 + 1) * 69621 + 11) (b := 2147483647) (by decide)
      have z1 := Int.fmod_lt_of_pos (d4 * 48271 + (d5 + 1) * (d5 + 1) * 69621 + 11) (b := 2147483647) (by decide)
      refine q _ _ (Int.fmod_nonneg_of_pos _ m0) (Int.fmod_lt_of_pos _ m0) ⟨xs, e1, _, _, _, d5 + 1, upd_same, ?_, h63, hx, ge, z0, by omega, by omega, by omega⟩ (But.upd (But.upd sb))
      rw [upd_ne nca, upd_ne nca]
      exact sb _ _ hc nca
end
theorem dp_emp {K : PySem.W.Frag} {H : Hp} {v : V} {α : Type} {f : α → PyData} (h : Dp K H v (Pt.enc f .emp)) : ∃ t u, v = .ref t ∧ SqT K H t [u] ∧ Dp K H u (.str "empty") := by
  rw [Pt.enc] at h
  exact dp1 h
theorem in_emp : inV (.str "empty") [V.str "empty", V.str "deed"] = true := by decide +kernel
theorem in_deed : inV (.str "deed") [V.str "empty", V.str "deed"] = true := by decide +kernel
theorem in_nd {r : Bool} : inV (.str (if r then "row" else "beside")) [V.str "empty", V.str "deed"] = false := by cases r <;> decide +kernel
def spSays : Sp := fun vs H Q _ => ∃ (b c : Bool), vs = [.bl b, .bl c] ∧ Q (.bl (b == c)) H
abbrev spLNames (K : PySem.W.Frag) (n : Nat) : Sp := spLs K .str (fun p => Pt.Okc p ∧ Pt.dep p < n) fun p => (Pt.names p).map .str
section
variable {P : Program} {w : World} {K : PySem.W.Frag} {mg : Str → Option Value} {base : Heap}
theorem sc__law_says : FnScope ["value", "due"] ["value", "due"] (defScope s__law_says) := ⟨rfl, rfl, rfl, by decide +kernel, rfl, by decide +kernel, by decide +kernel⟩
theorem ok__law_says {f : Addr} {fd : FuncData} (F : Fun K "_law_says" "_law_says" s__law_says f fd) (b_isinstance : mg "isinstance" = none) (b_bool : mg "bool" = none) : FnOk P w K mg base CX0 1 f fd ["value", "due"] (spSays) := by
  have nd := sc__law_says.nd
  refine F.ok sc__law_says (fun vs H Q E h => ?_) (fun cdv A outer s H vs Q E hr h => ?_)
  · obtain ⟨b, c, rfl, _⟩ := h
    rfl
  obtain ⟨b, c, rfl, q⟩ := h
  refine ⟨_, (pss_one (ps_ret (pe_and (pe_callB (call_isK (K := K) rfl) (by rfl) b_isinstance (by decide +kernel) (pa_cons (pv 0) (pa_cons (pe_bltn (v := .ty "bool") (by rfl) b_bool (by decide +kernel) rfl) pa_nil))) (pe_one (pe_cmpR op_eq (pv 0) (pv 1) (nomark _)))))), ?_⟩
  walk_at "sx"
  refine isi_bool (.bl b) ⟨_, rfl, iteT ?_⟩
  have e : decide (b = c) = (b == c) := by cases b <;> cases c <;> rfl
  rw [e]
  exact q
theorem sc__law_whole : FnScope ["value"] ["value"] (defScope s__law_whole) := ⟨rfl, rfl, rfl, by decide +kernel, rfl, by decide +kernel, by decide +kernel⟩
theorem ok__law_whole {f : Addr} {fd : FuncData} (F : Fun K "_law_whole" "_law_whole" s__law_whole f fd) (b_isinstance : mg "isinstance" = none) (b_int : mg "int" = none) (b_bool : mg "bool" = none) : FnOk P w K mg base CX0 1 f fd ["value"] (spWhole K) := by
  have nd := sc__law_whole.nd
  refine F.ok sc__law_whole (fun vs H Q E h => ?_) (fun cdv A outer s H vs Q E hr h => ?_)
  · obtain ⟨v, d, rfl, _⟩ := h
    rfl
  obtain ⟨v, d, rfl, hv, q⟩ := h
  refine ⟨_, (pss_one (ps_ret (pe_and (pe_callB (call_isK (K := K) rfl) (by rfl) b_isinstance (by decide +kernel) (pa_cons (pv 0) (pa_cons (pe_bltn (v := .ty "int") (by rfl) b_int (by decide +kernel) rfl) pa_nil))) (pe_one (pe_not (pe_callB (call_isK (K := K) rfl) (by rfl) b_isinstance (by decide +kernel) (pa_cons (pv 0) (pa_cons (pe_bltn (v := .ty "bool") (by rfl) b_bool (by decide +kernel) rfl) pa_nil)))))))), ?_⟩
  walk_at "sx"
  refine isi_int hv ⟨_, rfl, ?_⟩
  refine ite2 (fun c => isi_bool hv ⟨_, rfl, ?_⟩) (fun c => ?_)
  · cases d <;> first | exact q | (exact absurd c Bool.false_ne_true)
  · cases d <;> first | exact q | (exact absurd rfl c)
theorem sc__law_names : FnScope ["party", "found", "part"] ["party"] (defScope s__law_names) := ⟨rfl, rfl, rfl, by decide +kernel, rfl, by decide +kernel, by decide +kernel⟩
theorem step__law_names {f : Addr} {fd : FuncData} {n : Nat} (F : Fun K "_law_names" "_law_names" s__law_names f fd) (c__law_names : Cl P w K mg base (n + 1) "_law_names" (spLNames K n))  : FnOk P w K mg base CX0 (n + 2) f fd ["party"] (spLNames K (n + 1)) := by
  have nd := sc__law_names.nd
  refine F.ok sc__law_names (fun vs H Q E h => ?_) (fun cdv A outer s H vs Q E hr h => ?_)
  · obtain ⟨v, p, rfl, _⟩ := h
    rfl
  obtain ⟨v, p, rfl, hv, ⟨ho, hn⟩, q⟩ := h
  dsimp only at q
  refine ⟨_, (pss_cons (ps_if (pt_cmpR op_in_seq (pe_ix (ix_tupK (K := K) rfl) (pv 0) pe_int (fun _ _ => rfl)) (pe_lst (pa_cons pe_str (pa_cons pe_str pa_nil))) (by rfl)) (pss_one (ps_ret (pe_ifExp (pt_cmpR op_eq (pe_ix (ix_tupK (K := K) rfl) (pv 0) pe_int (fun _ _ => rfl)) pe_str (nomark _)) (pe_lst (pa_cons (pe_ix (ix_tupK (K := K) rfl) (pv 0) pe_int (fun _ _ => rfl)) pa_nil)) (pe_lst pa_nil)))) pss_nil)
  (pss_cons (ps_set (i := 1) nd rfl (.inl rfl) (pe_lst pa_nil))
  (pss_cons (ps_for PassesOwn.never rfl (pi_tup (pe_ix (ix_tupK (K := K) rfl) (pv 0) pe_int (fun _ _ => rfl))) (pg_name (i := 2) nd rfl (.inl rfl))
    (pss_one (ps_set (i := 1) nd rfl (.inl rfl) (pe_op op_cat (pv 1) (pcl c__law_names hr (by omega) (pa_cons (pv 2) pa_nil))))))
  (pss_one (ps_ret (pv 1)))))), ?_⟩
  walk_at "sx"
  cases p with
  | emp =>
    obtain ⟨t, u, rfl, hs, hu⟩ := dp_emp hv
    cases hu
    refine ixt hs rfl ⟨by decide, fun p np => ⟨p, _, rfl, .inl (SqL.of upd_same), rfl, by decide +kernel, _, rfl, ?_⟩⟩
    have f1 := same_upd (o := .lst [V.str "empty", V.str "deed"]) np
    rw [if_neg Bool.false_ne_true, in_emp]
    refine iteT (ixt (tup_same f1 hs) rfl ⟨rfl, ite2 (fun c => absurd c (by decide +kernel)) (fun _ => ⟨by decide, fun l nl => q l [] _ (none_back f1 nl) (f1.trans (same_upd nl)) upd_same (by rw [Pt.names]; exact .nil)⟩)⟩)
  | deed x =>
    obtain ⟨t, u, rfl, hs, hu⟩ := dp_deed hv
    cases hu
    refine ixt hs rfl ⟨by decide, fun p np => ⟨p, _, rfl, .inl (SqL.of upd_same), rfl, by decide +kernel, _, rfl, ?_⟩⟩
    have f1 := same_upd (o := .lst [V.str "empty", V.str "deed"]) np
    rw [if_neg Bool.false_ne_true, in_deed]
    refine iteT (ixt (tup_same f1 hs) rfl ⟨rfl, ite2 (fun _ => ixt (tup_same f1 hs) rfl ⟨by decide, fun l nl => q l [.str x] _ (none_back f1 nl) (f1.trans (same_upd nl)) upd_same (by rw [Pt.names]; exact .cons (.str _) .nil)⟩) (fun c => absurd (by decide +kernel) c)⟩)
  | nd r ps =>
    obtain ⟨t, t2, us, rfl, hs, hs2, hu⟩ := dp_nd hv
    refine ixt hs rfl ⟨by decide, fun p np => ⟨p, _, rfl, .inl (SqL.of upd_same), rfl, by decide +kernel, _, rfl, ?_⟩⟩
    have f1 := same_upd (o := .lst [V.str "empty", V.str "deed"]) np
    generalize upd H p (.lst [V.str "empty", V.str "deed"]) = H1 at f1 ⊢
    rw [if_neg Bool.false_ne_true, in_nd]
    refine iteF ⟨by decide, fun F nF => ?_⟩
    have f2 := f1.trans (same_upd (o := .lst []) nF)
    have hul := kids_len hu
    have hcs : (ps.map Pt.cnt).sum ≤ 60 := by
      have := ho.2
      rwa [Pt.cnt_nd] at this
    refine ⟨_, rfl, t, _, 1, _, rfl, rfl, tup_same f2 hs, rfl, t2, rfl, ⟨us, tup_same f2 hs2⟩, for_tup (K := K) (a := t2) (xs := us) (fun i σ H' => ∃ (F : Addr) (vs : List V) (x : Option V), σ = [some (.ref t), some (.ref F), x] ∧ Same H H' ∧ H F = none ∧ H' F = some (.lst vs) ∧
      DpAll K H' vs (((ps.take i).map Pt.names).flatten.map .str)) ⟨F, [], none, rfl, f2, none_back f1 nF, upd_same, .nil⟩ (fun i σ H' _ ⟨_, _, _, _, sm, _⟩ => tup_same sm hs2) ?_ ?_⟩
    · rintro i x σ H2 hx ⟨F, vs, y, rfl, sm, nF, eF, dv⟩
      obtain ⟨p, hp, hm, hxp⟩ := kid_at hu hx
      walk_at "sx"
      have hd := Pt.dep_mem (r := r) hm
      refine ⟨x, p, rfl, L2.Dp.same sm hxp, ⟨ho.part hm, by omega⟩, fun b us2 H3 nb s3 eb du => ?_⟩
      have e1 : ((ps.take (i + 1)).map Pt.names).flatten = ((ps.take i).map Pt.names).flatten ++ Pt.names p := by
        rw [List.take_add_one, hp, List.map_append, List.flatten_append]
        simp
      have hb : (((ps.take i).map Pt.names).flatten ++ Pt.names p).length ≤ 60 := by
        rw [← e1]
        have := take_sum_le ps (i + 1)
        rw [List.length_flatten, List.map_map, show (List.length ∘ Pt.names (α := Str)) = Pt.cnt from funext fun p => Pt.names_len p]
        omega
      refine ⟨F, b, _, _, rfl, rfl, s3 _ _ eF, eb, ?_, fun F2 nF2 => ⟨F2, rfl, (sm.trans s3).trans (same_upd nF2), none_back (sm.trans s3) nF2, _, upd_same, ?_⟩⟩
      · rw [DpAll.length dv, DpAll.length du, List.length_map, List.length_map, ← List.length_append]
        exact size60 hb
      · rw [e1]
        exact DpAll.same (same_upd nF2) (all_app (DpAll.same s3 dv) du)
    · rintro σ H2 ⟨F, vs, y, rfl, sm, nF, eF, dv⟩
      walk_at "sx"
      refine q F vs _ nF sm eF ?_
      rw [List.take_of_length_le (by omega)] at dv
      rw [Pt.names_nd]
      exact dv
theorem ok__law_names {f : Addr} {fd : FuncData} (F : Fun K "_law_names" "_law_names" s__law_names f fd) (hm : mg "_law_names" = some (.ref f)) (hb : Binds K fd ["party"] [])  : ∀ n : Nat, FnOk P w K mg base CX0 (n + 1) f fd ["party"] (spLNames K n)
  | 0 => fn_false fun vs H Q E h => by
    obtain ⟨v, p, _, _, ⟨_, h⟩, _⟩ := h; omega
  | n + 1 => step__law_names F ⟨f, fd, _, ok__law_names F hm hb  n, hm, F.kp, hb⟩ 
theorem sc__law_key : FnScope ["party", "keys", "part", "key"] ["party"] (defScope s__law_key) := ⟨rfl, rfl, rfl, by decide +kernel, rfl, by decide +kernel, by decide +kernel⟩
theorem step__law_key {f : Addr} {fd : FuncData} {n : Nat} (F : Fun K "_law_key" "_law_key" s__law_key f fd) (c__law_key : Cl P w K mg base (n + 1) "_law_key" (spKey K n)) (b_tuple : mg "tuple" = none) (b_sum : mg "sum" = none) : FnOk P w K mg base CX0 (n + 2) f fd ["party"] (spKey K (n + 1)) := by
  have nd := sc__law_key.nd
  refine F.ok sc__law_key (fun vs H Q E h => ?_) (fun cdv A outer s H vs Q E hr h => ?_)
  · obtain ⟨v, p, rfl, _⟩ := h
    rfl
  obtain ⟨v, p, rfl, hv, hf, hn, q⟩ := h
  refine ⟨_, (pss_cons (ps_if (pt_cmpR op_in_seq (pe_ix (ix_tupK (K := K) rfl) (pv 0) pe_int (fun _ _ => rfl)) (pe_lst (pa_cons pe_str (pa_cons pe_str pa_nil))) (by rfl)) (pss_one (ps_ret (pe_ifExp (pt_cmpR op_eq (pe_ix (ix_tupK (K := K) rfl) (pv 0) pe_int (fun _ _ => rfl)) pe_str (nomark _)) (pe_tup (pa_cons pe_int (pa_cons pe_int (pa_cons (pe_tup pa_nil) (pa_cons pe_str pa_nil))))) (pe_tup (pa_cons pe_int (pa_cons pe_int (pa_cons (pe_tup pa_nil) (pa_cons (pe_ix (ix_tupK (K := K) rfl) (pv 0) pe_int (fun _ _ => rfl)) pa_nil)))))))) pss_nil)
  (pss_cons (ps_set (i := 1) nd rfl (.inl rfl) (pe_callTy (R.call_tupleK (K := K) rfl) (by rfl) b_tuple (by decide +kernel) (pa_cons (pe_lc (own := [("part", 2)]) rfl nd (pi_tup (pe_ix (ix_tupK (K := K) rfl) (pv 0) pe_int (fun _ _ => rfl))) (blkOk_by (N := ["party", "keys", "part", "key"]) (sc := defScope s__law_key) (by decide +kernel)) (fun _ _ _ _ _ => (pg_name (i := 2) nd rfl (.inl rfl))) (fun _ _ _ _ _ => pts_nil) (fun _ _ _ _ _ => (pcl c__law_key hr (by omega) (pa_cons (pv 2) pa_nil)))) pa_nil)))
  (pss_one (ps_ret (pe_tup (pa_cons (pe_callB (cr_sumK (K := K) rfl rfl) (by rfl) b_sum (by decide +kernel) (pa_cons (pe_lc (own := [("key", 3)]) rfl nd (pi_tup (pv 1)) (blkOk_by (N := ["party", "keys", "part", "key"]) (sc := defScope s__law_key) (by decide +kernel)) (fun _ _ _ _ _ => (pg_name (i := 3) nd rfl (.inl rfl))) (fun _ _ _ _ _ => pts_nil) (fun _ _ _ _ _ => (pe_ix (ix_tupK (K := K) rfl) (pv 3) pe_int (fun _ _ => rfl)))) pa_nil)) (pa_cons (pe_ifExp (pt_cmpR op_eq (pe_ix (ix_tupK (K := K) rfl) (pv 0) pe_int (fun _ _ => rfl)) pe_str (nomark _)) pe_int pe_int) (pa_cons (pv 1) (pa_cons pe_str pa_nil))))))))), ?_⟩
  walk_at "sx"
  cases hf with
  | deed x hx =>
    obtain ⟨t, u, rfl, hs, hu⟩ := dp_deed hv
    cases hu
    refine ixt hs rfl ⟨by decide, fun p np => ⟨p, _, rfl, .inl (SqL.of upd_same), rfl, by decide +kernel, _, rfl, ?_⟩⟩
    have f1 := same_upd (o := .lst [V.str "empty", V.str "deed"]) np
    rw [if_neg Bool.false_ne_true, in_deed]
    refine iteT (ixt (tup_same f1 hs) rfl ⟨rfl, ite2 (fun c => absurd c (by decide +kernel)) (fun _ => ⟨by decide, fun p2 n2 => ixt (tup_same (f1.trans (same_upd n2)) hs) rfl ⟨by decide, fun p3 n3 => ?_⟩⟩)⟩)
    have f2 := same_upd (o := .tup []) n2
    have f3 := same_upd (o := .tup [.int 1, .int 0, .ref p2, .str x]) n3
    refine q _ _ ((f1.trans f2).trans f3) ?_
    rw [Pt.key]
    exact .tup (SqT.of upd_same) (.cons (.int _) (.cons (.int _) (.cons (.tup (SqT.of (f3 _ _ upd_same)) .nil) (.cons (.str _) .nil))))
  | nd r ps h2 h6 h =>
    obtain ⟨t, t2, us, rfl, hs, hs2, hu⟩ := dp_nd hv
    refine ixt hs rfl ⟨by decide, fun p np => ⟨p, _, rfl, .inl (SqL.of upd_same), rfl, by decide +kernel, _, rfl, ?_⟩⟩
    have f1 := same_upd (o := .lst [V.str "empty", V.str "deed"]) np
    generalize upd H p (.lst [V.str "empty", V.str "deed"]) = H1 at f1 ⊢
    rw [if_neg Bool.false_ne_true, in_nd]
    refine iteF (lc_kids rfl (tup_same f1 hs) (tup_same f1 hs2) (DpAll.same f1 hu) h6 Pt.key Pt.key_to ?_ ?_)
    · intro p hp x H' R sm hx hR
      walk_at "sx"
      have := Pt.dep_mem (r := r) hp
      exact ⟨x, p, rfl, hx, h p hp, by omega, fun v' H'' s2 dk => hR v' H'' s2 dk⟩
    · intro D H2 vs nD s2 eD dv
      refine ⟨D, rfl, vs, .inl ⟨SqL.of eD, fun l nl => ?_⟩⟩
      have f3 : Same H2 (upd H2 l (.tup vs)) := same_upd nl
      have dv2 : DpAll K (upd H2 l (.tup vs)) vs (ps.map Pt.key) := DpAll.same f3 dv
      have hvl : vs.length = ps.length := by rw [DpAll.length dv, List.length_map]
      have eL : upd H2 l (.tup vs) l = some (.tup vs) := upd_same
      have sa := (f1.trans s2).trans f3
      generalize upd H2 l (.tup vs) = H3 at f3 dv2 eL sa ⊢
      refine lc_vt rfl (SqT.of eL) (by omega) (ps.map fun p => .int (Pt.cnt p : Int)) (by rw [List.length_map, hvl]) (fun d hd => by
        obtain ⟨p, _, rfl⟩ := List.mem_map.mp hd
        exact .int _) ?_ ?_
      · intro i x d hx hd H' R sm hR
        obtain ⟨e, he, hxe⟩ := DpAll.at dv2 hx
        rw [List.getElem?_map] at hd he
        cases hp : ps[i]? with
        | none =>
          rw [hp] at hd
          cases hd
        | some p =>
          rw [hp] at hd he
          obtain rfl := Option.some.inj hd
          obtain rfl := Option.some.inj he
          obtain ⟨a, b, c, e⟩ := Pt.key_fst p
          rw [e] at hxe
          obtain ⟨t3, us3, rfl, hs3, hd3⟩ := dp_tup hxe
          cases hd3 with
          | cons h1 _ =>
            cases h1
            walk_at "sx"
            exact ixt (tup_same sm hs3) (atI_nat (j := 0) rfl) (hR _ _ (.refl _) (.int _))
      · intro D2 H4 ws nD2 s4 eD2 dw
        have ew := dp_ints dw
        subst ew
        have e4 : (ps.map fun p => (Pt.cnt p : Int)).sum = (Pt.cnt (.nd r ps) : Int) := by
          rw [Pt.cnt_nd]
          exact sum_cast Pt.cnt ps
        have fin : ∀ p3, H4 p3 = none → Q (.ref p3) (upd H4 p3 (.tup [.int (ps.map fun p => (Pt.cnt p : Int)).sum, .int (Pt.rank r), .ref l, .str ""])) := fun p3 n3 => by
          have f5 := same_upd (o := .tup [.int (ps.map fun p => (Pt.cnt p : Int)).sum, .int (Pt.rank r), .ref l, .str ""]) n3
          refine q _ _ ((sa.trans s4).trans f5) ?_
          rw [Pt.key_nd, ← e4]
          exact .tup (SqT.of upd_same) (.cons (.int _) (.cons (.int _) (.cons (.tup (SqT.of ((s4.trans f5) _ _ eL)) (DpAll.same (s4.trans f5) dv2)) (.cons (.str _) .nil))))
        refine ⟨D2, ps.map fun p => (Pt.cnt p : Int), rfl, SqL.of eD2, ixt (tup_same (sa.trans s4) hs) rfl ⟨rfl, ?_⟩⟩
        rw [row_word]
        cases r with
        | true => exact iteT ⟨by decide, fun p3 n3 => fin p3 n3⟩
        | false => exact iteF ⟨by decide, fun p3 n3 => fin p3 n3⟩
theorem ok__law_key {f : Addr} {fd : FuncData} (F : Fun K "_law_key" "_law_key" s__law_key f fd) (hm : mg "_law_key" = some (.ref f)) (hb : Binds K fd ["party"] []) (b_tuple : mg "tuple" = none) (b_sum : mg "sum" = none) : ∀ n : Nat, FnOk P w K mg base CX0 (n + 1) f fd ["party"] (spKey K n)
  | 0 => fn_false fun vs H Q E h => by
    obtain ⟨v, p, _, _, _, h, _⟩ := h; omega
  | n + 1 => step__law_key F ⟨f, fd, _, ok__law_key F hm hb b_tuple b_sum n, hm, F.kp, hb⟩ b_tuple b_sum
end

end Z

set_option Elab.async false
set_option linter.all false
set_option maxRecDepth 100000
set_option maxHeartbeats 4000000

namespace Z
open PySem PySem.Spec PyProof.Rows L2
local macro_rules | `(tactic| walk_at "sx") => `(tactic| try simp only [and_assoc, cxOf_K, cxOf_Kn, C8.tCut, rEq, rNe, sc_ii, sc_ss, sc_bb, sc_is, sc_si, sc_bs, sc_sb, tSeq, tAsg, tPar, tPar3, tC, gName, gNil, gCons, gTup, gSub, rSetL, L2.start, tVar, tOp, tUn, rI0, rI, rU, tTest, tChain, tOrV, tAndV, tNotV, tCB, tCons, tNil, tLst, tTup, tIfS, tNext, tRet, tRetN, tDrop, tAnd, tOr, tNot, tB, tIf, tSl, tFld, sFld, putF, tNoPart, tPart, rSlL, tBM, tBM0, rAppend, rPop, rExtend, tCall, tMeth, tLstRg, tRg1, tRg2, List.map_cons, List.map_nil, List.replicate, List.length_cons, List.length_nil, List.append, List.cons_append, List.nil_append, List.append_nil, List.getElem?_cons_zero, List.getElem?_cons_succ, List.set_cons_zero, List.set_cons_succ, Option.some.injEq, exists_eq_left', exists_eq_left, exists_eq, exists_and_left, exists_const, wipe, tYes, upd_same, ↓reduceIte, decide_false, decide_true, Bool.not_true, Bool.not_false, Bool.false_eq_true, V.int.injEq, HO.lst.injEq, HO.tup.injEq, V.ref.injEq, V.str.injEq, one_inj, le_a, le_z, le_0, le_9, mem_let, mem_dig, V.bl.injEq, List.cons.injEq, and_true, true_and, reduceCtorEq, false_and, exists_false, or_false, false_or])
open PySem.W
namespace R
/-- sorted(xs, key=f), f an own def that gives data -/
def rSortF (K : PySem.W.Frag) (f : Addr) (sp : Sp) : List V → List V → Hp → VK → Prop := fun vs zs H Q => ∃ (l : Addr) (bs : List (V × PyData)) (kf : V × PyData → PyData), vs = [.ref l] ∧ zs = [.ref f] ∧ SqL K H l (bs.map (·.1)) ∧ bs.length ≤ 1000 ∧
  (∀ b ∈ bs, ∀ (H' : Hp) (R : VK), Same H H' → (∀ v H'', Dp K H'' v (kf b) → Same H' H'' → R v H'') → sp [b.1] H' R E0) ∧ AllAlike (bs.map kf) ∧ Sortable (bs.map kf) ∧ (∀ b ∈ bs, (kf b).depth ≤ 60) ∧
  ∀ (H' : Hp) (p : Addr), Same H H' → H' p = none → Q (.ref p) (upd H' p (.lst ((bs.mergeSort (dataLe false kf)).map (·.1))))
theorem cr_sortF {X : Cx} {k : Nat} {f : Addr} {fd : FuncData} {ps : List Str} {sp : Sp} (F : FnOk X.prog X.w X.K X.mg X.base CX0 k f fd ps sp) (hr : Room (k + 2) X.A) (hb : Binds X.K fd ps []) : CallRK X (.builtin "sorted") [Str.ofString "key"] (rSortF X.K f sp) := by
  intro pins s σ H vs zs us ws Q I r rz h
  obtain ⟨l, bs, kf, rfl, rfl, hs, hz, hsp, hal, hk, hdp, q⟩ := h
  obtain ⟨its, rv, hl, _⟩ := I.list hs
  rw [Vals.ref1 r]
  obtain rfl := Vals.ref1 rz
  have e := each_of rv
  have len : its.length = bs.length := by
    have := rv.length
    rw [List.length_map] at this
    exact this.symm
  have big : bs.length ≤ sizeLine := Nat.le_trans hz (by decide)
  refine sorted_of_sort hl.isList (by omega) (PyProof.Rows.ksk_s1 _ _) (fun x => PyProof.Rows.ksk_l1 _ _) fun E' => ?_
  show wpAny _ _ (Builtin.«list.sort» ⟨[.ref (s.heap.objs.size + 1)], [(Str.ofString "key", .ref f)]⟩) _ _ _
  rw [PyProof.Rows.ksk_t1]
  have I1 : Inv X pins σ H { s with heap := copyHeap s.heap its } := I.kept (t' := s.toks) fun b o e => copyHeap_old e
  have fa : FpOk X pins H (s.heap.objs.size + 1) := I.fpOk (Nat.le_succ _) (I.hok.fresh (Nat.le_succ _))
  refine sort_key F hr hb hsp hal hk hdp I1 (copyHeap_at s.heap its) fa e big fun H' s' sm na J => ⟨rfl, .ref _, _, J, rfl, q H' _ sm na⟩
/-- the built-in's call by its keyword -/
theorem pe_sortF {X : Cx} {k j : Nat} {x : Str} {sp : Sp} {e : Expr} {te : TE} {f : Addr} {fd : FuncData} {ps : List Str} {p p2 kp pos : Pos} (F : FnOk X.prog X.w X.K X.mg X.base CX0 k f fd ps sp) (hr : Room j X.A) (hj : k + 2 ≤ j) (hb : Binds X.K fd ps []) (hm : X.mg x = some (.ref f)) (hgx : Gl X x) (hdx : (x == ("__debug__" : Str)) = false)
    (b_sorted : X.mg "sorted" = none) (hgs : Gl X "sorted") (he : PE X e te) (h0 : starEach [e] X.env = (false, eval e X.env) :: starEach [] X.env := by rfl) (h1 : backTo pos (starEach [e] X.env) = (false, eval e X.env) :: backTo pos (starEach [] X.env) := by rfl) (h2 : (backTo pos (starEach [e] X.env)).any (·.1) = false := by rfl)
    (h3 : (backToKw pos (keywordEach [⟨some "key", .Name x p2, kp⟩] X.env)).all (·.1.isSome) = true := by rfl) (h4 : (backToKw pos (keywordEach [⟨some "key", .Name x p2, kp⟩] X.env)).any (·.1.isNone) = false := by rfl)
    (h5 : (backToKw pos (keywordEach [⟨some "key", .Name x p2, kp⟩] X.env)).filterMap (·.1) = [Str.ofString "key"] := by rfl) :
    PE X (.Call (.Name "sorted" p) [e] [⟨some "key", .Name x p2, kp⟩] pos) (tCKw (rSortF X.K f sp) (tCons te tNil) (tCons (tC (.ref f)) tNil)) :=
  pe_callBK (cr_sortF F (hr.mono hj) hb) hgs b_sorted (by rfl) (pa_cons he pa_nil h0) (pk_cons (pe_glob hgx hm rfl hdx) pk_nil) (by decide +kernel) (by decide +kernel) h1 h2 h3 h4 h5
end R

end Z

set_option Elab.async false
set_option linter.all false
set_option maxRecDepth 100000
set_option maxHeartbeats 4000000

namespace Z
open PySem PySem.Spec PyProof.Rows L2 Z.R
local macro_rules | `(tactic| walk_at "sx") => `(tactic| try simp only [and_assoc, cxOf_K, cxOf_Kn, C8.tCut, rEq, rNe, sc_ii, sc_ss, sc_bb, sc_is, sc_si, sc_bs, sc_sb, tSeq, tAsg, tPar, tPar3, tC, gName, gNil, gCons, gTup, gSub, rSetL, L2.start, tVar, tOp, tUn, rI0, rI, rU, tTest, tChain, tOrV, tAndV, tNotV, tCB, tCons, tNil, tLst, tTup, tIfS, tNext, tRet, tRetN, tDrop, tAnd, tOr, tNot, tB, tIf, tSl, tFld, sFld, putF, tNoPart, tPart, rSlL, tBM, tBM0, rAppend, rPop, rExtend, tCall, tMeth, tLstRg, tRg1, tRg2, List.map_cons, List.map_nil, List.replicate, List.length_cons, List.length_nil, List.append, List.cons_append, List.nil_append, List.append_nil, List.getElem?_cons_zero, List.getElem?_cons_succ, List.set_cons_zero, List.set_cons_succ, Option.some.injEq, exists_eq_left', exists_eq_left, exists_eq, exists_and_left, exists_const, wipe, tYes, upd_same, ↓reduceIte, decide_false, decide_true, Bool.not_true, Bool.not_false, Bool.false_eq_true, V.int.injEq, HO.lst.injEq, HO.tup.injEq, V.ref.injEq, V.str.injEq, one_inj, le_a, le_z, le_0, le_9, mem_let, mem_dig, V.bl.injEq, List.cons.injEq, and_true, true_and, reduceCtorEq, false_and, exists_false, or_false, false_or])
def rEqNil (K : PySem.W.Frag) (neg : Bool) : R2 := fun x y H Q => ∃ (a b : Addr) (xs : List V), x = .ref a ∧ y = .ref b ∧ SqL K H a xs ∧ SqL K H b [] ∧ Q (.bl (if neg then !decide (xs = []) else decide (xs = []))) H
section
variable {X : Cx}
theorem op_eqNil (hu : X.A.units < cLine) : OpR X (compareOp .Eq) (rEqNil X.K false) := by
  intro pins s σ H x y v u Q I rx ry h
  obtain ⟨a, b, xs, rfl, rfl, ha, hb, q⟩ := h
  cases rx
  cases ry
  obtain ⟨us, r1, p1, _⟩ := I.list ha
  obtain ⟨ws, r2, p2, _⟩ := I.list hb
  cases r2
  have l1 := r1.length
  by_cases c : xs = []
  · subst c
    cases r1
    exact SeqAt.RcAt.lists (e := fun _ => true) p1.isList p2.isList rfl hu (fun j h1 => absurd h1 (Nat.not_lt_zero j)) _ _ _ _ ⟨.bl true, H, I, rfl, by simpa using q⟩
  · refine SeqAt.RcAt.lists_lengths p1.isList p2.isList ?_ hu _ _ _ _ ⟨.bl false, H, I, rfl, by simpa [c] using q⟩
    rw [List.size_toArray, ← l1]
    cases xs with
    | nil => exact absurd rfl c
    | cons z r => simp
theorem op_neNil (hu : X.A.units < cLine) : OpR X (compareOp .NotEq) (rEqNil X.K true) := by
  intro pins s σ H x y v u Q I rx ry h
  obtain ⟨a, b, xs, rfl, rfl, ha, hb, q⟩ := h
  cases rx
  cases ry
  obtain ⟨us, r1, p1, _⟩ := I.list ha
  obtain ⟨ws, r2, p2, _⟩ := I.list hb
  cases r2
  have l1 := r1.length
  by_cases c : xs = []
  · subst c
    cases r1
    exact SeqAt.RcNeAt.lists (e := fun _ => true) p1.isList p2.isList rfl hu (fun j h1 => absurd h1 (Nat.not_lt_zero j)) _ _ _ _ ⟨.bl false, H, I, rfl, by simpa using q⟩
  · refine SeqAt.RcNeAt.lists_lengths p1.isList p2.isList ?_ hu _ _ _ _ ⟨.bl true, H, I, rfl, by simpa [c] using q⟩
    rw [List.size_toArray, ← l1]
    cases xs with
    | nil => exact absurd rfl c
    | cons z r => simp
end

/-- sorted(found, key=_law_key) -/
theorem sortP {K : PySem.W.Frag} {H : Hp} {Q : VK} {l f : Addr} {vs : List V} {ps : List (Pt Str)} (eL : SqL K H l vs) (dv : DpAll K H vs (ps.map (Pt.enc .str))) (hfl : ∀ p ∈ ps, Pt.Fl p ∧ Pt.dep p ≤ 29) (hl : ps.length ≤ 60)
    (fin : ∀ (H' : Hp) (p : Addr) (us : List V), Same H H' → H' p = none → DpAll K (upd H' p (.lst us)) us ((Pt.srt ps).map (Pt.enc .str)) → Q (.ref p) (upd H' p (.lst us))) : R.rSortF K f (spKey K 31) [.ref l] [.ref f] H Q := by
  have hvl := kids_len dv
  have e1 : (vs.zip ps).map (·.1) = vs := List.map_fst_zip (by omega)
  have e2 : (vs.zip ps).map (·.2) = ps := List.map_snd_zip (by omega)
  have hz : ∀ x ∈ vs.zip ps, Dp K H x.1 (Pt.enc .str x.2) ∧ x.2 ∈ ps := fun x hx => by
    obtain ⟨i, hi⟩ := List.getElem?_of_mem hx
    obtain ⟨h1, h2⟩ := List.getElem?_zip_eq_some.mp hi
    obtain ⟨v, hv, dx⟩ := map_at dv h2
    rw [h1] at hv
    obtain rfl := Option.some.inj hv
    exact ⟨dx, List.mem_of_getElem? h2⟩
  let bs : List (V × PyData) := (vs.zip ps).map fun x => (x.1, Pt.key x.2)
  have b1 : bs.map (·.1) = vs := by
    show ((vs.zip ps).map _).map _ = _
    rw [List.map_map]
    exact e1
  have b2 : bs.map (·.2) = ps.map Pt.key := by
    show ((vs.zip ps).map _).map _ = _
    rw [List.map_map, ← e2, List.map_map, e2]
    rfl
  refine ⟨l, bs, (·.2), rfl, rfl, by rw [b1]; exact eL, ?_, fun b hb H' R sm hR => ?_, by rw [b2]; exact Pt.keys_alike ps, by rw [b2]; exact Pt.keys_sortable ps, fun b hb => ?_, fun H' p sm np => ?_⟩
  · have := congrArg List.length b1
    rw [List.length_map] at this
    omega
  · obtain ⟨x, hx, rfl⟩ := List.mem_map.mp hb
    obtain ⟨dx, hm⟩ := hz x hx
    exact ⟨x.1, x.2, rfl, L2.Dp.same sm dx, (hfl _ hm).1, by have := (hfl _ hm).2; omega, fun v' H'' s2 dk => hR v' H'' dk s2⟩
  · obtain ⟨x, hx, rfl⟩ := List.mem_map.mp hb
    have := (hfl _ (hz x hx).2).2
    have := Pt.key_dep x.2
    show (Pt.key x.2).depth ≤ 60
    omega
  · have hs : bs.mergeSort (PySem.W.dataLe false (·.2)) = ((vs.zip ps).mergeSort (PySem.W.dataLe false fun x => Pt.key x.2)).map fun x => (x.1, Pt.key x.2) := (map_srt (fun x : V × Pt Str => (x.1, Pt.key x.2)) (fun b : V × PyData => b.2) (vs.zip ps)).symm
    rw [hs, List.map_map]
    refine fin H' p _ sm np ?_
    have h3 : ((vs.zip ps).mergeSort (PySem.W.dataLe false fun x => Pt.key x.2)).map (·.2) = Pt.srt ps := by
      have := map_srt (fun x : V × Pt Str => x.2) Pt.key (vs.zip ps)
      rw [e2] at this
      exact this
    rw [← h3, List.map_map]
    have hz2 : ∀ x ∈ (vs.zip ps).mergeSort (PySem.W.dataLe false fun x => Pt.key x.2), Dp K H x.1 (Pt.enc .str x.2) := fun x hx => (hz x ((List.mergeSort_perm _ _).mem_iff.mp hx)).1
    generalize (vs.zip ps).mergeSort (PySem.W.dataLe false fun x => Pt.key x.2) = zs at hz2 ⊢
    refine DpAll.same (sm.trans (same_upd np)) ?_
    clear h3 hs
    induction zs with
    | nil => exact .nil
    | cons z zs ih => exact .cons (hz2 z List.mem_cons_self) (ih fun x hx => hz2 x (List.mem_cons_of_mem _ hx))

end Z

set_option Elab.async false
set_option linter.all false
set_option maxRecDepth 100000
set_option maxHeartbeats 4000000

namespace Z
open PySem PySem.Spec PyProof.Rows L2 Z.R
local macro_rules | `(tactic| walk_at "sx") => `(tactic| try simp only [and_assoc, cxOf_K, cxOf_Kn, C8.tCut, rEq, rNe, sc_ii, sc_ss, sc_bb, sc_is, sc_si, sc_bs, sc_sb, tSeq, tAsg, tPar, tPar3, tC, gName, gNil, gCons, gTup, gSub, rSetL, L2.start, tVar, tOp, tUn, rI0, rI, rU, tTest, tChain, tOrV, tAndV, tNotV, tCB, tCons, tNil, tLst, tTup, tIfS, tNext, tRet, tRetN, tDrop, tAnd, tOr, tNot, tB, tIf, tSl, tFld, sFld, putF, tNoPart, tPart, rSlL, tBM, tBM0, rAppend, rPop, rExtend, tCall, tMeth, tLstRg, tRg1, tRg2, List.map_cons, List.map_nil, List.replicate, List.length_cons, List.length_nil, List.append, List.cons_append, List.nil_append, List.append_nil, List.getElem?_cons_zero, List.getElem?_cons_succ, List.set_cons_zero, List.set_cons_succ, Option.some.injEq, exists_eq_left', exists_eq_left, exists_eq, exists_and_left, exists_const, wipe, tYes, upd_same, ↓reduceIte, decide_false, decide_true, Bool.not_true, Bool.not_false, Bool.false_eq_true, V.int.injEq, HO.lst.injEq, HO.tup.injEq, V.ref.injEq, V.str.injEq, one_inj, le_a, le_z, le_0, le_9, mem_let, mem_dig, V.bl.injEq, List.cons.injEq, and_true, true_and, reduceCtorEq, false_and, exists_false, or_false, false_or])
theorem wf_okc {q : Pt Str} (h : Pt.WfE q) (hc : Pt.cnt q ≤ 30) : Pt.Okc q := by
  refine ⟨⟨h.imp id fun w => w.fl (by omega), ?_⟩, by omega⟩
  have := h.dep_le
  omega
theorem join_len {r : Bool} {qs : List (Pt Str)} (h : ∀ q ∈ qs, Pt.WfE q) : (Pt.joinF r qs).length ≤ (qs.map Pt.cnt).sum := by
  obtain ⟨h1, h2⟩ := Pt.joinF_ok (r := r) h
  rw [← h2]
  exact Pt.len_cnt fun p hp => by
    have := Pt.cnt_pos (h1 p hp).1
    omega
theorem deed_word {r : Bool} : decide (V.str "deed" = V.str (if r then "row" else "beside")) = false := by cases r <;> decide +kernel
theorem two_words {t r : Bool} : decide (V.str (if t then "row" else "beside") = V.str (if r then "row" else "beside")) = (t == r) := by cases t <;> cases r <;> decide +kernel
def spJoin (K : PySem.W.Frag) : Sp := fun vs H Q _ => ∃ (r : Bool) (a : Addr) (us : List V) (qs : List (Pt Str)), vs = [.str (if r then "row" else "beside"), .ref a] ∧ H a = some (.lst us) ∧ DpAll K H us (qs.map (Pt.enc .str)) ∧ (∀ q ∈ qs, Pt.WfE q) ∧ (qs.map Pt.cnt).sum ≤ 30 ∧
  ∀ v H', Same H H' → Dp K H' v (Pt.enc .str (Pt.join r qs)) → Q v H'
section
variable {P : Program} {w : World} {K : PySem.W.Frag} {mg : Str → Option Value} {base : Heap}
theorem sc__law_join : FnScope ["word", "parts", "found", "part"] ["word", "parts"] (defScope s__law_join) := ⟨rfl, rfl, rfl, by decide +kernel, rfl, by decide +kernel, by decide +kernel⟩
theorem ok__law_join {f : Addr} {fd : FuncData} (F : Fun K "_law_join" "_law_join" s__law_join f fd) (c__law_key : Cl P w K mg base 40 "_law_key" (spKey K 31)) (b_list : mg "list" = none) (b_tuple : mg "tuple" = none) (b_len : mg "len" = none) (b_sorted : mg "sorted" = none) : FnOk P w K mg base CX0 43 f fd ["word", "parts"] (spJoin K) := by
  have nd := sc__law_join.nd
  refine F.ok sc__law_join (fun vs H Q E h => ?_) (fun cdv A outer s H vs Q E hr h => ?_)
  · obtain ⟨r, a, us, qs, rfl, _⟩ := h
    rfl
  obtain ⟨r, a, us, qs, rfl, eA, da, hw, hs, q⟩ := h
  obtain ⟨kf, kd, kps, kF, kM, kK, kB⟩ := c__law_key.ex
  refine ⟨_, (pss_cons (ps_set (i := 2) nd rfl (.inl rfl) (pe_lst pa_nil))
  (pss_cons (ps_for PassesOwn.never rfl (pi_listK (K := K) rfl (pv 1)) (pg_name (i := 3) nd rfl (.inl rfl))
    (pss_one (ps_if (pt_cmpR (op_neD hr.units) (pv 3) (pe_tup (pa_cons pe_str pa_nil)) (nomark _)) (pss_one (ps_set (i := 2) nd rfl (.inl rfl) (pe_op op_cat (pv 2) (pe_ifExp (pt_cmpR op_eq (pe_ix (ix_tupK (K := K) rfl) (pv 3) pe_int (fun _ _ => rfl)) (pv 0) (nomark _)) (pe_callTy call_list_of (by rfl) b_list (by decide +kernel) (pa_cons (pe_ix (ix_tupK (K := K) rfl) (pv 3) pe_int (fun _ _ => rfl)) pa_nil)) (pe_lst (pa_cons (pv 3) pa_nil)))))) pss_nil)))
  (pss_cons (ps_if (pt_cmpR op_lt (pe_callB (call_lenK (K := K) rfl) (by rfl) b_len (by decide +kernel) (pa_cons (pv 2) pa_nil)) pe_int (nomark _)) (pss_one (ps_ret (pe_ifExp (pt_cmpR (op_neNil hr.units0) (pv 2) (pe_lst pa_nil) (nomark _)) (pe_ix (ix_listK (K := K) rfl) (pv 2) pe_int (fun _ _ => rfl)) (pe_tup (pa_cons pe_str pa_nil))))) pss_nil)
  (pss_one (ps_ret (pe_tup (pa_cons (pv 0) (pa_cons (pe_callTy (R.call_tupleK (K := K) rfl) (by rfl) b_tuple (by decide +kernel) (pa_cons (pe_ifExp (pt_cmpR op_eq (pv 0) pe_str (nomark _)) (pv 2) (R.pe_sortF kF hr (by omega) kB kM (by rfl) (by decide) b_sorted (by rfl) (pv 2))) pa_nil)) pa_nil)))))))), ?_⟩
  walk_at "sx"
  refine ⟨by decide, fun F nF => ?_⟩
  have f0 := same_upd (o := .lst []) nF
  refine ⟨_, rfl, a, rfl, ⟨_, SqL.of (f0 _ _ eA)⟩, for_list (K := K) (a := a) (xs := us) (fun i σ H' => ∃ (F : Addr) (vs : List V) (x : Option V), σ = [some (.str (if r then "row" else "beside")), some (.ref a), some (.ref F), x] ∧ Same H H' ∧ H F = none ∧ H' F = some (.lst vs) ∧
    DpAll K H' vs ((Pt.joinF r (qs.take i)).map (Pt.enc .str))) ⟨F, [], none, rfl, f0, nF, upd_same, .nil⟩ (fun i σ H' _ ⟨_, _, _, _, sm, _⟩ => SqL.of (sm _ _ eA)) ?_ ?_⟩
  · rintro i x σ H1 hx ⟨F, vs, y, rfl, sm, nF, eF, dv⟩
    obtain ⟨p, hp, hm, hxp⟩ := kid_at da hx
    walk_at "sx"
    refine ⟨by decide, fun p1 n1 => ?_⟩
    have f1 := same_upd (o := .tup [V.str "empty"]) n1
    have eT := upd_same (H := H1) (a := p1) (o := .tup [V.str "empty"])
    generalize upd H1 p1 (.tup [V.str "empty"]) = H2 at f1 eT ⊢
    have hpo := wf_okc (hw p hm) (Nat.le_trans (Pt.le_sum (List.mem_map.mpr ⟨p, hm, rfl⟩)) hs)
    have hx2 := L2.Dp.same (sm.trans f1) hxp
    refine ⟨_, dE, hx2, .tup (SqT.of eT) (.cons (.str _) .nil), Pt.shp_enc hpo.1, by decide +kernel, _, rfl, ?_⟩
    rw [eqv_emp]
    have ej : Pt.joinF r (qs.take (i + 1)) = Pt.joinF r (qs.take i) ++ Pt.unw r p := by
      unfold Pt.joinF
      rw [List.take_add_one, hp, List.flatMap_append]
      simp
    have hjl : (Pt.joinF r (qs.take i) ++ Pt.unw r p).length ≤ 60 := by
      rw [← ej]
      have h1 := join_len (r := r) (qs := qs.take (i + 1)) fun q hq => hw q (List.mem_of_mem_take hq)
      have h2 := take_sum_le qs (i + 1)
      omega
    rw [ej]
    have fin : ∀ (H3 : Hp) (l : Addr) (ws : List V), Same H2 H3 → H3 l = some (.lst ws) → DpAll K H3 ws ((Pt.unw r p).map (Pt.enc .str)) → rCat (.ref F) (.ref l) H3 fun x H1 => ∃ F, x = V.ref F ∧ Same H H1 ∧ H F = none ∧ ∃ x, H1 F = some (.lst x) ∧ DpAll K H1 x ((Pt.joinF r (qs.take i) ++ Pt.unw r p).map (Pt.enc .str)) := fun H3 l ws s3 el dw => by
      refine ⟨F, l, vs, ws, rfl, rfl, (f1.trans s3) _ _ eF, el, ?_, fun F2 nF2 => ⟨F2, rfl, (sm.trans (f1.trans s3)).trans (same_upd nF2), none_back (sm.trans (f1.trans s3)) nF2, _, upd_same, DpAll.same (same_upd nF2) (all_app (DpAll.same (f1.trans s3) dv) dw)⟩⟩
      rw [DpAll.length dv, DpAll.length dw, List.length_map, List.length_map, ← List.length_append]
      exact size60 hjl
    cases p with
    | emp => exact iteF ⟨sm.trans f1, nF, vs, f1 _ _ eF, by rw [show Pt.unw r .emp = [] from rfl, List.append_nil]; exact DpAll.same f1 dv⟩
    | deed z =>
      obtain ⟨t, u, rfl, hs3, hu⟩ := dp_deed hx2
      refine iteT (ixt hs3 rfl ⟨rfl, ?_⟩)
      rw [deed_word]
      exact iteF ⟨by decide, fun l nl => fin _ l _ (same_upd nl) upd_same (.cons (L2.Dp.same (same_upd nl) hx2) .nil)⟩
    | nd t ps =>
      obtain ⟨t1, t2, us2, rfl, hs3, hs4, hu⟩ := dp_nd hx2
      refine iteT (ixt hs3 rfl ⟨rfl, ?_⟩)
      rw [two_words]
      by_cases c : t = r
      · subst c
        rw [beq_self_eq_true]
        refine iteT (ixt hs3 rfl ⟨t2, rfl, us2, .inr hs4, fun l nl => fin _ l us2 (same_upd nl) upd_same ?_⟩)
        rw [show Pt.unw t (.nd t ps) = ps from if_pos rfl]
        exact DpAll.same (same_upd nl) hu
      · rw [beq_eq_false_iff_ne.mpr c]
        refine iteF ⟨by decide, fun l nl => fin _ l _ (same_upd nl) upd_same ?_⟩
        rw [show Pt.unw r (.nd t ps) = [.nd t ps] from if_neg c]
        exact .cons (L2.Dp.same (same_upd nl) hx2) .nil
  · rintro σ H1 ⟨F, vs, y, rfl, sm, nF, eF, dv⟩
    rw [List.take_of_length_le (by rw [kids_len da]; exact Nat.le_refl _)] at dv
    walk_at "sx"
    have hvl := kids_len dv
    have hjl := join_len (r := r) hw
    have hjo := Pt.joinF_ok (r := r) hw
    refine ⟨_, len_l eF rfl, ?_⟩
    cases hL : Pt.joinF r qs with
    | nil =>
      have ej : Pt.join r qs = .emp := by
        unfold Pt.join
        rw [hL]
      rw [hL] at dv hvl
      obtain rfl : vs = [] := List.eq_nil_of_length_eq_zero hvl
      refine iteT ⟨by decide, fun p np => ⟨F, p, [], rfl, rfl, SqL.of ((same_upd np) _ _ eF), SqL.of upd_same, _, rfl, iteF ⟨by decide, fun p2 n2 => ?_⟩⟩⟩
      refine q _ _ (sm.trans ((same_upd np).trans (same_upd n2))) ?_
      rw [ej, Pt.enc]
      exact .tup (SqT.of upd_same) (.cons (.str _) .nil)
    | cons p1 rest =>
      cases rest with
      | nil =>
        have ej : Pt.join r qs = p1 := by
          unfold Pt.join
          rw [hL]
        rw [hL] at dv hvl
        match vs, hvl with
        | [v1], _ =>
          refine iteT ⟨by decide, fun p np => ⟨F, p, [v1], rfl, rfl, SqL.of ((same_upd np) _ _ eF), SqL.of upd_same, _, rfl, iteT ?_⟩⟩
          refine ixl ((same_upd np) _ _ eF) rfl (q _ _ (sm.trans (same_upd np)) ?_)
          rw [ej]
          cases dv with
          | cons h1 _ => exact L2.Dp.same (same_upd np) h1
      | cons p2 rest =>
        have hlen : 2 ≤ vs.length := by
          rw [hvl, hL]
          simp
        refine ite2 (fun c => by rw [decide_eq_true_eq] at c; omega) (fun _ => ?_)
        have ew : decide ((if r then Str.ofString "row" else Str.ofString "beside") = Str.ofString "row") = r := by cases r <;> decide +kernel
        rw [ew]
        have fin : ∀ (H2 : Hp) (l : Addr) (ws : List V), Same H1 H2 → H2 l = none → DpAll K H2 ws ((if r then p1 :: p2 :: rest else Pt.srt (p1 :: p2 :: rest)).map (Pt.enc .str)) → 0 + 1 + 1 ≤ sizeLine ∧ ∀ p, upd H2 l (.tup ws) p = none → Q (.ref p) (upd (upd H2 l (.tup ws)) p (.tup [.str (if r then "row" else "beside"), .ref l])) := fun H2 l ws s2 nl dw => by
          refine ⟨by decide, fun p np => ?_⟩
          have f2 := same_upd (o := .tup ws) nl
          have f3 := same_upd (o := .tup [V.str (if r then "row" else "beside"), .ref l]) np
          refine q _ _ (sm.trans (s2.trans (f2.trans f3))) ?_
          have ej : Pt.join r qs = .nd r (if r then p1 :: p2 :: rest else Pt.srt (p1 :: p2 :: rest)) := by
            unfold Pt.join
            rw [hL]
          rw [ej, Pt.enc_nd]
          exact .tup (SqT.of upd_same) (.cons (.str _) (.cons (.tup (tup_same f3 (SqT.of upd_same)) (DpAll.same (f2.trans f3) dw)) .nil))
        rw [hL] at dv hjo hjl
        cases r with
        | true => exact iteT ⟨vs, .inl ⟨SqL.of eF, fun l nl => fin H1 l vs (.refl _) nl dv⟩⟩
        | false =>
          refine iteF ⟨_, rfl, ?_⟩
          dsimp only [tCons, tNil, tC]
          refine sortP (SqL.of eF) dv (fun p hp => ?_) (by omega) fun H2 p us2 s2 np du => ⟨p, rfl, us2, .inl ⟨SqL.of upd_same, fun l nl => fin _ l us2 (s2.trans (same_upd np)) nl (by simpa using du)⟩⟩
          have hcp : Pt.cnt p ≤ 30 := by
            have := Pt.le_sum (List.mem_map.mpr ⟨p, hp, rfl⟩ : Pt.cnt p ∈ (p1 :: p2 :: rest).map Pt.cnt)
            omega
          have hd := Pt.cnt_pos (hjo.1 p hp).1
          exact ⟨(hjo.1 p hp).1.fl (by omega), by omega⟩
end

end Z

set_option Elab.async false
set_option linter.all false
set_option maxRecDepth 100000
set_option maxHeartbeats 4000000

namespace Z
open PySem PySem.Spec PyProof.Rows L2 Z.R
local macro_rules | `(tactic| walk_at "sx") => `(tactic| try simp only [and_assoc, cxOf_K, cxOf_Kn, C8.tCut, rEq, rNe, sc_ii, sc_ss, sc_bb, sc_is, sc_si, sc_bs, sc_sb, tSeq, tAsg, tPar, tPar3, tC, gName, gNil, gCons, gTup, gSub, rSetL, L2.start, tVar, tOp, tUn, rI0, rI, rU, tTest, tChain, tOrV, tAndV, tNotV, tCB, tCons, tNil, tLst, tTup, tIfS, tNext, tRet, tRetN, tDrop, tAnd, tOr, tNot, tB, tIf, tSl, tFld, sFld, putF, tNoPart, tPart, rSlL, tBM, tBM0, rAppend, rPop, rExtend, tCall, tMeth, tLstRg, tRg1, tRg2, List.map_cons, List.map_nil, List.replicate, List.length_cons, List.length_nil, List.append, List.cons_append, List.nil_append, List.append_nil, List.getElem?_cons_zero, List.getElem?_cons_succ, List.set_cons_zero, List.set_cons_succ, Option.some.injEq, exists_eq_left', exists_eq_left, exists_eq, exists_and_left, exists_const, wipe, tYes, upd_same, ↓reduceIte, decide_false, decide_true, Bool.not_true, Bool.not_false, Bool.false_eq_true, V.int.injEq, HO.lst.injEq, HO.tup.injEq, V.ref.injEq, V.str.injEq, one_inj, le_a, le_z, le_0, le_9, mem_let, mem_dig, V.bl.injEq, List.cons.injEq, and_true, true_and, reduceCtorEq, false_and, exists_false, or_false, false_or])
/-- `_law_grow`: a party of so many deeds -/
def spGrow (K : PySem.W.Frag) (k : Nat) : Sp := fun vs H Q _ => ∃ (a c : Addr) (m : Nat) (l : Addr) (ns : List Str) (size : Nat), vs = [.ref a, .ref l, .int size] ∧ size < k ∧ size ≤ 7 ∧ DrawAt H a c m ∧ m + (3 * size - 2) ≤ 1000000000 ∧ H l = some (.lst (ns.map V.str)) ∧ l ≠ a ∧ ns ≠ [] ∧ ns.length ≤ 8 ∧ (∀ x ∈ ns, isName x = true) ∧
  ∀ (p : Pt Str) (v : V) (H' : Hp), Pt.WfE p → Pt.cnt p = size → Dp K H' v (Pt.enc .str p) → DrawAt H' a c (m + (3 * size - 2)) → But a H H' → Q v H'
theorem atS_nat {ns : List Str} {i : Nat} (hi : i < ns.length) : atI (ns.map V.str) i = some (.str ns[i]) := by
  exact atI_nat (by rw [List.getElem?_map, List.getElem?_eq_getElem hi, Option.map_some])
section
variable {P : Program} {w : World} {K : PySem.W.Frag} {mg : Str → Option Value} {base : Heap}
theorem sc__law_grow : FnScope ["draw", "names", "size", "first", "word"] ["draw", "names", "size"] (defScope s__law_grow) := ⟨rfl, rfl, rfl, by decide +kernel, rfl, by decide +kernel, by decide +kernel⟩
theorem step__law_grow {f : Addr} {fd : FuncData} {n : Nat} (F : Fun K "_law_grow" "_law_grow" s__law_grow f fd) (c__law_grow : Cl P w K mg base (n + 43) "_law_grow" (spGrow K n)) (c__law_take : Cl P w K mg base 1 "_law_take" (spTake)) (c__law_join : Cl P w K mg base 43 "_law_join" (spJoin K)) (b_len : mg "len" = none) : FnOk P w K mg base CX0 (n + 44) f fd ["draw", "names", "size"] (spGrow K (n + 1)) := by
  have nd := sc__law_grow.nd
  refine F.ok sc__law_grow (fun vs H Q E h => ?_) (fun cdv A outer s H vs Q E hr h => ?_)
  · obtain ⟨a, c, m, l, ns, size, rfl, _⟩ := h
    rfl
  obtain ⟨a, c, m, l, ns, size, rfl, hk, h7, hD, hm, hN, hne, hns, hns8, hnm, q⟩ := h
  refine ⟨_, (pss_cons (ps_if (pt_cmpR op_lt (pv 2) pe_int (nomark _)) (pss_one (ps_ret (pe_ifExp (pt_cmpR op_eq (pv 2) pe_int (nomark _)) (pe_tup (pa_cons pe_str (pa_cons (pe_ix (ix_listK (K := K) rfl) (pv 1) (pcl c__law_take hr (by omega) (pa_cons (pv 0) (pa_cons (pe_callB (call_lenK (K := K) rfl) (by rfl) b_len (by decide +kernel) (pa_cons (pv 1) pa_nil)) pa_nil))) (fun _ _ => rfl)) pa_nil))) (pe_tup (pa_cons pe_str pa_nil))))) pss_nil)
  (pss_cons (ps_par (i := 3) (j := 4) rfl nd rfl rfl (by decide) rfl rfl (pa_cons (pe_op op_add pe_int (pcl c__law_take hr (by omega) (pa_cons (pv 0) (pa_cons (pe_op op_sub (pv 2) pe_int) pa_nil)))) (pa_cons (pe_ix (ix_listK (K := K) rfl) (pe_lst (pa_cons pe_str (pa_cons pe_str pa_nil))) (pcl c__law_take hr (by omega) (pa_cons (pv 0) (pa_cons pe_int pa_nil))) (fun _ _ => rfl)) pa_nil)) (by rfl))
  (pss_one (ps_ret (pcl c__law_join hr (by omega) (pa_cons (pv 4) (pa_cons (pe_lst (pa_cons (pcl c__law_grow hr (by omega) (pa_cons (pv 0) (pa_cons (pv 1) (pa_cons (pv 3) pa_nil)))) (pa_cons (pcl c__law_grow hr (by omega) (pa_cons (pv 0) (pa_cons (pv 1) (pa_cons (pe_op op_sub (pv 2) (pv 3)) pa_nil)))) pa_nil))) pa_nil))))))), ?_⟩
  walk_at "sx"
  refine ite2 (fun c0 => ?_) (fun c0 => ?_)
  · refine ite2 (fun c1 => ?_) (fun c1 => ?_)
    · obtain rfl : size = 1 := by
        have := of_decide_eq_true c1
        omega
      have hl0 : ns.length ≠ 0 := fun z => hns (List.eq_nil_of_length_eq_zero z)
      refine ⟨_, len_l hN rfl, a, c, _, m, rfl, hD, ?_, ?_, by omega, fun r H1 r0 r1 D1 B1 => ?_⟩
      · have : 0 < ns.length := by omega
        simp only [List.length_map]
        omega
      · simp only [List.length_map]
        omega
      · obtain ⟨i, rfl⟩ : ∃ i : Nat, r = i := ⟨r.toNat, by omega⟩
        have hi : i < ns.length := by
          simp only [List.length_map] at r1
          omega
        refine ixl (v := .str ns[i]) (B1 l _ hN hne) (atS_nat hi) ⟨by decide, fun p np => ?_⟩
        · obtain ⟨na, nc⟩ := D1.off np
          refine q (.deed ns[i]) _ _ (.inr (.deed _ (hnm _ (List.getElem_mem hi)))) (by rw [Pt.cnt]) ?_ ((D1.same (same_upd np)).mono (by omega)) (But.new B1 np)
          rw [Pt.enc]
          exact .tup (SqT.of upd_same) (.cons (.str _) (.cons (.str _) .nil))
    · obtain rfl : size = 0 := by
        rw [decide_eq_true_eq] at c0 c1
        omega
      refine ⟨by decide, fun p np => q .emp _ _ (.inl rfl) (by rw [Pt.cnt]) ?_ (hD.same (same_upd np)) (But.new (.refl _ _) np)⟩
      rw [Pt.enc]
      exact .tup (SqT.of upd_same) (.cons (.str _) .nil)
  · rw [decide_eq_true_eq] at c0
    refine ⟨a, c, _, m, rfl, hD, by omega, by omega, by omega, fun r H1 r0 r1 D1 B1 => ⟨r, rfl, by decide, fun p np => ?_⟩⟩
    obtain ⟨na, nc⟩ := D1.off np
    refine ⟨a, c, _, m + 1, rfl, D1.same (same_upd np), by omega, by omega, by omega, fun r2 H2 r20 r21 D2 B2 => ?_⟩
    have hp := B2 p _ upd_same na
    obtain ⟨i, rfl⟩ : ∃ i : Nat, r = i := ⟨r.toNat, by omega⟩
    have B12 : But a H H2 := (But.new B1 np).trans B2
    have fin : ∀ t : Bool, spGrow K n [.ref a, .ref l, .int (1 + (i : Int))] H2 (fun x_2 H1 => spGrow K n [.ref a, .ref l, .int (size - (1 + (i : Int)))] H1 (fun x H1 => 0 + 1 + 1 ≤ sizeLine ∧ ∀ (p : Addr), H1 p = none → spJoin K [.str (if t then "row" else "beside"), .ref p] (upd H1 p (HO.lst [x_2, x])) Q E0) E0) E0 := fun t => by
      refine ⟨a, c, m + 2, l, ns, i + 1, by rw [show ((i + 1 : Nat) : Int) = 1 + (i : Int) by omega], by omega, by omega, D2, by omega, B12 l _ hN hne, hne, hns, hns8, hnm, fun p1 v1 H3 w1 hc1 d1 D3 B3 => ?_⟩
      refine ⟨a, c, _, l, ns, size - (i + 1), by rw [show ((size - (i + 1) : Nat) : Int) = size - (1 + (i : Int)) by omega], by omega, by omega, D3, by omega, B3 l _ (B12 l _ hN hne) hne, hne, hns, hns8, hnm, fun p2 v2 H4 w2 hc2 d2 D4 B4 => ⟨by decide, fun p np => ?_⟩⟩
      have d1' := (Pt.enc_to (fun _ => .str _) p1).mono (D3.tp B4) _ d1
      have hw : ∀ q ∈ [p1, p2], Pt.WfE q := fun q hq => by
        rcases List.mem_cons.mp hq with rfl | hq
        · exact w1
        · rw [List.mem_singleton.mp hq]
          exact w2
      have ha : ([p1, p2].map Pt.cnt).sum = size := by
        simp only [List.map_cons, List.map_nil, List.sum_cons, List.sum_nil, hc1, hc2]
        omega
      refine ⟨t, p, [v1, v2], [p1, p2], rfl, upd_same, .cons (L2.Dp.same (same_upd np) d1') (.cons (L2.Dp.same (same_upd np) d2) .nil), hw, by omega, fun v5 H5 s5 d5 => ?_⟩
      obtain ⟨j1, j2⟩ := Pt.join_ok (r := t) hw
      exact q _ _ _ j1 (by omega) d5 ((D4.same ((same_upd np).trans s5)).mono (by omega)) (But.trans (But.new (B12.trans (B3.trans B4)) np) (.of s5))
    have : r2 = 0 ∨ r2 = 1 := by omega
    rcases this with rfl | rfl
    · exact ixl hp rfl (fin true)
    · exact ixl hp rfl (fin false)
theorem ok__law_grow {f : Addr} {fd : FuncData} (F : Fun K "_law_grow" "_law_grow" s__law_grow f fd) (hm : mg "_law_grow" = some (.ref f)) (hb : Binds K fd ["draw", "names", "size"] []) (c__law_take : Cl P w K mg base 1 "_law_take" (spTake)) (c__law_join : Cl P w K mg base 43 "_law_join" (spJoin K)) (b_len : mg "len" = none) : ∀ n : Nat, FnOk P w K mg base CX0 (n + 43) f fd ["draw", "names", "size"] (spGrow K n)
  | 0 => fn_false fun vs H Q E h => by
    obtain ⟨_, _, _, _, _, _, _, h, _⟩ := h; omega
  | n + 1 => step__law_grow F ⟨f, fd, _, ok__law_grow F hm hb c__law_take c__law_join b_len n, hm, F.kp, hb⟩ c__law_take c__law_join b_len
end

end Z

set_option Elab.async false
set_option linter.all false
set_option maxRecDepth 100000
set_option maxHeartbeats 4000000

namespace Z
open PySem PySem.Spec PyProof.Rows L2 Z.R
local macro_rules | `(tactic| walk_at "sx") => `(tactic| try simp only [and_assoc, cxOf_K, cxOf_Kn, C8.tCut, rEq, rNe, sc_ii, sc_ss, sc_bb, sc_is, sc_si, sc_bs, sc_sb, tSeq, tAsg, tPar, tPar3, tC, gName, gNil, gCons, gTup, gSub, rSetL, L2.start, tVar, tOp, tUn, rI0, rI, rU, tTest, tChain, tOrV, tAndV, tNotV, tCB, tCons, tNil, tLst, tTup, tIfS, tNext, tRet, tRetN, tDrop, tAnd, tOr, tNot, tB, tIf, tSl, tFld, sFld, putF, tNoPart, tPart, rSlL, tBM, tBM0, rAppend, rPop, rExtend, tCall, tMeth, tLstRg, tRg1, tRg2, List.map_cons, List.map_nil, List.replicate, List.length_cons, List.length_nil, List.append, List.cons_append, List.nil_append, List.append_nil, List.getElem?_cons_zero, List.getElem?_cons_succ, List.set_cons_zero, List.set_cons_succ, Option.some.injEq, exists_eq_left', exists_eq_left, exists_eq, exists_and_left, exists_const, wipe, tYes, upd_same, ↓reduceIte, decide_false, decide_true, Bool.not_true, Bool.not_false, Bool.false_eq_true, V.int.injEq, HO.lst.injEq, HO.tup.injEq, V.ref.injEq, V.str.injEq, one_inj, le_a, le_z, le_0, le_9, mem_let, mem_dig, V.bl.injEq, List.cons.injEq, and_true, true_and, reduceCtorEq, false_and, exists_false, or_false, false_or])
theorem R.call_max2K {X : Cx} (hc : X.calm = true) : CallR X (.builtin "max") (fun xs H Q => ∃ i j, xs = [.int i, .int j] ∧ Q (.int (if j > i then j else i)) H) := call_max2 hc
/-- `_law_party`: a drawn party of at most seven deeds -/
def spParty (K : PySem.W.Frag) : Sp := fun vs H Q _ => ∃ (a c : Addr) (m : Nat), vs = [.ref a, .int 7] ∧ DrawAt H a c m ∧ m + 22 ≤ 1000000000 ∧
  ∀ (p : Pt Str) (v : V) (H' : Hp), Pt.WfE p → Pt.cnt p ≤ 7 → Dp K H' v (Pt.enc .str p) → DrawAt H' a c (m + 22) → But a H H' → Q v H'
def eightL : List Str := ["a", "b", "c", "d", "e", "f", "g", "h"]
theorem eight_ok : ∀ x ∈ eightL, isName x = true := by decide +kernel
/-- `_law_crossed`: the pairs of two lists -/
def spCross (K : PySem.W.Frag) : Sp := fun vs H Q _ => ∃ (a b : Addr) (l m : List Nat), vs = [.ref a, .ref b] ∧ H a = some (.lst (l.map vN)) ∧ H b = some (.lst (m.map vN)) ∧ l.length ≤ 60 ∧ m.length ≤ 60 ∧
  ∀ (F : Addr) (us : List V) (H' : Hp), H F = none → Same H H' → H' F = some (.lst us) → Prs H' us (l.flatMap fun i => m.map fun j => (i, j)) → Q (.ref F) H'
theorem vN_at {l : List Nat} {i : Nat} {x : V} (h : (l.map vN)[i]? = some x) : ∃ n, l[i]? = some n ∧ x = vN n := by
  rw [List.getElem?_map] at h
  cases e : l[i]? with
  | none => rw [e] at h; cases h
  | some n => rw [e] at h; exact ⟨n, rfl, (Option.some.inj h).symm⟩
theorem flat_len {l m : List Nat} : (l.flatMap fun i => m.map fun j => (i, j)).length = l.length * m.length := by
  induction l with
  | nil => simp
  | cons i l ih => rw [List.flatMap_cons, List.length_append, ih, List.length_map, List.length_cons, Nat.add_mul, Nat.one_mul, Nat.add_comm]
section
variable {P : Program} {w : World} {K : PySem.W.Frag} {mg : Str → Option Value} {base : Heap}
theorem sc__law_party : FnScope ["draw", "most", "names", "size"] ["draw", "most"] (defScope s__law_party) := ⟨rfl, rfl, rfl, by decide +kernel, rfl, by decide +kernel, by decide +kernel⟩
theorem ok__law_party {f : Addr} {fd : FuncData} (F : Fun K "_law_party" "_law_party" s__law_party f fd) (c__law_take : Cl P w K mg base 1 "_law_take" (spTake)) (c__law_grow : Cl P w K mg base 75 "_law_grow" (spGrow K 31)) (b_len : mg "len" = none) (b_max : mg "max" = none) : FnOk P w K mg base CX0 76 f fd ["draw", "most"] (spParty K) := by
  have nd := sc__law_party.nd
  refine F.ok sc__law_party (fun vs H Q E h => ?_) (fun cdv A outer s H vs Q E hr h => ?_)
  · obtain ⟨a, c, m, rfl, _⟩ := h
    rfl
  obtain ⟨a, c, m, rfl, hD, hm, q⟩ := h
  refine ⟨_, (pss_cons (ps_set (i := 2) nd rfl (.inl rfl) (pe_slice sl_list (pe_lst (pa_cons pe_str (pa_cons pe_str (pa_cons pe_str (pa_cons pe_str (pa_cons pe_str (pa_cons pe_str (pa_cons pe_str (pa_cons pe_str pa_nil))))))))) po_none (po_some (pe_ix (ix_listK (K := K) rfl) (pe_lst (pa_cons pe_int (pa_cons pe_int (pa_cons pe_int (pa_cons pe_int pa_nil))))) (pcl c__law_take hr (by omega) (pa_cons (pv 0) (pa_cons pe_int pa_nil))) (fun _ _ => rfl)))))
  (pss_cons (ps_set (i := 3) nd rfl (.inl rfl) (pe_callB (R.call_max2K rfl) (by rfl) b_max (by decide +kernel) (pa_cons (pcl c__law_take hr (by omega) (pa_cons (pv 0) (pa_cons (pe_op op_add (pv 1) pe_int) pa_nil))) (pa_cons (pcl c__law_take hr (by omega) (pa_cons (pv 0) (pa_cons (pe_op op_add (pv 1) pe_int) pa_nil))) pa_nil))))
  (pss_one (ps_ret (pcl c__law_grow hr (by omega) (pa_cons (pv 0) (pa_cons (pv 2) (pa_cons (pv 3) pa_nil)))))))), ?_⟩
  walk_at "sx"
  refine ⟨by decide, fun p np => ⟨by decide, fun p2 n2 => ?_⟩⟩
  obtain ⟨na, nc⟩ := hD.off np
  have eN := upd_same (H := H) (a := p) (o := .lst (eightL.map V.str))
  change spTake _ (upd (upd H p (.lst (eightL.map V.str))) p2 (.lst [.int 1, .int 2, .int 3, .int 8])) _ _
  change upd H p (.lst (eightL.map V.str)) p2 = none at n2
  have f1 := same_upd (o := .lst (eightL.map V.str)) np
  have f2 := same_upd (o := .lst [V.int 1, .int 2, .int 3, .int 8]) n2
  have e2 := upd_same (H := upd H p (.lst (eightL.map V.str))) (a := p2) (o := .lst [.int 1, .int 2, .int 3, .int 8])
  have eN2 := f2 _ _ eN
  have D0 := hD.same (f1.trans f2)
  have n2a : p2 ≠ a := ((hD.same f1).off n2).1
  generalize upd (upd H p (.lst (eightL.map V.str))) p2 (.lst [.int 1, .int 2, .int 3, .int 8]) = H1 at f2 e2 eN2 D0
  refine ⟨a, c, 4, m, rfl, D0, by decide, by decide, by omega, fun r H2 r0 r1 D1 B1 => ?_⟩
  have fin : ∀ k : Nat, 1 ≤ k → k ≤ 8 → ∃ i, V.int k = V.int i ∧ ∃ x, SqL K H2 p x ∧ ∀ (p : Addr), H2 p = none → spTake [V.ref a, V.int (7 + 1)] (upd H2 p (HO.lst (cutV x none (some i)))) (fun x H1 => spTake [V.ref a, V.int (7 + 1)] H1 (fun x_1 H1 => ∃ i, x = V.int i ∧ ∃ x, x_1 = V.int x ∧ spGrow K 31 [V.ref a, V.ref p, V.int (if x > i then x else i)] H1 Q E0) E0) E0 := fun k k1 k8 => by
    refine ⟨_, rfl, _, SqL.of (B1 p _ eN2 na), fun p3 n3 => ?_⟩
    rw [cut_to, ← List.map_take]
    obtain ⟨n3a, _⟩ := D1.off n3
    refine ⟨a, c, _, m + 1, rfl, D1.same (same_upd n3), by decide, by decide, by omega, fun s H3 s0 s1 D2 B2 => ?_⟩
    refine ⟨a, c, _, m + 2, rfl, D2, by decide, by decide, by omega, fun t H4 t0 t1 D3 B3 => ⟨_, rfl, _, rfl, ?_⟩⟩
    have hz : ∃ z : Nat, (if t > s then t else s) = (z : Int) ∧ z ≤ 7 := by
      refine ⟨(if t > s then t else s).toNat, ?_, ?_⟩ <;> split <;> omega
    obtain ⟨z, ez, hz⟩ := hz
    rw [ez]
    have hlen : (eightL.take k).length = k := by
      rw [List.length_take]
      show min k 8 = k
      omega
    refine ⟨a, c, m + 3, p3, eightL.take k, z, rfl, by omega, hz, D3, by omega, B3 _ _ (B2 _ _ upd_same n3a) n3a, n3a, ?_, by omega, fun x hx => eight_ok x (List.mem_of_mem_take hx), fun p v H' w hc hv D4 B4 => ?_⟩
    · intro e
      rw [e] at hlen
      simp at hlen
      omega
    · exact q p v H' w (by omega) hv (D4.mono (by omega)) (((But.of (f1.trans f2)).trans B1).trans (((But.of (same_upd n3)).trans B2).trans (B3.trans B4)))
  have h2 := B1 p2 _ e2 n2a
  have : r = 0 ∨ r = 1 ∨ r = 2 ∨ r = 3 := by omega
  rcases this with rfl | rfl | rfl | rfl
  · exact ixl h2 rfl (fin 1 (by decide) (by decide))
  · exact ixl h2 rfl (fin 2 (by decide) (by decide))
  · exact ixl h2 rfl (fin 3 (by decide) (by decide))
  · exact ixl h2 rfl (fin 8 (by decide) (by decide))
theorem sc__law_crossed : FnScope ["one", "two", "found", "item", "other"] ["one", "two"] (defScope s__law_crossed) := ⟨rfl, rfl, rfl, by decide +kernel, rfl, by decide +kernel, by decide +kernel⟩
theorem ok__law_crossed {f : Addr} {fd : FuncData} (F : Fun K "_law_crossed" "_law_crossed" s__law_crossed f fd)  : FnOk P w K mg base CX0 1 f fd ["one", "two"] (spCross K) := by
  have nd := sc__law_crossed.nd
  refine F.ok sc__law_crossed (fun vs H Q E h => ?_) (fun cdv A outer s H vs Q E hr h => ?_)
  · obtain ⟨a, b, l, m, rfl, _⟩ := h
    rfl
  obtain ⟨a, b, l, m, rfl, hA, hB, hl, hm, q⟩ := h
  refine ⟨_, (pss_cons (ps_set (i := 2) nd rfl (.inl rfl) (pe_lst pa_nil))
  (pss_cons (ps_for PassesOwn.never rfl (pi_listK (K := K) rfl (pv 0)) (pg_name (i := 3) nd rfl (.inr rfl))
    (pss_one (ps_set (i := 2) nd rfl (.inl rfl) (pe_op op_cat (pv 2) (pe_lc (own := [("other", 4)]) rfl nd (pi_listK (K := K) rfl (pv 1)) (blkOk_by (N := ["one", "two", "found", "item", "other"]) (sc := defScope s__law_crossed) (by decide +kernel)) (fun _ _ _ _ _ => (pg_name (i := 4) nd rfl (.inl rfl))) (fun _ _ _ _ _ => pts_nil) (fun _ _ _ _ _ => (pe_tup (pa_cons (pv 3) (pa_cons (pv 4) pa_nil)))))))))
  (pss_one (ps_ret (pv 2))))), ?_⟩
  walk_at "sx"
  refine ⟨by decide, fun F0 nF => ?_⟩
  refine ⟨_, rfl, a, rfl, ⟨_, SqL.of ((same_upd nF) _ _ hA)⟩, for_list (K := K) (a := a) (xs := l.map vN) (fun i σ H' => ∃ (F : Addr) (us : List V) (x : Option V), σ = [some (.ref a), some (.ref b), some (.ref F), x, none] ∧ Same H H' ∧ H F = none ∧ H' F = some (.lst us) ∧ Prs H' us ((l.take i).flatMap fun i => m.map fun j => (i, j)))
    ⟨F0, [], none, rfl, same_upd nF, nF, upd_same, .nil⟩ (fun i σ H' _ ⟨_, _, _, _, sm, _⟩ => SqL.of (sm _ _ hA)) ?_ ?_⟩
  · rintro i x σ H1 hx ⟨F, us, y, rfl, sm, nF, eF, du⟩
    obtain ⟨n, hn, rfl⟩ := vN_at hx
    walk_at "sx"
    refine ⟨_, rfl, b, rfl, ⟨_, SqL.of (sm _ _ hB)⟩, fun D nD => lc_list (K := K) (a := b) (xs := m.map vN) (fun j H2 => Same H1 H2 ∧ ∃ ws, H2 D = some (.lst ws) ∧ Prs H2 ws ((m.take j).map fun z => (n, z))) ⟨same_upd nD, [], upd_same, .nil⟩ (fun j H2 _ h => SqL.of (h.1 _ _ (sm _ _ hB))) ?_ ?_⟩
    · rintro j x2 H2 hj ⟨s2, ws, eD, dw⟩
      obtain ⟨z, hz, rfl⟩ := vN_at hj
      walk_at "sx"
      refine ⟨by decide, fun p np => ⟨ws, (same_upd np) _ _ eD, ?_, same_D (s2.trans (same_upd np)) nD, ?_⟩⟩
      · have := dw.len
        rw [List.length_map, List.length_take] at this
        exact small1000 (by omega)
      · rw [List.take_add_one, hz, List.map_append]
        exact Prs.snoc (same_upd np) eD dw upd_same
    · rintro H2 ⟨s2, ws, eD, dw⟩
      rw [List.length_map, List.take_of_length_le (Nat.le_refl _)] at dw
      walk_at "sx"
      have hul := du.len
      have hwl := dw.len
      refine ⟨F, D, us, ws, rfl, rfl, s2 _ _ eF, eD, ?_, fun G nG => ⟨G, rfl, sm.trans (s2.trans (same_upd nG)), none_back (sm.trans s2) nG, us ++ ws, upd_same, ?_⟩⟩
      · rw [flat_len] at hul
        rw [List.length_map] at hwl
        rw [List.length_take] at hul
        have : min i l.length * m.length ≤ 60 * 60 := Nat.mul_le_mul (by omega) hm
        exact Nat.le_trans (show _ ≤ 3660 by omega) (by decide)
      · rw [List.take_add_one, hn, List.flatMap_append]
        have e1 : ([n] : List Nat).flatMap (fun i => m.map fun j => (i, j)) = m.map fun z => (n, z) := by simp
        show Prs _ _ (_ ++ ([n] : List Nat).flatMap _)
        rw [e1]
        exact Prs.same (same_upd nG) (Rel.append (du.same s2) dw)
  · rintro σ H' ⟨F, us, y, rfl, sm, nF, eF, du⟩
    walk_at "sx"
    rw [List.length_map, List.take_of_length_le (Nat.le_refl _)] at du
    exact q F us H' nF sm eF du
end

end Z

set_option Elab.async false
set_option linter.all false
set_option maxRecDepth 100000
set_option maxHeartbeats 4000000

namespace Z
open PySem PySem.Spec PyProof.Rows L2 Z.R
local macro_rules | `(tactic| walk_at "sx") => `(tactic| try simp only [and_assoc, cxOf_K, cxOf_Kn, C8.tCut, rEq, rNe, sc_ii, sc_ss, sc_bb, sc_is, sc_si, sc_bs, sc_sb, tSeq, tAsg, tPar, tPar3, tC, gName, gNil, gCons, gTup, gSub, rSetL, L2.start, tVar, tOp, tUn, rI0, rI, rU, tTest, tChain, tOrV, tAndV, tNotV, tCB, tCons, tNil, tLst, tTup, tIfS, tNext, tRet, tRetN, tDrop, tAnd, tOr, tNot, tB, tIf, tSl, tFld, sFld, putF, tNoPart, tPart, rSlL, tBM, tBM0, rAppend, rPop, rExtend, tCall, tMeth, tLstRg, tRg1, tRg2, List.map_cons, List.map_nil, List.replicate, List.length_cons, List.length_nil, List.append, List.cons_append, List.nil_append, List.append_nil, List.getElem?_cons_zero, List.getElem?_cons_succ, List.set_cons_zero, List.set_cons_succ, Option.some.injEq, exists_eq_left', exists_eq_left, exists_eq, exists_and_left, exists_const, wipe, tYes, upd_same, ↓reduceIte, decide_false, decide_true, Bool.not_true, Bool.not_false, Bool.false_eq_true, V.int.injEq, HO.lst.injEq, HO.tup.injEq, V.ref.injEq, V.str.injEq, one_inj, le_a, le_z, le_0, le_9, mem_let, mem_dig, V.bl.injEq, List.cons.injEq, and_true, true_and, reduceCtorEq, false_and, exists_false, or_false, false_or])
/-- `_law_pairs`: the names and the pairs of places -/
def spPairs (K : PySem.W.Frag) (n : Nat) : Sp := fun vs H Q _ => ∃ (v : V) (p : Pt Str), vs = [v] ∧ Dp K H v (Pt.enc .str p) ∧ Pt.Okc p ∧ Pt.dep p < n ∧
  ∀ (t N B : Addr) (us : List V) H', Same H H' → H N = none → H B = none → SqT K H' t [.ref N, .ref B] → H' N = some (.lst ((Pt.names p).map V.str)) → H' B = some (.lst us) → Prs H' us (Pt.told p 0) → Q (.ref t) H'
theorem dps_str {K : PySem.W.Frag} {H : Hp} : ∀ {vs : List V} {l : List Str}, DpAll K H vs (l.map PyData.str) → vs = l.map V.str
  | [], [], _ => rfl
  | [], _ :: _, h => by cases h
  | _ :: _, [], h => by cases h
  | v :: vs, x :: l, h => by
    cases h with
    | cons h t =>
      cases h
      rw [dps_str t]
      rfl
/-- what `_law_pairs` keeps while it walks the parts -/
structure PrAt (H0 H : Hp) (N B D : Addr) (nm : List Str) (M : List (Nat × Nat)) (bs : List (Addr × List Nat)) : Prop where
  sm : Same H0 H
  nN : H0 N = none
  nB : H0 B = none
  nD : H0 D = none
  eN : H N = some (.lst (nm.map V.str))
  eB : ∃ us, H B = some (.lst us) ∧ Prs H us M
  eD : H D = some (.lst (bs.map fun b => .ref b.1))
  lots : Lots H bs
  dN : N ≠ D
  dB : B ≠ D
  db : ∀ b ∈ bs, b.1 ≠ D
namespace PrAt
variable {H0 H H' : Hp} {N B D : Addr} {nm : List Str} {M : List (Nat × Nat)} {bs : List (Addr × List Nat)}
theorem same (h : PrAt H0 H N B D nm M bs) (s : Same H H') : PrAt H0 H' N B D nm M bs := ⟨h.sm.trans s, h.nN, h.nB, h.nD, s _ _ h.eN, (by obtain ⟨us, e, d⟩ := h.eB; exact ⟨us, s _ _ e, d.same s⟩), s _ _ h.eD, h.lots.same s, h.dN, h.dB, h.db⟩
theorem off (h : PrAt H0 H N B D nm M bs) {p : Addr} (n : H p = none) : H0 p = none ∧ p ≠ D := ⟨none_back h.sm n, fun e => by rw [e, h.eD] at n; cases n⟩
theorem setN (h : PrAt H0 H N B D nm M bs) {N2 : Addr} {nm2 : List Str} (n : H N2 = none) : PrAt H0 (upd H N2 (.lst (nm2.map V.str))) N2 B D nm2 M bs :=
  have h1 := h.same (same_upd (o := .lst (nm2.map V.str)) n)
  { h1 with nN := (h.off n).1, eN := upd_same, dN := (h.off n).2 }
theorem setB (h : PrAt H0 H N B D nm M bs) {B2 : Addr} {us : List V} {M2 : List (Nat × Nat)} (n : H B2 = none) (d : Prs H us M2) : PrAt H0 (upd H B2 (.lst us)) N B2 D nm M2 bs :=
  have h1 := h.same (same_upd (o := .lst us) n)
  { h1 with nB := (h.off n).1, eB := ⟨us, upd_same, d.same (same_upd n)⟩, dB := (h.off n).2 }
theorem push (h : PrAt H0 H N B D nm M bs) {b : Addr} {l : List Nat} (e : H b = some (.lst (l.map vN))) (hb : b ≠ D) : PrAt H0 (upd H D (.lst (bs.map (fun b => .ref b.1) ++ [.ref b]))) N B D nm M (bs ++ [(b, l)]) where
  sm := same_D h.sm h.nD
  nN := h.nN
  nB := h.nB
  nD := h.nD
  eN := by rw [upd_ne h.dN]; exact h.eN
  eB := by
    obtain ⟨us, e1, d⟩ := h.eB
    exact ⟨us, by rw [upd_ne h.dB]; exact e1, Prs.upd h.eD d⟩
  eD := by rw [upd_same, List.map_append]; rfl
  lots := fun c hc => by
    rcases List.mem_append.mp hc with hc | hc
    · rw [upd_ne (h.db c hc)]
      exact h.lots c hc
    · rw [List.mem_singleton.mp hc, upd_ne hb]
      exact e
  dN := h.dN
  dB := h.dB
  db := fun c hc => by
    rcases List.mem_append.mp hc with hc | hc
    · exact h.db c hc
    · rw [List.mem_singleton.mp hc]
      exact hb
end PrAt
theorem Prs.at {H : Hp} {us : List V} {L : List (Nat × Nat)} {i : Nat} {x : V} (d : Prs H us L) (h : us[i]? = some x) : ∃ z q, L[i]? = some z ∧ x = .ref q ∧ H q = some (.tup [vN z.1, vN z.2]) := by
  have hl := d.len
  have hi := (List.getElem?_eq_some_iff.mp h).1
  obtain ⟨q, e, hq⟩ := d.2 i x L[i] h (List.getElem?_eq_getElem (by omega))
  exact ⟨L[i], q, List.getElem?_eq_getElem (by omega), e, hq⟩
theorem lots_or {σ : L2.St} {H : Hp} {R : VK} {D : Addr} {bs : List (Addr × List Nat)} {r c : Bool} (hc : c = r) (h3 : σ[3]? = some (some (.ref D))) (eD : H D = some (.lst (bs.map fun b => .ref b.1)))
    (key : ∀ (a : Addr) (H' : Hp) (cs : List (Addr × List Nat)), Same H H' → H' a = some (.lst (cs.map fun b => .ref b.1)) → cs = (if r then bs else []) → R (.ref a) H') : if c = true then tVar 3 σ H R else tLst tNil σ H R := by
  subst hc
  cases c with
  | true => exact iteT ⟨_, h3, key D H bs (.refl _) eD rfl⟩
  | false => exact iteF ⟨by decide, fun p np => key p _ [] (same_upd np) upd_same rfl⟩
theorem row_word2 {r : Bool} : decide (V.str (if r then "row" else "beside") = V.str "row") = r := by cases r <;> decide +kernel
theorem cross_flat (m : List Nat) : ∀ bs : List (Addr × List Nat), (bs.flatMap fun b => b.2.flatMap fun i => m.map fun z => (i, z)) = (bs.map (·.2)).flatten.flatMap fun i => m.map fun z => (i, z)
  | [] => rfl
  | b :: bs => by rw [List.flatMap_cons, cross_flat m bs, List.map_cons, List.flatten_cons, List.flatMap_append]
theorem flat_take2 {α β : Type} (f : α → List β) (l : List α) (k : Nat) : ((l.take k).flatMap f).length ≤ (l.flatMap f).length := by
  have : (l.flatMap f).length = ((l.take k).flatMap f).length + ((l.drop k).flatMap f).length := by
    rw [← List.length_append, ← List.flatMap_append, List.take_append_drop]
  omega
theorem flat_mem {α : Type} {c : List (List α)} {l : List α} (h : l ∈ c) : l.length ≤ c.flatten.length := by
  obtain ⟨s, t, rfl⟩ := List.append_of_mem h
  simp
  omega
theorem map_ref_at {bs : List (Addr × List Nat)} {j : Nat} {y : V} (h : (bs.map fun b => V.ref b.1)[j]? = some y) : ∃ b, bs[j]? = some b ∧ y = .ref b.1 := by
  rw [List.getElem?_map] at h
  cases e : bs[j]? with
  | none => rw [e] at h; cases h
  | some b => rw [e] at h; exact ⟨b, rfl, (Option.some.inj h).symm⟩
section
variable {P : Program} {w : World} {K : PySem.W.Frag} {mg : Str → Option Value} {base : Heap}
theorem sc__law_pairs : FnScope ["party", "names", "pairs", "lots", "part", "inner", "told", "lot", "one", "two", "other", "place", "there"] ["party"] (defScope s__law_pairs) := ⟨rfl, rfl, rfl, by decide +kernel, rfl, by decide +kernel, by decide +kernel⟩
theorem step__law_pairs {f : Addr} {fd : FuncData} {n : Nat} (F : Fun K "_law_pairs" "_law_pairs" s__law_pairs f fd) (c__law_pairs : Cl P w K mg base (n + 32) "_law_pairs" (spPairs K n)) (c__law_names : Cl P w K mg base 32 "_law_names" (spLNames K 31)) (c__law_crossed : Cl P w K mg base 1 "_law_crossed" (spCross K)) (b_list : mg "list" = none) (b_len : mg "len" = none) (b_range : mg "range" = none) : FnOk P w K mg base CX0 (n + 33) f fd ["party"] (spPairs K (n + 1)) := by
  have nd := sc__law_pairs.nd
  refine F.ok sc__law_pairs (fun vs H Q E h => ?_) (fun cdv A outer s H vs Q E hr h => ?_)
  · obtain ⟨v, p, rfl, _⟩ := h
    rfl
  obtain ⟨v, p, rfl, hv, ho, hn, q⟩ := h
  refine ⟨_, (pss_cons (ps_if (pt_cmpR op_in_seq (pe_ix (ix_tupK (K := K) rfl) (pv 0) pe_int (fun _ _ => rfl)) (pe_lst (pa_cons pe_str (pa_cons pe_str pa_nil))) (by rfl)) (pss_one (ps_ret (pe_tup (pa_cons (pcl c__law_names hr (by omega) (pa_cons (pv 0) pa_nil)) (pa_cons (pe_lst pa_nil) pa_nil))))) pss_nil)
  (pss_cons (ps_asg (pe_tup (pa_cons (pe_lst pa_nil) (pa_cons (pe_lst pa_nil) (pa_cons (pe_lst pa_nil) pa_nil)))) (pg_tupK (K := K) rfl (n := 3) (by rfl) (pgs_cons (pg_name (i := 1) nd rfl (.inr rfl)) (pgs_cons (pg_name (i := 2) nd rfl (.inl rfl)) (pgs_cons (pg_name (i := 3) nd rfl (.inl rfl)) pgs_nil)))))
  (pss_cons (ps_for PassesOwn.never rfl (pi_tupK (K := K) rfl (pe_ix (ix_tupK (K := K) rfl) (pv 0) pe_int (fun _ _ => rfl))) (pg_name (i := 4) nd rfl (.inl rfl))
    (pss_cons (ps_asg (pcl c__law_pairs hr (by omega) (pa_cons (pv 4) pa_nil)) (pg_tupK (K := K) rfl (n := 2) (by rfl) (pgs_cons (pg_name (i := 5) nd rfl (.inl rfl)) (pgs_cons (pg_name (i := 6) nd rfl (.inl rfl)) pgs_nil))))
  (pss_cons (ps_set (i := 7) nd rfl (.inl rfl) (pe_listRg rfl (by rfl) b_list (prg_2 (by rfl) b_range (pe_callB (call_lenK (K := K) rfl) (by rfl) b_len (by decide +kernel) (pa_cons (pv 1) pa_nil)) (pe_op op_add (pe_callB (call_lenK (K := K) rfl) (by rfl) b_len (by decide +kernel) (pa_cons (pv 1) pa_nil)) (pe_callB (call_lenK (K := K) rfl) (by rfl) b_len (by decide +kernel) (pa_cons (pv 5) pa_nil))))))
  (pss_cons (ps_set (i := 2) nd rfl (.inl rfl) (pe_op op_cat (pv 2) (pe_lc (own := [("one", 8), ("two", 9)]) rfl nd (pi_listK (K := K) rfl (pv 6)) (blkOk_by (N := ["party", "names", "pairs", "lots", "part", "inner", "told", "lot", "one", "two", "other", "place", "there"]) (sc := defScope s__law_pairs) (by decide +kernel)) (fun _ _ _ _ _ => (pg_tupK (K := K) rfl (n := 2) (by rfl) (pgs_cons (pg_name (i := 8) nd rfl (.inl rfl)) (pgs_cons (pg_name (i := 9) nd rfl (.inl rfl)) pgs_nil)))) (fun _ _ _ _ _ => pts_nil) (fun _ _ _ _ _ => (pe_tup (pa_cons (pe_op op_add (pv 8) (pe_callB (call_lenK (K := K) rfl) (by rfl) b_len (by decide +kernel) (pa_cons (pv 1) pa_nil))) (pa_cons (pe_op op_add (pv 9) (pe_callB (call_lenK (K := K) rfl) (by rfl) b_len (by decide +kernel) (pa_cons (pv 1) pa_nil))) pa_nil)))))))
  (pss_cons (ps_for PassesOwn.never rfl (pi_listK (K := K) rfl (pe_ifExp (pt_cmpR op_eq (pe_ix (ix_tupK (K := K) rfl) (pv 0) pe_int (fun _ _ => rfl)) pe_str (nomark _)) (pv 3) (pe_lst pa_nil))) (pg_name (i := 10) nd rfl (.inl rfl))
    (pss_one (ps_set (i := 2) nd rfl (.inl rfl) (pe_op op_cat (pv 2) (pe_lc (own := [("place", 11), ("there", 12)]) rfl nd (pi_listK (K := K) rfl (pcl c__law_crossed hr (by omega) (pa_cons (pv 10) (pa_cons (pv 7) pa_nil)))) (blkOk_by (N := ["party", "names", "pairs", "lots", "part", "inner", "told", "lot", "one", "two", "other", "place", "there"]) (sc := defScope s__law_pairs) (by decide +kernel)) (fun _ _ _ _ _ => (pg_tupK (K := K) rfl (n := 2) (by rfl) (pgs_cons (pg_name (i := 11) nd rfl (.inl rfl)) (pgs_cons (pg_name (i := 12) nd rfl (.inl rfl)) pgs_nil)))) (fun _ _ _ _ _ => pts_nil) (fun _ _ _ _ _ => (pe_tup (pa_cons (pv 11) (pa_cons (pv 12) pa_nil)))))))))
  (pss_cons (ps_expr (pe_bm PySem.F.plainAttrs_list PySem.F.slot_list_append PySem.F.type_list_append mt_append (pv 3) (pa_cons (pv 7) pa_nil)))
  (pss_one (ps_set (i := 1) nd rfl (.inr rfl) (pe_op op_cat (pv 1) (pv 5))))))))))
  (pss_one (ps_ret (pe_tup (pa_cons (pv 1) (pa_cons (pv 2) pa_nil)))))))), ?_⟩
  walk_at "sx"
  have lf : ∀ (p : Pt Str) (H1 : Hp), Dp K H1 v (Pt.enc .str p) → Same H H1 → Pt.Okc p → Pt.dep p < 31 → Pt.told p 0 = [] → (∀ (t N B : Addr) (us : List V) H', Same H H' → H N = none → H B = none → SqT K H' t [.ref N, .ref B] → H' N = some (.lst ((Pt.names p).map V.str)) → H' B = some (.lst us) → Prs H' us (Pt.told p 0) → Q (.ref t) H') → spLNames K 31 [v] H1 (fun x H1 => 0 ≤ sizeLine ∧ ∀ (p : Addr), H1 p = none → 0 + 1 + 1 ≤ sizeLine ∧ ∀ (p_1 : Addr), upd H1 p (HO.lst []) p_1 = none → Q (V.ref p_1) (upd (upd H1 p (HO.lst [])) p_1 (HO.tup [x, V.ref p]))) E0 := fun p H1 hv s1 ho hd ht q => by
    refine ⟨v, p, rfl, hv, ⟨ho, hd⟩, fun b us H2 nb s2 eb du => ⟨by decide, fun l nl => ⟨by decide, fun t nt => ?_⟩⟩⟩
    obtain rfl := dps_str du
    have f1 := same_upd (o := .lst []) nl
    have f2 := same_upd (o := .tup [.ref b, .ref l]) nt
    exact q t b l [] _ (s1.trans (s2.trans (f1.trans f2))) (none_back s1 nb) (none_back (s1.trans s2) nl) (SqT.of upd_same) (f2 _ _ (f1 _ _ eb)) (f2 _ _ upd_same) (by rw [ht]; exact Prs.nil)
  cases p with
  | emp =>
    obtain ⟨t, u, rfl, hs, hu⟩ := dp_emp hv
    cases hu
    refine ixt hs rfl ⟨by decide, fun p np => ⟨p, _, rfl, .inl (SqL.of upd_same), rfl, by decide +kernel, _, rfl, ?_⟩⟩
    have f1 := same_upd (o := .lst [V.str "empty", V.str "deed"]) np
    rw [if_neg Bool.false_ne_true, in_emp]
    exact iteT (lf .emp _ (L2.Dp.same f1 hv) f1 ho (by rw [Pt.dep]; decide) (by rw [Pt.told]) q)
  | deed x =>
    obtain ⟨t, u, rfl, hs, hu⟩ := dp_deed hv
    cases hu
    refine ixt hs rfl ⟨by decide, fun p np => ⟨p, _, rfl, .inl (SqL.of upd_same), rfl, by decide +kernel, _, rfl, ?_⟩⟩
    have f1 := same_upd (o := .lst [V.str "empty", V.str "deed"]) np
    rw [if_neg Bool.false_ne_true, in_deed]
    exact iteT (lf (.deed x) _ (L2.Dp.same f1 hv) f1 ho (by rw [Pt.dep]; decide) (by rw [Pt.told]) q)
  | nd r ps =>
    obtain ⟨t, t2, us, rfl, hs, hs2, hu⟩ := dp_nd hv
    refine ixt hs rfl ⟨by decide, fun p np => ⟨p, _, rfl, .inl (SqL.of upd_same), rfl, by decide +kernel, _, rfl, ?_⟩⟩
    have f1 := same_upd (o := .lst [V.str "empty", V.str "deed"]) np
    generalize upd H p (.lst [V.str "empty", V.str "deed"]) = H1 at f1 ⊢
    rw [if_neg Bool.false_ne_true, in_nd]
    clear lf
    refine iteF ⟨by decide, fun N nN => ⟨by decide, fun B nB => ⟨by decide, fun D nD => ⟨by decide, fun T nT => ?_⟩⟩⟩⟩
    have g1 := same_upd (o := .lst []) nN
    have g2 := same_upd (o := .lst []) nB
    have g3 := same_upd (o := .lst []) nD
    have g4 := same_upd (o := .tup [.ref N, .ref B, .ref D]) nT
    have eT := upd_same (H := upd (upd (upd H1 N (.lst [])) B (.lst [])) D (.lst [])) (a := T) (o := .tup [.ref N, .ref B, .ref D])
    have pa : PrAt H (upd (upd (upd (upd H1 N (.lst [])) B (.lst [])) D (.lst [])) T (.tup [.ref N, .ref B, .ref D])) N B D [] [] [] := by
      refine ⟨f1.trans (g1.trans (g2.trans (g3.trans g4))), none_back f1 nN, none_back (f1.trans g1) nB, none_back (f1.trans (g1.trans g2)) nD, g4 _ _ (g3 _ _ (g2 _ _ upd_same)), ⟨[], g4 _ _ (g3 _ _ upd_same), .nil⟩, g4 _ _ upd_same, fun b hb => (by cases hb), fun e => ?_, fun e => ?_, fun b hb => (by cases hb)⟩
      · rw [← e, g2 _ _ upd_same] at nD
        cases nD
      · rw [← e, upd_same] at nD
        cases nD
    generalize upd (upd (upd (upd H1 N (.lst [])) B (.lst [])) D (.lst [])) T (.tup [.ref N, .ref B, .ref D]) = H2 at eT pa ⊢
    clear g1 g2 g3 g4 nN nB nD nT
    refine ⟨_, SqT.of eT, rfl, _, _, rfl, _, _, rfl, _, _, rfl, rfl, ?_⟩
    clear eT
    have hul := kids_len hu
    have hp60 : ps.length ≤ 60 := (ho.1.1.resolve_left (fun e => by cases e)).len.2
    have hcs : (ps.map Pt.cnt).sum ≤ 60 := by
      have := ho.2
      rwa [Pt.cnt_nd] at this
    have htot : (Pt.told (.nd r ps) 0).length ≤ 3600 := Nat.le_trans (Pt.told_len _ _) (Nat.mul_le_mul ho.2 ho.2)
    refine ⟨_, rfl, t, _, 1, _, rfl, rfl, tup_same pa.sm hs, rfl, t2, rfl, ⟨us, tup_same pa.sm hs2⟩, for_tup (K := K) (a := t2) (xs := us) (fun i σ H' => ∃ (N B : Addr) (M : List (Nat × Nat)) (bs : List (Addr × List Nat)) (x4 x5 x6 x7 x10 : Option V), σ = [some (.ref t), some (.ref N), some (.ref B), some (.ref D), x4, x5, x6, x7, none, none, x10, none, none] ∧
      PrAt H H' N B D (((ps.take i).map Pt.names).flatten) M bs ∧ Pt.told (.nd r ps) 0 = M ++ Pt.told.go r (ps.drop i) 0 ((ps.take i).map Pt.cnt).sum ∧ (bs.map (·.2)).flatten = List.range' 0 ((ps.take i).map Pt.cnt).sum ∧ bs.length = i)
      ⟨N, B, [], [], none, none, none, none, none, rfl, by simpa using pa, by rw [Pt.told_nd]; simp, rfl, rfl⟩ (fun i σ H' _ ⟨_, _, _, _, _, _, _, _, _, _, pa, _⟩ => tup_same pa.sm hs2) ?_ ?_⟩
    · rintro i x σ H3 hx ⟨N, B, M, bs, x4, x5, x6, x7, x10, rfl, pa, eM, eL, hbl⟩
      obtain ⟨p, hp, hm, hxp⟩ := kid_at hu hx
      walk_at "sx"
      have hd := Pt.dep_mem (r := r) hm
      refine ⟨x, p, rfl, L2.Dp.same pa.sm hxp, ho.part hm, by omega, fun t' N' B' us' H4 s4 nN' nB' st' eN' eB' dB' => ?_⟩
      have edr : ps.drop i = p :: ps.drop (i + 1) := by
        obtain ⟨h1, h2⟩ := List.getElem?_eq_some_iff.mp hp
        rw [← h2, List.drop_eq_getElem_cons h1]
      rw [edr, Pt.told.go] at eM
      have es := Pt.take_sum hp
      have hsum := take_sum_le ps (i + 1)
      have e1 : ((ps.take (i + 1)).map Pt.names).flatten = ((ps.take i).map Pt.names).flatten ++ Pt.names p := by
        rw [List.take_add_one, hp, List.map_append, List.flatten_append]
        simp
      have hS : (((ps.take i).map Pt.names).flatten.map V.str).length = ((ps.take i).map Pt.cnt).sum := by
        rw [List.length_map, List.length_flatten, List.map_map, show (List.length ∘ Pt.names (α := Str)) = Pt.cnt from funext fun p => Pt.names_len p]
      have hc : ((Pt.names p).map V.str).length = Pt.cnt p := by rw [List.length_map, Pt.names_len]
      have pa4 := pa.same s4
      rw [es, e1]
      rw [es] at hsum
      generalize hSS : ((ps.take i).map Pt.cnt).sum = S at es hsum hS eM eL ⊢
      have hM : M.length + (Pt.told p S).length ≤ 3600 := by
        have := congrArg List.length eM
        rw [List.length_append, List.length_append] at this
        omega
      have ets : Pt.told p S = (Pt.told p 0).map (Pt.shf S) := by
        have := Pt.told_shf S p 0
        rwa [Nat.zero_add] at this
      refine ⟨t', rfl, _, st', rfl, _, _, rfl, _, _, rfl, rfl, S, len_l pa4.eN hS.symm, S, len_l pa4.eN hS.symm, Pt.cnt p, len_l eN' hc.symm, RgOk.of_le (by omega) (by omega) (by omega) (by omega), fun l nl => ?_⟩
      have el : upd H4 l (.lst (rgV (S : Nat) ((S : Int) + (Pt.cnt p : Nat)))) l = some (.lst ((List.range' S (Pt.cnt p)).map vN)) := by
        rw [upd_same, show ((S : Int) + (Pt.cnt p : Nat)) = ((S + Pt.cnt p : Nat) : Int) by omega, rgV_nat]
        rfl
      have s5 := same_upd (o := .lst (rgV (S : Nat) ((S : Int) + (Pt.cnt p : Nat)))) nl
      have pa5 := pa4.same s5
      have lD := (pa4.off nl).2
      have eB5 := s5 _ _ eB'
      have eN5 := s5 _ _ eN'
      have dB5 := dB'.same s5
      generalize upd H4 l (.lst (rgV (S : Nat) ((S : Int) + (Pt.cnt p : Nat)))) = H5 at el pa5 eB5 eN5 dB5 ⊢
      have nND : N' ≠ D := (pa.off nN').2
      clear s5 nl pa4 eN' eB' dB' st' nN' nB' s4
      refine ⟨_, rfl, B', rfl, ⟨_, SqL.of eB5⟩, fun E nE => lc_list (K := K) (a := B') (xs := us') (fun j H2 => Same H5 H2 ∧ ∃ ws, H2 E = some (.lst ws) ∧ Prs H2 ws (((Pt.told p 0).take j).map (Pt.shf S))) ⟨same_upd nE, [], upd_same, .nil⟩ (fun j H2 _ h => SqL.of (h.1 _ _ eB5)) ?_ ?_⟩
      · rintro j y H2 hj ⟨s2, ws, eE, dw⟩
        obtain ⟨z, q2, hz, rfl, hq⟩ := (dB5.same s2).at hj
        walk_at "sx"
        refine ⟨_, SqT.of hq, rfl, _, _, rfl, _, _, rfl, rfl, S, len_l (pa5.same s2).eN hS.symm, _, rfl, S, len_l (pa5.same s2).eN hS.symm, _, rfl, by decide, fun p1 n1 => ⟨ws, (same_upd n1) _ _ eE, ?_, same_D (s2.trans (same_upd n1)) nE, ?_⟩⟩
        · have := dw.len
          rw [List.length_map, List.length_take] at this
          have := (List.getElem?_eq_some_iff.mp hz).1
          have e9 := congrArg List.length ets
          rw [List.length_map] at e9
          exact Nat.lt_of_le_of_lt (show _ ≤ 3600 by omega) (by decide)
        · rw [List.take_add_one, hz, List.map_append]
          exact Prs.snoc (same_upd n1) eE dw (by rw [upd_same]; rfl)
      · rintro H2 ⟨s2, ws, eE, dw⟩
        rw [List.take_of_length_le (by rw [dB5.len]; exact Nat.le_refl _), ← ets] at dw
        walk_at "sx"
        obtain ⟨ub, eB, dB⟩ := pa5.eB
        have l1 := dB.len
        have l2 := dw.len
        refine ⟨B, E, ub, ws, rfl, rfl, s2 _ _ eB, eE, Nat.le_trans (show _ ≤ 3600 by omega) (by decide), fun G nG => ?_⟩
        have pa6 := (pa5.same s2).setB nG (Rel.append (dB.same s2) dw : Prs H2 (ub ++ ws) (M ++ Pt.told p S))
        have s6 := s2.trans (same_upd (o := .lst (ub ++ ws)) nG)
        have el6 := s6 _ _ el
        have eN6 := s6 _ _ eN5
        generalize upd H2 G (.lst (ub ++ ws)) = H6 at pa6 el6 eN6 ⊢
        clear s6 s2 dw eE nE dB5 eB5 el eN5 pa5
        refine ⟨_, rfl, t, _, 0, _, rfl, rfl, tup_same pa6.sm hs, rfl, ?_⟩
        refine ⟨rfl, _, rfl, ?_⟩
        refine lots_or row_word2 rfl pa6.eD fun La H7 cs s7 eLa hcs7 => ?_
        have pa7 := pa6.same s7
        have el7 := s7 _ _ el6
        have eN7 := s7 _ _ eN6
        clear pa6 el6 eN6 s7
        have hLots : Lots H7 cs := by
          rw [hcs7]
          cases r with
          | true => exact pa7.lots
          | false => exact fun b hb => (by cases hb)
        have hcross : (cs.flatMap fun b => b.2.flatMap fun i => (List.range' S (Pt.cnt p)).map fun z => (i, z)) = if r = true then List.flatMap (fun i => List.map (fun j => (i, j)) (List.range' S p.cnt)) (List.range' 0 (S - 0)) else [] := by
          rw [hcs7]
          cases r with
          | true => rw [if_pos rfl, if_pos rfl, cross_flat, eL, Nat.sub_zero]
          | false => rfl
        have hlb : ∀ b ∈ cs, b.2.length ≤ 60 := fun b hb => by
          cases r with
          | true =>
            rw [if_pos rfl] at hcs7
            subst hcs7
            have := flat_mem (List.mem_map.mpr ⟨b, hb, rfl⟩ : b.2 ∈ cs.map (·.2))
            rw [eL, List.length_range'] at this
            omega
          | false =>
            rw [if_neg Bool.false_ne_true] at hcs7
            subst hcs7
            cases hb
        have hM2 : M.length + (Pt.told p S).length + (cs.flatMap fun b => b.2.flatMap fun i => (List.range' S (Pt.cnt p)).map fun z => (i, z)).length ≤ 3600 := by
          have := congrArg List.length eM
          rw [← hcross, List.length_append, List.length_append, List.length_append] at this
          omega
        refine ⟨La, rfl, ⟨_, SqL.of eLa⟩, for_list (K := K) (a := La) (xs := cs.map fun b => .ref b.1) (fun j σ H' => ∃ (G : Addr) (x10 : Option V), σ = [some (.ref t), some (.ref N), some (.ref G), some (.ref D), some x, some (.ref N'), some (.ref B'), some (.ref l), none, none, x10, none, none] ∧
          PrAt H H' N G D ((ps.take i).map Pt.names).flatten (M ++ Pt.told p S ++ (cs.take j).flatMap fun b => b.2.flatMap fun i => (List.range' S (Pt.cnt p)).map fun z => (i, z)) bs ∧ Same H7 H') ⟨G, x10, rfl, by simpa using pa7, .refl _⟩ (fun j σ H' _ ⟨_, _, _, _, s⟩ => SqL.of (s _ _ eLa)) ?_ ?_⟩
        · rintro j y σ H8 hy ⟨G, x10, rfl, pa8, s8⟩
          obtain ⟨b, hb, rfl⟩ := map_ref_at hy
          have hbm := List.mem_of_getElem? hb
          have hft := flat_take2 (fun b : Addr × List Nat => b.2.flatMap fun i => (List.range' S (Pt.cnt p)).map fun z => (i, z)) cs (j + 1)
          walk_at "sx"
          refine ⟨_, rfl, _, rfl, b.1, l, b.2, List.range' S (Pt.cnt p), rfl, s8 _ _ (hLots b hbm), s8 _ _ el7, hlb b hbm, by rw [List.length_range']; omega, fun F uF H9 nF s9 eF dF => ?_⟩
          refine ⟨F, rfl, ⟨_, SqL.of eF⟩, fun E nE => lc_list (K := K) (a := F) (xs := uF) (fun m H2 => Same H9 H2 ∧ ∃ ws, H2 E = some (.lst ws) ∧ Prs H2 ws ((b.2.flatMap fun i => (List.range' S (Pt.cnt p)).map fun z => (i, z)).take m)) ⟨same_upd nE, [], upd_same, .nil⟩ (fun j H2 _ h => SqL.of (h.1 _ _ eF)) ?_ ?_⟩
          · rintro m y H2 hm2 ⟨s2, ws, eE, dw⟩
            obtain ⟨z, q2, hz, rfl, hq⟩ := (dF.same s2).at hm2
            walk_at "sx"
            refine ⟨_, SqT.of hq, rfl, _, _, rfl, _, _, rfl, rfl, by decide, fun p1 n1 => ⟨ws, (same_upd n1) _ _ eE, ?_, same_D (s2.trans (same_upd n1)) nE, ?_⟩⟩
            · have h3 := dw.len
              have h4 : (b.2.flatMap fun i => (List.range' S (Pt.cnt p)).map fun z => (i, z)).length ≤ 60 * 60 := by
                rw [flat_len]
                exact Nat.mul_le_mul (hlb b hbm) (by rw [List.length_range']; omega)
              rw [List.length_take] at h3
              exact Nat.lt_of_le_of_lt (show _ ≤ 3600 by omega) (by decide)
            · rw [List.take_add_one, hz]
              exact Prs.snoc (same_upd n1) eE dw (by rw [upd_same]; rfl)
          · rintro H2 ⟨s2, ws, eE, dw⟩
            rw [List.take_of_length_le (by rw [dF.len]; exact Nat.le_refl _)] at dw
            walk_at "sx"
            have pa9 := pa8.same (s9.trans s2)
            obtain ⟨ub, eB, dB⟩ := pa9.eB
            have l1 := dB.len
            have l2 := dw.len
            have hsn : cs.take (j + 1) = cs.take j ++ [b] := by
              rw [List.take_add_one, hb]
              rfl
            have e6 : M ++ Pt.told p S ++ ((cs.take (j + 1)).flatMap fun b => b.2.flatMap fun i => (List.range' S (Pt.cnt p)).map fun z => (i, z)) = (M ++ Pt.told p S ++ (cs.take j).flatMap fun b => b.2.flatMap fun i => (List.range' S (Pt.cnt p)).map fun z => (i, z)) ++ b.2.flatMap fun i => (List.range' S (Pt.cnt p)).map fun z => (i, z) := by
              rw [hsn, List.flatMap_append, ← List.append_assoc]
              simp
            refine ⟨G, E, ub, ws, rfl, rfl, eB, eE, Nat.le_trans (show _ ≤ 3600 from ?_) (by decide), fun G2 nG2 => ⟨G2, rfl, ?_, s8.trans ((s9.trans s2).trans (same_upd nG2))⟩⟩
            · have := congrArg List.length e6
              simp only [List.length_append] at this l1 hft
              rw [l1, l2]
              omega
            · rw [e6]
              exact pa9.setB nG2 (Rel.append dB dw)
        · rintro σ H8 ⟨G, x10, rfl, pa8, s8⟩
          walk_at "sx"
          have el8 := s8 _ _ el7
          have eN8 := s8 _ _ eN7
          have pa9 := pa8.push el8 lD
          have hT : cs.take ((cs.map fun b => V.ref b.1).length) = cs := List.take_of_length_le (by rw [List.length_map]; exact Nat.le_refl _)
          rw [hT, List.append_assoc, hcross] at pa9
          refine ⟨tyl pa8.eD, _, pa8.eD, ?_, N, N', _, _, rfl, rfl, pa9.eN, (by rw [upd_ne nND]; exact eN8), ?_, fun N2 nN2 => ?_⟩
          · rw [List.length_map, hbl]
            have h1 := (List.getElem?_eq_some_iff.mp hp).1
            have h2 := hp60
            exact small1000 (by omega)
          · rw [hS, hc]
            exact size60 (by omega)
          · rw [← List.map_append]
            refine ⟨N2, rfl, _, _, pa9.setN nN2, ?_, ?_, ?_⟩
            · rw [eM]
              simp only [List.append_assoc]
            · rw [List.map_append, List.flatten_append, eL]
              have := List.range'_append_1 (s := 0) (m := S) (n := Pt.cnt p)
              rw [Nat.zero_add] at this
              simpa using this
            · rw [List.length_append, hbl]
              rfl
    · rintro σ H3 ⟨N, B, M, bs, x4, x5, x6, x7, x10, rfl, pa, eM, eL, hbl⟩
      walk_at "sx"
      rw [hul, List.take_of_length_le (Nat.le_refl _)] at pa eM
      rw [List.drop_of_length_le (Nat.le_refl _), Pt.told.go, List.append_nil] at eM
      obtain ⟨us2, eB, dB⟩ := pa.eB
      refine ⟨by decide, fun t3 nt3 => q t3 N B us2 _ (pa.sm.trans (same_upd nt3)) pa.nN pa.nB (SqT.of upd_same) ((same_upd nt3) _ _ ?_) ((same_upd nt3) _ _ eB) (by rw [eM]; exact dB.same (same_upd nt3))⟩
      rw [pa.eN, Pt.names_nd]
theorem ok__law_pairs {f : Addr} {fd : FuncData} (F : Fun K "_law_pairs" "_law_pairs" s__law_pairs f fd) (hm : mg "_law_pairs" = some (.ref f)) (hb : Binds K fd ["party"] []) (c__law_names : Cl P w K mg base 32 "_law_names" (spLNames K 31)) (c__law_crossed : Cl P w K mg base 1 "_law_crossed" (spCross K)) (b_list : mg "list" = none) (b_len : mg "len" = none) (b_range : mg "range" = none) : ∀ n : Nat, FnOk P w K mg base CX0 (n + 32) f fd ["party"] (spPairs K n)
  | 0 => fn_false fun vs H Q E h => by
    obtain ⟨v, p, _, _, _, h, _⟩ := h; omega
  | n + 1 => step__law_pairs F ⟨f, fd, _, ok__law_pairs F hm hb c__law_names c__law_crossed b_list b_len b_range n, hm, F.kp, hb⟩ c__law_names c__law_crossed b_list b_len b_range
end

end Z

set_option Elab.async false
set_option linter.all false
set_option maxRecDepth 100000
set_option maxHeartbeats 4000000

namespace Z
open PySem PySem.Spec PyProof.Rows L2
local macro_rules | `(tactic| walk_at "sx") => `(tactic| try simp only [and_assoc, cxOf_K, cxOf_Kn, C8.tCut, rEq, rNe, sc_ii, sc_ss, sc_bb, sc_is, sc_si, sc_bs, sc_sb, tSeq, tAsg, tPar, tPar3, tC, gName, gNil, gCons, gTup, gSub, rSetL, L2.start, tVar, tOp, tUn, rI0, rI, rU, tTest, tChain, tOrV, tAndV, tNotV, tCB, tCons, tNil, tLst, tTup, tIfS, tNext, tRet, tRetN, tDrop, tAnd, tOr, tNot, tB, tIf, tSl, tFld, sFld, putF, tNoPart, tPart, rSlL, tBM, tBM0, rAppend, rPop, rExtend, tCall, tMeth, tLstRg, tRg1, tRg2, List.map_cons, List.map_nil, List.replicate, List.length_cons, List.length_nil, List.append, List.cons_append, List.nil_append, List.append_nil, List.getElem?_cons_zero, List.getElem?_cons_succ, List.set_cons_zero, List.set_cons_succ, Option.some.injEq, exists_eq_left', exists_eq_left, exists_eq, exists_and_left, exists_const, wipe, tYes, upd_same, ↓reduceIte, decide_false, decide_true, Bool.not_true, Bool.not_false, Bool.false_eq_true, V.int.injEq, HO.lst.injEq, HO.tup.injEq, V.ref.injEq, V.str.injEq, one_inj, le_a, le_z, le_0, le_9, mem_let, mem_dig, V.bl.injEq, List.cons.injEq, and_true, true_and, reduceCtorEq, false_and, exists_false, or_false, false_or])
section
open HT
variable {prog : Program} {w : World} {A : Around} {E : Value → Shared → Prop} {s : Shared}
theorem part_m1 {v : Value} (p : IsPart v (some (-1))) : ∃ t, v = .int (-1) t := by
  cases p with
  | int i t => exact ⟨t, rfl⟩
theorem applied_rev {sl : Addr} {vl vu vs : Value} {n : Nat} {Q : Int × Int × Nat → Shared → Prop} (hs : s.heap.IsSliceOf sl vl vu vs) (pl : IsPart vl none) (pu : IsPart vu none) (ps : IsPart vs (some (-1)))
    (h : Q ((n : Int) - 1, -1, n) s) : wpAny (model prog w) A (Builtin.Slice.sliceApplied (.ref sl) (pure (n : Int))) Q E s := by
  obtain ⟨os, hos, hcs, hds⟩ := id hs
  unfold Builtin.Slice.sliceApplied Builtin.Slice.sliceFields
  refine wpAny_bind (wpAny_bind (wpAny_field hos hds (x := vl) rfl (wpAny_bind (wpAny_field hos hds (x := vu) rfl (wpAny_bind (wpAny_field hos hds (x := vs) rfl (wpAny_pure ?_)))))))
  refine wpAny_bind (slicePart_ ps ?_)
  show wpAny _ _ (if ((-1 : Int) == 0) = true then _ else _) _ _ s
  rw [if_neg (by decide)]
  refine wpAny_bind (slicePart_ pl (wpAny_bind (slicePart_ pu (wpAny_bind (wpAny_pure ?_)))))
  show wpAny _ _ (match Builtin.Slice.sliceAdjust none none (-1) (n : Int) with | (lo, hi) => pure (lo, (-1 : Int), Builtin.Slice.slicePlaces lo hi (-1))) _ _ s
  have e1 : Builtin.Slice.sliceAdjust none none (-1) (n : Int) = ((n : Int) - 1, -1) := by
    unfold Builtin.Slice.sliceAdjust
    have h1 : (-1 : Int) < 0 := by decide
    simp only [h1, if_true]
  rw [e1]
  have e2 : Builtin.Slice.slicePlaces ((n : Int) - 1) (-1) (-1) = n := by
    unfold Builtin.Slice.slicePlaces
    have h1 : ¬ (-1 : Int) > 0 := by decide
    simp only [h1, if_false]
    split <;> simp <;> omega
  show wpAny _ _ (pure ((n : Int) - 1, (-1 : Int), Builtin.Slice.slicePlaces ((n : Int) - 1) (-1) (-1))) _ _ s
  rw [e2]
  exact wpAny_pure h
theorem pick_rev (xs : Array Value) : ((List.range xs.size).filterMap fun (m : Nat) => xs[((xs.size : Int) - 1 + (m : Int) * (-1)).toNat]?).toArray = xs.toList.reverse.toArray := by
  congr 1
  have e1 : ∀ m, m < xs.size → xs[((xs.size : Int) - 1 + (m : Int) * (-1)).toNat]? = xs.toList.reverse[m]? := fun m hm => by
    rw [show ((xs.size : Int) - 1 + (m : Int) * (-1)).toNat = xs.size - 1 - m by omega, List.getElem?_reverse (by simpa using hm)]
    simp
  have e2 : ∀ (l : List Value) (n : Nat) (f : Nat → Option Value), n ≤ l.length → (∀ m, m < n → f m = l[m]?) → (List.range n).filterMap f = l.take n := by
    intro l n
    induction n with
    | zero => intro f _ _; rfl
    | succ n ih =>
      intro f hn hf
      rw [List.range_succ, List.filterMap_append, ih f (by omega) fun m hm => hf m (by omega), List.take_add_one]
      congr 1
      rw [← hf n (by omega)]
      cases h : f n <;> simp [List.filterMap_cons, h]
  rw [e2 xs.toList.reverse xs.size _ (by simp) e1]
  exact List.take_of_length_le (by simp)
theorem getItem_tuple_rev {t sl : Addr} {items : Array Value} {vl vu vs : Value} {Q : Value → Shared → Prop} (ht : IsTup s.heap t items) (hs : s.heap.IsSliceOf sl vl vu vs) (pl : IsPart vl none) (pu : IsPart vu none) (ps : IsPart vs (some (-1)))
    (h : Q (.ref s.heap.objs.size) { s with heap := s.heap.push { cls := .type "tuple", data := .seq items.toList.reverse.toArray } })
    (hsz : items.size ≤ sizeLine) : wpAny (model prog w) A (getItem (.ref t) (.ref sl)) Q E s := by
  have htake : sizeOk (.seq items.toList.reverse.toArray) := by
    show items.toList.reverse.toArray.size ≤ sizeLine
    rw [List.size_toArray, List.length_reverse, Array.length_toList]
    exact hsz
  obtain ⟨os, hos, hcs, hds⟩ := id hs
  have hTs : s.TypeIs (.ref sl) "slice" := ⟨os, hos, hcs⟩
  unfold getItem
  try with_reducible refine wpAny_holding ?_
  first | refine wpAny_bind (wpAny_pure ?_) | skip
  refine wpAny_bind (wpAny_sequenceKey ht.typeIs (by decide) ?_)
  refine wpAny_bind (wpAny_callSpecial?_slot (name := Str.ofString "__getitem__") ht.typeIs PyProof.Rows.slot_tuple_getitem
    (wpAny_call_entry PyProof.Rows.slot_tuple_getitem ht.typeIs entry_tuple_getitem ?_ (args_tuple_getitem _ _)))
  show wpAny _ _ (Builtin.Tuple.tupleItemsOf (.ref t) >>= _) _ _ s
  refine wpAny_bind (tupleItemsOf_ ht ?_)
  refine wpAny_bind (wpAny_typeOf hTs ?_)
  rw [if_pos (by decide)]
  refine wpAny_bind (applied_rev hs pl pu ps ?_)
  have hno : ¬ ((((items.size : Int) - 1 == 0) && ((-1 : Int) == 1) && (items.size == items.size)) = true) := by
    intro q
    rw [Bool.and_eq_true, Bool.and_eq_true] at q
    exact absurd q.1.2 (by decide)
  show wpAny _ _ (if (((items.size : Int) - 1 == 0) && ((-1 : Int) == 1) && (items.size == items.size)) = true then _ else _) _ _ s
  rw [if_neg hno, pick_rev]
  first
    | exact wpAny_bind (m := Builtin.Tuple.tupleExact _) (wpAny_newObj_type (wpAny_pure ⟨_, rfl, wpAny_pure h⟩) htake)
    | exact wpAny_bind (m := Builtin.Tuple.tupleExact _) (wpAny_newObj_type (wpAny_bind (wpAny_pure (wpAny_pure ⟨_, rfl, wpAny_pure h⟩))) htake)
    | exact wpAny_bind (wpAny_bind (m := Builtin.Tuple.tupleExact _) (wpAny_newObj_type (wpAny_pure (wpAny_pure ⟨_, rfl, wpAny_pure h⟩)) htake))
    | exact wpAny_bind (wpAny_bind (m := Builtin.Tuple.tupleExact _) (wpAny_newObj_type (wpAny_pure ⟨_, rfl, wpAny_pure h⟩) htake))
end
namespace R
variable {X : Cx}
/-- t[::-1] of a tuple -/
def tRevT (K : PySem.W.Frag) (te : TE) : TE := fun σ H Q => te σ H fun x H1 => ∃ a xs, x = .ref a ∧ SqT K H1 a xs ∧ ∀ p, H1 p = none → Q (.ref p) (upd H1 p (.tup xs.reverse))
theorem pe_revT {K : PySem.W.Frag} {e : Expr} {te : TE} {k : Nat} {p1 p2 p3 pos : Pos} (hK : X.K = K) (he : PE X e te) : PE X (.Subscript e (.Slice none none (some (.UnaryOp .USub (.Constant (.int 1) k p1) p2)) p3) pos) (tRevT K te) := by
  subst hK
  refine ⟨fun pins s σ H Q I h => ?_⟩
  refine Subscript_ (thn (he.run pins s σ H _ I h) fun v s1 ⟨x, H1, I1, r1, q1⟩ => ?_)
  obtain ⟨a, xs, ex, hx, q⟩ := q1
  subst ex
  cases r1
  have hst : PO X (some (.UnaryOp .USub (.Constant (.int 1) k p1) p2)) (tPart (tUn (rU fun i => .int (-i)) (tC (.int 1)))) := po_some (pe_un un_neg pe_int)
  refine wpAny_Slice (thn (po_none.run pins s1 σ H1 (fun o H2 => o = none ∧ H2 = H1) I1 ⟨rfl, rfl⟩) fun vl s2 ⟨l, H2, I2, pl, el, e2⟩ => ?_)
  subst el e2
  refine thn (po_none.run pins s2 σ H2 (fun o H3 => o = none ∧ H3 = H2) I2 ⟨rfl, rfl⟩) fun vu s3 ⟨u, H3, I3, pu, eu, e3⟩ => ?_
  subst eu e3
  refine thn (hst.run pins s3 σ H3 (fun o H4 => o = some (-1) ∧ H4 = H3) I3 ⟨1, rfl, -1, rfl, rfl, rfl⟩) fun vs s4 ⟨o, H4, I4, ps, eo, e4⟩ => ?_
  subst eo e4
  have I5 : Inv X pins σ H4 { s4 with heap := s4.heap.push { cls := .type "slice", data := .fields #[vl, vu, vs] } } := I4.kept (t' := s4.toks) fun b ob q => Heap.get?_push_of_some _ q
  obtain ⟨its, r, ht, hz⟩ := I5.tuple hx
  have hlen := r.length
  show wpAny (model X.prog X.w) X.A (subscriptTail e (.Slice none none (some (.UnaryOp .USub (.Constant (.int 1) k p1) p2)) p3) (.ref a) (.ref s4.heap.objs.size)) (EP X pins σ Q) X.xe { s4 with heap := s4.heap.push { cls := .type "slice", data := .fields #[vl, vu, vs] } }
  refine tail_any (ops := [.ref a, .ref s4.heap.objs.size]) ht.typeIs PyProof.Rows.slot_tuple_getitem.lookup ?_ (by with_unfolding_all rfl)
  refine getItem_tuple_rev ht (Heap.IsSliceOf.new _ vl vu vs) pl pu ps ?_ (by rw [List.size_toArray]; omega)
  refine ⟨.ref _, _, I5.laid (t' := s4.toks) (o := .tup xs.reverse) (fun b ob q => Heap.get?_push_of_some _ q) (Nat.le_refl _) ?_, rfl, q _ (I5.hok.fresh (Nat.le_refl _))⟩
  exact ⟨by rw [List.length_reverse]; exact hz, _, r.reverse, IsTup.new _ _⟩
end R

end Z

set_option Elab.async false
set_option linter.all false
set_option maxRecDepth 100000
set_option maxHeartbeats 4000000

namespace Z
open PySem PySem.Spec PyProof.Rows L2 Z.R
local macro_rules | `(tactic| walk_at "sx") => `(tactic| try simp only [and_assoc, cxOf_K, cxOf_Kn, C8.tCut, rEq, rNe, sc_ii, sc_ss, sc_bb, sc_is, sc_si, sc_bs, sc_sb, tSeq, tAsg, tPar, tPar3, tC, gName, gNil, gCons, gTup, gSub, rSetL, L2.start, tVar, tOp, tUn, rI0, rI, rU, tTest, tChain, tOrV, tAndV, tNotV, tCB, tCons, tNil, tLst, tTup, tIfS, tNext, tRet, tRetN, tDrop, tAnd, tOr, tNot, tB, tIf, tSl, tFld, sFld, putF, tNoPart, tPart, rSlL, tBM, tBM0, rAppend, rPop, rExtend, tCall, tMeth, tLstRg, tRg1, tRg2, List.map_cons, List.map_nil, List.replicate, List.length_cons, List.length_nil, List.append, List.cons_append, List.nil_append, List.append_nil, List.getElem?_cons_zero, List.getElem?_cons_succ, List.set_cons_zero, List.set_cons_succ, Option.some.injEq, exists_eq_left', exists_eq_left, exists_eq, exists_and_left, exists_const, wipe, tYes, upd_same, ↓reduceIte, decide_false, decide_true, Bool.not_true, Bool.not_false, Bool.false_eq_true, V.int.injEq, HO.lst.injEq, HO.tup.injEq, V.ref.injEq, V.str.injEq, one_inj, le_a, le_z, le_0, le_9, mem_let, mem_dig, V.bl.injEq, List.cons.injEq, and_true, true_and, reduceCtorEq, false_and, exists_false, or_false, false_or])
theorem R.op_in_seqK {X : Cx} {K : PySem.W.Frag} (h : X.K = K) : OpR X (compareOp .In) (rIn K false) := h ▸ op_in_seq
theorem R.op_inDK {X : Cx} {K : PySem.W.Frag} (h : X.K = K) (hu : X.A.units + 65 < cLine) : OpR X (compareOp .In) (rInD K) := h ▸ op_inD hu
theorem R.units65 {k : Nat} {A : Around} (r : Room k A) : A.units + 65 < cLine := by have := r.un; omega
def spLAre (K : PySem.W.Frag) : Sp := fun vs H Q _ => ∃ (n : Nat) (u : V) (d : PyData), vs = [.int n, u] ∧ n ≤ 60 ∧ Dp K H u d ∧ Tm d ∧ ∀ H', Same H H' → Q (.bl (plL n d).isSome) H'
def spLLoose (K : PySem.W.Frag) : Sp := fun vs H Q _ => ∃ (B t : Addr) (us : List V) (P : List (Nat × Nat)) (l : List Nat), vs = [.ref B, .ref t] ∧ H B = some (.lst us) ∧ Prs H us P ∧ P.length ≤ 3600 ∧ (SqL K H t (l.map vN) ∨ SqT K H t (l.map vN)) ∧ l.length ≤ 60 ∧ ∀ H', Same H H' → Q (.bl (looseB P l)) H'
def spLChain (K : PySem.W.Frag) : Sp := fun vs H Q _ => ∃ (B t : Addr) (us : List V) (P : List (Nat × Nat)) (l : List Nat), vs = [.ref B, .ref t] ∧ H B = some (.lst us) ∧ Prs H us P ∧ P.length ≤ 3600 ∧ SqT K H t (l.map vN) ∧ l.length ≤ 60 ∧ ∀ H', Same H H' → Q (.bl (chainB P l)) H'
theorem eqV_nat {i j : Nat} : eqV (vN i) (vN j) = decide (i = j) := by
  show ((i : Int) == (j : Int)) = decide (i = j)
  rw [Bool.eq_iff_iff, beq_iff_eq, decide_eq_true_eq]
  omega
theorem inV_nat (i : Nat) : ∀ l : List Nat, inV (vN i) (l.map vN) = l.contains i
  | [] => rfl
  | j :: l => by
    have := inV_nat i l
    unfold inV at this ⊢
    rw [List.map_cons, List.any_cons, this, eqV_nat, List.contains_cons]
    congr 1
    rw [Bool.eq_iff_iff, decide_eq_true_eq, beq_iff_eq]
    exact ⟨fun e => e.symm, fun e => e.symm⟩
theorem flat_nat (l : List Nat) : (l.map vN).all flatV = true := by
  rw [List.all_map, List.all_eq_true]
  intro i _
  rfl
/-- [pair for pair in pairs if pair[0] in places and pair[1] in places] -/
theorem lc_inside {K : PySem.W.Frag} {σ : L2.St} {H : Hp} {Q : VK} {s jB jt : Nat} {B t : Addr} {us : List V} {P : List (Nat × Nat)} {l : List Nat} (hB : σ[jB]? = some (some (.ref B))) (ht : σ[jt]? = some (some (.ref t))) (hs : jt ≠ s) (hl : s < σ.length) (eB : H B = some (.lst us)) (dB : Prs H us P)
    (hP : P.length ≤ 3600) (et : SqL K H t (l.map vN) ∨ SqT K H t (l.map vN)) (done : ∀ (D : Addr) (H' : Hp) (ws : List V), H D = none → Same H H' → H' D = some (.lst ws) → ws.length = inside P l → Q (.ref D) H') :
    tLc (iList K (tVar jB)) (gName s) (tAnd (tTest (tOp (rIn K false) (tOp (rIxT K) (tVar s) (tC (.int 0))) (tVar jt))) (tTest (tOp (rIn K false) (tOp (rIxT K) (tVar s) (tC (.int 1))) (tVar jt)))) (tVar s) [s] σ H Q := by
  refine ⟨_, hB, B, rfl, ⟨_, SqL.of eB⟩, fun D nD => lc_list (K := K) (a := B) (xs := us) (fun i H' => Same H H' ∧ ∃ ws, H' D = some (.lst ws) ∧ ws.length = inside (P.take i) l) ⟨same_upd nD, [], upd_same, rfl⟩ (fun i H' _ h => SqL.of (h.1 _ _ eB)) ?_ ?_⟩
  · rintro i x H' hi ⟨sm, ws, eD, hw⟩
    obtain ⟨z, q, hz, rfl, hq⟩ := (dB.same sm).at hi
    have e0 : (wipe σ [s]).set s (some (.ref q)) = σ.set s (some (.ref q)) := by simp only [wipe, List.set_set]
    have e1 : (σ.set s (some (V.ref q)))[s]? = some (some (.ref q)) := by rw [List.getElem?_set_self hl]
    have e2 : (σ.set s (some (V.ref q)))[jt]? = some (some (.ref t)) := by rw [List.getElem?_set_ne (fun e => hs e.symm), ht]
    have et' : SqL K H' t (l.map vN) ∨ SqT K H' t (l.map vN) := et.imp (fun h => sm.seq h) (fun h => tup_same sm h)
    have hsn : inside (P.take (i + 1)) l = inside (P.take i) l + if (l.contains z.1 && l.contains z.2) = true then 1 else 0 := by
      unfold inside
      rw [List.take_add_one, hz, List.filter_append, List.length_append]
      congr 1
      simp only [Option.toList_some, List.filter_cons, List.filter_nil]
      split <;> simp_all
    simp only [gName, e0]
    refine ⟨by simp only [wipe, List.set_set], _, e1, q, _, 0, _, rfl, rfl, SqT.of hq, rfl, _, e2, t, _, rfl, et', rfl, flat_nat l, _, rfl, ?_⟩
    rw [if_neg Bool.false_ne_true, inV_nat]
    refine ite2 (fun c1 => ?_) (fun c1 => ?_)
    · refine ⟨_, e1, q, _, 1, _, rfl, rfl, SqT.of hq, rfl, _, e2, t, _, rfl, et', rfl, flat_nat l, _, rfl, ?_⟩
      rw [if_neg Bool.false_ne_true, inV_nat]
      refine ite2 (fun c2 => ?_) (fun c2 => ?_)
      · refine ⟨_, e1, ws, eD, ?_, same_D sm nD, _, upd_same, ?_⟩
        · rw [hw]
          have h1 : inside (P.take i) l ≤ (P.take i).length := List.length_filter_le _ _
          rw [List.length_take] at h1
          exact Nat.lt_of_le_of_lt (show _ ≤ 3600 by omega) (by decide)
        · rw [hsn, c1, c2, List.length_append, hw]
          rfl
      · refine ⟨sm, ws, eD, ?_⟩
        rw [Bool.not_eq_true] at c2
        rw [hsn, c1, c2, hw]
        rfl
    · refine ⟨sm, ws, eD, ?_⟩
      rw [Bool.not_eq_true] at c1
      rw [hsn, c1, hw]
      rfl
  · rintro H' ⟨sm, ws, eD, hw⟩
    rw [List.take_of_length_le (by rw [dB.len]; exact Nat.le_refl _)] at hw
    exact done D H' ws nD sm eD hw
theorem inside_loose {P : List (Nat × Nat)} {l : List Nat} : decide (inside P l = 0) = looseB P l := by
  rw [Bool.eq_iff_iff, decide_eq_true_eq]
  unfold inside looseB
  rw [List.length_eq_zero_iff, List.filter_eq_nil_iff, Bool.not_eq_true', List.any_eq_false]
  constructor
  · intro h x hx
    obtain ⟨i, hi, hx⟩ := List.mem_flatMap.mp hx
    obtain ⟨j, hj, rfl⟩ := List.mem_map.mp hx
    rw [id, decide_eq_true_eq]
    exact fun hm => h _ hm (by simp [hi, hj])
  · rintro h ⟨i, j⟩ hm hc
    simp only [Bool.and_eq_true, List.contains_iff_mem] at hc
    exact h true (List.mem_flatMap.mpr ⟨i, hc.1, List.mem_map.mpr ⟨j, hc.2, by simp [hm]⟩⟩) rfl
theorem eqv_prD (a b : Nat × Nat) : PyData.eqv (Pt.prD a) (Pt.prD b) = decide (a = b) := by
  have := eqvAll_ints [(a.1 : Int), (a.2 : Int)] [(b.1 : Int), (b.2 : Int)]
  show PyData.eqv (.tuple ([(a.1 : Int), (a.2 : Int)].map PyData.int)) (.tuple ([(b.1 : Int), (b.2 : Int)].map PyData.int)) = _
  rw [PyData.eqv, this, Bool.eq_iff_iff, decide_eq_true_eq, decide_eq_true_eq, List.cons.injEq, List.cons.injEq, Prod.ext_iff]
  constructor
  · rintro ⟨h1, h2, _⟩
    exact ⟨by omega, by omega⟩
  · rintro ⟨h1, h2⟩
    exact ⟨by omega, by omega, rfl⟩
theorem any_prD (P : List (Nat × Nat)) (x : Nat × Nat) : ((P.map Pt.prD).any fun z => PyData.eqv z (Pt.prD x)) = decide (x ∈ P) := by
  rw [List.any_map, Bool.eq_iff_iff, List.any_eq_true, decide_eq_true_eq]
  constructor
  · rintro ⟨y, hy, e⟩
    rw [Function.comp, eqv_prD, decide_eq_true_eq] at e
    exact e ▸ hy
  · intro h
    exact ⟨x, h, by rw [Function.comp, eqv_prD, decide_eq_true_eq]⟩
theorem shaped_prD (x : Nat × Nat) : SeqAt.shaped (Pt.prD x) = true := by
  unfold SeqAt.shaped
  simp [Pt.prD, PyData.canLay0, PyData.canLayAll0, PyData.depth, PyData.depthAll]
theorem shaped_prDs (P : List (Nat × Nat)) : SeqAt.shaped (.list (P.map Pt.prD)) = true := by
  unfold SeqAt.shaped
  simp only [PyData.canLay0, PyData.depth]
  rw [Pt.layAll Pt.prD fun p _ => by simp [Pt.prD, PyData.canLay0, PyData.canLayAll0], Bool.true_and]
  refine decide_eq_true ?_
  have := Pt.depAll Pt.prD (n := 1) (ps := P) fun p hp => by simp [Pt.prD, PyData.depth, PyData.depthAll]
  omega
theorem zip_at {l : List Nat} {i : Nat} (h : i + 1 < l.length) : (l.zip (l.drop 1))[i]? = some (l[i], l[i + 1]) := by
  rw [List.getElem?_zip_eq_some, List.getElem?_drop]
  exact ⟨List.getElem?_eq_getElem (by omega), by rw [Nat.add_comm, List.getElem?_eq_getElem h]⟩
section
variable {P : Program} {w : World} {K : PySem.W.Frag} {mg : Str → Option Value} {base : Heap}
theorem sc__law_are_places : FnScope ["many", "value", "place"] ["many", "value"] (defScope s__law_are_places) := ⟨rfl, rfl, rfl, by decide +kernel, rfl, by decide +kernel, by decide +kernel⟩
theorem ok__law_are_places {f : Addr} {fd : FuncData} (F : Fun K "_law_are_places" "_law_are_places" s__law_are_places f fd) (c__law_whole : Cl P w K mg base 1 "_law_whole" (spWhole K)) (b_isinstance : mg "isinstance" = none) (b_tuple : mg "tuple" = none) (b_all : mg "all" = none) (b_len : mg "len" = none) (b_set : mg "set" = none) : FnOk P w K mg base CX0 2 f fd ["many", "value"] (spLAre K) := by
  have nd := sc__law_are_places.nd
  refine F.ok sc__law_are_places (fun vs H Q E h => ?_) (fun cdv A outer s H vs Q E hr h => ?_)
  · obtain ⟨n, u, d, rfl, _⟩ := h
    rfl
  obtain ⟨n, u, d, rfl, hn, hu1, tm, q⟩ := h
  refine ⟨_, (pss_cons (ps_if (PW.pt (pw_or (pt_not (pt_val (pe_callB (call_isK (K := K) rfl) (by rfl) b_isinstance (by decide +kernel) (pa_cons (pv 1) (pa_cons (pe_bltn (v := .ty "tuple") (by rfl) b_tuple (by decide +kernel) rfl) pa_nil))))) (pw_or1 (pt_not (pt_val (pe_callB (cr_allK (K := K) rfl rfl) (by rfl) b_all (by decide +kernel) (pa_cons (pe_lc (own := [("place", 2)]) rfl nd (pi_tup (pv 1)) (blkOk_by (N := ["many", "value", "place"]) (sc := defScope s__law_are_places) (by decide +kernel)) (fun _ _ _ _ _ => (pg_name (i := 2) nd rfl (.inl rfl))) (fun _ _ _ _ _ => pts_nil) (fun _ _ _ _ _ => (pe_and (pcl c__law_whole hr (by omega) (pa_cons (pv 2) pa_nil)) (pe_one (pe_chain op_le op_lt pe_int (pv 2) (pv 0)))))) pa_nil))))))) (pss_one (ps_ret pe_bl)) pss_nil)
  (pss_one (ps_ret (pe_cmpR op_eq (pe_callB R.cr_lenSet (by rfl) b_len (by decide +kernel) (pa_cons (pe_callTy (R.cr_setI rfl) (by rfl) b_set (by decide +kernel) (pa_cons (pv 1) pa_nil)) pa_nil)) (pe_callB (call_lenK (K := K) rfl) (by rfl) b_len (by decide +kernel) (pa_cons (pv 1) pa_nil)) (nomark _))))), ?_⟩
  walk_at "sx"
  refine isi_tup hu1 ⟨_, rfl, ?_⟩
  cases htb : isTup d with
  | false =>
    refine iteT ?_
    have := q H (.refl _)
    rw [plL_not htb] at this
    exact this
  | true =>
  obtain ⟨ds, rfl⟩ : ∃ ds, d = .tuple ds := by
    cases d with
    | tuple ds => exact ⟨ds, rfl⟩
    | _ => cases htb
  obtain ⟨t, us, rfl, hs, ha⟩ := dp_tup hu1
  have hul := DpAll.length ha
  obtain ⟨hl, tmd⟩ : ds.length ≤ 1000 ∧ ∀ d ∈ ds, Tm d := by
    cases tm with
    | tup _ l h => exact ⟨l, h⟩
  have hq : ∀ H', Same H H' → ∀ b : Bool, (plL (n) (.tuple ds)).isSome = b → Q (.bl b) H' := fun H' sm b e => e ▸ q H' sm
  refine iteF (lc_vt rfl hs (by omega) (ds.map fun d => .bool (plN (n) d).isSome) (by rw [List.length_map, hul]) (fun d hd => by
    obtain ⟨e, _, rfl⟩ := List.mem_map.mp hd
    exact .bl _) ?_ ?_)
  · intro i x d hx hd H' R sm hR
    obtain ⟨e, he, hxe⟩ := DpAll.at ha hx
    rw [List.getElem?_map, he] at hd
    obtain rfl := Option.some.inj hd
    walk_at "sx"
    refine ⟨x, e, rfl, L2.Dp.same sm hxe, ?_⟩
    have hR' := fun b (h : (plN (n) e).isSome = b) => hR (.bl b) H' (.refl _) (h ▸ .bl _)
    cases e with
    | int z =>
      cases hxe
      refine ⟨_, rfl, iteT ⟨z, rfl, ite2 (fun c1 => ⟨z, rfl, hR' _ ?_⟩) (fun c1 => hR' false ?_)⟩⟩
      · rw [decide_eq_true_eq] at c1
        unfold plN
        by_cases c2 : z < (n : Int)
        · simp [c1, c2]
        · simp [c2]
      · rw [decide_eq_true_eq] at c1
        unfold plN
        simp [c1]
    | _ => exact ⟨_, rfl, iteF (hR' false rfl)⟩
  intro D H2 vs nD s2 eD dv
  have e := dp_bools dv
  subst e
  refine ⟨D, ds.map fun d => (plN (n) d).isSome, rfl, SqL.of eD, _, rfl, ?_⟩
  rw [List.all_map]
  cases hall : ds.all (id ∘ fun d => (plN (n) d).isSome) with
  | false =>
    refine iteT (hq _ s2 false ?_)
    rw [plL_tup, mapO_none hall]
    rfl
  | true =>
  obtain ⟨l, hm⟩ := mapO_ex hall
  have el := (plN_map hm).1
  subst el
  have e := dp_ints (g := fun i : Nat => (i : Int)) ha
  subst e
  refine iteF ⟨t, l.map fun i : Nat => (i : Int), rfl, tup_same s2 hs, ?_, fun p3 c n3 hc1 hc2 => ⟨p3, _, c, rfl, upd_same, ?_, _, len_t (tup_same (same_upd n3) (tup_same s2 hs)) rfl, rfl, hq _ (s2.trans (same_upd n3)) _ ?_⟩⟩
  · rw [List.length_map] at hl ⊢
    omega
  · rw [List.length_map] at hl hc1
    omega
  · rw [plL_tup, hm]
    have hn : (l.map fun i : Nat => (i : Int)).Nodup ↔ l.Nodup := by
      unfold List.Nodup
      rw [List.pairwise_map]
      exact ⟨fun h => h.imp fun hne e => hne (by rw [e]), fun h => h.imp fun hne e => hne (by omega)⟩
    rw [hn, List.length_map] at hc2
    have e : decide (V.int (c : Int) = V.int (((l.map fun i : Nat => (i : Int)).map V.int).length : Nat)) = decide l.Nodup := by
      rw [Bool.eq_iff_iff, decide_eq_true_eq, decide_eq_true_eq, ← hc2, List.length_map, List.length_map, V.int.injEq]
      omega
    rw [e]
    by_cases c3 : l.Nodup <;> simp [c3]

theorem sc__law_loose : FnScope ["pairs", "places", "pair"] ["pairs", "places"] (defScope s__law_loose) := ⟨rfl, rfl, rfl, by decide +kernel, rfl, by decide +kernel, by decide +kernel⟩
theorem ok__law_loose {f : Addr} {fd : FuncData} (F : Fun K "_law_loose" "_law_loose" s__law_loose f fd)  : FnOk P w K mg base CX0 1 f fd ["pairs", "places"] (spLLoose K) := by
  have nd := sc__law_loose.nd
  refine F.ok sc__law_loose (fun vs H Q E h => ?_) (fun cdv A outer s H vs Q E hr h => ?_)
  · obtain ⟨B, t, us, P, l, rfl, _⟩ := h
    rfl
  obtain ⟨B, t, us, P, l, rfl, eB, dB, hP, ht, hl, q⟩ := h
  refine ⟨_, (pss_one (ps_ret (pe_cmpR (op_eqNil hr.units0) (pe_lc (own := [("pair", 2)]) rfl nd (pi_listK (K := K) rfl (pv 0)) (blkOk_by (N := ["pairs", "places", "pair"]) (sc := defScope s__law_loose) (by decide +kernel)) (fun _ _ _ _ _ => (pg_name (i := 2) nd rfl (.inl rfl))) (fun _ _ _ _ _ => (pts_one (PW.pt (pw_and (pt_cmpR (R.op_in_seqK (K := K) rfl) (pe_ix (ix_tupK (K := K) rfl) (pv 2) pe_int (fun _ _ => rfl)) (pv 1) (by rfl)) (pw_and1 (pt_cmpR (R.op_in_seqK (K := K) rfl) (pe_ix (ix_tupK (K := K) rfl) (pv 2) pe_int (fun _ _ => rfl)) (pv 1) (by rfl))))))) (fun _ _ _ _ _ => (pv 2))) (pe_lst pa_nil) (nomark _)))), ?_⟩
  walk_at "sx"
  refine lc_inside rfl rfl (by decide) (by simp) eB dB hP ht fun D H' ws nD sm eD hw => ⟨by decide, fun p np => ⟨D, p, ws, rfl, rfl, SqL.of ((same_upd np) _ _ eD), SqL.of upd_same, ?_⟩⟩
  rw [if_neg Bool.false_ne_true]
  have e : decide (ws = []) = looseB P l := by
    rw [← inside_loose, ← hw, Bool.eq_iff_iff, decide_eq_true_eq, decide_eq_true_eq, List.length_eq_zero_iff]
  rw [e]
  exact q _ (sm.trans (same_upd np))
theorem sc__law_chain : FnScope ["pairs", "places", "k"] ["pairs", "places"] (defScope s__law_chain) := ⟨rfl, rfl, rfl, by decide +kernel, rfl, by decide +kernel, by decide +kernel⟩
theorem ok__law_chain {f : Addr} {fd : FuncData} (F : Fun K "_law_chain" "_law_chain" s__law_chain f fd) (b_all : mg "all" = none) (b_len : mg "len" = none) (b_range : mg "range" = none) : FnOk P w K mg base CX0 1 f fd ["pairs", "places"] (spLChain K) := by
  have nd := sc__law_chain.nd
  refine F.ok sc__law_chain (fun vs H Q E h => ?_) (fun cdv A outer s H vs Q E hr h => ?_)
  · obtain ⟨B, t, us, P, l, rfl, _⟩ := h
    rfl
  obtain ⟨B, t, us, P, l, rfl, eB, dB, hP, ht, hl, q⟩ := h
  refine ⟨_, (pss_one (ps_ret (pe_callB (cr_allK (K := K) rfl rfl) (by rfl) b_all (by decide +kernel) (pa_cons (pe_lc (own := [("k", 2)]) rfl nd (pi_range2 (by rfl) b_range (pa_cons pe_int (pa_cons (pe_callB (call_lenK (K := K) rfl) (by rfl) b_len (by decide +kernel) (pa_cons (pv 1) pa_nil)) pa_nil))) (blkOk_by (N := ["pairs", "places", "k"]) (sc := defScope s__law_chain) (by decide +kernel)) (fun _ _ _ _ _ => (pg_name (i := 2) nd rfl (.inl rfl))) (fun _ _ _ _ _ => pts_nil) (fun _ _ _ _ _ => (pe_cmpR (R.op_inDK (K := K) rfl (R.units65 hr)) (pe_tup (pa_cons (pe_ix (ix_tupK (K := K) rfl) (pv 1) (pe_op op_sub (pv 2) pe_int) (fun _ _ => rfl)) (pa_cons (pe_ix (ix_tupK (K := K) rfl) (pv 1) (pv 2) (fun _ _ => rfl)) pa_nil))) (pv 0) (by rfl)))) pa_nil)))), ?_⟩
  walk_at "sx"
  have hzl : (l.zip (l.drop 1)).length = l.length - 1 := by
    rw [List.length_zip, List.length_drop]
    omega
  refine ⟨_, rfl, _, rfl, _, len_t ht rfl, 1, _, rfl, ⟨by decide, by decide, by rw [List.length_map]; omega, by rw [List.length_map]; omega⟩, fun D nD => lc_range (lo := 1) (fun i H' => Same H H' ∧ H' D = some (.lst (((l.zip (l.drop 1)).take i).map fun x => V.bl (decide (x ∈ P))))) ⟨same_upd nD, upd_same⟩ ?_ ?_⟩
  · rintro i H' hi ⟨sm, eD⟩
    rw [List.length_map] at hi
    have hi2 : i + 1 < l.length := by omega
    walk_at "sx"
    have ez : (l.zip (l.drop 1)).take (i + 1) = (l.zip (l.drop 1)).take i ++ [(l[i], l[i + 1])] := by
      rw [List.take_add_one, zip_at hi2]
      rfl
    have at1 : ∀ (H'' : Hp) (j : Nat) (hj : j < l.length) (R : VK), Same H H'' → R (vN l[j]) H'' → ∀ k : Int, k = j → rIxT K (.ref t) (.int k) H'' R := fun H'' j hj R s q k e => by
      subst e
      exact ixt (tup_same s ht) (atI_nat (by rw [List.getElem?_map, List.getElem?_eq_getElem hj, Option.map_some])) q
    refine at1 _ i (by omega) _ sm (at1 _ (i + 1) hi2 _ sm ⟨by decide, fun p np => ?_⟩ _ (by omega)) _ (by omega)
    have f := same_upd (o := .tup [vN l[i], vN l[i + 1]]) np
    refine ⟨Pt.prD (l[i], l[i + 1]), P.map Pt.prD, .tup (SqT.of upd_same) (.cons (.int _) (.cons (.int _) .nil)), .lst (SqL.of (f _ _ (sm _ _ eB))) ((dB.same sm).same f).dp, shaped_prD _, shaped_prDs _, ?_⟩
    rw [any_prD]
    refine ⟨_, f _ _ eD, ?_, same_D (sm.trans f) nD, ?_⟩
    · rw [List.length_map, List.length_take]
      exact small1000 (by omega)
    · rw [ez, List.map_append]
      rfl
  · rintro H' ⟨sm, eD⟩
    have eT : (l.zip (l.drop 1)).take (((l.map vN).length : Int) - 1).toNat = l.zip (l.drop 1) := List.take_of_length_le (by rw [hzl, List.length_map]; omega)
    rw [eT] at eD
    walk_at "sx"
    refine ⟨D, (l.zip (l.drop 1)).map fun x => decide (x ∈ P), rfl, SqL.of (by rw [List.map_map]; exact eD), ?_⟩
    rw [List.all_map]
    exact q _ sm
end

end Z

set_option Elab.async false
set_option linter.all false
set_option maxRecDepth 100000
set_option maxHeartbeats 4000000

namespace Z
open PySem PySem.Spec PyProof.Rows L2 Z.R
local macro_rules | `(tactic| walk_at "sx") => `(tactic| try simp only [and_assoc, cxOf_K, cxOf_Kn, C8.tCut, rEq, rNe, sc_ii, sc_ss, sc_bb, sc_is, sc_si, sc_bs, sc_sb, tSeq, tAsg, tPar, tPar3, tC, gName, gNil, gCons, gTup, gSub, rSetL, L2.start, tVar, tOp, tUn, rI0, rI, rU, tTest, tChain, tOrV, tAndV, tNotV, tCB, tCons, tNil, tLst, tTup, tIfS, tNext, tRet, tRetN, tDrop, tAnd, tOr, tNot, tB, tIf, tSl, tFld, sFld, putF, tNoPart, tPart, rSlL, tBM, tBM0, rAppend, rPop, rExtend, tCall, tMeth, tLstRg, tRg1, tRg2, List.map_cons, List.map_nil, List.replicate, List.length_cons, List.length_nil, List.append, List.cons_append, List.nil_append, List.append_nil, List.getElem?_cons_zero, List.getElem?_cons_succ, List.set_cons_zero, List.set_cons_succ, Option.some.injEq, exists_eq_left', exists_eq_left, exists_eq, exists_and_left, exists_const, wipe, tYes, upd_same, ↓reduceIte, decide_false, decide_true, Bool.not_true, Bool.not_false, Bool.false_eq_true, V.int.injEq, HO.lst.injEq, HO.tup.injEq, V.ref.injEq, V.str.injEq, one_inj, le_a, le_z, le_0, le_9, mem_let, mem_dig, V.bl.injEq, List.cons.injEq, and_true, true_and, reduceCtorEq, false_and, exists_false, or_false, false_or])
theorem R.op_neDK {X : Cx} {K : PySem.W.Frag} (h : X.K = K) (hu : X.A.units + 64 < cLine) : OpR X (compareOp .NotEq) (rNeD K) := h ▸ op_neD hu
def spRight (K : PySem.W.Frag) : Sp := fun vs H Q _ => ∃ (v u : V) (p : Pt Str) (e : PyData) (k : Bool), vs = [v, u, .int (if k then 1 else 0)] ∧ Dp K H v (Pt.enc .str p) ∧ Pt.Okc p ∧ Dp K H u e ∧ Tm e ∧ ∀ H', Same H H' → Q (.bl (rightB k (Pt.cnt p) (Pt.told p 0) e)) H'
theorem eqv_dN_nil (l : List Nat) : PyData.eqv (dN l) (.tuple []) = decide (l = []) := by
  cases l with
  | nil => simp [dN, PyData.eqv, PyData.eqvAll]
  | cons i l => simp [dN, PyData.eqv, PyData.eqvAll]
theorem shaped_dN9 (l : List Nat) : SeqAt.shaped (dN l) = true := by
  unfold SeqAt.shaped dN
  simp only [PyData.canLay0, PyData.depth]
  rw [Pt.layAll (fun i : Nat => PyData.int (i : Nat)) fun p _ => rfl, Bool.true_and]
  refine decide_eq_true ?_
  have := Pt.depAll (fun i : Nat => PyData.int (i : Nat)) (n := 0) (ps := l) fun p hp => Nat.le_refl _
  omega
section
variable {P : Program} {w : World} {K : PySem.W.Frag} {mg : Str → Option Value} {base : Heap}
theorem sc__law_right : FnScope ["party", "value", "kind", "names", "pairs", "lot", "every"] ["party", "value", "kind"] (defScope s__law_right) := ⟨rfl, rfl, rfl, by decide +kernel, rfl, by decide +kernel, by decide +kernel⟩
theorem ok__law_right {f : Addr} {fd : FuncData} (F : Fun K "_law_right" "_law_right" s__law_right f fd) (c__law_pairs : Cl P w K mg base 63 "_law_pairs" (spPairs K 31)) (c__law_are_places : Cl P w K mg base 2 "_law_are_places" (spLAre K)) (c__law_chain : Cl P w K mg base 1 "_law_chain" (spLChain K)) (c__law_loose : Cl P w K mg base 1 "_law_loose" (spLLoose K)) (b_isinstance : mg "isinstance" = none) (b_tuple : mg "tuple" = none) (b_len : mg "len" = none) (b_all : mg "all" = none) (b_list : mg "list" = none) (b_range : mg "range" = none) (b_sorted : mg "sorted" = none) : FnOk P w K mg base CX0 64 f fd ["party", "value", "kind"] (spRight K) := by
  have nd := sc__law_right.nd
  refine F.ok sc__law_right (fun vs H Q E h => ?_) (fun cdv A outer s H vs Q E hr h => ?_)
  · obtain ⟨v, u, p, e, k, rfl, _⟩ := h
    rfl
  obtain ⟨v, u, p, e, k, rfl, hv, ho, hu, tme, q⟩ := h
  refine ⟨_, (pss_cons (ps_asg (pcl c__law_pairs hr (by omega) (pa_cons (pv 0) pa_nil)) (pg_tupK (K := K) rfl (n := 2) (by rfl) (pgs_cons (pg_name (i := 3) nd rfl (.inr rfl)) (pgs_cons (pg_name (i := 4) nd rfl (.inr rfl)) pgs_nil))))
  (pss_cons (ps_if (PW.pt (pw_or (pt_not (pt_val (pe_callB (call_isK (K := K) rfl) (by rfl) b_isinstance (by decide +kernel) (pa_cons (pv 1) (pa_cons (pe_bltn (v := .ty "tuple") (by rfl) b_tuple (by decide +kernel) rfl) pa_nil))))) (pw_or (pt_cmpR op_ne (pe_callB (call_lenK (K := K) rfl) (by rfl) b_len (by decide +kernel) (pa_cons (pv 1) pa_nil)) pe_int (nomark _)) (pw_or (pt_not (pt_val (pe_callB (call_isK (K := K) rfl) (by rfl) b_isinstance (by decide +kernel) (pa_cons (pe_ix (ix_tupK (K := K) rfl) (pv 1) pe_int (fun _ _ => rfl)) (pa_cons (pe_bltn (v := .ty "tuple") (by rfl) b_tuple (by decide +kernel) rfl) pa_nil))))) (pw_or1 (pt_not (pt_val (pcl c__law_are_places hr (by omega) (pa_cons (pe_callB (call_lenK (K := K) rfl) (by rfl) b_len (by decide +kernel) (pa_cons (pv 3) pa_nil)) (pa_cons (pe_ix (ix_tupK (K := K) rfl) (pv 1) pe_int (fun _ _ => rfl)) pa_nil)))))))))) (pss_one (ps_ret pe_bl)) pss_nil)
  (pss_cons (ps_if (PW.pt (pw_or (pt_not (pt_val (pe_callB (cr_allK (K := K) rfl rfl) (by rfl) b_all (by decide +kernel) (pa_cons (pe_lc (own := [("lot", 5)]) rfl nd (pi_tup (pe_ix (ix_tupK (K := K) rfl) (pv 1) pe_int (fun _ _ => rfl))) (blkOk_by (N := ["party", "value", "kind", "names", "pairs", "lot", "every"]) (sc := defScope s__law_right) (by decide +kernel)) (fun _ _ _ _ _ => (pg_name (i := 5) nd rfl (.inl rfl))) (fun _ _ _ _ _ => pts_nil) (fun _ _ _ _ _ => (pe_and (pcl c__law_are_places hr (by omega) (pa_cons (pe_callB (call_lenK (K := K) rfl) (by rfl) b_len (by decide +kernel) (pa_cons (pv 3) pa_nil)) (pa_cons (pv 5) pa_nil))) (pe_one (pe_cmpR (R.op_neDK (K := K) rfl hr.units) (pv 5) (pe_tup pa_nil) (nomark _)))))) pa_nil)))) (pw_or1 (pt_cmpR op_ne (pe_callB (call_lenK (K := K) rfl) (by rfl) b_len (by decide +kernel) (pa_cons (pe_ix (ix_tupK (K := K) rfl) (pv 1) pe_int (fun _ _ => rfl)) pa_nil)) (pe_callB (call_lenK (K := K) rfl) (by rfl) b_len (by decide +kernel) (pa_cons (pe_ix (ix_tupK (K := K) rfl) (pv 1) pe_int (fun _ _ => rfl)) pa_nil)) (nomark _))))) (pss_one (ps_ret pe_bl)) pss_nil)
  (pss_cons (ps_set (i := 6) nd rfl (.inl rfl) (pe_lst pa_nil))
  (pss_cons (ps_for PassesOwn.never rfl (pi_tup (pe_ix (ix_tupK (K := K) rfl) (pv 1) pe_int (fun _ _ => rfl))) (pg_name (i := 5) nd rfl (.inl rfl))
    (pss_one (ps_set (i := 6) nd rfl (.inl rfl) (pe_op op_cat (pv 6) (pe_callTy call_list_of (by rfl) b_list (by decide +kernel) (pa_cons (pv 5) pa_nil))))))
  (pss_cons (ps_if (pt_cmpR (op_neD hr.units) (pe_callB cr_sortedI (by rfl) b_sorted (by decide +kernel) (pa_cons (pv 6) pa_nil)) (pe_listRg rfl (by rfl) b_list (prg_1 (by rfl) b_range (pe_callB (call_lenK (K := K) rfl) (by rfl) b_len (by decide +kernel) (pa_cons (pv 3) pa_nil)))) (nomark _)) (pss_one (ps_ret pe_bl)) pss_nil)
  (pss_cons (ps_if (pt_cmpR op_eq (pv 2) pe_int (nomark _)) (pss_one (ps_ret (pe_and (pe_callB (cr_allK (K := K) rfl rfl) (by rfl) b_all (by decide +kernel) (pa_cons (pe_lc (own := [("lot", 5)]) rfl nd (pi_tup (pe_ix (ix_tupK (K := K) rfl) (pv 1) pe_int (fun _ _ => rfl))) (blkOk_by (N := ["party", "value", "kind", "names", "pairs", "lot", "every"]) (sc := defScope s__law_right) (by decide +kernel)) (fun _ _ _ _ _ => (pg_name (i := 5) nd rfl (.inl rfl))) (fun _ _ _ _ _ => pts_nil) (fun _ _ _ _ _ => (pcl c__law_chain hr (by omega) (pa_cons (pv 4) (pa_cons (pv 5) pa_nil))))) pa_nil)) (pe_one (pcl c__law_loose hr (by omega) (pa_cons (pv 4) (pa_cons (pe_ix (ix_tupK (K := K) rfl) (pv 1) pe_int (fun _ _ => rfl)) pa_nil))))))) pss_nil)
  (pss_one (ps_ret (pe_and (pe_callB (cr_allK (K := K) rfl rfl) (by rfl) b_all (by decide +kernel) (pa_cons (pe_lc (own := [("lot", 5)]) rfl nd (pi_tup (pe_ix (ix_tupK (K := K) rfl) (pv 1) pe_int (fun _ _ => rfl))) (blkOk_by (N := ["party", "value", "kind", "names", "pairs", "lot", "every"]) (sc := defScope s__law_right) (by decide +kernel)) (fun _ _ _ _ _ => (pg_name (i := 5) nd rfl (.inl rfl))) (fun _ _ _ _ _ => pts_nil) (fun _ _ _ _ _ => (pcl c__law_loose hr (by omega) (pa_cons (pv 4) (pa_cons (pv 5) pa_nil))))) pa_nil)) (pe_one (pcl c__law_chain hr (by omega) (pa_cons (pv 4) (pa_cons (pe_ix (ix_tupK (K := K) rfl) (pv 1) pe_int (fun _ _ => rfl)) pa_nil)))))))))))))), ?_⟩
  walk_at "sx"
  refine ⟨v, p, rfl, hv, ho, by have := ho.1.2; omega, fun t N B us H1 s1 nN nB st eN eB dB => ⟨t, rfl, _, st, rfl, _, _, rfl, _, _, rfl, rfl, ?_⟩⟩
  have hc : ((Pt.names p).map V.str).length = Pt.cnt p := by rw [List.length_map, Pt.names_len]
  have hu1 := L2.Dp.same s1 hu
  have hcc := ho.2
  have hP : (Pt.told p 0).length ≤ 3600 := Nat.le_trans (Pt.told_len _ _) (Nat.mul_le_mul hcc hcc)
  have qa := fun H' (b : Bool) (s : Same H1 H') (e : rightB k (Pt.cnt p) (Pt.told p 0) _ = b) => (e ▸ q H' (s1.trans s) : Q (.bl b) H')
  refine isi_tup hu1 ⟨_, rfl, ?_⟩
  by_cases c2 : shapeD 2 e = true
  case neg =>
    have h0 := right_not2 (k := k) (n := Pt.cnt p) (P := Pt.told p 0) (d := e) fun a b h => c2 (by rw [h]; rfl)
    cases htb : isTup e with
    | false => exact iteT (qa H1 false (.refl H1) h0)
    | true =>
      obtain ⟨ds, rfl⟩ : ∃ ds, e = .tuple ds := by
        cases e with
        | tuple ds => exact ⟨ds, rfl⟩
        | _ => cases htb
      obtain ⟨t2, us, rfl, hs2, ha⟩ := dp_tup hu1
      refine iteF ⟨_, len_t hs2 rfl, ite2 (fun _ => qa H1 false (.refl H1) h0) (fun c => ?_)⟩
      exfalso
      have hul := DpAll.length ha
      simp only [Bool.not_eq_true, Bool.not_eq_eq_eq_not, Bool.not_false, Bool.not_true, decide_eq_true_eq] at c
      simp only [Bool.not_eq_false, decide_eq_true_eq] at c
      refine c2 ?_
      match ds, (show ds.length = 2 by omega) with
      | [_, _], _ => rfl
  obtain ⟨x, y, rfl⟩ := shape2 c2
  obtain ⟨t0, vx, vy, rfl, hs, hx, hy⟩ := dp2d hu1
  have tmx : Tm x ∧ Tm y := by
    cases tme with
    | tup _ l h => exact ⟨h x (List.mem_cons_self ..), h y (List.mem_cons_of_mem _ (List.mem_cons_self ..))⟩
  refine iteF ⟨_, len_t hs rfl, iteF (ixt hs rfl (isi_tup hx ⟨_, rfl, ?_⟩))⟩
  cases htb : isTup x with
  | false => exact iteT (qa H1 false (.refl H1) (right_notT htb))
  | true =>
  obtain ⟨ds, rfl⟩ : ∃ ds, x = .tuple ds := by
    cases x with
    | tuple ds => exact ⟨ds, rfl⟩
    | _ => cases htb
  obtain ⟨t2, us2, rfl, hs2, ha⟩ := dp_tup hx
  have hul := DpAll.length ha
  obtain ⟨hdl, tmds⟩ : ds.length ≤ 1000 ∧ ∀ d ∈ ds, Tm d := by
    cases tmx.1 with
    | tup _ l h => exact ⟨l, h⟩
  refine iteF ⟨_, len_l eN hc.symm, ixt hs rfl ⟨Pt.cnt p, vy, y, rfl, hcc, hy, tmx.2, fun H2 s2 => ⟨_, rfl, ?_⟩⟩⟩
  have qb := fun H' (b : Bool) (s : Same H2 H') e => qa H' b (s2.trans s) e
  have hs_2 := tup_same s2 hs
  have hs2_2 := tup_same s2 hs2
  have ha2 := L2.DpAll.same s2 ha
  have eN2 := s2 _ _ eN
  cases hrow : plL (Pt.cnt p) y with
  | none => exact iteT (qb H2 false (.refl H2) (right_norow hrow))
  | some row =>
  refine iteF (lc_ix rfl hs_2 rfl hs2_2 (by omega) (ds.map fun d => .bool (lotN (Pt.cnt p) d).isSome) (by rw [List.length_map, hul]) (fun d hd => by
    obtain ⟨e, _, rfl⟩ := List.mem_map.mp hd
    exact .bl _) ?_ ?_)
  · intro i x d hx hd H' R sm hR
    obtain ⟨e, he, hxe⟩ := DpAll.at ha2 hx
    rw [List.getElem?_map, he] at hd
    obtain rfl := Option.some.inj hd
    walk_at "sx"
    refine ⟨_, len_l (sm _ _ eN2) hc.symm, Pt.cnt p, x, e, rfl, hcc, L2.Dp.same sm hxe, tmds e (List.mem_of_getElem? he), fun H3 s3 => ⟨_, rfl, ?_⟩⟩
    have hR' := fun (b : Bool) (h : (lotN (Pt.cnt p) e).isSome = b) (H'' : Hp) (s : Same H' H'') => hR (.bl b) H'' s (h ▸ .bl _)
    cases hl : plL (Pt.cnt p) e with
    | none => exact iteF (hR' false (by unfold lotN; rw [hl]; rfl) _ s3)
    | some l =>
      obtain ⟨rfl, _⟩ := plL_ok hl
      have hd3 := L2.Dp.same (sm.trans s3) hxe
      refine iteT ⟨by decide, fun p5 n5 => ⟨dN l, .tuple [], L2.Dp.same (same_upd n5) hd3, .tup (SqT.of upd_same) .nil, shaped_dN9 l, by decide +kernel, ?_⟩⟩
      rw [eqv_dN_nil]
      refine hR' _ ?_ _ (s3.trans (same_upd n5))
      unfold lotN
      rw [hl]
      cases l with
      | nil => rfl
      | cons i l => simp
  intro D H3 vs nD s3 eD dv
  have e := dp_bools dv
  subst e
  refine ⟨D, ds.map fun d => (lotN (Pt.cnt p) d).isSome, rfl, SqL.of eD, _, rfl, ?_⟩
  rw [List.all_map]
  cases hall : ds.all (id ∘ fun d => (lotN (Pt.cnt p) d).isSome) with
  | false => exact iteT (qb H3 false s3 (right_nolots (mapO_none hall)))
  | true =>
  obtain ⟨lots, hm⟩ := mapO_ex hall
  have hlots := lotN_map hm
  obtain ⟨rfl, hlt⟩ := hlots
  have qc := fun H' (b : Bool) (s : Same H3 H') => qb H' b (s3.trans s)
  rw [right_eq hrow hm] at qc
  have hs_3 := tup_same s3 hs_2
  have hs2_3 := tup_same s3 hs2_2
  have ha3 := L2.DpAll.same s3 ha2
  have hy3 := L2.Dp.same (s2.trans s3) hy
  have eN3 := s3 _ _ eN2
  have eB3 := (s2.trans s3) _ _ eB
  have dB3 := dB.same (s2.trans s3)
  have hll : us2.length = lots.length := by rw [hul, List.length_map]
  rw [List.length_map] at hdl
  have h60 : ∀ c ∈ lots, c.length ≤ 60 := fun c hc => Nat.le_trans (nodup_lt (hlt c hc).2.1 (hlt c hc).1) hcc
  obtain ⟨rfl, hrw1, hrw2⟩ := plL_ok hrow
  have hrow60 := Nat.le_trans (nodup_lt hrw2 hrw1) hcc
  obtain ⟨t5, rfl, hs5⟩ := dp_dN hy3
  have el : decide ((us2.length : Int) = ((row.map fun i : Nat => V.int (i : Nat)).length : Int)) = decide (lots.length = row.length) := by
    rw [hll, List.length_map, Bool.eq_iff_iff, decide_eq_true_eq, decide_eq_true_eq]
    omega
  refine iteF (ixt hs_3 rfl ⟨_, len_t hs2_3 rfl, ixt hs_3 rfl ⟨_, len_t hs5 rfl, ?_⟩⟩)
  rw [el]
  cases hlen : decide (lots.length = row.length) with
  | false =>
    rw [hlen] at qc
    exact iteT (qc _ false (.refl _) (by simp))
  | true =>
  rw [hlen] at qc
  refine iteF ⟨by decide, fun F0 nF0 => ?_⟩
  have hflat : ∀ i, ((lots.take i).flatten).length ≤ 60000 := fun i => by
    have h1 : ((lots.take i).flatten).length ≤ (lots.take i).length * 60 := flat_bound fun c hc => h60 c (List.mem_of_mem_take hc)
    rw [List.length_take] at h1
    have : min i lots.length * 60 ≤ 1000 * 60 := Nat.mul_le_mul_right _ (by omega)
    omega
  have f0 := same_upd (o := .lst []) nF0
  refine ⟨_, rfl, t0, _, 0, _, rfl, rfl, tup_same f0 hs_3, rfl, t2, rfl, ⟨us2, tup_same f0 hs2_3⟩, for_tup (K := K) (a := t2) (xs := us2) (fun i σ H' => ∃ (F : Addr) (x5 : Option V), σ = [some v, some (.ref t0), some (.int (if k = true then 1 else 0)), some (.ref N), some (.ref B), x5, some (.ref F)] ∧ Same H3 H' ∧ H' F = some (.lst ((lots.take i).flatten.map vN)))
    ⟨F0, none, rfl, f0, upd_same⟩ (fun i σ H' _ ⟨_, _, _, sm, _⟩ => tup_same sm hs2_3) ?_ ?_⟩
  · rintro i x σ H4 hx ⟨F, x5, rfl, sm, eF⟩
    obtain ⟨d, hd, hxd⟩ := DpAll.at ha3 hx
    rw [List.getElem?_map] at hd
    cases hc : lots[i]? with
    | none =>
      rw [hc] at hd
      cases hd
    | some c =>
    rw [hc] at hd
    obtain rfl := Option.some.inj hd
    obtain ⟨t3, rfl, hs3⟩ := dp_dN (L2.Dp.same sm hxd)
    walk_at "sx"
    have e1 : (lots.take (i + 1)).flatten = (lots.take i).flatten ++ c := flat_take hc
    have hz := hflat (i + 1)
    rw [e1, List.length_append] at hz
    refine ⟨_, .inr hs3, fun l nl => ⟨F, l, _, _, rfl, rfl, (same_upd nl) _ _ eF, upd_same, ?_, fun F2 nF2 => ⟨F2, rfl, sm.trans ((same_upd nl).trans (same_upd nF2)), ?_⟩⟩⟩
    · rw [List.length_map, List.length_map]
      exact Nat.le_trans hz (by decide)
    · rw [upd_same, e1, List.map_append]
      rfl
  · rintro σ H4 ⟨F, x5, rfl, sm, eF⟩
    rw [hll, List.take_of_length_le (Nat.le_refl _)] at eF
    walk_at "sx"
    refine ⟨F, lots.flatten.map fun i : Nat => (i : Int), rfl, by rw [List.map_map]; exact SqL.of eF, fun ns' p6 pm rs n6 => ?_⟩
    have f6 := same_upd (o := .lst (ns'.map V.int)) n6
    have e6 := upd_same (H := H4) (a := p6) (o := .lst (ns'.map V.int))
    have s7 := sm.trans f6
    generalize upd H4 p6 (.lst (ns'.map V.int)) = H7 at e6 s7 ⊢
    refine ⟨_, len_l (s7 _ _ eN3) hc.symm, RgOk.of_le (by omega) (by omega) (by omega) (by omega), fun q9 n9 => ?_⟩
    have f9 := same_upd (o := .lst (rgV 0 (Pt.cnt p : Int))) n9
    have erg : rgV 0 (Pt.cnt p : Int) = ((List.range' 0 (Pt.cnt p)).map fun i : Nat => (i : Int)).map V.int := by
      have := rgV_nat 0 (Pt.cnt p)
      rw [Nat.zero_add] at this
      rw [List.map_map]
      exact this
    refine ⟨.list (ns'.map PyData.int), .list (((List.range' 0 (Pt.cnt p)).map fun i : Nat => (i : Int)).map PyData.int), .lst (SqL.of (f9 _ _ e6)) (dp_of_ints _), .lst (SqL.of (by rw [upd_same, erg])) (dp_of_ints _), shaped_ints _, shaped_ints _, ?_⟩
    rw [eqv_ints, sorted_range pm rs]
    have s9 := s7.trans f9
    refine ⟨_, rfl, ?_⟩
    cases hperm : decide (lots.flatten.Perm (List.range (Pt.cnt p))) with
    | false => exact iteT (qc _ false s9 (by rw [hperm]; rfl))
    | true =>
    rw [hperm] at qc
    refine iteF ?_
    have hs_9 := tup_same s9 hs_3
    have hs2_9 := tup_same s9 hs2_3
    have ha9 := L2.DpAll.same s9 ha3
    have hs5_9 := tup_same s9 hs5
    have eB9 := s9 _ _ eB3
    have dB9 := dB3.same s9
    have qd := fun H' (b : Bool) (s : Same _ H') => qc H' b (s9.trans s)
    generalize upd H7 q9 (.lst (rgV 0 (Pt.cnt p : Int))) = H9 at hs_9 hs2_9 ha9 hs5_9 eB9 dB9 qd ⊢
    cases k with
    | false =>
      refine iteT (lc_ix rfl hs_9 rfl hs2_9 (by omega) (lots.map fun c => .bool (chainB (Pt.told p 0) c)) (by rw [List.length_map, hll]) (fun d hd => by
        obtain ⟨e, _, rfl⟩ := List.mem_map.mp hd
        exact .bl _) ?_ ?_)
      · intro i x d hx hd H' R sm hR
        rw [List.getElem?_map] at hd
        cases hc : lots[i]? with
        | none =>
          rw [hc] at hd
          cases hd
        | some c =>
          rw [hc] at hd
          obtain rfl := Option.some.inj hd
          obtain ⟨x', hx', dx⟩ := map_at ha9 hc
          rw [hx] at hx'
          obtain rfl := Option.some.inj hx'
          obtain ⟨t3, rfl, hs3⟩ := dp_dN (L2.Dp.same sm dx)
          walk_at "sx"
          exact ⟨B, t3, us, _, c, rfl, sm _ _ eB9, dB9.same sm, hP, hs3, h60 c (List.mem_of_getElem? hc), fun H'' s2 => hR _ _ s2 (.bl _)⟩
      intro D3 H10 vs3 nD3 s10 eD3 dv3
      have e := dp_bools dv3
      subst e
      refine ⟨D3, lots.map fun c => chainB (Pt.told p 0) c, rfl, SqL.of eD3, _, rfl, ?_⟩
      rw [List.all_map]
      cases hall2 : lots.all (id ∘ fun c => chainB (Pt.told p 0) c) with
      | false => exact iteF (qd H10 false s10 (by rw [show lots.all (if false then looseB (Pt.told p 0) else chainB (Pt.told p 0)) = false from hall2]; rfl))
      | true =>
      rw [show lots.all (if false then looseB (Pt.told p 0) else chainB (Pt.told p 0)) = true from hall2] at qd
      exact iteT (ixt (tup_same s10 hs_9) rfl ⟨B, t5, us, _, row, rfl, s10 _ _ eB9, dB9.same s10, hP, .inr (tup_same s10 hs5_9), hrow60, fun H'' s2 => qd _ _ (s10.trans s2) (by simp)⟩)
    | true =>
      refine iteF (lc_ix rfl hs_9 rfl hs2_9 (by omega) (lots.map fun c => .bool (looseB (Pt.told p 0) c)) (by rw [List.length_map, hll]) (fun d hd => by
        obtain ⟨e, _, rfl⟩ := List.mem_map.mp hd
        exact .bl _) ?_ ?_)
      · intro i x d hx hd H' R sm hR
        rw [List.getElem?_map] at hd
        cases hc : lots[i]? with
        | none =>
          rw [hc] at hd
          cases hd
        | some c =>
          rw [hc] at hd
          obtain rfl := Option.some.inj hd
          obtain ⟨x', hx', dx⟩ := map_at ha9 hc
          rw [hx] at hx'
          obtain rfl := Option.some.inj hx'
          obtain ⟨t3, rfl, hs3⟩ := dp_dN (L2.Dp.same sm dx)
          walk_at "sx"
          exact ⟨B, t3, us, _, c, rfl, sm _ _ eB9, dB9.same sm, hP, .inr hs3, h60 c (List.mem_of_getElem? hc), fun H'' s2 => hR _ _ s2 (.bl _)⟩
      intro D3 H10 vs3 nD3 s10 eD3 dv3
      have e := dp_bools dv3
      subst e
      refine ⟨D3, lots.map fun c => looseB (Pt.told p 0) c, rfl, SqL.of eD3, _, rfl, ?_⟩
      rw [List.all_map]
      cases hall2 : lots.all (id ∘ fun c => looseB (Pt.told p 0) c) with
      | false => exact iteF (qd H10 false s10 (by rw [show lots.all (if true then looseB (Pt.told p 0) else chainB (Pt.told p 0)) = false from hall2]; rfl))
      | true =>
      rw [show lots.all (if true then looseB (Pt.told p 0) else chainB (Pt.told p 0)) = true from hall2] at qd
      exact iteT (ixt (tup_same s10 hs_9) rfl ⟨B, t5, us, _, row, rfl, s10 _ _ eB9, dB9.same s10, hP, tup_same s10 hs5_9, hrow60, fun H'' s2 => qd _ _ (s10.trans s2) (by simp)⟩)
end

end Z

set_option Elab.async false
set_option linter.all false
set_option maxRecDepth 100000
set_option maxHeartbeats 4000000

namespace Z
open PySem PySem.Spec PyProof.Rows L2 Z.R
local macro_rules | `(tactic| walk_at "sx") => `(tactic| try simp only [and_assoc, cxOf_K, cxOf_Kn, C8.tCut, rEq, rNe, sc_ii, sc_ss, sc_bb, sc_is, sc_si, sc_bs, sc_sb, tSeq, tAsg, tPar, tPar3, tC, gName, gNil, gCons, gTup, gSub, rSetL, L2.start, tVar, tOp, tUn, rI0, rI, rU, tTest, tChain, tOrV, tAndV, tNotV, tCB, tCons, tNil, tLst, tTup, tIfS, tNext, tRet, tRetN, tDrop, tAnd, tOr, tNot, tB, tIf, tSl, tFld, sFld, putF, tNoPart, tPart, rSlL, tBM, tBM0, rAppend, rPop, rExtend, tCall, tMeth, tLstRg, tRg1, tRg2, List.map_cons, List.map_nil, List.replicate, List.length_cons, List.length_nil, List.append, List.cons_append, List.nil_append, List.append_nil, List.getElem?_cons_zero, List.getElem?_cons_succ, List.set_cons_zero, List.set_cons_succ, Option.some.injEq, exists_eq_left', exists_eq_left, exists_eq, exists_and_left, exists_const, wipe, tYes, upd_same, ↓reduceIte, decide_false, decide_true, Bool.not_true, Bool.not_false, Bool.false_eq_true, V.int.injEq, HO.lst.injEq, HO.tup.injEq, V.ref.injEq, V.str.injEq, one_inj, le_a, le_z, le_0, le_9, mem_let, mem_dig, V.bl.injEq, List.cons.injEq, and_true, true_and, reduceCtorEq, false_and, exists_false, or_false, false_or])
namespace R
/-- a computed callee: one of several defs -/
def tCallV (S : Addr → Sp → Prop) (tf : TE) (E : L2.St → XK) (t : TA) : TE := fun σ H Q => tf σ H fun v H1 => ∃ f sp, v = .ref f ∧ S f sp ∧ t σ H1 fun vs H2 => sp vs H2 Q (E σ)
theorem pclV {X : Cx} {k j : Nat} {S : Addr → Sp → Prop} {E : L2.St → XK} {fe e : Expr} {es : List Expr} {tf : TE} {t : TA} {pos : Pos} (hS : ∀ f sp, S f sp → ∃ (fd : FuncData) (ps : List Str), FnOk X.prog X.w X.K X.mg X.base (L2.CX X.prog X.w) k f fd ps sp ∧ PySem.W.keepIn X.K (.ref f) = true ∧ Binds X.K fd ps [])
    (hr : Room j X.A) (hk : k ≤ j) (hx : ∀ σ, PassesAt (L2.CX X.prog X.w) X σ (E σ)) (hf : PE X fe tf) (ha : PA X (e :: es) t)
    (hc : eval (.Call fe (e :: es) [] pos) X.env = (do callWith pos (← eval fe X.env) [] (backTo pos (starEach (e :: es) X.env)) (backToKw pos (keywordEach [] X.env))) := by rfl)
    (he : starEach (e :: es) X.env = (false, eval e X.env) :: starEach es X.env := by rfl) (hpl : (backTo pos (starEach es X.env)).any (·.1) = false := by rfl) :
    PE X (.Call fe (e :: es) [] pos) (tCallV S tf E t) := by
  refine ⟨fun pins s σ H Q I h => ?_⟩
  refine Call_ (thn (hf.run pins s σ H _ I h) fun u s1 ⟨v, H1, I1, r1, f, sp, ev, hs, q1⟩ => ?_) hc
  subst ev
  cases r1
  obtain ⟨fd, ps, F, kp, hb⟩ := hS f sp hs
  refine PySem.W.callWith_K (h₀ := X.base) I1.ok.mod.kin kp (thn (ha.run pos pins s1 σ H1 _ I1 q1) fun us s2 ⟨vs, H2, I2, r, q⟩ => ⟨I2.kIn, ?_⟩) he hpl
  exact run_fnS F (hr.mono hk) hb (hx σ) I2 r q
end R
/-- what `_law_told` may answer about a party -/
def ToldR (K : PySem.W.Frag) (w : Nat) (p : Pt Str) (e : PyData) (v : V) (H : Hp) : Prop :=
  (w = 0 ∧ v = .int ((Pt.widest (Pt.plc p 0)).length : Nat)) ∨ (w = 1 ∧ v = .int (Pt.time (fun _ => 1) p : Nat)) ∨
  (w = 2 ∧ ∃ (cs : List (List Nat)) (ws : List Nat), cs.Perm (Pt.chains (Pt.plc p 0)) ∧ ws.Perm (Pt.widest (Pt.plc p 0)) ∧ Dp K H v (.tuple [.tuple (cs.map dN), dN ws])) ∨
  (w = 3 ∧ ∃ ys : List Nat, ys.Nodup ∧ (∀ l, l ∈ ys ↔ ∃ x ∈ Pt.starts (fun _ => 1) (Pt.plc p 0) 0, x.2 = l) ∧ Dp K H v (.tuple [.tuple ((ys.map (lvl (Pt.starts (fun _ => 1) (Pt.plc p 0) 0))).map dN), dN (Pt.longest (fun _ => 1) (Pt.plc p 0))])) ∨
  (w = 4 ∧ v = .bl (rightB false (Pt.cnt p) (Pt.told p 0) e)) ∨ (w = 5 ∧ v = .bl (rightB true (Pt.cnt p) (Pt.told p 0) e))
def spTld (K : PySem.W.Frag) (C : Addr) : Sp := fun vs H Q _ => ∃ (w : Nat) (v u : V) (d e : PyData), vs = [.int w, v, u] ∧ w ≤ 5 ∧ Dp K H v d ∧ Tm d ∧ Dp K H u e ∧ Tm e ∧
  (∀ H', Pt.partyP d = none → Same H H' → Q (.str "<malformed>") H') ∧ ∀ p v' H', Pt.partyP d = some p → Same H H' → ToldR K w p e v' H' → Q v' H'
def TellS (fw fh fc fl : Addr) (K : PySem.W.Frag) (C : Addr) (f : Addr) (sp : Sp) : Prop := (f = fw ∧ sp = spWidth K C) ∨ (f = fh ∧ sp = spHeight K C) ∨ (f = fc ∧ sp = spCover K C) ∨ (f = fl ∧ sp = spLevels K C)
def TellT (fm fn : Addr) (K : PySem.W.Frag) (C : Addr) (f : Addr) (sp : Sp) : Prop := (f = fm ∧ sp = spTakes false K C) ∨ (f = fn ∧ sp = spTakes true K C)
section
variable {P : Program} {w : World} {K : PySem.W.Frag} {mg : Str → Option Value} {base : Heap}
theorem sc__law_told : FnScope ["which", "party", "value"] ["which", "party", "value"] (defScope s__law_told) := ⟨rfl, rfl, rfl, by decide +kernel, rfl, by decide +kernel, by decide +kernel⟩
theorem ok__law_told {C : Addr} {f : Addr} {fd : FuncData} (F : Fun K "_law_told" "_law_told" s__law_told f fd) (c_width : ClX P w K mg base 74 "width" (spWidth K C)) (c_height : ClX P w K mg base 75 "height" (spHeight K C)) (c_cover : ClX P w K mg base 74 "cover" (spCover K C)) (c_levels : ClX P w K mg base 75 "levels" (spLevels K C)) (c_takes_cover : ClX P w K mg base 74 "takes_cover" (spTakes false K C)) (c_takes_levels : ClX P w K mg base 74 "takes_levels" (spTakes true K C)) (T_Malformed : XC K mg "Malformed" C) : FnOk P w K mg base CX0 76 f fd ["which", "party", "value"] (spTld K C) := by
  have nd := sc__law_told.nd
  refine F.ok sc__law_told (fun vs H Q E h => ?_) (fun cdv A outer s H vs Q E hr h => ?_)
  · obtain ⟨w, v, u, d, e, rfl, _⟩ := h
    rfl
  obtain ⟨wh, v, u, d, e, rfl, hw, hv, tmd, hu, tme, bad, q⟩ := h
  obtain ⟨fw, dw, pw, Fw, mw, kw, bw⟩ := c_width.ex
  obtain ⟨fh, dh, ph, Fh, mh, kh, bh⟩ := c_height.ex
  obtain ⟨fc, dc, pc, Fc, mc, kc, bc⟩ := c_cover.ex
  obtain ⟨fl, dl, pl, Fl, ml, kl, bl⟩ := c_levels.ex
  obtain ⟨fm, dm, pm, Fm, mm, km, bm⟩ := c_takes_cover.ex
  obtain ⟨fn, dn, pn, Fn, mn, kn, bn⟩ := c_takes_levels.ex
  have gw : GV mg "width" (.ref fw) := ⟨_, mw, rfl⟩
  have gh : GV mg "height" (.ref fh) := ⟨_, mh, rfl⟩
  have gc : GV mg "cover" (.ref fc) := ⟨_, mc, rfl⟩
  have gl : GV mg "levels" (.ref fl) := ⟨_, ml, rfl⟩
  have gm : GV mg "takes_cover" (.ref fm) := ⟨_, mm, rfl⟩
  have gn : GV mg "takes_levels" (.ref fn) := ⟨_, mn, rfl⟩
  have hS : ∀ f sp, TellS fw fh fc fl K C f sp → ∃ (fd : FuncData) (ps : List Str), FnOk P w K mg base (L2.CX P w) 75 f fd ps sp ∧ PySem.W.keepIn K (.ref f) = true ∧ Binds K fd ps [] := by
    rintro f sp (⟨rfl, rfl⟩ | ⟨rfl, rfl⟩ | ⟨rfl, rfl⟩ | ⟨rfl, rfl⟩)
    · exact ⟨_, _, Fw.mono (by omega), kw, bw⟩
    · exact ⟨_, _, Fh, kh, bh⟩
    · exact ⟨_, _, Fc.mono (by omega), kc, bc⟩
    · exact ⟨_, _, Fl, kl, bl⟩
  have hT : ∀ f sp, TellT fm fn K C f sp → ∃ (fd : FuncData) (ps : List Str), FnOk P w K mg base (L2.CX P w) 75 f fd ps sp ∧ PySem.W.keepIn K (.ref f) = true ∧ Binds K fd ps [] := by
    rintro f sp (⟨rfl, rfl⟩ | ⟨rfl, rfl⟩)
    · exact ⟨_, _, Fm.mono (by omega), km, bm⟩
    · exact ⟨_, _, Fn.mono (by omega), kn, bn⟩
  refine ⟨_, (pss_one (ps_try_only (tb := fun W => _) rfl rfl ⟨rfl, by decide, .inl T_Malformed.g⟩ takes0 (fun W pn xe tk po => (pss_one (ps_ret (pe_ifExp (pt_cmpR op_lt (pv 0) pe_int (nomark _)) (R.pclV (S := TellS fw fh fc fl K C) hS hr (by omega) (fun σ => passAt tk σ) (pe_ix (ix_listK (K := K) rfl) (pe_lst (pa_cons (pe_gv gw) (pa_cons (pe_gv gh) (pa_cons (pe_gv gc) (pa_cons (pe_gv gl) pa_nil))))) (pv 0) (fun _ _ => rfl)) (pa_cons (pv 1) pa_nil)) (R.pclV (S := TellT fm fn K C) hT hr (by omega) (fun σ => passAt tk σ) (pe_ix (ix_listK (K := K) rfl) (pe_lst (pa_cons (pe_gv gm) (pa_cons (pe_gv gn) pa_nil))) (pe_op op_sub (pv 0) pe_int) (fun _ _ => rfl)) (pa_cons (pv 1) (pa_cons (pv 2) pa_nil)))))))
  (fun a oe cls d pn _ _ => (pss_one (ps_ret pe_str))))), ?_⟩
  walk_at "sx"
  have err : ∀ (H' : Hp) (σ : L2.St), Q (.str "<malformed>") H' → WE (wOnly K (Value.ref C) (fun a cls d => tRet (tC (V.str "<malformed>"))) (fun _ _ _ _ => False) { nx := fun x H' => Q V.non H', rt := Q }) σ (Value.ref C) none H' := fun H' σ q =>
    ⟨true, T_Malformed.e, fun _ a na => q, fun z => by cases z⟩
  have : wh = 0 ∨ wh = 1 ∨ wh = 2 ∨ wh = 3 ∨ wh = 4 ∨ wh = 5 := by omega
  rcases this with rfl | rfl | rfl | rfl | rfl | rfl
  · refine iteT ⟨size60 (by simp), fun p np => ⟨_, rfl, ixl upd_same rfl ⟨fw, _, rfl, .inl ⟨rfl, rfl⟩, _, rfl, v, d, rfl, L2.Dp.same (same_upd np) hv, tmd, ?_, ?_⟩⟩⟩
    · exact fun p H' hp s => q p _ H' hp ((same_upd np).trans s) (.inl ⟨rfl, rfl⟩)
    · exact fun H' hp s => err _ _ (bad H' hp ((same_upd np).trans s))
  · refine iteT ⟨size60 (by simp), fun p np => ⟨_, rfl, ixl upd_same rfl ⟨fh, _, rfl, .inr (.inl ⟨rfl, rfl⟩), _, rfl, v, d, rfl, L2.Dp.same (same_upd np) hv, tmd, ?_, ?_⟩⟩⟩
    · exact fun p H' hp s => q p _ H' hp ((same_upd np).trans s) (.inr (.inl ⟨rfl, rfl⟩))
    · exact fun H' hp s => err _ _ (bad H' hp ((same_upd np).trans s))
  · refine iteT ⟨size60 (by simp), fun p np => ⟨_, rfl, ixl upd_same rfl ⟨fc, _, rfl, .inr (.inr (.inl ⟨rfl, rfl⟩)), _, rfl, v, d, rfl, L2.Dp.same (same_upd np) hv, tmd, ?_, ?_⟩⟩⟩
    · exact fun p cs ws v' H' hp h1 h2 s dp => q p _ H' hp ((same_upd np).trans s) (.inr (.inr (.inl ⟨rfl, cs, ws, h1, h2, dp⟩)))
    · exact fun H' hp s => err _ _ (bad H' hp ((same_upd np).trans s))
  · refine iteT ⟨size60 (by simp), fun p np => ⟨_, rfl, ixl upd_same rfl ⟨fl, _, rfl, .inr (.inr (.inr ⟨rfl, rfl⟩)), _, rfl, v, d, rfl, L2.Dp.same (same_upd np) hv, tmd, ?_, ?_⟩⟩⟩
    · exact fun p ys v' H' hp h1 h2 s dp => q p _ H' hp ((same_upd np).trans s) (.inr (.inr (.inr (.inl ⟨rfl, ys, h1, h2, dp⟩))))
    · exact fun H' hp s => err _ _ (bad H' hp ((same_upd np).trans s))
  · refine iteF ⟨size60 (by simp), fun p np => ⟨_, rfl, _, _, rfl, rfl, ixl upd_same rfl ⟨fm, _, rfl, .inl ⟨rfl, rfl⟩, _, rfl, _, rfl, v, u, d, e, rfl, L2.Dp.same (same_upd np) hv, tmd, L2.Dp.same (same_upd np) hu, tme, ?_, ?_⟩⟩⟩
    · exact fun p H' hp s => q p _ H' hp ((same_upd np).trans s) (.inr (.inr (.inr (.inr (.inl ⟨rfl, rfl⟩)))))
    · exact fun H' hp s => err _ _ (bad H' hp ((same_upd np).trans s))
  · refine iteF ⟨size60 (by simp), fun p np => ⟨_, rfl, _, _, rfl, rfl, ixl upd_same rfl ⟨fn, _, rfl, .inr ⟨rfl, rfl⟩, _, rfl, _, rfl, v, u, d, e, rfl, L2.Dp.same (same_upd np) hv, tmd, L2.Dp.same (same_upd np) hu, tme, ?_, ?_⟩⟩⟩
    · exact fun p H' hp s => q p _ H' hp ((same_upd np).trans s) (.inr (.inr (.inr (.inr (.inr ⟨rfl, rfl⟩)))))
    · exact fun H' hp s => err _ _ (bad H' hp ((same_upd np).trans s))
end

end Z

set_option Elab.async false
set_option linter.all false
set_option maxRecDepth 100000
set_option maxHeartbeats 4000000

namespace Z
open PySem PySem.Spec PyProof.Rows L2 Z.R
local macro_rules | `(tactic| walk_at "sx") => `(tactic| try simp only [and_assoc, cxOf_K, cxOf_Kn, C8.tCut, rEq, rNe, sc_ii, sc_ss, sc_bb, sc_is, sc_si, sc_bs, sc_sb, tSeq, tAsg, tPar, tPar3, tC, gName, gNil, gCons, gTup, gSub, rSetL, L2.start, tVar, tOp, tUn, rI0, rI, rU, tTest, tChain, tOrV, tAndV, tNotV, tCB, tCons, tNil, tLst, tTup, tIfS, tNext, tRet, tRetN, tDrop, tAnd, tOr, tNot, tB, tIf, tSl, tFld, sFld, putF, tNoPart, tPart, rSlL, tBM, tBM0, rAppend, rPop, rExtend, tCall, tMeth, tLstRg, tRg1, tRg2, List.map_cons, List.map_nil, List.replicate, List.length_cons, List.length_nil, List.append, List.cons_append, List.nil_append, List.append_nil, List.getElem?_cons_zero, List.getElem?_cons_succ, List.set_cons_zero, List.set_cons_succ, Option.some.injEq, exists_eq_left', exists_eq_left, exists_eq, exists_and_left, exists_const, wipe, tYes, upd_same, ↓reduceIte, decide_false, decide_true, Bool.not_true, Bool.not_false, Bool.false_eq_true, V.int.injEq, HO.lst.injEq, HO.tup.injEq, V.ref.injEq, V.str.injEq, one_inj, le_a, le_z, le_0, le_9, mem_let, mem_dig, V.bl.injEq, List.cons.injEq, and_true, true_and, reduceCtorEq, false_and, exists_false, or_false, false_or])
/-- data without lists, of bounded length and depth -/
inductive Bn : Nat → PyData → Prop where
  | leaf (k : Nat) (d : PyData) (t : Tm d) (o : To d) (n : isTup d = false) : Bn k d
  | tup (k : Nat) (ds : List PyData) (l : ds.length ≤ 100) (h : ∀ d ∈ ds, Bn k d) : Bn (k + 1) (.tuple ds)
theorem Bn.tm {k : Nat} {d : PyData} (b : Bn k d) : Tm d ∧ To d := by
  induction b with
  | leaf k d t o n => exact ⟨t, o⟩
  | tup k ds l h ih => exact ⟨.tup ds (by omega) fun d hd => (ih d hd).1, .tup ds fun d hd => (ih d hd).2⟩
/-! ### tuples of data: parts, sums, turned round -/
def cutG {γ : Type} (xs : List γ) (lo hi : Option Int) : List γ := (xs.drop (HT.sIx xs.length 0 lo)).take (HT.sIx xs.length xs.length hi - HT.sIx xs.length 0 lo)
theorem cutG_len {γ : Type} (xs : List γ) (lo hi : Option Int) : (cutG xs lo hi).length ≤ xs.length := by
  unfold cutG
  rw [List.length_take, List.length_drop]
  omega
theorem cutG_mem {γ : Type} {xs : List γ} {lo hi : Option Int} {x : γ} (h : x ∈ cutG xs lo hi) : x ∈ xs := List.mem_of_mem_drop (List.mem_of_mem_take h)
theorem cutG_whole {γ : Type} {xs : List γ} {lo hi : Option Int} (h : HT.sIx xs.length 0 lo = 0 ∧ HT.sIx xs.length xs.length hi = xs.length) : cutG xs lo hi = xs := by
  unfold cutG
  rw [h.1, h.2, List.drop_zero, Nat.sub_zero, List.take_of_length_le (Nat.le_refl _)]
theorem cutG_to {γ : Type} (xs : List γ) (k : Nat) : cutG xs none (some (k : Int)) = xs.take k := by
  unfold cutG
  rw [HT.sIx_none, HT.sIx_nat, List.drop_zero, Nat.sub_zero]
  by_cases h : k ≤ xs.length
  · rw [Nat.min_eq_left h]
  · rw [Nat.min_eq_right (by omega), List.take_of_length_le (Nat.le_refl _), List.take_of_length_le (by omega)]
theorem cutG_from {γ : Type} (xs : List γ) (k : Nat) : cutG xs (some (k : Int)) none = xs.drop k := by
  unfold cutG
  rw [HT.sIx_none, HT.sIx_nat]
  by_cases h : k ≤ xs.length
  · rw [Nat.min_eq_left h, List.take_of_length_le (by rw [List.length_drop]; exact Nat.le_refl _)]
  · rw [Nat.min_eq_right (by omega), List.drop_of_length_le (Nat.le_refl _), List.drop_of_length_le (by omega), List.take_nil]
section
variable {K : PySem.W.Frag} {H : Hp} {Q : VK} {v w : V} {ds es : List PyData} {lo hi : Option Int}
theorem dps_take : ∀ {vs : List V} {ds : List PyData} (k : Nat), DpAll K H vs ds → DpAll K H (vs.take k) (ds.take k)
  | _, _, k, .nil => by rw [List.take_nil, List.take_nil]; exact .nil
  | _, _, 0, .cons _ _ => .nil
  | _, _, k + 1, .cons h t => .cons h (dps_take k t)
theorem dps_drop : ∀ {vs : List V} {ds : List PyData} (k : Nat), DpAll K H vs ds → DpAll K H (vs.drop k) (ds.drop k)
  | _, _, k, .nil => by rw [List.drop_nil, List.drop_nil]; exact .nil
  | _, _, 0, .cons h t => .cons h t
  | _, _, k + 1, .cons _ t => dps_drop k t
theorem dps_rev : ∀ {vs : List V} {ds : List PyData}, DpAll K H vs ds → DpAll K H vs.reverse ds.reverse
  | _, _, .nil => .nil
  | _, _, .cons h t => by
    rw [List.reverse_cons, List.reverse_cons]
    exact DpAll.append (dps_rev t) (.cons h .nil)
theorem sl_dp (h : Dp K H v (.tuple ds)) (q : ∀ v' H', Same H H' → Dp K H' v' (.tuple (cutG ds lo hi)) → Q v' H') : rSlA K v lo hi H Q := by
  obtain ⟨t, us, rfl, hs, ha⟩ := dp_tup h
  have hl := DpAll.length ha
  refine ⟨t, us, rfl, hs, fun hw => q _ _ (.refl _) ?_, fun hw p np => q _ _ (same_upd np) (.tup (SqT.of upd_same) ?_)⟩
  · rw [hl] at hw
    rw [cutG_whole hw]
    exact h
  · have := dps_take (HT.sIx us.length us.length hi - HT.sIx us.length 0 lo) (dps_drop (HT.sIx us.length 0 lo) ha)
    refine DpAll.same (same_upd np) ?_
    unfold cutV cutG
    rw [← hl]
    exact this
theorem cat_dp (h : Dp K H v (.tuple ds)) (h2 : Dp K H w (.tuple es)) (hl : ds.length + es.length ≤ 1000) (q : ∀ v' H', Same H H' → Dp K H' v' (.tuple (ds ++ es)) → Q v' H') : rCatA K v w H Q := by
  obtain ⟨t, us, rfl, hs, ha⟩ := dp_tup h
  obtain ⟨t2, ws, rfl, hs2, ha2⟩ := dp_tup h2
  have hl1 := DpAll.length ha
  have hl2 := DpAll.length ha2
  refine ⟨t, t2, us, ws, rfl, rfl, hs, hs2, Nat.le_of_lt (small1000 (by omega)), fun e => ?_, fun _ e => ?_, fun _ _ p np => q _ _ (same_upd np) (.tup (SqT.of upd_same) (DpAll.same (same_upd np) (DpAll.append ha ha2)))⟩
  · subst e
    cases ha
    exact q _ _ (.refl _) h2
  · subst e
    cases ha2
    rw [List.append_nil] at q
    exact q _ _ (.refl _) h
theorem rev_dp {σ : L2.St} {j : Nat} (hj : σ[j]? = some (some v)) (h : Dp K H v (.tuple ds)) (q : ∀ v' H', Same H H' → Dp K H' v' (.tuple ds.reverse) → Q v' H') : R.tRevT K (tVar j) σ H Q := by
  obtain ⟨t, us, rfl, hs, ha⟩ := dp_tup h
  exact ⟨_, hj, t, us, rfl, hs, fun p np => q _ _ (same_upd np) (.tup (SqT.of upd_same) (DpAll.same (same_upd np) (dps_rev ha)))⟩
theorem ix_dp {k : Nat} (h : Dp K H v (.tuple ds)) (hk : k < ds.length) (q : ∀ v', Dp K H v' ds[k] → Q v' H) : rIxT K v (.int k) H Q := by
  obtain ⟨t, us, rfl, hs, ha⟩ := dp_tup h
  have hl := DpAll.length ha
  have hk2 : k < us.length := by omega
  obtain ⟨d, hd, hx⟩ := DpAll.at ha (List.getElem?_eq_getElem hk2)
  rw [List.getElem?_eq_getElem hk] at hd
  obtain rfl := Option.some.inj hd
  exact ixt hs (atI_nat (List.getElem?_eq_getElem hk2)) (q _ hx)
theorem len_dp (h : Dp K H v (.tuple ds)) : LenV K v H ds.length := by
  obtain ⟨t, us, rfl, hs, ha⟩ := dp_tup h
  exact len_t hs (DpAll.length ha).symm
end
def spBent (K : PySem.W.Frag) (n : Nat) : Sp := fun vs H Q _ => ∃ (a c : Addr) (m : Nat) (v : V) (d : PyData) (i : Nat), vs = [.ref a, v] ∧ i < n ∧ i ≤ 30 ∧ DrawAt H a c m ∧ m + (2 * i + 2) ≤ 1000000000 ∧ Dp K H v d ∧ Bn i d ∧
  ∀ d' v' H', Tm d' → To d' → Dp K H' v' d' → DrawAt H' a c (m + (2 * i + 2)) → But a H H' → Q v' H'
section
variable {P : Program} {w : World} {K : PySem.W.Frag} {mg : Str → Option Value} {base : Heap}
theorem sc__law_bent : FnScope ["draw", "data", "k", "which"] ["draw", "data"] (defScope s__law_bent) := ⟨rfl, rfl, rfl, by decide +kernel, rfl, by decide +kernel, by decide +kernel⟩
theorem step__law_bent {f : Addr} {fd : FuncData} {n : Nat} (F : Fun K "_law_bent" "_law_bent" s__law_bent f fd) (c__law_bent : Cl P w K mg base (n + 5) "_law_bent" (spBent K n)) (c__law_take : Cl P w K mg base 1 "_law_take" (spTake)) (c__law_whole : Cl P w K mg base 1 "_law_whole" (spWhole K)) (b_isinstance : mg "isinstance" = none) (b_tuple : mg "tuple" = none) (b_len : mg "len" = none) : FnOk P w K mg base CX0 (n + 6) f fd ["draw", "data"] (spBent K (n + 1)) := by
  have nd := sc__law_bent.nd
  refine F.ok sc__law_bent (fun vs H Q E h => ?_) (fun cdv A outer s H vs Q E hr h => ?_)
  · obtain ⟨a, c, m, v, d, i, rfl, _⟩ := h
    rfl
  obtain ⟨a, c, m, v, d, i, rfl, hi, hi30, hD, hm, hv, bn, q⟩ := h
  refine ⟨_, (C8.pss_cut (ps_if (PW.pt (pw_and (pt_val (pe_callB (call_isK (K := K) rfl) (by rfl) b_isinstance (by decide +kernel) (pa_cons (pv 1) (pa_cons (pe_bltn (v := .ty "tuple") (by rfl) b_tuple (by decide +kernel) rfl) pa_nil)))) (pw_and (pt_cmpR op_gt (pe_callB (call_lenK (K := K) rfl) (by rfl) b_len (by decide +kernel) (pa_cons (pv 1) pa_nil)) pe_int (nomark _)) (pw_and1 (pt_cmpR op_gt (pcl c__law_take hr (by omega) (pa_cons (pv 0) (pa_cons pe_int pa_nil))) pe_int (nomark _)))))) (pss_cons (ps_set (i := 2) nd rfl (.inl rfl) (pcl c__law_take hr (by omega) (pa_cons (pv 0) (pa_cons (pe_callB (call_lenK (K := K) rfl) (by rfl) b_len (by decide +kernel) (pa_cons (pv 1) pa_nil)) pa_nil))))
  (pss_one (ps_ret (pe_op (op_catAK (K := K) rfl) (pe_op (op_catAK (K := K) rfl) (pe_slice sl_tupA (pv 1) po_none (po_some (pv 2))) (pe_tup (pa_cons (pcl c__law_bent hr (by omega) (pa_cons (pv 0) (pa_cons (pe_ix (ix_tupK (K := K) rfl) (pv 1) (pv 2) (fun _ _ => rfl)) pa_nil))) pa_nil))) (pe_slice sl_tupA (pv 1) (po_some (pe_op op_add (pv 2) pe_int)) po_none))))) pss_nil)
  (pss_cons (ps_set (i := 3) nd rfl (.inl rfl) (pcl c__law_take hr (by omega) (pa_cons (pv 0) (pa_cons pe_int pa_nil))))
  (pss_cons (ps_if (PW.pt (pw_and (pt_val (pe_callB (call_isK (K := K) rfl) (by rfl) b_isinstance (by decide +kernel) (pa_cons (pv 1) (pa_cons (pe_bltn (v := .ty "tuple") (by rfl) b_tuple (by decide +kernel) rfl) pa_nil)))) (pw_and1 (pt_cmpR op_lt (pv 3) pe_int (nomark _))))) (pss_one (ps_ret (pe_ix (ix_listK (K := K) rfl) (pe_lst (pa_cons (pe_slice sl_tupA (pv 1) po_none (po_some (pe_un un_neg pe_int))) (pa_cons (pe_op (op_catAK (K := K) rfl) (pv 1) (pe_slice sl_tupA (pv 1) po_none (po_some pe_int))) (pa_cons (R.pe_revT (K := K) rfl (pv 1)) pa_nil)))) (pv 3) (fun _ _ => rfl)))) pss_nil)
  (pss_cons (ps_if (PW.pt (pw_and (pt_val (pcl c__law_whole hr (by omega) (pa_cons (pv 1) pa_nil))) (pw_and1 (pt_cmpR op_lt (pv 3) pe_int (nomark _))))) (pss_one (ps_ret (pe_op op_sub (pe_op op_add (pv 1) pe_int) (pe_op op_mul pe_int (pe_op op_and (pv 3) pe_int))))) pss_nil)
  (pss_one (ps_ret (pe_ix (ix_listK (K := K) rfl) (pe_lst (pa_cons pe_str (pa_cons pe_non (pa_cons (pe_tup pa_nil) (pa_cons pe_int (pa_cons pe_bl (pa_cons (pe_tup (pa_cons pe_str (pa_cons pe_str pa_nil))) pa_nil))))))) (pv 3) (fun _ _ => rfl)))))))), ?_⟩
  walk_at "sx"
  refine ⟨fun σ H' => σ = [some (.ref a), some v, none, none] ∧ DrawAt H' a c (m + 1) ∧ But a H H' ∧ Dp K H' v d, ?_, ?_⟩
  · walk_at "sx"
    refine isi_tup hv ⟨_, rfl, ?_⟩
    cases bn with
    | leaf _ _ t o n' =>
      rw [n']
      exact iteF ⟨hD.mono (by omega), .refl _ _, hv⟩
    | tup k ds l hb =>
    refine iteT ⟨_, len_dp hv, ite2 (fun c0 => ?_) (fun _ => ⟨hD.mono (by omega), .refl _ _, hv⟩)⟩
    rw [decide_eq_true_eq] at c0
    refine ⟨a, c, 4, m, rfl, hD, by decide, by decide, by omega, fun r H1 r0 r1 D1 B1 => ⟨r, rfl, ?_⟩⟩
    have hto : To (.tuple ds) := (Bn.tup k ds l hb).tm.2
    have hv1 := hto.mono (hD.tp B1) _ hv
    refine ite2 (fun c1 => ?_) (fun _ => ⟨D1, B1, hv1⟩)
    refine ⟨_, len_dp hv1, a, c, _, m + 1, rfl, D1, by omega, by omega, by omega, fun z H2 z0 z1 D2 B2 => ⟨z, rfl, ?_⟩⟩
    obtain ⟨j, rfl⟩ : ∃ j : Nat, z = j := ⟨z.toNat, by omega⟩
    have hj : j < ds.length := by omega
    have hv2 := hto.mono (D1.tp B2) _ hv1
    refine sl_dp hv2 fun x1 H3 s3 d1 => ix_dp (L2.Dp.same s3 hv2) hj fun x2 d2 => ?_
    rw [cutG_to] at d1
    refine ⟨a, c, m + 2, x2, ds[j], k, rfl, by omega, by omega, D2.same s3, by omega, d2, hb _ (List.getElem_mem hj), fun d' x3 H4 t4 o4 d4 D4 B4 => ⟨by decide, fun p np => ?_⟩⟩
    have hv4 := hto.mono ((D2.same s3).tp B4) _ (L2.Dp.same s3 hv2)
    have ot : To (.tuple (ds.take j)) := .tup _ fun d hd => (hb d (List.mem_of_mem_take hd)).tm.2
    have d1' := ot.mono ((D2.same s3).tp B4) _ d1
    have f := same_upd (o := .tup [x3]) np
    refine cat_dp (L2.Dp.same f d1') (es := [d']) (.tup (SqT.of upd_same) (.cons (L2.Dp.same f d4) .nil)) (by rw [List.length_take]; simp; omega) fun x5 H5 s5 d5 => ⟨j, rfl, ?_⟩
    refine sl_dp (L2.Dp.same (f.trans s5) hv4) fun x6 H6 s6 d6 => ?_
    rw [show ((j : Int) + 1) = ((j + 1 : Nat) : Int) by omega, cutG_from] at d6
    refine cat_dp (L2.Dp.same s6 d5) d6 (by simp only [List.length_append, List.length_take, List.length_drop, List.length_cons, List.length_nil]; omega) fun x7 H7 s7 d7 => ?_
    have s47 : Same H4 H7 := f.trans (s5.trans (s6.trans s7))
    refine q _ x7 H7 (.tup _ ?_ ?_) (.tup _ ?_) d7 ((D4.same s47).mono (by omega)) ((B1.trans B2).trans ((But.of s3).trans (B4.trans (.of s47))))
    · simp only [List.length_append, List.length_take, List.length_drop, List.length_cons, List.length_nil]
      omega
    all_goals
      intro e he
      rcases List.mem_append.mp he with he | he
      · rcases List.mem_append.mp he with he | he
        · first | exact (hb e (List.mem_of_mem_take he)).tm.1 | exact (hb e (List.mem_of_mem_take he)).tm.2
        · rw [List.mem_singleton.mp he]
          assumption
      · first | exact (hb e (List.mem_of_mem_drop he)).tm.1 | exact (hb e (List.mem_of_mem_drop he)).tm.2
  · rintro σ H1 ⟨rfl, D1, B1, hv1⟩
    walk_at "sx"
    refine ⟨a, c, 6, m + 1, rfl, D1, by decide, by decide, by omega, fun r H2 r0 r1 D2 B2 => ?_⟩
    have hv2 := bn.tm.2.mono (D1.tp B2) _ hv1
    have B12 := B1.trans B2
    have fin : ∀ (d' : PyData) (v' : V) (H' : Hp), Tm d' → To d' → Same H2 H' → Dp K H' v' d' → Q v' H' := fun d' v' H' t o s dp => q d' v' H' t o dp ((D2.same s).mono (by omega)) (B12.trans (.of s))
    have last : 0 ≤ sizeLine ∧ ∀ (p : Addr), H2 p = none → 0 + 1 + 1 ≤ sizeLine ∧ ∀ (p_1 : Addr), upd H2 p (HO.tup []) p_1 = none → 0 + 1 + 1 + 1 + 1 + 1 + 1 ≤ sizeLine ∧ ∀ (p_2 : Addr), upd (upd H2 p (HO.tup [])) p_1 (HO.tup [V.str "deed", V.str "b"]) p_2 = none →
        rIxL K (V.ref p_2) (.int r) (upd (upd (upd H2 p (HO.tup [])) p_1 (HO.tup [V.str "deed", V.str "b"])) p_2 (HO.lst [V.str "a", V.non, V.ref p, V.int 3, V.bl true, V.ref p_1])) Q := by
      refine ⟨by decide, fun p np => ⟨by decide, fun p1 n1 => ⟨by decide, fun p2 n2 => ?_⟩⟩⟩
      have f := same_upd (o := .tup []) np
      have f1 := same_upd (o := .tup [V.str "deed", V.str "b"]) n1
      have f2 := same_upd (o := .lst [V.str "a", V.non, V.ref p, V.int 3, V.bl true, V.ref p1]) n2
      have e0 := f2 _ _ (f1 _ _ (upd_same (H := H2) (a := p) (o := .tup [])))
      have e1 := f2 _ _ (upd_same (H := upd H2 p (.tup [])) (a := p1) (o := .tup [V.str "deed", V.str "b"]))
      have sm := f.trans (f1.trans f2)
      have : r = 0 ∨ r = 1 ∨ r = 2 ∨ r = 3 ∨ r = 4 ∨ r = 5 := by omega
      rcases this with rfl | rfl | rfl | rfl | rfl | rfl
      · exact ixl upd_same rfl (fin (.str "a") _ _ (.str _ (by decide) (by decide +kernel)) (.str _) sm (.str _))
      · exact ixl upd_same rfl (fin .none _ _ .non .non sm .non)
      · exact ixl upd_same rfl (fin (.tuple []) _ _ (.tup _ (by simp) nofun) (.tup _ nofun) sm (.tup (SqT.of e0) .nil))
      · exact ixl upd_same rfl (fin (.int 3) _ _ (.int _) (.int _) sm (.int _))
      · exact ixl upd_same rfl (fin (.bool true) _ _ (.bl _) (.bl _) sm (.bl _))
      · refine ixl upd_same rfl (fin (.tuple [.str "deed", .str "b"]) _ _ (.tup _ (by simp) fun d hd => ?_) (.tup _ fun d hd => ?_) sm (.tup (SqT.of e1) (.cons (.str _) (.cons (.str _) .nil))))
        · simp only [List.mem_cons, List.not_mem_nil, or_false] at hd
          rcases hd with rfl | rfl
          · exact .str _ (by decide) (by decide +kernel)
          · exact .str _ (by decide) (by decide +kernel)
        · simp only [List.mem_cons, List.not_mem_nil, or_false] at hd
          rcases hd with rfl | rfl
          · exact .str _
          · exact .str _
    refine isi_tup hv2 ⟨_, rfl, ?_⟩
    cases bn with
    | leaf _ _ t o n' =>
      rw [n']
      refine iteF ⟨v, d, rfl, hv2, _, rfl, ite2 (fun c1 => ⟨r, rfl, ite2 (fun c2 => ?_) (fun _ => last)⟩) (fun _ => last)⟩
      obtain ⟨z, rfl⟩ : ∃ z, d = .int z := by
        cases d with
        | int z => exact ⟨z, rfl⟩
        | _ => cases c1
      cases hv2
      rw [decide_eq_true_eq] at c2
      refine ⟨z, rfl, r, rfl, .inl ⟨by decide, by decide⟩, fin (.int _) _ _ (.int _) (.int _) (.refl _) (.int _)⟩
    | tup k ds l hb =>
      refine iteT ⟨r, rfl, ite2 (fun c3 => ?_) (fun c3 => ⟨v, _, rfl, hv2, _, rfl, iteF last⟩)⟩
      rw [decide_eq_true_eq] at c3
      refine sl_dp hv2 fun x1 H3 s3 d1 => sl_dp (L2.Dp.same s3 hv2) fun x2 H4 s4 d2 => cat_dp (L2.Dp.same (s3.trans s4) hv2) d2 (by have := cutG_len ds none (some 1); omega) fun x3 H5 s5 d3 => rev_dp rfl (L2.Dp.same (s3.trans (s4.trans s5)) hv2) fun x4 H6 s6 d4 => ⟨size60 (by simp), fun p np => ?_⟩
      have f := same_upd (o := .lst [x1, x3, x4]) np
      have d1' := L2.Dp.same (s4.trans (s5.trans (s6.trans f))) d1
      have d3' := L2.Dp.same (s6.trans f) d3
      have d4' := L2.Dp.same f d4
      have sm := s3.trans (s4.trans (s5.trans (s6.trans f)))
      have tm := fun e (he : e ∈ ds) => (hb e he).tm
      have : r = 0 ∨ r = 1 ∨ r = 2 := by omega
      rcases this with rfl | rfl | rfl
      · exact ixl upd_same rfl (fin _ _ _ (.tup _ (by have := cutG_len ds none (some (-1)); omega) fun e he => (tm e (cutG_mem he)).1) (.tup _ fun e he => (tm e (cutG_mem he)).2) sm d1')
      · refine ixl upd_same rfl (fin _ _ _ (.tup _ (by rw [List.length_append]; have := cutG_len ds none (some 1); omega) fun e he => ?_) (.tup _ fun e he => ?_) sm d3')
        · rcases List.mem_append.mp he with he | he
          · exact (tm e he).1
          · exact (tm e (cutG_mem he)).1
        · rcases List.mem_append.mp he with he | he
          · exact (tm e he).2
          · exact (tm e (cutG_mem he)).2
      · exact ixl upd_same rfl (fin _ _ _ (.tup _ (by rw [List.length_reverse]; omega) fun e he => (tm e (List.mem_reverse.mp he)).1) (.tup _ fun e he => (tm e (List.mem_reverse.mp he)).2) sm d4')
theorem ok__law_bent {f : Addr} {fd : FuncData} (F : Fun K "_law_bent" "_law_bent" s__law_bent f fd) (hm : mg "_law_bent" = some (.ref f)) (hb : Binds K fd ["draw", "data"] []) (c__law_take : Cl P w K mg base 1 "_law_take" (spTake)) (c__law_whole : Cl P w K mg base 1 "_law_whole" (spWhole K)) (b_isinstance : mg "isinstance" = none) (b_tuple : mg "tuple" = none) (b_len : mg "len" = none) : ∀ n : Nat, FnOk P w K mg base CX0 (n + 5) f fd ["draw", "data"] (spBent K n)
  | 0 => fn_false fun vs H Q E h => by
    obtain ⟨_, _, _, _, _, _, _, h, _⟩ := h; omega
  | n + 1 => step__law_bent F ⟨f, fd, _, ok__law_bent F hm hb c__law_take c__law_whole b_isinstance b_tuple b_len n, hm, F.kp, hb⟩ c__law_take c__law_whole b_isinstance b_tuple b_len
end

end Z

set_option Elab.async false
set_option linter.all false
set_option maxRecDepth 100000
set_option maxHeartbeats 4000000

namespace Z
open PySem PySem.Spec PyProof.Rows L2 Z.R
local macro_rules | `(tactic| walk_at "sx") => `(tactic| try simp only [and_assoc, cxOf_K, cxOf_Kn, C8.tCut, rEq, rNe, sc_ii, sc_ss, sc_bb, sc_is, sc_si, sc_bs, sc_sb, tSeq, tAsg, tPar, tPar3, tC, gName, gNil, gCons, gTup, gSub, rSetL, L2.start, tVar, tOp, tUn, rI0, rI, rU, tTest, tChain, tOrV, tAndV, tNotV, tCB, tCons, tNil, tLst, tTup, tIfS, tNext, tRet, tRetN, tDrop, tAnd, tOr, tNot, tB, tIf, tSl, tFld, sFld, putF, tNoPart, tPart, rSlL, tBM, tBM0, rAppend, rPop, rExtend, tCall, tMeth, tLstRg, tRg1, tRg2, List.map_cons, List.map_nil, List.replicate, List.length_cons, List.length_nil, List.append, List.cons_append, List.nil_append, List.append_nil, List.getElem?_cons_zero, List.getElem?_cons_succ, List.set_cons_zero, List.set_cons_succ, Option.some.injEq, exists_eq_left', exists_eq_left, exists_eq, exists_and_left, exists_const, wipe, tYes, upd_same, ↓reduceIte, decide_false, decide_true, Bool.not_true, Bool.not_false, Bool.false_eq_true, V.int.injEq, HO.lst.injEq, HO.tup.injEq, V.ref.injEq, V.str.injEq, one_inj, le_a, le_z, le_0, le_9, mem_let, mem_dig, V.bl.injEq, List.cons.injEq, and_true, true_and, reduceCtorEq, false_and, exists_false, or_false, false_or])
theorem R.op_repTK {X : Cx} {K : PySem.W.Frag} (h : X.K = K) : OpR X (binaryOp .Mult) (rRepT K) := h ▸ op_repT
/-- a heap without the list of the draws -/
def Off (a : Addr) (H : Hp) : Hp := fun b => if b = a then none else H b
theorem Off.but {a : Addr} {H H' : Hp} (f : But a H H') : Same (Off a H) H' := fun b o e => by
  unfold Off at e
  split at e
  · cases e
  · exact f b o e (by assumption)
theorem Off.buts {a : Addr} {H H' : Hp} (f : But a H H') : Same (Off a H) (Off a H') := fun b o e => by
  unfold Off at e ⊢
  split at e
  · cases e
  · rename_i h
    rw [if_neg h]
    exact f b o e h
theorem Off.ne {a p : Addr} {H : Hp} (h : p ≠ a) : Off a H p = H p := if_neg h
/-- what has been laid, none of it the list of the draws -/
structure Wd (K : PySem.W.Frag) (a : Addr) (H0 H : Hp) (l : List (V × PyData)) : Prop where
  sm : Same H0 H
  dp : ∀ x ∈ l, Dp K (Off a H) x.1 x.2
namespace Wd
variable {K : PySem.W.Frag} {a p : Addr} {H0 H : Hp} {l : List (V × PyData)} {vs : List V} {ds : List PyData}
theorem get (W : Wd K a H0 H l) (k : Nat) {v : V} {d : PyData} (h : l[k]? = some (v, d)) : Dp K (Off a H) v d := W.dp _ (List.mem_of_getElem? h)
theorem off (W : Wd K a H0 H l) (hda : H0 a ≠ none) (np : H p = none) : p ≠ a := fun e => by
  subst e
  exact hda (none_back W.sm np)
theorem tup (W : Wd K a H0 H l) (hda : H0 a ≠ none) (np : H p = none) (h : DpAll K (Off a H) vs ds) : Wd K a H0 (upd H p (.tup vs)) ((.ref p, .tuple ds) :: l) := by
  have pa := W.off hda np
  have f : Same (Off a H) (Off a (upd H p (.tup vs))) := Off.buts (.of (same_upd np))
  refine ⟨W.sm.trans (same_upd np), fun x hx => ?_⟩
  rcases List.mem_cons.mp hx with rfl | hx
  · exact .tup (SqT.of (by rw [Off.ne pa, upd_same])) (L2.DpAll.same f h)
  · exact L2.Dp.same f (W.dp x hx)
theorem lst (W : Wd K a H0 H l) (hda : H0 a ≠ none) (np : H p = none) (h : DpAll K (Off a H) vs ds) : Wd K a H0 (upd H p (.lst vs)) ((.ref p, .list ds) :: l) := by
  have pa := W.off hda np
  have f : Same (Off a H) (Off a (upd H p (.lst vs))) := Off.buts (.of (same_upd np))
  refine ⟨W.sm.trans (same_upd np), fun x hx => ?_⟩
  rcases List.mem_cons.mp hx with rfl | hx
  · exact .lst (SqL.of (by rw [Off.ne pa, upd_same])) (L2.DpAll.same f h)
  · exact L2.Dp.same f (W.dp x hx)
end Wd
theorem dps_rep {K : PySem.W.Frag} {H : Hp} {v : V} {d : PyData} (n : Nat) (h : Dp K H v d) : DpAll K H (List.replicate n v) (List.replicate n d) := by
  induction n with
  | zero => exact .nil
  | succ n ih => exact .cons h ih
mutual
def tmB : PyData → Bool
  | .none => true
  | .bool _ => true
  | .int _ => true
  | .str x => decide (x.length ≤ 1000) && PyData.strOk x
  | .tuple ds => decide (ds.length ≤ 1000) && tmAll ds
  | .list ds => decide (ds.length ≤ 1000) && tmAll ds
  | _ => false
def tmAll : List PyData → Bool
  | [] => true
  | d :: ds => tmB d && tmAll ds
end
mutual
theorem tmB_tm : ∀ {d : PyData}, tmB d = true → Tm d
  | .none, _ => .non
  | .bool _, _ => .bl _
  | .int _, _ => .int _
  | .str x, h => by
    rw [tmB, Bool.and_eq_true, decide_eq_true_eq] at h
    exact .str x h.1 h.2
  | .tuple ds, h => by
    rw [tmB, Bool.and_eq_true, decide_eq_true_eq] at h
    exact .tup ds h.1 (tmAll_tm h.2)
  | .list ds, h => by
    rw [tmB, Bool.and_eq_true, decide_eq_true_eq] at h
    exact .lst ds h.1 (tmAll_tm h.2)
theorem tmAll_tm : ∀ {ds : List PyData}, tmAll ds = true → ∀ d ∈ ds, Tm d
  | [], _ => nofun
  | e :: ds, h => by
    rw [tmAll, Bool.and_eq_true] at h
    have h1 := tmB_tm h.1
    have h2 := tmAll_tm h.2
    intro d hd
    rcases List.mem_cons.mp hd with rfl | hd
    · exact h1
    · exact h2 d hd
end
theorem srt_ba : Pt.srt [.deed "b", .deed "a"] = [.deed "a", .deed "b"] := by
  have hp := Pt.srt_perm [.deed "b", .deed "a"]
  have hs := Pt.srt_pw [.deed "b", .deed "a"]
  match Pt.srt [.deed "b", .deed "a"], hp.length_eq, hp, hs with
  | [x, y], _, hp, hs =>
    have hx : x = .deed "b" ∨ x = .deed "a" := by
      have := hp.subset (List.mem_cons_self ..)
      simpa using this
    rcases hx with rfl | rfl
    · have h1 : [y].Perm [Pt.deed ("a" : Str)] := (List.perm_cons _).mp hp
      obtain rfl : y = .deed "a" := by simpa using h1.subset (List.mem_cons_self ..)
      have h2 : Pt.kLe (.deed "b") (.deed "a") := (List.pairwise_cons.mp hs).1 _ (List.mem_cons_self ..)
      have h3 : PySem.W.dataLe false Pt.key (.deed ("b" : Str)) (.deed "a") = false := by
        show PySem.W.sortLe (PyProof.Rows.listOrd PyProof.Rows.itemOrd) false (PySem.W.keyToks) (Pt.key (.deed "b")) (Pt.key (.deed "a")) = false
        rw [Pt.key, Pt.key]
        decide +kernel
      rw [Pt.kLe, h3] at h2
      cases h2
    · have h1 : [Pt.deed ("a" : Str), y].Perm [.deed "a", .deed "b"] := hp.trans (List.Perm.swap ..)
      have h2 : [y].Perm [Pt.deed ("b" : Str)] := (List.perm_cons _).mp h1
      obtain rfl : y = .deed "b" := by simpa using h2.subset (List.mem_cons_self ..)
      rfl
theorem ba_no : (Pt.partyP (.tuple [.str "beside", .tuple [.tuple [.str "deed", .str "b"], .tuple [.str "deed", .str "a"]]])).isNone = true := by
  have h1 : Pt.mapO (Pt.fitsP 29) [.tuple [.str "deed", .str "b"], .tuple [.str "deed", .str "a"]] = some [.deed "b", .deed "a"] := by
    simp [Pt.mapO, Pt.fitsP, show isName "b" = true by decide +kernel, show isName "a" = true by decide +kernel]
  have h2 : Pt.partsOk false [.deed "b", .deed "a"] = false := by
    unfold Pt.partsOk Pt.ordB
    rw [srt_ba]
    simp only [List.map_cons, List.map_nil, Pt.key]
    decide +kernel
  have h3 : Pt.fitsP 30 (.tuple [.str "beside", .tuple [.tuple [.str "deed", .str "b"], .tuple [.str "deed", .str "a"]]]) = none := by
    rw [Pt.fitsP]
    have d1 : ¬ (Str.ofString "beside" = Str.ofString "deed") := by decide +kernel
    have d2 : (Str.ofString "beside" = Str.ofString "row" ∨ Str.ofString "beside" = Str.ofString "beside") := .inr rfl
    have d3 : decide (Str.ofString "beside" = Str.ofString "row") = false := by decide +kernel
    rw [if_neg d1, if_pos d2]
    simp only [List.length_cons, List.length_nil, h1, d3, h2]
    simp
  unfold Pt.partyP
  rw [h3]
  decide +kernel
def spOdd (K : PySem.W.Frag) : Sp := fun vs H Q _ => ∃ (a c : Addr) (m : Nat), vs = [.ref a] ∧ DrawAt H a c m ∧ m + 1 ≤ 1000000000 ∧
  ∀ (d : PyData) (v : V) (H' : Hp), Tm d → Pt.partyP d = none → Dp K H' v d → DrawAt H' a c (m + 1) → But a H H' → Q v H'
section
variable {P : Program} {w : World} {K : PySem.W.Frag} {mg : Str → Option Value} {base : Heap}
theorem sc__law_odd_party : FnScope ["draw", "a", "b", "values"] ["draw"] (defScope s__law_odd_party) := ⟨rfl, rfl, rfl, by decide +kernel, rfl, by decide +kernel, by decide +kernel⟩
theorem ok__law_odd_party {f : Addr} {fd : FuncData} (F : Fun K "_law_odd_party" "_law_odd_party" s__law_odd_party f fd) (c__law_take : Cl P w K mg base 1 "_law_take" (spTake)) (b_len : mg "len" = none) : FnOk P w K mg base CX0 3 f fd ["draw"] (spOdd K) := by
  have nd := sc__law_odd_party.nd
  refine F.ok sc__law_odd_party (fun vs H Q E h => ?_) (fun cdv A outer s H vs Q E hr h => ?_)
  · obtain ⟨a, c, m, rfl, _⟩ := h
    rfl
  obtain ⟨a, c, m, rfl, hD, hm, q⟩ := h
  refine ⟨_, (pss_cons (ps_asg (pe_tup (pa_cons (pe_tup (pa_cons pe_str (pa_cons pe_str pa_nil))) (pa_cons (pe_tup (pa_cons pe_str (pa_cons pe_str pa_nil))) pa_nil))) (pg_tupK (K := K) rfl (n := 2) (by rfl) (pgs_cons (pg_name (i := 1) nd rfl (.inl rfl)) (pgs_cons (pg_name (i := 2) nd rfl (.inl rfl)) pgs_nil))))
  (pss_cons (ps_set (i := 3) nd rfl (.inl rfl) (pe_lst (pa_cons pe_non (pa_cons (pe_tup pa_nil) (pa_cons pe_str (pa_cons (pe_tup (pa_cons pe_str pa_nil)) (pa_cons (pe_tup (pa_cons pe_str (pa_cons pe_str pa_nil))) (pa_cons (pe_tup (pa_cons pe_str (pa_cons (pe_tup (pa_cons (pv 1) pa_nil)) pa_nil))) (pa_cons (pe_tup (pa_cons pe_str (pa_cons (pe_lst (pa_cons (pv 1) (pa_cons (pv 2) pa_nil))) pa_nil))) (pa_cons (pe_tup (pa_cons pe_str (pa_cons (pe_tup (pa_cons (pv 2) (pa_cons (pv 1) pa_nil))) pa_nil))) (pa_cons (pe_tup (pa_cons pe_str (pa_cons (pe_tup (pa_cons (pv 1) (pa_cons (pe_tup (pa_cons pe_str (pa_cons (pe_tup (pa_cons (pv 1) (pa_cons (pv 2) pa_nil))) pa_nil))) pa_nil))) pa_nil))) pa_nil)))))))))))
  (pss_cons (ps_set (i := 3) nd rfl (.inl rfl) (pe_op op_cat (pv 3) (pe_lst (pa_cons (pe_tup (pa_cons pe_str (pa_cons (pe_tup (pa_cons (pe_tup (pa_cons pe_str pa_nil)) (pa_cons (pv 1) pa_nil))) pa_nil))) (pa_cons (pe_tup (pa_cons pe_str (pa_cons (pe_tup (pa_cons (pv 1) (pa_cons (pe_tup (pa_cons pe_str pa_nil)) pa_nil))) pa_nil))) (pa_cons (pe_tup (pa_cons pe_str (pa_cons (pe_tup pa_nil) pa_nil))) (pa_cons (pe_lst (pa_cons pe_str (pa_cons pe_str pa_nil))) (pa_cons (pe_tup (pa_cons pe_str (pa_cons (pe_op (R.op_repTK (K := K) rfl) (pe_tup (pa_cons (pv 1) pa_nil)) pe_int) pa_nil))) (pa_cons (pe_tup (pa_cons pe_str (pa_cons (pv 1) pa_nil))) pa_nil)))))))))
  (pss_one (ps_ret (pe_ix (ix_listK (K := K) rfl) (pv 3) (pcl c__law_take hr (by omega) (pa_cons (pv 0) (pa_cons (pe_callB (call_lenK (K := K) rfl) (by rfl) b_len (by decide +kernel) (pa_cons (pv 3) pa_nil)) pa_nil))) (fun _ _ => rfl))))))), ?_⟩
  walk_at "sx"
  have hda : H a ≠ none := by
    obtain ⟨ys, e⟩ := hD.lst
    rw [e]
    exact nofun
  have W : Wd K a H H [] := ⟨.refl _, nofun⟩
  refine ⟨size60 (by simp), fun p1 n1 => ?_⟩
  have W := W.tup hda n1 (.cons (.str "deed") (.cons (.str "a") .nil))
  generalize upd H p1 (.tup [.str "deed", .str "a"]) = G1 at W ⊢
  refine ⟨size60 (by simp), fun p2 n2 => ?_⟩
  have W := W.tup hda n2 (.cons (.str "deed") (.cons (.str "b") .nil))
  generalize upd G1 p2 (.tup [.str "deed", .str "b"]) = G2 at W ⊢
  refine ⟨size60 (by simp), fun p3 n3 => ?_⟩
  have W := W.tup hda n3 (.cons (W.get 1 rfl) (.cons (W.get 0 rfl) .nil))
  have e3 := upd_same (H := G2) (a := p3) (o := (.tup [.ref p1, .ref p2]))
  generalize upd G2 p3 (.tup [.ref p1, .ref p2]) = G3 at W e3 ⊢
  refine ⟨_, SqT.of e3, rfl, _, _, rfl, _, _, rfl, rfl, ?_⟩
  refine ⟨size60 (by simp), fun p4 n4 => ?_⟩
  have W := W.tup hda n4 .nil
  generalize upd G3 p4 (.tup []) = G4 at W ⊢
  refine ⟨size60 (by simp), fun p5 n5 => ?_⟩
  have W := W.tup hda n5 (.cons (.str "deed") .nil)
  generalize upd G4 p5 (.tup [.str "deed"]) = G5 at W ⊢
  refine ⟨size60 (by simp), fun p6 n6 => ?_⟩
  have W := W.tup hda n6 (.cons (.str "deed") (.cons (.str "A") .nil))
  generalize upd G5 p6 (.tup [.str "deed", .str "A"]) = G6 at W ⊢
  refine ⟨size60 (by simp), fun p7 n7 => ?_⟩
  have W := W.tup hda n7 (.cons (W.get 5 rfl) .nil)
  generalize upd G6 p7 (.tup [.ref p1]) = G7 at W ⊢
  refine ⟨size60 (by simp), fun p8 n8 => ?_⟩
  have W := W.tup hda n8 (.cons (.str "row") (.cons (W.get 0 rfl) .nil))
  generalize upd G7 p8 (.tup [.str "row", .ref p7]) = G8 at W ⊢
  refine ⟨size60 (by simp), fun p9 n9 => ?_⟩
  have W := W.lst hda n9 (.cons (W.get 7 rfl) (.cons (W.get 6 rfl) .nil))
  generalize upd G8 p9 (.lst [.ref p1, .ref p2]) = G9 at W ⊢
  refine ⟨size60 (by simp), fun p10 n10 => ?_⟩
  have W := W.tup hda n10 (.cons (.str "row") (.cons (W.get 0 rfl) .nil))
  generalize upd G9 p10 (.tup [.str "row", .ref p9]) = G10 at W ⊢
  refine ⟨size60 (by simp), fun p11 n11 => ?_⟩
  have W := W.tup hda n11 (.cons (W.get 8 rfl) (.cons (W.get 9 rfl) .nil))
  generalize upd G10 p11 (.tup [.ref p2, .ref p1]) = G11 at W ⊢
  refine ⟨size60 (by simp), fun p12 n12 => ?_⟩
  have W := W.tup hda n12 (.cons (.str "beside") (.cons (W.get 0 rfl) .nil))
  generalize upd G11 p12 (.tup [.str "beside", .ref p11]) = G12 at W ⊢
  refine ⟨size60 (by simp), fun p13 n13 => ?_⟩
  have W := W.tup hda n13 (.cons (W.get 11 rfl) (.cons (W.get 10 rfl) .nil))
  generalize upd G12 p13 (.tup [.ref p1, .ref p2]) = G13 at W ⊢
  refine ⟨size60 (by simp), fun p14 n14 => ?_⟩
  have W := W.tup hda n14 (.cons (.str "row") (.cons (W.get 0 rfl) .nil))
  generalize upd G13 p14 (.tup [.str "row", .ref p13]) = G14 at W ⊢
  refine ⟨size60 (by simp), fun p15 n15 => ?_⟩
  have W := W.tup hda n15 (.cons (W.get 13 rfl) (.cons (W.get 0 rfl) .nil))
  generalize upd G14 p15 (.tup [.ref p1, .ref p14]) = G15 at W ⊢
  refine ⟨size60 (by simp), fun p16 n16 => ?_⟩
  have W := W.tup hda n16 (.cons (.str "row") (.cons (W.get 0 rfl) .nil))
  generalize upd G15 p16 (.tup [.str "row", .ref p15]) = G16 at W ⊢
  refine ⟨size60 (by simp), fun p17 n17 => ?_⟩
  have W := W.lst hda n17 (.cons .non (.cons (W.get 12 rfl) (.cons (.str "a") (.cons (W.get 11 rfl) (.cons (W.get 10 rfl) (.cons (W.get 8 rfl) (.cons (W.get 6 rfl) (.cons (W.get 4 rfl) (.cons (W.get 0 rfl) .nil)))))))))
  have e17 := upd_same (H := G16) (a := p17) (o := (.lst [.non, .ref p4, .str "a", .ref p5, .ref p6, .ref p8, .ref p10, .ref p12, .ref p16]))
  generalize upd G16 p17 (.lst [.non, .ref p4, .str "a", .ref p5, .ref p6, .ref p8, .ref p10, .ref p12, .ref p16]) = G17 at W e17 ⊢
  refine ⟨size60 (by simp), fun p18 n18 => ?_⟩
  have W := W.tup hda n18 (.cons (.str "empty") .nil)
  have e17 := (same_upd (o := (.tup [.str "empty"])) n18) _ _ e17
  generalize upd G17 p18 (.tup [.str "empty"]) = G18 at W e17 ⊢
  refine ⟨size60 (by simp), fun p19 n19 => ?_⟩
  have W := W.tup hda n19 (.cons (W.get 0 rfl) (.cons (W.get 17 rfl) .nil))
  have e17 := (same_upd (o := (.tup [.ref p18, .ref p1])) n19) _ _ e17
  generalize upd G18 p19 (.tup [.ref p18, .ref p1]) = G19 at W e17 ⊢
  refine ⟨size60 (by simp), fun p20 n20 => ?_⟩
  have W := W.tup hda n20 (.cons (.str "row") (.cons (W.get 0 rfl) .nil))
  have e17 := (same_upd (o := (.tup [.str "row", .ref p19])) n20) _ _ e17
  generalize upd G19 p20 (.tup [.str "row", .ref p19]) = G20 at W e17 ⊢
  refine ⟨size60 (by simp), fun p21 n21 => ?_⟩
  have W := W.tup hda n21 (.cons (.str "empty") .nil)
  have e17 := (same_upd (o := (.tup [.str "empty"])) n21) _ _ e17
  generalize upd G20 p21 (.tup [.str "empty"]) = G21 at W e17 ⊢
  refine ⟨size60 (by simp), fun p22 n22 => ?_⟩
  have W := W.tup hda n22 (.cons (W.get 20 rfl) (.cons (W.get 0 rfl) .nil))
  have e17 := (same_upd (o := (.tup [.ref p1, .ref p21])) n22) _ _ e17
  generalize upd G21 p22 (.tup [.ref p1, .ref p21]) = G22 at W e17 ⊢
  refine ⟨size60 (by simp), fun p23 n23 => ?_⟩
  have W := W.tup hda n23 (.cons (.str "beside") (.cons (W.get 0 rfl) .nil))
  have e17 := (same_upd (o := (.tup [.str "beside", .ref p22])) n23) _ _ e17
  generalize upd G22 p23 (.tup [.str "beside", .ref p22]) = G23 at W e17 ⊢
  refine ⟨size60 (by simp), fun p24 n24 => ?_⟩
  have W := W.tup hda n24 .nil
  have e17 := (same_upd (o := (.tup [])) n24) _ _ e17
  generalize upd G23 p24 (.tup []) = G24 at W e17 ⊢
  refine ⟨size60 (by simp), fun p25 n25 => ?_⟩
  have W := W.tup hda n25 (.cons (.str "empty") (.cons (W.get 0 rfl) .nil))
  have e17 := (same_upd (o := (.tup [.str "empty", .ref p24])) n25) _ _ e17
  generalize upd G24 p25 (.tup [.str "empty", .ref p24]) = G25 at W e17 ⊢
  refine ⟨size60 (by simp), fun p26 n26 => ?_⟩
  have W := W.lst hda n26 (.cons (.str "deed") (.cons (.str "a") .nil))
  have e17 := (same_upd (o := (.lst [.str "deed", .str "a"])) n26) _ _ e17
  generalize upd G25 p26 (.lst [.str "deed", .str "a"]) = G26 at W e17 ⊢
  refine ⟨size60 (by simp), fun p27 n27 => ?_⟩
  have W := W.tup hda n27 (.cons (W.get 25 rfl) .nil)
  have e27 := upd_same (H := G26) (a := p27) (o := (.tup [.ref p1]))
  have e17 := (same_upd (o := (.tup [.ref p1])) n27) _ _ e17
  generalize upd G26 p27 (.tup [.ref p1]) = G27 at W e17 e27 ⊢
  refine ⟨_, _, _, rfl, rfl, SqT.of e27, List.cons_ne_nil _ _, by decide, by decide, by simp, fun p28 n28 => ?_⟩
  rw [show ((61 : Int).toNat) = 61 from rfl, List.flatten_replicate_singleton]
  have W := W.tup hda n28 (dps_rep 61 (W.get 26 rfl))
  have e17 := (same_upd (o := (.tup (List.replicate 61 (.ref p1)))) n28) _ _ e17
  generalize upd G27 p28 (.tup (List.replicate 61 (.ref p1))) = G28 at W e17 ⊢
  refine ⟨size60 (by simp), fun p29 n29 => ?_⟩
  have W := W.tup hda n29 (.cons (.str "beside") (.cons (W.get 0 rfl) .nil))
  have e17 := (same_upd (o := (.tup [.str "beside", .ref p28])) n29) _ _ e17
  generalize upd G28 p29 (.tup [.str "beside", .ref p28]) = G29 at W e17 ⊢
  refine ⟨size60 (by simp), fun p30 n30 => ?_⟩
  have W := W.tup hda n30 (.cons (.str "row") (.cons (W.get 28 rfl) .nil))
  have e17 := (same_upd (o := (.tup [.str "row", .ref p1])) n30) _ _ e17
  generalize upd G29 p30 (.tup [.str "row", .ref p1]) = G30 at W e17 ⊢
  refine ⟨size60 (by simp), fun p31 n31 => ?_⟩
  have W := W.lst hda n31 (.cons (W.get 10 rfl) (.cons (W.get 7 rfl) (.cons (W.get 5 rfl) (.cons (W.get 4 rfl) (.cons (W.get 1 rfl) (.cons (W.get 0 rfl) .nil))))))
  have e17 := (same_upd (o := (.lst [.ref p20, .ref p23, .ref p25, .ref p26, .ref p29, .ref p30])) n31) _ _ e17
  have e31 := upd_same (H := G30) (a := p31) (o := (.lst [.ref p20, .ref p23, .ref p25, .ref p26, .ref p29, .ref p30]))
  generalize upd G30 p31 (.lst [.ref p20, .ref p23, .ref p25, .ref p26, .ref p29, .ref p30]) = G31 at W e17 e31 ⊢
  refine ⟨p17, p31, _, _, rfl, rfl, e17, e31, size60 (by simp), fun p32 n32 => ?_⟩
  have p32a := W.off hda n32
  have Ds := hD.same (W.sm.trans (same_upd (o := .lst ([V.non, V.ref p4, V.str "a", V.ref p5, V.ref p6, V.ref p8, V.ref p10, V.ref p12, V.ref p16] ++ [V.ref p20, V.ref p23, V.ref p25, V.ref p26, V.ref p29, V.ref p30])) n32))
  refine ⟨_, len_l upd_same rfl, a, c, 15, m, rfl, Ds, by decide, by decide, by omega, fun r H1 r0 r1 D1 B1 => ?_⟩
  have el := B1 p32 _ upd_same p32a
  have Bt : But a H H1 := (But.of (W.sm.trans (same_upd n32))).trans B1
  have so : Same (Off a G31) H1 := fun b o e => by
    by_cases h : b = a
    · subst h
      unfold Off at e
      rw [if_pos rfl] at e
      cases e
    · rw [Off.ne h] at e
      exact B1 b o (same_upd n32 b o e) h
  have fin : ∀ (k : Nat) (d : PyData) (v : V), ([V.non, V.ref p4, V.str "a", V.ref p5, V.ref p6, V.ref p8, V.ref p10, V.ref p12, V.ref p16] ++ [V.ref p20, V.ref p23, V.ref p25, V.ref p26, V.ref p29, V.ref p30])[k]? = some v → Dp K (Off a G31) v d → (Pt.partyP d).isNone = true → Tm d → rIxL K (.ref p32) (.int k) H1 Q := fun k d v hk dp hp tm =>
    ixl el (atI_nat hk) (q d v H1 tm (Option.isNone_iff_eq_none.mp hp) (L2.Dp.same so dp) D1 Bt)
  have : r = 0 ∨ r = 1 ∨ r = 2 ∨ r = 3 ∨ r = 4 ∨ r = 5 ∨ r = 6 ∨ r = 7 ∨ r = 8 ∨ r = 9 ∨ r = 10 ∨ r = 11 ∨ r = 12 ∨ r = 13 ∨ r = 14 := by omega
  rcases this with rfl | rfl | rfl | rfl | rfl | rfl | rfl | rfl | rfl | rfl | rfl | rfl | rfl | rfl | rfl
  · exact fin 0 (.none) _ rfl .non (by decide +kernel) (tmB_tm (by decide +kernel))
  · exact fin 1 (.tuple []) _ rfl (W.get 27 rfl) (by decide +kernel) (tmB_tm (by decide +kernel))
  · exact fin 2 (.str "a") _ rfl (.str "a") (by decide +kernel) (tmB_tm (by decide +kernel))
  · exact fin 3 (.tuple [.str "deed"]) _ rfl (W.get 26 rfl) (by decide +kernel) (tmB_tm (by decide +kernel))
  · exact fin 4 (.tuple [.str "deed", .str "A"]) _ rfl (W.get 25 rfl) (by decide +kernel) (tmB_tm (by decide +kernel))
  · exact fin 5 (.tuple [.str "row", .tuple [.tuple [.str "deed", .str "a"]]]) _ rfl (W.get 23 rfl) (by decide +kernel) (tmB_tm (by decide +kernel))
  · exact fin 6 (.tuple [.str "row", .list [.tuple [.str "deed", .str "a"], .tuple [.str "deed", .str "b"]]]) _ rfl (W.get 21 rfl) (by decide +kernel) (tmB_tm (by decide +kernel))
  · exact fin 7 (.tuple [.str "beside", .tuple [.tuple [.str "deed", .str "b"], .tuple [.str "deed", .str "a"]]]) _ rfl (W.get 19 rfl) ba_no (tmB_tm (by decide +kernel))
  · exact fin 8 (.tuple [.str "row", .tuple [.tuple [.str "deed", .str "a"], .tuple [.str "row", .tuple [.tuple [.str "deed", .str "a"], .tuple [.str "deed", .str "b"]]]]]) _ rfl (W.get 15 rfl) (by decide +kernel) (tmB_tm (by decide +kernel))
  · exact fin 9 (.tuple [.str "row", .tuple [.tuple [.str "empty"], .tuple [.str "deed", .str "a"]]]) _ rfl (W.get 11 rfl) (by decide +kernel) (tmB_tm (by decide +kernel))
  · exact fin 10 (.tuple [.str "beside", .tuple [.tuple [.str "deed", .str "a"], .tuple [.str "empty"]]]) _ rfl (W.get 8 rfl) (by decide +kernel) (tmB_tm (by decide +kernel))
  · exact fin 11 (.tuple [.str "empty", .tuple []]) _ rfl (W.get 6 rfl) (by decide +kernel) (tmB_tm (by decide +kernel))
  · exact fin 12 (.list [.str "deed", .str "a"]) _ rfl (W.get 5 rfl) (by decide +kernel) (tmB_tm (by decide +kernel))
  · exact fin 13 (.tuple [.str "beside", .tuple (List.replicate 61 (.tuple [.str "deed", .str "a"]))]) _ rfl (W.get 2 rfl) (by decide +kernel) (tmB_tm (by decide +kernel))
  · exact fin 14 (.tuple [.str "row", .tuple [.str "deed", .str "a"]]) _ rfl (W.get 1 rfl) (by decide +kernel) (tmB_tm (by decide +kernel))
end

end Z

set_option Elab.async false
set_option linter.all false
set_option maxRecDepth 100000
set_option maxHeartbeats 4000000

namespace Z
open PySem PySem.Spec PyProof.Rows L2
local macro_rules | `(tactic| walk_at "sx") => `(tactic| try simp only [and_assoc, cxOf_K, cxOf_Kn, C8.tCut, rEq, rNe, sc_ii, sc_ss, sc_bb, sc_is, sc_si, sc_bs, sc_sb, tSeq, tAsg, tPar, tPar3, tC, gName, gNil, gCons, gTup, gSub, rSetL, L2.start, tVar, tOp, tUn, rI0, rI, rU, tTest, tChain, tOrV, tAndV, tNotV, tCB, tCons, tNil, tLst, tTup, tIfS, tNext, tRet, tRetN, tDrop, tAnd, tOr, tNot, tB, tIf, tSl, tFld, sFld, putF, tNoPart, tPart, rSlL, tBM, tBM0, rAppend, rPop, rExtend, tCall, tMeth, tLstRg, tRg1, tRg2, List.map_cons, List.map_nil, List.replicate, List.length_cons, List.length_nil, List.append, List.cons_append, List.nil_append, List.append_nil, List.getElem?_cons_zero, List.getElem?_cons_succ, List.set_cons_zero, List.set_cons_succ, Option.some.injEq, exists_eq_left', exists_eq_left, exists_eq, exists_and_left, exists_const, wipe, tYes, upd_same, ↓reduceIte, decide_false, decide_true, Bool.not_true, Bool.not_false, Bool.false_eq_true, V.int.injEq, HO.lst.injEq, HO.tup.injEq, V.ref.injEq, V.str.injEq, one_inj, le_a, le_z, le_0, le_9, mem_let, mem_dig, V.bl.injEq, List.cons.injEq, and_true, true_and, reduceCtorEq, false_and, exists_false, or_false, false_or])
section
open PySem PySem.Calls PyProof.Rows PySem.W
variable {prog : Program} {w : World} {A : Around} {E : Value → Shared → Prop} {s : Shared}
theorem collect_tup {l : Addr} {vs : List Value} {Q : List Value → Shared → Prop} (hl : IsTup s.heap l vs.toArray)
    (h : Q vs { s with heap := (s.heap.push (seqObj "list" #[] 0)).update s.heap.objs.size (Obj.mapSeq (· ++ vs.toArray)) }) (hsz : vs.length ≤ sizeLine) :
    wpAny (model prog w) A (collect (.ref l)) Q E s := by
  obtain ⟨o, ho, hc, n, hd⟩ := id hl
  unfold collect
  refine wpAny_bind (wpAny_runValue (codeAny_builtin entry_proto_collect' ?_))
  show wpAny _ _ (do again (.builtin "list.__iadd__" ⟨[← newList [], .ref l], []⟩)) _ _ s
  refine wpAny_bind (wpAny_newList (wpAny_pure ⟨Code.quiet_builtin _ (by decide +kernel), codeAny_builtin entry_list_iadd' ?_⟩))
  show wpAny _ _ (Builtin.List.listExtendWith (.ref s.heap.objs.size) (.ref l) (.ref s.heap.objs.size)) _ _ { s with heap := s.heap.push (seqObj "list" #[] 0) }
  unfold Builtin.List.listExtendWith
  have ho' : (s.heap.push (seqObj "list" #[] 0)).get? l = some o := Heap.get?_push_of_some _ ho
  refine wpAny_bind (wpAny_typeOf (T := "tuple") ⟨o, ho', hc⟩ ?_)
  have ht : (Value.type "tuple" == Value.type "tuple") = true := by rfl
  rw [if_pos (by rw [ht]; simp)]
  refine wpAny_bind (listItems_at ho' hd ?_)
  refine wpAny_bind (listItems_at (xs := #[]) (n := 0) (Heap.get?_push_size _ rfl) rfl ?_)
  rw [if_neg (by simp)]
  refine wpAny_bind (listUpdate_at (xs := #[]) (n := 0) (Heap.get?_push_size _ rfl) rfl ?_ (Nat.zero_le _) (by show (#[] ++ vs.toArray).size ≤ sizeLine + 1; simp only [Array.size_append, List.size_toArray, List.length_nil]; omega))
  refine wpAny_pure ?_
  show wpAny (model prog w) A (do
      let o ← load s.heap.objs.size
      match o.data with
      | .seq xs _ => pure xs.toList
      | _ => unsupported "internal:collect") Q E { s with heap := (s.heap.push (seqObj "list" #[] 0)).update s.heap.objs.size (Obj.mapSeq (· ++ vs.toArray)) }
  refine wpAny_bind (wpAny_load (get?_update_seq (Heap.get?_push_size _ rfl) _) ?_)
  show wpAny _ _ (pure ((#[] : Array Value) ++ vs.toArray).toList) Q E _
  rw [show ((#[] : Array Value) ++ vs.toArray).toList = vs by simp]
  exact wpAny_pure h
theorem sorted_intsT {l : Addr} {vs : List Value} {ns : List Int} {Q : Value → Shared → Prop} (hl : IsTup s.heap l vs.toArray) (hI : IntsAre vs ns) (hL : vs.length ≤ sizeLine)
    (h : ∀ (out : Array Value) (ns' : List Int), IntsAre out.toList ns' → ns'.Perm ns → ns'.Pairwise (· ≤ ·) → Q (.ref (s.heap.objs.size + 1)) { s with heap := sortedAll s.heap vs out }) :
    wpAny (model prog w) A (call (.builtin "sorted") [.ref l]) Q E s := by
  refine Calls.call_function_entry kind_sorted plain_sorted entry_sorted (args_sorted1 _) ?_
  unfold Builtin.«sorted»
  refine wpAny_bind (m := checkCount "sorted" 1 1 _) (wpAny_pure ?_)
  refine wpAny_bind (collect_tup hl ?_ hL)
  refine wpAny_bind (wpAny_newList ?_ hL)
  have hsz : ((s.heap.push (seqObj "list" #[] 0)).update s.heap.objs.size (Obj.mapSeq (· ++ vs.toArray))).objs.size = s.heap.objs.size + 1 := by
    rw [Heap.size_update, size_push']
  have hoL : (((s.heap.push (seqObj "list" #[] 0)).update s.heap.objs.size (Obj.mapSeq (· ++ vs.toArray))).push (seqObj "list" vs.toArray 0)).get? (s.heap.objs.size + 1) = some (seqObj "list" vs.toArray 0) := by
    rw [← hsz]; exact Heap.get?_push_size _ rfl
  show wpAny _ _ _ _ _ { s with heap := ((s.heap.push (seqObj "list" #[] 0)).update s.heap.objs.size (Obj.mapSeq (· ++ vs.toArray))).push (seqObj "list" vs.toArray 0) }
  rw [hsz]
  refine wpAny_bind (wpAny_holding (wpAny_call_entry slot_list_sort ⟨_, hoL, rfl⟩ entry_list_sort (list_sort_treeAny hoL hI hL fun out ns' h1 h2 h3 => ⟨_, rfl, ?_⟩) (args_list_sort _)))
  exact wpAny_pure ⟨_, rfl, h out ns' h1 h2 h3⟩
end
namespace R
/-- sorted(t), t a tuple of ints -/
def rSortedIT (K : PySem.W.Frag) : List V → Hp → VK → Prop := fun vs H Q => ∃ (a : Addr) (ns : List Int), vs = [V.ref a] ∧ SqT K H a (ns.map V.int) ∧
  ∀ (ns' : List Int) (p : Addr), ns'.Perm ns → ns'.Pairwise (· ≤ ·) → H p = none → Q (.ref p) (upd H p (.lst (ns'.map V.int)))
theorem cr_sortedIT {X : Cx} {K : PySem.W.Frag} (hK : X.K = K) : CallR X (.builtin "sorted") (rSortedIT K) := by
  subst hK
  intro pins s σ H vs us Q I r h
  obtain ⟨a, ns, rfl, hs, q⟩ := h
  obtain ⟨its, rv, hl, hz⟩ := I.tuple hs
  rw [Vals.ref1 r]
  have hi := rv.ints
  refine sorted_intsT hl hi (by rw [← rv.length]; exact hz) fun out ns' k1 k2 k3 => ?_
  obtain ⟨ep, he'⟩ := PyProof.Rows.sortedAll_at s.heap its out
  have hlen : (ns'.map V.int).length ≤ sizeLine := by
    rw [List.length_map, k2.length_eq]
    rw [List.length_map] at hz
    exact hz
  exact ⟨.ref _, upd H (s.heap.objs.size + 1) (.lst (ns'.map V.int)), I.laid (t' := s.toks) (fun _ _ => PyProof.Rows.sortedAll_old) (Nat.le_succ _) ⟨hlen, out.toList, ep, vals_of_ints k1, he'⟩, rfl, q _ _ k2 k3 (I.hok.fresh (Nat.le_succ _))⟩
end R

end Z

set_option Elab.async false
set_option linter.all false
set_option maxRecDepth 100000
set_option maxHeartbeats 4000000

namespace Z
open PySem PySem.Spec PyProof.Rows L2 Z.R
local macro_rules | `(tactic| walk_at "sx") => `(tactic| try simp only [and_assoc, cxOf_K, cxOf_Kn, C8.tCut, rEq, rNe, sc_ii, sc_ss, sc_bb, sc_is, sc_si, sc_bs, sc_sb, tSeq, tAsg, tPar, tPar3, tC, gName, gNil, gCons, gTup, gSub, rSetL, L2.start, tVar, tOp, tUn, rI0, rI, rU, tTest, tChain, tOrV, tAndV, tNotV, tCB, tCons, tNil, tLst, tTup, tIfS, tNext, tRet, tRetN, tDrop, tAnd, tOr, tNot, tB, tIf, tSl, tFld, sFld, putF, tNoPart, tPart, rSlL, tBM, tBM0, rAppend, rPop, rExtend, tCall, tMeth, tLstRg, tRg1, tRg2, List.map_cons, List.map_nil, List.replicate, List.length_cons, List.length_nil, List.append, List.cons_append, List.nil_append, List.append_nil, List.getElem?_cons_zero, List.getElem?_cons_succ, List.set_cons_zero, List.set_cons_succ, Option.some.injEq, exists_eq_left', exists_eq_left, exists_eq, exists_and_left, exists_const, wipe, tYes, upd_same, ↓reduceIte, decide_false, decide_true, Bool.not_true, Bool.not_false, Bool.false_eq_true, V.int.injEq, HO.lst.injEq, HO.tup.injEq, V.ref.injEq, V.str.injEq, one_inj, le_a, le_z, le_0, le_9, mem_let, mem_dig, V.bl.injEq, List.cons.injEq, and_true, true_and, reduceCtorEq, false_and, exists_false, or_false, false_or])
def TV (K : PySem.W.Frag) (H : Hp) (v : V) : Prop := ∃ d, Dp K H v d ∧ Tm d ∧ To d
def TT (K : PySem.W.Frag) (H : Hp) (v : V) (n : Nat) : Prop := ∃ ds, Dp K H v (.tuple ds) ∧ ds.length ≤ n ∧ ∀ d ∈ ds, Tm d ∧ To d
theorem TV.mono {K : PySem.W.Frag} {H H' : Hp} {v : V} (f : Tp H H') : TV K H v → TV K H' v := fun ⟨d, h, t, o⟩ => ⟨d, o.mono f _ h, t, o⟩
theorem TT.mono {K : PySem.W.Frag} {H H' : Hp} {v : V} {n : Nat} (f : Tp H H') : TT K H v n → TT K H' v n := fun ⟨ds, h, l, t⟩ => ⟨ds, (To.tup ds fun d hd => (t d hd).2).mono f _ h, l, t⟩
theorem TT.tv {K : PySem.W.Frag} {H : Hp} {v : V} {n : Nat} (h : TT K H v n) (hn : n ≤ 1000) : TV K H v := by
  obtain ⟨ds, h, l, t⟩ := h
  exact ⟨_, h, .tup _ (by omega) fun d hd => (t d hd).1, .tup _ fun d hd => (t d hd).2⟩
theorem dN_tm {l : List Nat} (h : l.length ≤ 1000) : Tm (dN l) := .tup _ (by rw [List.length_map]; exact h) fun d hd => by
  obtain ⟨i, _, rfl⟩ := List.mem_map.mp hd
  exact .int _
theorem tv0 {K : PySem.W.Frag} {H : Hp} : ∀ v ∈ ([] : List V), TV K H v := nofun
theorem tv1 {K : PySem.W.Frag} {H : Hp} {u : V} (h : TV K H u) : ∀ v ∈ [u], TV K H v := fun v hv => by
  rw [List.mem_singleton.mp hv]
  exact h
theorem tv2 {K : PySem.W.Frag} {H : Hp} {u w : V} (h : TV K H u) (h2 : TV K H w) : ∀ v ∈ [u, w], TV K H v := fun v hv => by
  rcases List.mem_cons.mp hv with rfl | hv
  · exact h
  · exact tv1 h2 v hv
/-- a value without lists, or the list of the two parts -/
def TX (K : PySem.W.Frag) (a : Addr) (vl vr : V) (H : Hp) (v : V) : Prop := TV K H v ∨ ∃ p, v = .ref p ∧ p ≠ a ∧ H p = some (.lst [vl, vr])
def RevQ (K : PySem.W.Frag) (v : V) (H : Hp) (Q : VK) : Prop := ∃ b xs, v = .ref b ∧ SqT K H b xs ∧ ∀ p, H p = none → Q (.ref p) (upd H p (.tup xs.reverse))
structure Tr (K : PySem.W.Frag) (a c : Addr) (H0 : Hp) (vl vr : V) (lots : List (List Nat)) (row : List Nat) (m : Nat) (H : Hp) (l : List (V × Nat)) (rl : List (Addr × List V)) (gl : List V) : Prop where
  bt : But a H0 H
  dr : DrawAt H a c m
  tt : ∀ x ∈ l, TT K H x.1 x.2
  rl : ∀ x ∈ rl, x.1 ≠ a ∧ H x.1 = some (.lst x.2)
  gd : ∀ u ∈ gl, TX K a vl vr H u
  dl : Dp K H vl (.tuple (lots.map dN))
  dw : Dp K H vr (dN row)
namespace Tr
variable {K : PySem.W.Frag} {a c : Addr} {H0 H H' : Hp} {vl vr v w : V} {lots : List (List Nat)} {row : List Nat} {m m' n k : Nat} {l : List (V × Nat)} {rl : List (Addr × List V)} {gl : List V} {Q : VK}
theorem lotsTo (lots : List (List Nat)) : To (.tuple (lots.map dN)) := .tup _ fun d hd => by
  obtain ⟨x, _, rfl⟩ := List.mem_map.mp hd
  exact dN_to x
theorem but (W : Tr K a c H0 vl vr lots row m H l rl gl) (B : But a H H') (D : DrawAt H' a c m') : Tr K a c H0 vl vr lots row m' H' l rl gl where
  bt := W.bt.trans B
  dr := D
  tt := fun x hx => (W.tt x hx).mono (W.dr.tp B)
  rl := fun x hx => ⟨(W.rl x hx).1, B _ _ (W.rl x hx).2 (W.rl x hx).1⟩
  gd := fun u hu => (W.gd u hu).imp (fun h => h.mono (W.dr.tp B)) fun ⟨p, e, n, h⟩ => ⟨p, e, n, B _ _ h n⟩
  dl := (lotsTo lots).mono (W.dr.tp B) _ W.dl
  dw := (dN_to row).mono (W.dr.tp B) _ W.dw
theorem same (W : Tr K a c H0 vl vr lots row m H l rl gl) (s : Same H H') : Tr K a c H0 vl vr lots row m H' l rl gl := W.but (.of s) (W.dr.same s)
theorem get (W : Tr K a c H0 vl vr lots row m H l rl gl) (i : Nat) (h : l[i]? = some (v, n)) : TT K H v n := W.tt _ (List.mem_of_getElem? h)
theorem tv (W : Tr K a c H0 vl vr lots row m H l rl gl) (i : Nat) (h : l[i]? = some (v, n)) (hn : n ≤ 1000 := by first | decide | simp) : TV K H v := (W.get i h).tv hn
theorem raw (W : Tr K a c H0 vl vr lots row m H l rl gl) (i : Nat) {p : Addr} {vs : List V} (h : rl[i]? = some (p, vs)) : p ≠ a ∧ H p = some (.lst vs) := W.rl _ (List.mem_of_getElem? h)
theorem push (W : Tr K a c H0 vl vr lots row m H l rl gl) (h : TT K H v n) : Tr K a c H0 vl vr lots row m H ((v, n) :: l) rl gl :=
  have h2 : ∀ x ∈ (v, n) :: l, TT K H x.1 x.2 := fun x hx => by
    rcases List.mem_cons.mp hx with rfl | hx
    · exact h
    · exact W.tt x hx
  { W with tt := h2 }
theorem sl (W : Tr K a c H0 vl vr lots row m H l rl gl) (i : Nat) {lo hi : Option Int} (h : l[i]? = some (v, n)) (q : ∀ v' H', Tr K a c H0 vl vr lots row m H' ((v', n) :: l) rl gl → Q v' H') : rSlA K v lo hi H Q := by
  obtain ⟨ds, d, hl, t⟩ := W.get i h
  exact sl_dp d fun v' H' s d' => q v' H' ((W.same s).push ⟨_, d', Nat.le_trans (cutG_len ds lo hi) hl, fun e he => t e (cutG_mem he)⟩)
theorem cat (W : Tr K a c H0 vl vr lots row m H l rl gl) (i j : Nat) (h : l[i]? = some (v, n)) (h2 : l[j]? = some (w, k)) (hn : n + k ≤ 1000) (q : ∀ v' H', Tr K a c H0 vl vr lots row m H' ((v', n + k) :: l) rl gl → Q v' H') : rCatA K v w H Q := by
  obtain ⟨ds, d, hl, t⟩ := W.get i h
  obtain ⟨es, d2, hl2, t2⟩ := W.get j h2
  refine cat_dp d d2 (by omega) fun v' H' s d' => q v' H' ((W.same s).push ⟨_, d', by rw [List.length_append]; omega, fun e he => ?_⟩)
  rcases List.mem_append.mp he with he | he
  · exact t e he
  · exact t2 e he
theorem revIn (W : Tr K a c H0 vl vr lots row m H l rl gl) (h : TT K H v n) (q : ∀ v' H', Tr K a c H0 vl vr lots row m H' ((v', n) :: l) rl gl → Q v' H') : RevQ K v H Q := by
  obtain ⟨ds, d, hl, t⟩ := h
  obtain ⟨b, us, rfl, hs, ha⟩ := dp_tup d
  exact ⟨b, us, rfl, hs, fun p np => q _ _ ((W.same (same_upd np)).push ⟨ds.reverse, .tup (SqT.of upd_same) (L2.DpAll.same (same_upd np) (dps_rev ha)), by rw [List.length_reverse]; exact hl, fun e he => t e (List.mem_reverse.mp he)⟩)⟩
theorem rev (W : Tr K a c H0 vl vr lots row m H l rl gl) {σ : L2.St} {j : Nat} (hj : σ[j]? = some (some v)) (i : Nat) (h : l[i]? = some (v, n)) (q : ∀ v' H', Tr K a c H0 vl vr lots row m H' ((v', n) :: l) rl gl → Q v' H') : R.tRevT K (tVar j) σ H Q := ⟨_, hj, W.revIn (W.get i h) q⟩
theorem tup (W : Tr K a c H0 vl vr lots row m H l rl gl) {p : Addr} (np : H p = none) {vs : List V} (hv : ∀ v ∈ vs, TV K H v) : Tr K a c H0 vl vr lots row m (upd H p (.tup vs)) ((.ref p, vs.length) :: l) rl gl := by
  have ex : ∀ vs : List V, (∀ v ∈ vs, TV K H v) → ∃ ds, DpAll K H vs ds ∧ ds.length = vs.length ∧ ∀ d ∈ ds, Tm d ∧ To d := fun vs => by
    induction vs with
    | nil => exact fun _ => ⟨[], .nil, rfl, nofun⟩
    | cons v vs ih =>
      intro hv
      obtain ⟨ds, h1, h2, h3⟩ := ih fun v h => hv v (List.mem_cons_of_mem _ h)
      obtain ⟨d, h4, h5, h6⟩ := hv v (List.mem_cons_self ..)
      refine ⟨d :: ds, .cons h4 h1, by rw [List.length_cons, List.length_cons, h2], fun e he => ?_⟩
      rcases List.mem_cons.mp he with rfl | he
      · exact ⟨h5, h6⟩
      · exact h3 e he
  obtain ⟨ds, h1, h2, h3⟩ := ex vs hv
  exact (W.same (same_upd np)).push ⟨ds, .tup (SqT.of upd_same) (L2.DpAll.same (same_upd np) h1), by omega, h3⟩
theorem lst (W : Tr K a c H0 vl vr lots row m H l rl gl) {p : Addr} (np : H p = none) {vs : List V} : Tr K a c H0 vl vr lots row m (upd H p (.lst vs)) l ((p, vs) :: rl) gl :=
  have h2 : ∀ x ∈ (p, vs) :: rl, x.1 ≠ a ∧ upd H p (.lst vs) x.1 = some (.lst x.2) := fun x hx => by
    rcases List.mem_cons.mp hx with rfl | hx
    · exact ⟨(W.dr.off np).1, upd_same⟩
    · exact (W.same (same_upd (o := .lst vs) np)).rl x hx
  { W.same (same_upd (o := .lst vs) np) with rl := h2 }
theorem good (W : Tr K a c H0 vl vr lots row m H l rl gl) {us : List V} (h : ∀ u ∈ us, TX K a vl vr H u) : Tr K a c H0 vl vr lots row m H l rl us := { W with gd := h }
/-- new values behind those that stand -/
theorem more (W : Tr K a c H0 vl vr lots row m H l rl gl) {us : List V} (h : ∀ u ∈ us, TX K a vl vr H u) : ∀ u ∈ gl ++ us, TX K a vl vr H u := fun u hu => by
  rcases List.mem_append.mp hu with hu | hu
  · exact W.gd u hu
  · exact h u hu
theorem take (W : Tr K a c H0 vl vr lots row m H l rl gl) {z : Int} (h0 : 0 < z) (h1 : z < 1073741824) (hm : m ≤ 1000000000) (q : ∀ (r : Int) H', 0 ≤ r → r < z → Tr K a c H0 vl vr lots row (m + 1) H' l rl gl → Q (.int r) H') : spTake [.ref a, .int z] H Q E0 :=
  ⟨a, c, z, m, rfl, W.dr, h0, h1, hm, fun r H' r0 r1 D B => q r H' r0 r1 (W.but B D)⟩
theorem part (W : Tr K a c H0 vl vr lots row m H l rl gl) (i j : Nat) : Tr K a c H0 vl vr lots row m H (l.drop i) (rl.take j) gl :=
  { W with tt := fun x hx => W.tt x (List.mem_of_mem_drop hx), rl := fun x hx => W.rl x (List.mem_of_mem_take hx) }
theorem tupN (W : Tr K a c H0 vl vr lots row m H l rl gl) {p : Addr} (np : H p = none) {vs : List V} (hv : ∀ v ∈ vs, TV K H v) (hn : vs.length ≤ n) : Tr K a c H0 vl vr lots row m (upd H p (.tup vs)) ((.ref p, n) :: l) rl gl := by
  obtain ⟨ds, d, h, t⟩ := (W.tup np hv).get 0 rfl
  exact (W.same (same_upd np)).push ⟨ds, d, by omega, t⟩
end Tr
theorem row_TT {K : PySem.W.Frag} {H : Hp} {v : V} {r : List Nat} {n : Nat} (h : Dp K H v (dN r)) (hr : r.length ≤ n) : TT K H v n := ⟨_, h, by rw [List.length_map]; exact hr, fun d hd => by
  obtain ⟨i, _, rfl⟩ := List.mem_map.mp hd
  exact ⟨.int _, .int _⟩⟩
theorem lots_TT {K : PySem.W.Frag} {H : Hp} {v : V} {lots : List (List Nat)} {n : Nat} (h : Dp K H v (.tuple (lots.map dN))) (hr : lots.length ≤ n) (hl : ∀ l ∈ lots, l.length ≤ 1000) : TT K H v n := ⟨_, h, by rw [List.length_map]; exact hr, fun d hd => by
  obtain ⟨l, hl2, rfl⟩ := List.mem_map.mp hd
  exact ⟨dN_tm (hl l hl2), dN_to l⟩⟩
theorem ix_last {K : PySem.W.Frag} {H : Hp} {Q : VK} {v : V} {ds : List PyData} (h : Dp K H v (.tuple ds)) (hk : 0 < ds.length) (q : ∀ v', Dp K H v' (ds[ds.length - 1]'(by omega)) → Q v' H) : rIxT K v (.int (-1)) H Q := by
  obtain ⟨t, us, rfl, hs, ha⟩ := dp_tup h
  have hl := DpAll.length ha
  have hk2 : ds.length - 1 < us.length := by omega
  obtain ⟨d, hd, hx⟩ := DpAll.at ha (List.getElem?_eq_getElem hk2)
  rw [List.getElem?_eq_getElem (by omega)] at hd
  obtain rfl := Option.some.inj hd
  refine ixt hs ?_ (q _ hx)
  unfold atI ixN
  rw [if_neg (by decide), if_pos (by omega)]
  show us[_]? = _
  rw [← List.getElem?_eq_getElem hk2]
  congr 1
  omega
theorem shapedLots (lots : List (List Nat)) : SeqAt.shaped (.tuple (lots.map dN)) = true := by
  unfold SeqAt.shaped
  simp only [PyData.canLay0, PyData.depth]
  rw [Pt.layAll dN fun l _ => by
    unfold dN
    rw [PyData.canLay0]
    exact Pt.layAll (fun i : Nat => PyData.int (i : Nat)) fun p _ => rfl, Bool.true_and]
  refine decide_eq_true ?_
  have := Pt.depAll dN (n := 1) (ps := lots) fun l _ => by
    unfold dN
    rw [PyData.depth]
    have := Pt.depAll (fun i : Nat => PyData.int (i : Nat)) (n := 0) (ps := l) fun p hp => Nat.le_refl _
    omega
  omega
theorem ix_zero {K : PySem.W.Frag} {H : Hp} {Q : VK} {v : V} {ds : List PyData} (h : Dp K H v (.tuple ds)) (hk : 0 < ds.length) (q : ∀ v', Dp K H v' ds[0] → Q v' H) : rIxT K v (.int 0) H Q := ix_dp (k := 0) h hk q
theorem rev_ix {K : PySem.W.Frag} {σ : L2.St} {H : Hp} {Q : VK} {v : V} {j : Nat} {i : Int} (hj : σ[j]? = some (some v)) (q : rIxT K v (.int i) H fun x H1 => RevQ K x H1 Q) : R.tRevT K (tOp (rIxT K) (tVar j) (tC (.int i))) σ H Q := ⟨_, hj, q⟩
theorem Tr.out {K : PySem.W.Frag} {a c : Addr} {H0 H : Hp} {vl vr : V} {lots : List (List Nat)} {row : List Nat} {m : Nat} {l : List (V × Nat)} {rl : List (Addr × List V)} {gl : List V} (W : Tr K a c H0 vl vr lots row m H l rl gl) (hl : lots.length ≤ 60) (hll : ∀ l ∈ lots, l.length ≤ 1000) (hr : row.length ≤ 60) :
    ∀ u ∈ gl, ∃ d, Tm d ∧ Dp K H u d := fun u hu => by
  rcases W.gd u hu with ⟨d, h, t, _⟩ | ⟨p, rfl, _, e⟩
  · exact ⟨d, t, h⟩
  · refine ⟨.list [.tuple (lots.map dN), dN row], .lst _ (by simp) fun d hd => ?_, .lst (SqL.of e) (.cons W.dl (.cons W.dw .nil))⟩
    simp only [List.mem_cons, List.not_mem_nil, or_false] at hd
    rcases hd with rfl | rfl
    · exact .tup _ (by rw [List.length_map]; omega) fun d hd => by
        obtain ⟨l, h, rfl⟩ := List.mem_map.mp hd
        exact dN_tm (hll l h)
    · exact dN_tm (by omega)
theorem told_bn {lots : List (List Nat)} {row : List Nat} (hl : lots.length ≤ 60) (hl2 : ∀ l ∈ lots, l.length ≤ 60) (hr : row.length ≤ 60) : Bn 3 (.tuple [.tuple (lots.map dN), dN row]) := by
  have h1 : ∀ (k : Nat) (l : List Nat), l.length ≤ 60 → Bn (k + 1) (dN l) := fun k l h => .tup _ _ (by rw [List.length_map]; omega) fun d hd => by
    obtain ⟨i, _, rfl⟩ := List.mem_map.mp hd
    exact .leaf _ _ (.int _) (.int _) rfl
  refine .tup _ _ (by simp) fun d hd => ?_
  simp only [List.mem_cons, List.not_mem_nil, or_false] at hd
  rcases hd with rfl | rfl
  · exact .tup _ _ (by rw [List.length_map]; omega) fun d hd => by
      obtain ⟨l, h, rfl⟩ := List.mem_map.mp hd
      exact h1 0 l (hl2 l h)
  · exact h1 1 row hr

end Z

set_option Elab.async false
set_option linter.all false
set_option maxRecDepth 100000
set_option maxHeartbeats 4000000

namespace Z
open PySem PySem.Spec PyProof.Rows L2 Z.R
local macro_rules | `(tactic| walk_at "sx") => `(tactic| try simp only [and_assoc, cxOf_K, cxOf_Kn, C8.tCut, rEq, rNe, sc_ii, sc_ss, sc_bb, sc_is, sc_si, sc_bs, sc_sb, tSeq, tAsg, tPar, tPar3, tC, gName, gNil, gCons, gTup, gSub, rSetL, L2.start, tVar, tOp, tUn, rI0, rI, rU, tTest, tChain, tOrV, tAndV, tNotV, tCB, tCons, tNil, tLst, tTup, tIfS, tNext, tRet, tRetN, tDrop, tAnd, tOr, tNot, tB, tIf, tSl, tFld, sFld, putF, tNoPart, tPart, rSlL, tBM, tBM0, rAppend, rPop, rExtend, tCall, tMeth, tLstRg, tRg1, tRg2, List.map_cons, List.map_nil, List.replicate, List.length_cons, List.length_nil, List.append, List.cons_append, List.nil_append, List.append_nil, List.getElem?_cons_zero, List.getElem?_cons_succ, List.set_cons_zero, List.set_cons_succ, Option.some.injEq, exists_eq_left', exists_eq_left, exists_eq, exists_and_left, exists_const, wipe, tYes, upd_same, ↓reduceIte, decide_false, decide_true, Bool.not_true, Bool.not_false, Bool.false_eq_true, V.int.injEq, HO.lst.injEq, HO.tup.injEq, V.ref.injEq, V.str.injEq, one_inj, le_a, le_z, le_0, le_9, mem_let, mem_dig, V.bl.injEq, List.cons.injEq, and_true, true_and, reduceCtorEq, false_and, exists_false, or_false, false_or])
def spTries (K : PySem.W.Frag) : Sp := fun vs H Q _ => ∃ (a c : Addr) (m : Nat) (v : V) (lots : List (List Nat)) (row : List Nat) (n : Nat), vs = [.ref a, v, .int n] ∧ DrawAt H a c m ∧ m + 200 ≤ 1000000000 ∧ Dp K H v (.tuple [.tuple (lots.map dN), dN row]) ∧ lots.length ≤ 60 ∧ (∀ l ∈ lots, l.length ≤ 60) ∧ row.length ≤ 60 ∧ n ≤ 60 ∧
  ∀ (L : Addr) (us : List V) H', H' L = some (.lst us) → us.length ≤ 100 → (∀ u ∈ us, ∃ d, Tm d ∧ Dp K H' u d) → DrawAt H' a c (m + 200) → But a H H' → L ≠ a → Q (.ref L) H'
section
variable {P : Program} {w : World} {K : PySem.W.Frag} {mg : Str → Option Value} {base : Heap}
theorem sc__law_tries : FnScope ["draw", "told", "many", "lots", "row", "k", "tries", "drawn", "place", "turn"] ["draw", "told", "many"] (defScope s__law_tries) := ⟨rfl, rfl, rfl, by decide +kernel, rfl, by decide +kernel, by decide +kernel⟩
theorem ok__law_tries {f : Addr} {fd : FuncData} (F : Fun K "_law_tries" "_law_tries" s__law_tries f fd) (c__law_take : Cl P w K mg base 1 "_law_take" (spTake)) (c__law_bent : Cl P w K mg base 36 "_law_bent" (spBent K 31)) (b_list : mg "list" = none) (b_tuple : mg "tuple" = none) (b_range : mg "range" = none) (b_len : mg "len" = none) (b_sorted : mg "sorted" = none) : FnOk P w K mg base CX0 40 f fd ["draw", "told", "many"] (spTries K) := by
  have nd := sc__law_tries.nd
  refine F.ok sc__law_tries (fun vs H Q E h => ?_) (fun cdv A outer s H vs Q E hr h => ?_)
  · obtain ⟨a, c, m, v, lots, row, n, rfl, _⟩ := h
    rfl
  obtain ⟨a, c, m, v, lots, row, n, rfl, hD, hm, hv, hl, hl2, hr2, hn, q⟩ := h
  refine ⟨_, (pss_cons (ps_asg (pv 1) (pg_tupK (K := K) rfl (n := 2) (by rfl) (pgs_cons (pg_name (i := 3) nd rfl (.inl rfl)) (pgs_cons (pg_name (i := 4) nd rfl (.inl rfl)) pgs_nil))))
  (pss_cons (ps_set (i := 5) nd rfl (.inl rfl) (pcl c__law_take hr (by omega) (pa_cons (pv 0) (pa_cons (pe_op op_add (pe_callB (call_lenK (K := K) rfl) (by rfl) b_len (by decide +kernel) (pa_cons (pv 3) pa_nil)) pe_int) pa_nil))))
  (pss_cons (ps_set (i := 6) nd rfl (.inl rfl) (pe_lst (pa_cons (pv 1) (pa_cons (pe_callTy call_list_of (by rfl) b_list (by decide +kernel) (pa_cons (pv 1) pa_nil)) (pa_cons (R.pe_revT (K := K) rfl (pv 1)) (pa_cons (pe_tup (pa_cons (R.pe_revT (K := K) rfl (pv 3)) (pa_cons (R.pe_revT (K := K) rfl (pv 4)) pa_nil))) (pa_cons (pe_tup (pa_cons (pe_op (op_catAK (K := K) rfl) (pe_slice sl_tupA (pv 3) po_none (po_some (pv 5))) (pe_slice sl_tupA (pv 3) (po_some (pe_op op_add (pv 5) pe_int)) po_none)) (pa_cons (pv 4) pa_nil))) (pa_cons (pe_tup (pa_cons (pv 3) (pa_cons (pe_slice sl_tupA (pv 4) (po_some pe_int) po_none) pa_nil))) (pa_cons (pe_tup (pa_cons (pv 3) (pa_cons (pe_op (op_catAK (K := K) rfl) (pv 4) (pe_slice sl_tupA (pv 4) po_none (po_some pe_int))) pa_nil))) (pa_cons pe_non (pa_cons (pe_tup pa_nil) (pa_cons (pe_tup (pa_cons (pe_tup pa_nil) (pa_cons (pe_tup pa_nil) pa_nil))) pa_nil))))))))))))
  (C8.pss_cut (ps_if (pt_cmpR (op_neD hr.units) (pv 3) (pe_tup pa_nil) (nomark _)) (pss_one (ps_set (i := 6) nd rfl (.inl rfl) (pe_op op_cat (pv 6) (pe_lst (pa_cons (pe_tup (pa_cons (pe_op (op_catAK (K := K) rfl) (pe_tup (pa_cons (R.pe_revT (K := K) rfl (pe_ix (ix_tupK (K := K) rfl) (pv 3) pe_int (fun _ _ => rfl))) pa_nil)) (pe_slice sl_tupA (pv 3) (po_some pe_int) po_none)) (pa_cons (pv 4) pa_nil))) (pa_cons (pe_tup (pa_cons (pe_op (op_catAK (K := K) rfl) (pe_slice sl_tupA (pv 3) po_none (po_some (pe_un un_neg pe_int))) (pe_tup (pa_cons (pe_slice sl_tupA (pe_ix (ix_tupK (K := K) rfl) (pv 3) (pe_un un_neg pe_int) (fun _ _ => rfl)) po_none (po_some (pe_un un_neg pe_int))) pa_nil))) (pa_cons (pv 4) pa_nil))) (pa_cons (pe_tup (pa_cons (pe_op (op_catAK (K := K) rfl) (pe_tup (pa_cons (pe_op (op_catAK (K := K) rfl) (pe_ix (ix_tupK (K := K) rfl) (pv 3) pe_int (fun _ _ => rfl)) (pe_ix (ix_tupK (K := K) rfl) (pv 3) (pe_un un_neg pe_int) (fun _ _ => rfl))) pa_nil)) (pe_slice sl_tupA (pv 3) (po_some pe_int) (po_some (pe_un un_neg pe_int)))) (pa_cons (pv 4) pa_nil))) (pa_cons (pe_tup (pa_cons (pe_op (op_catAK (K := K) rfl) (pv 3) (pe_tup (pa_cons (pe_tup pa_nil) pa_nil))) (pa_cons (pv 4) pa_nil))) pa_nil)))))))) pss_nil)
  (C8.pss_cut (ps_set (i := 7) nd rfl (.inl rfl) (pe_ifExp (pt_cmpR op_gt (pv 2) pe_int (nomark _)) (pe_callTy (R.call_tupleK (K := K) rfl) (by rfl) b_tuple (by decide +kernel) (pa_cons (pe_lc (own := [("place", 8)]) rfl nd (pi_tupK (K := K) rfl (pv 4)) (blkOk_by (N := ["draw", "told", "many", "lots", "row", "k", "tries", "drawn", "place", "turn"]) (sc := defScope s__law_tries) (by decide +kernel)) (fun _ _ _ _ _ => (pg_name (i := 8) nd rfl (.inl rfl))) (fun _ _ _ _ _ => pts_nil) (fun _ _ _ _ _ => (pcl c__law_take hr (by omega) (pa_cons (pv 0) (pa_cons (pv 2) pa_nil))))) pa_nil)) (pe_tup (pa_cons pe_int pa_nil))))
  (pss_cons (ps_set (i := 6) nd rfl (.inl rfl) (pe_op op_cat (pv 6) (pe_lst (pa_cons (pe_tup (pa_cons (pv 3) (pa_cons (pv 7) pa_nil))) (pa_cons (pe_tup (pa_cons (pv 3) (pa_cons (pe_callTy (R.call_tupleK (K := K) rfl) (by rfl) b_tuple (by decide +kernel) (pa_cons (pe_callB (R.cr_sortedIT (K := K) rfl) (by rfl) b_sorted (by decide +kernel) (pa_cons (pv 7) pa_nil)) pa_nil)) pa_nil))) (pa_cons (pe_tup (pa_cons (pe_callTy (R.call_tupleK (K := K) rfl) (by rfl) b_tuple (by decide +kernel) (pa_cons (pe_lc (own := [("place", 8)]) rfl nd (pi_range1 (by rfl) b_range (pa_cons (pv 2) pa_nil)) (blkOk_by (N := ["draw", "told", "many", "lots", "row", "k", "tries", "drawn", "place", "turn"]) (sc := defScope s__law_tries) (by decide +kernel)) (fun _ _ _ _ _ => (pg_name (i := 8) nd rfl (.inl rfl))) (fun _ _ _ _ _ => pts_nil) (fun _ _ _ _ _ => (pe_tup (pa_cons (pv 8) pa_nil)))) pa_nil)) (pa_cons (pe_tupRg rfl (by rfl) b_tuple (prg_1 (by rfl) b_range (pv 2))) pa_nil))) pa_nil))))))
  (pss_one (ps_ret (pe_op op_cat (pv 6) (pe_lc (own := [("turn", 9)]) rfl nd (pi_range1 (by rfl) b_range (pa_cons pe_int pa_nil)) (blkOk_by (N := ["draw", "told", "many", "lots", "row", "k", "tries", "drawn", "place", "turn"]) (sc := defScope s__law_tries) (by decide +kernel)) (fun _ _ _ _ _ => (pg_name (i := 9) nd rfl (.inl rfl))) (fun _ _ _ _ _ => pts_nil) (fun _ _ _ _ _ => (pcl c__law_bent hr (by omega) (pa_cons (pv 0) (pa_cons (pv 1) pa_nil)))))))))))))), ?_⟩
  walk_at "sx"
  obtain ⟨t, vl, vr, rfl, hs, dl, dw⟩ := dp2d hv
  have hll : ∀ l ∈ lots, l.length ≤ 1000 := fun l h => by have := hl2 l h; omega
  have W : Tr K a c H vl vr lots row m H [(.ref t, 2), (vl, 60), (vr, 60)] [] [] := by
    refine ⟨.refl _ _, hD, fun x hx => ?_, nofun, nofun, dl, dw⟩
    simp only [List.mem_cons, List.not_mem_nil, or_false] at hx
    rcases hx with rfl | rfl | rfl
    · exact ⟨_, hv, by simp, fun d hd => by
        simp only [List.mem_cons, List.not_mem_nil, or_false] at hd
        rcases hd with rfl | rfl
        · exact ⟨.tup _ (by rw [List.length_map]; omega) fun d hd => by
            obtain ⟨l, h, rfl⟩ := List.mem_map.mp hd
            exact dN_tm (hll l h), Tr.lotsTo lots⟩
        · exact ⟨dN_tm (by omega), dN_to row⟩⟩
    · exact lots_TT dl hl hll
    · exact row_TT dw hr2
  refine ⟨t, rfl, _, hs, rfl, _, _, rfl, _, _, rfl, rfl, _, len_dp dl, W.take (by omega) (by rw [List.length_map]; omega) (by omega) fun r H1 r0 r1 W => ?_⟩
  obtain ⟨k, rfl⟩ : ∃ k : Nat, r = k := ⟨r.toNat, by omega⟩
  refine ⟨t, rfl, _, .inr ((hD.tp W.bt).sqt hs), fun L nL => ?_⟩
  have W := W.lst nL (vs := [vl, vr])
  refine W.rev rfl 0 rfl fun x2 G W => W.rev rfl 2 rfl fun x3 G W => W.rev rfl 4 rfl fun x4 G W => ⟨size60 (by simp), fun p1 n1 => ?_⟩
  have W := W.tup n1 (tv2 (W.tv 1 rfl) (W.tv 0 rfl))
  refine ⟨_, rfl, W.sl 5 rfl fun x5 G W => ⟨_, rfl, W.sl 6 rfl fun y G W => W.cat 1 0 rfl rfl (by decide) fun x6 G W => ⟨size60 (by simp), fun p2 n2 => ?_⟩⟩⟩
  have W := W.tup n2 (tv2 (W.tv 0 rfl) (W.tv 9 rfl))
  refine W.sl 10 rfl fun x7 G W => ⟨size60 (by simp), fun p3 n3 => ?_⟩
  have W := W.tup n3 (tv2 (W.tv 10 rfl) (W.tv 0 rfl))
  refine W.sl 12 rfl fun x8 G W => W.cat 13 0 rfl rfl (by decide) fun x9 G W => ⟨size60 (by simp), fun p4 n4 => ?_⟩
  have W := W.tup n4 (tv2 (W.tv 13 rfl) (W.tv 0 rfl))
  refine ⟨size60 (by simp), fun p5 n5 => ?_⟩
  have W := W.tup n5 tv0
  refine ⟨size60 (by simp), fun p6 n6 => ?_⟩
  have W := W.tup n6 tv0
  refine ⟨size60 (by simp), fun p7 n7 => ?_⟩
  have W := W.tup n7 tv0
  refine ⟨size60 (by simp), fun p8 n8 => ?_⟩
  have W := W.tup n8 (tv2 (W.tv 1 rfl) (W.tv 0 rfl))
  refine ⟨size60 (by simp), fun T nT => ⟨by decide, fun σ H' => ∃ (T : Addr) (us : List V) (x5 : Option V), σ = [some (.ref a), some (.ref t), some (.int (n : Nat)), some vl, some vr, x5, some (.ref T), none, none, none] ∧ us.length ≤ 14 ∧ Tr K a c H vl vr lots row (m + 1) H' [(.ref t, 2), (vl, 60), (vr, 60)] [(T, us)] us, fun p9 n9 => ?_, ?_⟩⟩
  · have W := W.lst nT (vs := [.ref t, .ref L, x2, .ref p1, .ref p2, .ref p3, .ref p4, .non, .ref p5, .ref p8])
    have W := W.good (us := [.ref t, .ref L, x2, .ref p1, .ref p2, .ref p3, .ref p4, .non, .ref p5, .ref p8]) fun u hu => by
      simp only [List.mem_cons, List.not_mem_nil, or_false] at hu
      rcases hu with rfl | rfl | rfl | rfl | rfl | rfl | rfl | rfl | rfl | rfl
      · exact .inl (W.tv 17 rfl)
      · exact .inr ⟨L, rfl, W.raw 1 rfl⟩
      · exact .inl (W.tv 16 rfl)
      · exact .inl (W.tv 13 rfl)
      · exact .inl (W.tv 9 rfl)
      · exact .inl (W.tv 7 rfl)
      · exact .inl (W.tv 4 rfl)
      · exact .inl ⟨_, .non, .non, .non⟩
      · exact .inl (W.tv 3 rfl)
      · exact .inl (W.tv 0 rfl)
    have W : Tr K a c H vl vr lots row (m + 1) _ [(.ref t, 2), (vl, 60), (vr, 60)] [(T, _)] _ := W.part 17 1
    have W := W.tup n9 tv0
    have W : Tr K a c H vl vr lots row (m + 1) _ [(.ref t, 2), (vl, 60), (vr, 60)] [(T, _)] _ := W.part 1 1
    refine ⟨.tuple (lots.map dN), .tuple [], W.dl, .tup (SqT.of upd_same) .nil, ?_, by decide +kernel, _, rfl, ?_⟩
    · exact shapedLots lots
    generalize upd _ p9 (.tup []) = G at W ⊢
    have ev : PyData.eqv (.tuple (lots.map dN)) (.tuple []) = decide (lots = []) := by
      cases lots with
      | nil => simp [PyData.eqv, PyData.eqvAll]
      | cons l ls => simp [PyData.eqv, PyData.eqvAll]
    rw [ev]
    refine ite2 (fun c0 => ?_) (fun _ => ⟨T, _, _, rfl, by simp, W⟩)
    have hne : lots ≠ [] := by
      rw [Bool.not_eq_true', decide_eq_false_iff_not] at c0
      exact c0
    have hpos : 0 < lots.length := List.length_pos_iff.mpr hne
    have el : ∀ (i : Nat) (hi : i < (lots.map dN).length) (v' : V) (H' : Hp), Dp K H' v' ((lots.map dN)[i]) → TT K H' v' 60 := fun i hi v' H' d => by
      rw [List.getElem_map] at d
      exact row_TT d (hl2 _ (List.getElem_mem _))
    refine rev_ix rfl ?_
    refine ix_zero W.dl (by rw [List.length_map]; exact hpos) fun e0 d0 => ?_
    have W := W.push (el _ _ _ _ d0)
    refine W.revIn (W.get 0 rfl) fun u1 G W => ⟨size60 (by simp), fun w1 n1 => ?_⟩
    have W := W.tup n1 (tv1 (W.tv 0 rfl))
    refine W.sl 4 rfl fun y1 G W => W.cat 1 0 rfl rfl (by simp) fun z1 G W => ⟨size60 (by simp), fun q1 m1 => ?_⟩
    have W := W.tup m1 (tv2 (W.tv 0 rfl) (W.tv 7 rfl))
    refine W.sl 7 rfl fun y2 G W => ix_last W.dl (by rw [List.length_map]; exact hpos) fun e1 d1 => ?_
    have W := W.push (el _ _ _ _ d1)
    refine W.sl 0 rfl fun u2 G W => ⟨size60 (by simp), fun w2 n2 => ?_⟩
    have W := W.tup n2 (tv1 (W.tv 0 rfl))
    refine W.cat 3 0 rfl rfl (by simp) fun z2 G W => ⟨size60 (by simp), fun q2 m2 => ?_⟩
    have W := W.tup m2 (tv2 (W.tv 0 rfl) (W.tv 13 rfl))
    refine ix_zero W.dl (by rw [List.length_map]; exact hpos) fun e2 d2 => ?_
    have W := W.push (el _ _ _ _ d2)
    refine ix_last W.dl (by rw [List.length_map]; exact hpos) fun e3 d3 => ?_
    have W := W.push (el _ _ _ _ d3)
    refine W.cat 1 0 rfl rfl (by simp) fun u3 G W => ⟨size60 (by simp), fun w3 n3 => ?_⟩
    have W := W.tup n3 (tv1 (W.tv 0 rfl))
    refine W.sl 17 rfl fun y3 G W => W.cat 1 0 rfl rfl (by simp) fun z3 G W => ⟨size60 (by simp), fun q3 m3 => ?_⟩
    have W := W.tup m3 (tv2 (W.tv 0 rfl) (W.tv 20 rfl))
    refine ⟨by decide, fun w4 n4 => ?_⟩
    have W := W.tup n4 tv0
    refine ⟨size60 (by simp), fun w5 n5 => ?_⟩
    have W := W.tup n5 (tv1 (W.tv 0 rfl))
    refine W.cat 22 0 rfl rfl (by simp) fun z4 G W => ⟨size60 (by simp), fun q4 m4 => ?_⟩
    have W := W.tup m4 (tv2 (W.tv 0 rfl) (W.tv 24 rfl))
    refine ⟨size60 (by simp), fun NL nNL => ?_⟩
    have W := W.lst nNL (vs := [.ref q1, .ref q2, .ref q3, .ref q4])
    refine ⟨T, NL, _, _, rfl, rfl, (W.raw 1 rfl).2, (W.raw 0 rfl).2, size60 (by simp), fun T2 nT2 => ?_⟩
    · have W := W.lst nT2 (vs := [.ref t, .ref L, x2, .ref p1, .ref p2, .ref p3, .ref p4, .non, .ref p5, .ref p8] ++ [.ref q1, .ref q2, .ref q3, .ref q4])
      have W := W.good (W.more (us := [.ref q1, .ref q2, .ref q3, .ref q4]) fun u hu => by
        simp only [List.mem_cons, List.not_mem_nil, or_false] at hu
        rcases hu with rfl | rfl | rfl | rfl
        · exact .inl (W.tv 17 rfl)
        · exact .inl (W.tv 11 rfl)
        · exact .inl (W.tv 4 rfl)
        · exact .inl (W.tv 0 rfl))
      have W : Tr K a c H vl vr lots row (m + 1) _ [(.ref t, 2), (vl, 60), (vr, 60)] [(T2, _)] _ := W.part 23 1
      refine ⟨T2, _, _, rfl, ?_, W⟩
      simp
  · rintro σ H1 ⟨T, us, x5, rfl, hus, W⟩
    walk_at "sx"
    refine ⟨fun σ H' => ∃ (td : Addr) (ns : List Int) (x8 : Option V), σ = [some (.ref a), some (.ref t), some (.int (n : Nat)), some vl, some vr, x5, some (.ref T), some (.ref td), x8, none] ∧ Tr K a c H vl vr lots row (m + 61) H' [(.ref td, 60), (.ref t, 2), (vl, 60), (vr, 60)] [(T, us)] us ∧ SqT K H' td (ns.map V.int) ∧ ns.length ≤ 60, ?_, ?_⟩
    · refine ite2 (fun c0 => ?_) (fun _ => ⟨by decide, fun p np => ?_⟩)
      · rw [decide_eq_true_eq] at c0
        obtain ⟨tr, rfl, hst⟩ := dp_dN W.dw
        refine ⟨_, rfl, tr, rfl, ⟨_, hst⟩, fun D nD => lc_tup (K := K) (a := tr) (xs := row.map vN) (fun i H' => ∃ ns : List Int, H' D = some (.lst (ns.map V.int)) ∧ ns.length = i ∧ But a H1 H' ∧ DrawAt H' a c (m + 1 + i)) ⟨[], upd_same, rfl, But.new (.refl _ _) nD, W.dr.same (same_upd nD)⟩ (fun i H' _ ⟨ns, _, _, b, _⟩ => (W.dr.tp b).sqt hst) ?_ ?_⟩
        · rintro i x H' hi ⟨ns, eD, hl9, b, d⟩
          obtain ⟨nDa, nDc⟩ := W.dr.off nD
          have hi9 := (List.getElem?_eq_some_iff.mp hi).1
          rw [List.length_map] at hi9
          walk_at "sx"
          refine ⟨a, c, n, m + 1 + i, rfl, d, by omega, by omega, by omega, fun r H2 r0 r1 D2 B2 => ⟨_, B2 D _ eD nDa, ?_, ns ++ [r], ?_, ?_, ?_, ?_⟩⟩
          · rw [List.length_map]
            exact small1000 (by omega)
          · rw [List.map_append]
            rfl
          · rw [List.length_append, hl9]
            rfl
          · exact (b.trans B2).fresh nD
          · exact (D2.mono (by omega)).upd nDa nDc
        · rintro H' ⟨ns, eD, hl9, b, d⟩
          rw [List.length_map] at hl9 d
          have W2 := W.but b (d.mono (show m + 1 + row.length ≤ m + 61 by omega))
          walk_at "sx"
          have tvi : ∀ v ∈ ns.map V.int, TV K H' v := fun v hv => by
            obtain ⟨z, _, rfl⟩ := List.mem_map.mp hv
            exact ⟨_, .int _, .int _, .int _⟩
          exact ⟨_, .inl ⟨SqL.of eD, fun l nl => ⟨W2.tupN nl tvi (by rw [List.length_map]; omega), ns, SqT.of upd_same, by omega⟩⟩⟩
      · have tvi : ∀ v ∈ [V.int 0], TV K H1 v := tv1 ⟨_, .int _, .int _, .int _⟩
        exact ⟨p, [0], none, rfl, (W.tupN (n := 60) np tvi (by simp)).but (.refl _ _) ((W.dr.same (same_upd np)).mono (by omega)), SqT.of upd_same, by simp⟩
    · rintro σ H2 ⟨td, ns, x8, rfl, W, sd, hns⟩
      walk_at "sx"
      refine ⟨size60 (by simp), fun q1 m1 => ?_⟩
      have W := W.tup m1 (tv2 (W.tv 2 rfl) (W.tv 0 rfl))
      have sd1 : SqT K (upd H2 q1 (.tup [vl, .ref td])) td _ := tup_same (same_upd m1) sd
      refine ⟨td, ns, rfl, sd1, fun ns' p2 pm rs n2 => ⟨p2, rfl, _, .inl ⟨SqL.of upd_same, fun l nl => ⟨size60 (by simp), fun q2 m2 => ?_⟩⟩⟩⟩
      have tvn : ∀ (ms : List Int) (H' : Hp), ∀ v ∈ ms.map V.int, TV K H' v := fun ms H' v hv => by
        obtain ⟨z, _, rfl⟩ := List.mem_map.mp hv
        exact ⟨_, .int _, .int _, .int _⟩
      have W := W.lst n2 (vs := ns'.map V.int)
      have W := W.tupN (n := 60) nl (tvn ns' _) (by rw [List.length_map, pm.length_eq]; exact hns)
      have W := W.tup m2 (tv2 (W.tv 4 rfl) (W.tv 0 rfl))
      refine ⟨_, rfl, (n : Int), rfl, by omega, by omega, fun D nD => lc_range (lo := 0) (fun i H' => ∃ vs, H' D = some (.lst vs) ∧ vs.length = i ∧ Same _ H' ∧ ∀ v ∈ vs, TV K H' v) ⟨[], upd_same, rfl, same_upd nD, nofun⟩ ?_ ?_⟩
      · rintro i H' hi ⟨vs, eD, hl9, s, tv⟩
        walk_at "sx"
        refine ⟨size60 (by simp), fun p np => ?_⟩
        have f := same_upd (o := .tup [.int (0 + (i : Int))]) np
        have tpd : Tp H' (upd (upd H' p (.tup [.int (0 + (i : Int))])) D (.lst (vs ++ [.ref p]))) := (Tp.of f).trans (Tp.upd (.refl _) (f _ _ eD))
        refine ⟨vs, f _ _ eD, small1000 (by omega), by rw [List.length_append, hl9]; rfl, same_D (s.trans f) nD, fun v hv => ?_⟩
        rcases List.mem_append.mp hv with hv | hv
        · exact (tv v hv).mono tpd
        · rw [List.mem_singleton.mp hv]
          have : TV K (upd H' p (.tup [.int (0 + (i : Int))])) (.ref p) := ⟨.tuple [.int (0 + (i : Int))], .tup (SqT.of upd_same) (.cons (.int _) .nil), .tup _ (by simp) fun d hd => by rw [List.mem_singleton.mp hd]; exact .int _, .tup _ fun d hd => by rw [List.mem_singleton.mp hd]; exact .int _⟩
          exact this.mono (Tp.upd (.refl _) (f _ _ eD))
      rintro H3 ⟨vs, eD, hl9, s, tv⟩
      rw [Int.toNat_natCast] at hl9
      have W := W.same s
      walk_at "sx"
      refine ⟨_, .inl ⟨SqL.of eD, fun l2 nl2 => ?_⟩⟩
      have W := W.tupN (n := 60) nl2 tv (by omega)
      refine ⟨_, rfl, n, rfl, RgOk.of_le (by omega) (by omega) (by omega) (by omega), fun rq nrq => ⟨size60 (by simp), fun q3 m3 => ⟨size60 (by simp), fun NL nNL => ?_⟩⟩⟩
      have W := W.tupN (n := 60) (vs := rgV 0 n) nrq (fun v hv => by
        unfold rgV at hv
        obtain ⟨z, _, rfl⟩ := List.mem_map.mp hv
        exact ⟨_, .int _, .int _, .int _⟩) (by rw [rgV_length]; omega)
      have W := W.tup m3 (tv2 (W.tv 1 rfl) (W.tv 0 rfl))
      have W := W.lst nNL (vs := [.ref q1, .ref q2, .ref q3])
      refine ⟨T, NL, _, _, rfl, rfl, (W.raw 2 rfl).2, (W.raw 0 rfl).2, size60 (by simp; omega), fun T3 nT3 => ?_⟩
      have W := W.lst nT3 (vs := us ++ [.ref q1, .ref q2, .ref q3])
      have W := W.good (W.more (us := [.ref q1, .ref q2, .ref q3]) fun u hu => by
        simp only [List.mem_cons, List.not_mem_nil, or_false] at hu
        rcases hu with rfl | rfl | rfl
        · exact .inl (W.tv 5 rfl)
        · exact .inl (W.tv 3 rfl)
        · exact .inl (W.tv 0 rfl))
      generalize upd _ T3 (.lst (us ++ [V.ref q1, .ref q2, .ref q3])) = H5 at W ⊢
      obtain ⟨hT3, eT3⟩ := W.raw 0 rfl
      have hto : To (.tuple [.tuple (lots.map dN), dN row]) := (told_bn hl hl2 hr2).tm.2
      have hb3 := told_bn hl hl2 hr2
      refine ⟨8, rfl, by decide, by decide, fun D2 nD2 => lc_range (lo := 0) (fun i H' => ∃ vs, H' D2 = some (.lst vs) ∧ vs.length = i ∧ But a H5 H' ∧ DrawAt H' a c (m + 61 + 8 * i) ∧ ∀ v ∈ vs, TV K H' v) ⟨[], upd_same, rfl, But.new (.refl _ _) nD2, W.dr.same (same_upd nD2), nofun⟩ ?_ ?_⟩
      · rintro i H' hi ⟨vs2, eD2, hl8, b, d, tv2⟩
        have hi8 : i < 8 := hi
        obtain ⟨nDa, nDc⟩ := W.dr.off nD2
        walk_at "sx"
        refine ⟨a, c, m + 61 + 8 * i, .ref t, _, 3, rfl, by omega, by omega, d, by omega, hto.mono (hD.tp (W.bt.trans b)) _ hv, hb3, fun d' v' H6 tm' to' dp' D6 B6 => ?_⟩
        have e6 := B6 D2 _ eD2 nDa
        have tpd : Tp H6 (upd H6 D2 (.lst (vs2 ++ [v']))) := Tp.upd (.refl _) e6
        refine ⟨vs2, e6, small1000 (by omega), by rw [List.length_append, hl8]; rfl, (b.trans B6).fresh nD2, (D6.mono (by omega)).upd nDa nDc, fun v hv => ?_⟩
        rcases List.mem_append.mp hv with hv | hv
        · exact ((tv2 v hv).mono (d.tp B6)).mono tpd
        · rw [List.mem_singleton.mp hv]
          exact (show TV K H6 v' from ⟨d', dp', tm', to'⟩).mono tpd
      rintro H6 ⟨vs2, eD2, hl8, b, d, tv2⟩
      have hl8 : vs2.length = 8 := hl8
      have W := W.but b (d.mono (show m + 61 + 8 * 8 ≤ m + 200 by omega))
      have W := W.good (W.more (us := vs2) fun u hu => .inl (tv2 u hu))
      walk_at "sx"
      refine ⟨T3, D2, _, vs2, rfl, rfl, (W.raw 0 rfl).2, eD2, Nat.le_of_lt (small1000 (by simp; omega)), fun L nL => ?_⟩
      have hLa := (W.dr.off nL).1
      have W := W.lst nL (vs := us ++ [.ref q1, .ref q2, .ref q3] ++ vs2)
      exact q L _ _ (W.raw 0 rfl).2 (by simp; omega) (W.out hl hll hr2) W.dr W.bt hLa
end

end Z

set_option Elab.async false
set_option linter.all false
set_option maxRecDepth 100000
set_option maxHeartbeats 4000000

namespace Z
open PySem PySem.Spec PyProof.Rows L2 Z.R
local macro_rules | `(tactic| walk_at "sx") => `(tactic| try simp only [and_assoc, cxOf_K, cxOf_Kn, C8.tCut, rEq, rNe, sc_ii, sc_ss, sc_bb, sc_is, sc_si, sc_bs, sc_sb, tSeq, tAsg, tPar, tPar3, tC, gName, gNil, gCons, gTup, gSub, rSetL, L2.start, tVar, tOp, tUn, rI0, rI, rU, tTest, tChain, tOrV, tAndV, tNotV, tCB, tCons, tNil, tLst, tTup, tIfS, tNext, tRet, tRetN, tDrop, tAnd, tOr, tNot, tB, tIf, tSl, tFld, sFld, putF, tNoPart, tPart, rSlL, tBM, tBM0, rAppend, rPop, rExtend, tCall, tMeth, tLstRg, tRg1, tRg2, List.map_cons, List.map_nil, List.replicate, List.length_cons, List.length_nil, List.append, List.cons_append, List.nil_append, List.append_nil, List.getElem?_cons_zero, List.getElem?_cons_succ, List.set_cons_zero, List.set_cons_succ, Option.some.injEq, exists_eq_left', exists_eq_left, exists_eq, exists_and_left, exists_const, wipe, tYes, upd_same, ↓reduceIte, decide_false, decide_true, Bool.not_true, Bool.not_false, Bool.false_eq_true, V.int.injEq, HO.lst.injEq, HO.tup.injEq, V.ref.injEq, V.str.injEq, one_inj, le_a, le_z, le_0, le_9, mem_let, mem_dig, V.bl.injEq, List.cons.injEq, and_true, true_and, reduceCtorEq, false_and, exists_false, or_false, false_or])
theorem plL_dN {n : Nat} {l : List Nat} (h1 : ∀ i ∈ l, i < n) (h2 : l.Nodup) : plL n (dN l) = some l := by
  unfold dN
  rw [plL_tup, Pt.mapO_some (g := fun i : Nat => PyData.int (i : Nat)) fun i hi => by
    show (if 0 ≤ (i : Int) ∧ (i : Int) < (n : Int) then some (i : Int).toNat else none) = some i
    rw [if_pos ⟨Int.natCast_nonneg _, by have := h1 i hi; omega⟩, Int.toNat_natCast]]
  show (if l.Nodup then some l else none) = some l
  rw [if_pos h2]
theorem lotN_dN {n : Nat} {l : List Nat} (h1 : ∀ i ∈ l, i < n) (h2 : l.Nodup) (h3 : l ≠ []) : lotN n (dN l) = some l := by
  unfold lotN
  rw [plL_dN h1 h2]
  cases l with
  | nil => exact absurd rfl h3
  | cons i l => rfl
theorem chain_of {P : List (Nat × Nat)} {l : List Nat} (h : l.Pairwise fun i j => (i, j) ∈ P) : chainB P l = true := by
  unfold chainB
  rw [List.all_eq_true]
  intro x hx
  rw [decide_eq_true_eq]
  obtain ⟨i, hi⟩ := List.getElem?_of_mem hx
  obtain ⟨h1, h2⟩ := List.getElem?_zip_eq_some.mp hi
  rw [List.getElem?_drop] at h2
  obtain ⟨a1, b1⟩ := List.getElem?_eq_some_iff.mp h1
  obtain ⟨a2, b2⟩ := List.getElem?_eq_some_iff.mp h2
  have := List.pairwise_iff_getElem.mp h i (1 + i) a1 a2 (by omega)
  rw [b1, b2] at this
  exact this
theorem loose_of {P : List (Nat × Nat)} {l : List Nat} : looseB P l = true ↔ Loose P l := by
  unfold looseB
  rw [Bool.not_eq_true', List.any_eq_false]
  constructor
  · intro h i j hm hi hj
    exact h true (List.mem_flatMap.mpr ⟨i, hi, List.mem_map.mpr ⟨j, hj, by simp [hm]⟩⟩) rfl
  · intro h x hx
    obtain ⟨i, hi, hx⟩ := List.mem_flatMap.mp hx
    obtain ⟨j, hj, rfl⟩ := List.mem_map.mp hx
    rw [id, decide_eq_true_eq]
    exact fun hm => h i j hm hi hj
theorem right_mk {k : Bool} {n : Nat} {P : List (Nat × Nat)} {lots : List (List Nat)} {row : List Nat} (hp : lots.flatten.Perm (List.range n)) (hne : ∀ c ∈ lots, c ≠ []) (hc : ∀ c ∈ lots, (if k then looseB P else chainB P) c = true) (hl : lots.length = row.length)
    (hr : row.Nodup) (hr2 : ∀ i ∈ row, i < n) (hrow : (if k then chainB P row else looseB P row) = true) : rightB k n P (.tuple [.tuple (lots.map dN), dN row]) = true := by
  have hnd : lots.flatten.Nodup := hp.nodup_iff.mpr List.nodup_range
  have h1 : Pt.mapO (lotN n) (lots.map dN) = some lots := Pt.mapO_some fun c h => by
    refine lotN_dN (fun i hi => ?_) ((List.pairwise_flatten.mp hnd).1 c h) (hne c h)
    exact List.mem_range.mp (hp.mem_iff.mp (List.mem_flatten.mpr ⟨c, h, hi⟩))
  rw [right_eq (plL_dN hr2 hr) h1, decide_eq_true hp, List.all_eq_true.mpr hc, decide_eq_true hl, hrow]
  rfl
theorem cover_right {p : Pt Str} {cs : List (List Nat)} {ws : List Nat} (h1 : cs.Perm (Pt.chains (Pt.plc p 0))) (h2 : ws.Perm (Pt.widest (Pt.plc p 0))) : rightB false (Pt.cnt p) (Pt.told p 0) (.tuple [.tuple (cs.map dN), dN ws]) = true := by
  have c := Pt.chs p 0
  have hr : List.range (Pt.cnt p) = List.range' 0 (Pt.cnt p) := List.range_eq_range'
  refine right_mk ?_ (fun d hd => (c.pw d (h1.mem_iff.mp hd)).1) (fun d hd => chain_of (c.pw d (h1.mem_iff.mp hd)).2) ?_ ?_ ?_ ?_
  · rw [hr]
    exact h1.flatten.trans c.perm
  · rw [h1.length_eq, h2.length_eq, c.len]
  · exact h2.nodup_iff.mpr (c.wpw.imp fun q => Nat.ne_of_lt q.1)
  · intro i hi
    have := (c.win i (h2.mem_iff.mp hi)).2
    omega
  · show looseB _ ws = true
    exact loose_of.mpr fun i j hm hi hj => (Pt.wide_ex p).2 i j hm (h2.mem_iff.mp hi) (h2.mem_iff.mp hj)
theorem levels_right {p : Pt Str} {ys : List Nat} (h1 : ys.Nodup) (h2 : ∀ l, l ∈ ys ↔ ∃ x ∈ Pt.starts (fun _ => 1) (Pt.plc p 0) 0, x.2 = l) :
    rightB true (Pt.cnt p) (Pt.told p 0) (.tuple [.tuple ((ys.map (lvl (Pt.starts (fun _ => 1) (Pt.plc p 0) 0))).map dN), dN (Pt.longest (fun _ => 1) (Pt.plc p 0))]) = true := by
  have c := Pt.lev (tb := fun _ : Str => 1) (fun _ => rfl) p 0 0
  generalize hL : Pt.starts (fun _ : Str => 1) (Pt.plc p 0) 0 = L at c h2 ⊢
  have hnd : (L.map (·.1)).Nodup := by
    have := c.fst
    rw [hL] at this
    rw [this]
    exact List.nodup_range'
  have hinj : ∀ x ∈ L, ∀ y ∈ L, x.1 = y.1 → x = y := fun x hx y hy e => inj_key hnd hx hy e
  have hm : ∀ l i, i ∈ lvl L l ↔ ∃ x ∈ L, x.2 = l ∧ x.1 = i := fun l i => by
    unfold lvl
    rw [List.mem_map]
    constructor
    · rintro ⟨x, hx, rfl⟩
      obtain ⟨h3, h4⟩ := List.mem_filter.mp hx
      exact ⟨x, h3, eq_of_beq h4, rfl⟩
    · rintro ⟨x, hx, rfl, rfl⟩
      exact ⟨x, List.mem_filter.mpr ⟨hx, beq_self_eq_true _⟩, rfl⟩
  have hlen : ys.length = Pt.time (fun _ => 1) p := by
    have : ys.Perm (List.range (Pt.time (fun _ => 1) p)) := (List.perm_ext_iff_of_nodup h1 List.nodup_range).mpr fun l => by
      rw [h2, List.mem_range]
      constructor
      · rintro ⟨x, hx, rfl⟩
        have := (c.bnd x (by rw [hL]; exact hx)).2
        omega
      · intro h
        obtain ⟨x, hx, e⟩ := c.sur l (Nat.zero_le _) (by omega)
        exact ⟨x, by rw [hL] at hx; exact hx, e⟩
    rw [this.length_eq, List.length_range]
  have hrow : (Pt.longest (fun _ => 1) (Pt.plc p 0)).Pairwise fun i j => i < j ∧ (i, j) ∈ Pt.told p 0 := c.lpw
  refine right_mk ?_ ?_ ?_ ?_ (hrow.imp fun q => Nat.ne_of_lt q.1) ?_ ?_
  · refine (List.perm_ext_iff_of_nodup ?_ List.nodup_range).mpr fun i => ?_
    · refine List.pairwise_flatten.mpr ⟨fun l hl => ?_, ?_⟩
      · obtain ⟨y, _, rfl⟩ := List.mem_map.mp hl
        exact (List.filter_sublist.map _).nodup hnd
      · rw [List.pairwise_map]
        refine h1.imp fun hne => ?_
        intro i hi j hj eij
        subst eij
        obtain ⟨x, hx, e1, e2⟩ := (hm _ _).mp hi
        obtain ⟨y, hy, e3, e4⟩ := (hm _ _).mp hj
        obtain rfl := hinj x hx y hy (by omega)
        exact hne (by omega)
    · have hf := c.fst
      rw [hL] at hf
      rw [List.mem_range]
      have hr : i < Pt.cnt p ↔ i ∈ L.map (·.1) := by
        rw [hf, List.mem_range'_1]
        omega
      rw [hr, List.mem_flatten]
      constructor
      · rintro ⟨l, hl, hi⟩
        obtain ⟨y, _, rfl⟩ := List.mem_map.mp hl
        obtain ⟨x, hx, _, rfl⟩ := (hm _ _).mp hi
        exact List.mem_map.mpr ⟨x, hx, rfl⟩
      · intro h
        obtain ⟨x, hx, rfl⟩ := List.mem_map.mp h
        exact ⟨_, List.mem_map.mpr ⟨x.2, (h2 _).mpr ⟨x, hx, rfl⟩, rfl⟩, (hm _ _).mpr ⟨x, hx, rfl, rfl⟩⟩
  · intro l hl e
    obtain ⟨y, hy, rfl⟩ := List.mem_map.mp hl
    obtain ⟨x, hx, rfl⟩ := (h2 y).mp hy
    have : x.1 ∈ lvl L x.2 := (hm _ _).mpr ⟨x, hx, rfl, rfl⟩
    rw [e] at this
    cases this
  · intro l hl
    obtain ⟨y, hy, rfl⟩ := List.mem_map.mp hl
    show looseB _ _ = true
    refine loose_of.mpr fun i j hij hi hj => ?_
    obtain ⟨x, hx, e1, rfl⟩ := (hm _ _).mp hi
    obtain ⟨z, hz, e3, rfl⟩ := (hm _ _).mp hj
    have := c.inc x (by rw [hL]; exact hx) z (by rw [hL]; exact hz) hij
    omega
  · rw [List.length_map, hlen]
    exact c.llen.symm
  · intro i hi
    have := (c.lin i hi).2
    omega
  · show chainB _ _ = true
    exact chain_of (hrow.imp fun q => q.2)

end Z

set_option Elab.async false
set_option linter.all false
set_option maxRecDepth 100000
set_option maxHeartbeats 4000000

namespace Z
open PySem PySem.Spec PyProof.Rows L2 Z.R
local macro_rules | `(tactic| walk_at "sx") => `(tactic| try simp only [and_assoc, cxOf_K, cxOf_Kn, C8.tCut, rEq, rNe, sc_ii, sc_ss, sc_bb, sc_is, sc_si, sc_bs, sc_sb, tSeq, tAsg, tPar, tPar3, tC, gName, gNil, gCons, gTup, gSub, rSetL, L2.start, tVar, tOp, tUn, rI0, rI, rU, tTest, tChain, tOrV, tAndV, tNotV, tCB, tCons, tNil, tLst, tTup, tIfS, tNext, tRet, tRetN, tDrop, tAnd, tOr, tNot, tB, tIf, tSl, tFld, sFld, putF, tNoPart, tPart, rSlL, tBM, tBM0, rAppend, rPop, rExtend, tCall, tMeth, tLstRg, tRg1, tRg2, List.map_cons, List.map_nil, List.replicate, List.length_cons, List.length_nil, List.append, List.cons_append, List.nil_append, List.append_nil, List.getElem?_cons_zero, List.getElem?_cons_succ, List.set_cons_zero, List.set_cons_succ, Option.some.injEq, exists_eq_left', exists_eq_left, exists_eq, exists_and_left, exists_const, wipe, tYes, upd_same, ↓reduceIte, decide_false, decide_true, Bool.not_true, Bool.not_false, Bool.false_eq_true, V.int.injEq, HO.lst.injEq, HO.tup.injEq, V.ref.injEq, V.str.injEq, one_inj, le_a, le_z, le_0, le_9, mem_let, mem_dig, V.bl.injEq, List.cons.injEq, and_true, true_and, reduceCtorEq, false_and, exists_false, or_false, false_or])
/-! ### the law's own def, run by the caller: what is known of that caller -/
def LawRun (P : Program) (w : World) (K : PySem.W.Frag) (mg : Str → Option Value) (base : Heap) (fa : Addr) (fd : FuncData) (x : Str) (sp : Sp) : Prop :=
  ∀ (s : Shared) (H : Hp) (u : Value) (v : V) (Q : VK) (E : XK), Env0 P w K mg base callerA [] s H → BindsTo s fd ⟨[u], []⟩ [(x, u)] → RelV v u → sp [v] H Q E →
    codeAny (model P w) callerA (.call (.ref fa) ⟨[u], []⟩) (CR CX0 [] P w H s Q E) s
section
variable {P : Program} {w : World} {K : PySem.W.Frag} {mg : Str → Option Value} {base : Heap}
theorem lawRun {name : Str} {st : Stmt} {f : Addr} {fd : FuncData} {N : List Str} {x : Str} {sp : Sp} (F : Fun K name name st f fd) (S : FnScope N [x] (defScope st))
    (hbody : ∀ (cdv : Value) (A : Around) (s : Shared) (H : Hp) (v : V) (Q : VK) (E : XK), A = callerA → sp [v] H Q E →
      ∃ t, PSs (cxOf CX0 P w K mg base N name (defScope st) f cdv A [] s H E).nox (defBody st) t ∧ t { nx := fun _ H' => Q .non H', rt := Q } (L2.start N [v]) H) : LawRun P w K mg base f fd x sp := by
  obtain ⟨oc, od, kV, doc, pm, an, cdv, ct, osl, rfl, lk, hcd⟩ := F.ex
  intro s H u v Q E e0 hb r hsp
  have keep : ∀ b o, base.get? b = some o → s.heap.get? b = some o := fun b o e => (e0.bs b o e).1
  have KX : K.In s.heap := e0.mod.kin.keeps keep
  have lim : s.heap.NoLimit := e0.mod.nolimit.keeps keep
  have kinds : ∀ y ∈ [(x, u)], (defScope st).names.lookup y.1 = some .local ∨ ((defScope st).names.lookup y.1 = some .cell ∧ ((cellsFrom (s.heap.objs.size + 1) (defScope st).names []).lookup y.1).isSome = true) := by
    intro y hy
    obtain rfl : y = (x, u) := List.mem_singleton.mp hy
    rcases S.par x (List.mem_singleton_self x) with q | q
    · exact .inl q
    · exact .inr ⟨q, PySem.W.cellsFrom_some _ _ _ (.inl q)⟩
  have hd : callerA.depth < recursionLimit := by decide
  refine codeAny_call_function hd (KX _ _ lk) rfl S.co S.gen rfl (PySem.W.codeRec_of KX hcd) (hb _ _ _ _ ?_)
  refine wpAny_newFunctionEnv_cells S.kind kinds fun env he s1 fresh => ?_
  subst he
  refine ⟨lim.keeps fresh.toInCall.keep, codeAny_func ?_⟩
  obtain ⟨t, ht, hq⟩ := hbody cdv callerA s H v Q E rfl hsp
  have I := inv_start (CX := CX0) (E := E) (ps := [x]) (us := [u]) (vs := [v]) S rfl e0 rfl (.cons r .nil) fresh
  refine wpAny_mono (ht.nox.run [] s1 (L2.start N [v]) H _ I hq) (fun fl s' hs => ?_) fun e s' hs => hs
  cases fl with
  | ret u =>
    obtain ⟨v', σ', H', J, rv, q⟩ := hs
    exact ⟨v', H', J.os, J.bare, J.base, J.hok, rv, q⟩
  | next =>
    obtain ⟨σ', H', J, q⟩ := hs
    exact ⟨.non, H', J.os, J.bare, J.base, J.hok, rfl, q⟩
  | brk =>
    obtain ⟨_, _, _, q⟩ := hs
    exact False.elim q
  | cont =>
    obtain ⟨_, _, _, q⟩ := hs
    exact False.elim q
/-- the call of the law at the heap behind the top: only the script is tracked -/
theorem lawCall {mb : Str → Option Value} {fa a : Addr} {fd : FuncData} {x : Str} {sp : Sp} {s₁ : Shared} {vs : List Value} {ns : List Int}
    (KX : K.In s₁.heap) (hns : s₁.heap.Ns mainGlobals mg) (hb : s₁.heap.Ns builtinsNs mb) (hbb : ∀ x : Str, x ≠ "__name__" → mb x = bootBuiltins x) (hlim : s₁.heap.NoLimit) (hdig : s₁.heap.NoDigits) (hg : s₁.gens = #[])
    (ha : s₁.heap.get? a = some { cls := .type "list", data := .seq vs.toArray }) (hi : IntsAre vs ns) (hl : ns.length ≤ sizeLine)
    (F : ∀ base : Heap, K.In base → base.Ns mainGlobals mg → base.NoDigits → LawRun P w K mg base fa fd x sp) (hbind : ∀ (s : Shared) (u : Value), BindsTo s fd ⟨[u], []⟩ [(x, u)])
    (hsp : ∀ H : Hp, SqL K H a (ns.map V.int) → sp [.ref a] H (fun v _ => v = .bl true) fun _ _ _ => False) :
    codeAny (model P w) callerA (.call (.ref fa) ⟨[.ref a], []⟩) (fun r s' => r = .ok (.ret (.bool true)) ∧ OldK s₁.heap s'.heap ∧ s'.os = s₁.os ∧ AllBare s'.gens) s₁ := by
  have rv := vals_ints hi
  have lenV := hi.length
  have core : ∀ H : Hp, (∀ b o, H b = some o → b = a ∧ ∃ ob xs, o = .frz ob (.lst xs)) → SqL K H a (ns.map V.int) → HOk P w H s₁.heap → (H a ≠ none → K.lookup a = none) →
      codeAny (model P w) callerA (.call (.ref fa) ⟨[.ref a], []⟩) (fun r s' => r = .ok (.ret (.bool true)) ∧ OldK s₁.heap s'.heap ∧ s'.os = s₁.os ∧ AllBare s'.gens) s₁ := by
    intro H hO hS hok hK
    have free : ∀ {b : Addr} {o : Obj}, s₁.heap.get? b = some o → (b = a → K.lookup a = none → False) → H b = none := fun {b o} e n => by
      cases q : H b with
      | none => rfl
      | some u =>
        have eb := (hO b u q).1
        exact (n eb (hK (by rw [← eb, q]; simp))).elim
    have dictFree : ∀ {b : Addr} {o : Obj} {es : Array DictEntry} {ep : Nat}, s₁.heap.get? b = some o → o.data = .dict es ep → H b = none := fun {b o es ep} e d =>
      free e fun eb _ => by
        subst eb
        rw [ha] at e
        cases e
        cases d
    have nsK : ∀ {b : Addr} {m : Str → Option Value}, s₁.heap.Ns b m → (hidT s₁.heap H).Ns b m := fun {b m} ⟨o, es, ep, e, d, r⟩ => ⟨o, es, ep, hidT_get e (dictFree e d), d, r⟩
    have hKb : K.In (hidT s₁.heap H) := fun b o e => hidT_get (KX b o e) (free (KX b o e) fun eb z => by
      rw [eb, z] at e
      cases e)
    have hM : Mod K mg (hidT s₁.heap H) := ⟨hKb, nsK hns, ⟨mb, nsK hb, hbb⟩, let ⟨mc, h1, h2⟩ := hlim; ⟨mc, nsK h1, h2⟩⟩
    have hD : (hidT s₁.heap H).NoDigits := let ⟨mc, h1, h2⟩ := hdig; ⟨mc, nsK h1, h2⟩
    have e0 : Env0 P w K mg (hidT s₁.heap H) callerA [] s₁ H := ⟨rfl, hM, fun b o e => of_hidT e, Nat.le_of_eq (hidT_size _ _), trivial, fun b hb => absurd (show b ∈ ([] : List Addr) from hb) (by simp), hok, .of_eq hg⟩
    refine codeAny_mono (F _ hKb (nsK hns) hD s₁ H (.ref a) (.ref a) _ _ e0 (hbind s₁ (.ref a)) rfl (hsp H hS)) fun r s' h => ?_
    match r, h with
    | .error e, h => exact False.elim h
    | .ok .next, h => exact False.elim h
    | .ok .brk, h => exact False.elim h
    | .ok .cont, h => exact False.elim h
    | .ok (.ret u), h =>
      obtain ⟨v, H', os, bare, un, hok', r', q⟩ := h
      obtain rfl : v = .bl true := q
      obtain rfl : u = Value.bool true := r'
      refine ⟨rfl, OldK.of_keep fun b o e => ?_, os, bare⟩
      cases q : H b with
      | none => exact un.keep b o e q (by simp [frs]) (by simp)
      | some u =>
        obtain ⟨eb, ob, xs, rfl⟩ := hO b u q
        obtain ⟨e1, _⟩ := hok b _ q
        obtain ⟨e2, _⟩ := hok' b _ (un.frzs b ob _ q)
        rw [e] at e1
        cases e1
        exact e2
  cases hk : K.lookup a with
  | some o =>
    have e := KX a o hk
    rw [ha] at e
    cases e
    exact core (fun _ => none) (fun b o z => by cases z) (.inr ⟨_, vs.toArray, _, hk, rfl, rfl, rfl, by rw [List.size_toArray, lenV]; exact hl, by simpa using rv⟩) (fun b u z => by cases z) fun z => absurd rfl z
  | none =>
    refine core (fun b => if b = a then some (.frz { cls := .type "list", data := .seq vs.toArray } (.lst (ns.map V.int))) else none) (fun b o z => ?_) (.inl (.inr ⟨{ cls := .type "list", data := .seq vs.toArray }, if_pos rfl⟩)) (fun b u z => ?_) fun _ => hk
    · by_cases h : b = a
      · simp only [h, if_true, Option.some.injEq] at z
        exact ⟨h, _, _, z.symm⟩
      · simp only [h, if_false] at z
        cases z
    · by_cases h : b = a
      · simp only [h, if_true, Option.some.injEq] at z
        subst z
        subst h
        exact ⟨ha, by rw [List.length_map]; exact hl, vs, _, rv, ha⟩
      · simp only [h, if_false] at z
        cases z
end
theorem walkG {l : PySem.W.OpenLaw} {q : Program} {loose : List Str} {XP : (Str → Option Value) → Heap → Prop} {YP : World → Heap → Prop} {d : DefRec} {K : Params → PySem.W.Frag} (hn : l.most = some 63) (hdf : d.params.defaults = [])
    (hY : ∀ (w : World) (h : Heap), YP w h → (K w.params).In h)
    (F : ∀ (w : World) (mg : Str → Option Value) (fa : Addr) (h : Heap), (K w.params).In h → h.Ns mainGlobals mg → mg d.name = some (.ref fa) →
      ∃ fd : FuncData, (∀ (s : Shared) (u : Value), BindsTo s fd ⟨[u], []⟩ [("script", u)]) ∧ ∀ base : Heap, (K w.params).In base → base.Ns mainGlobals mg → base.NoDigits → LawRun l.prog w (K w.params) mg base fa fd "script" (spLaw (K w.params))) :
    PySem.W.WalkO q loose XP YP l.row.toRowW d [] (fun f vs => PySem.call f vs) := by
  refine Att.attach_call hn hdf fun w s₀ s₁ mg mb fa o pm cd doc a vs ns G Y ho hd hcd hmg hobj hints hlen hg => ?_
  obtain ⟨fd, hb, hF⟩ := F w mg fa _ (hY w _ Y) G.T.g hmg
  exact lawCall (hY w _ Y) G.T.g G.T.b G.T.builtins G.T.nolimit G.T.nodigits hg hobj hints (Nat.le_trans hlen (by decide)) hF hb fun H hS => ⟨a, ns, rfl, hS, hlen, fun _ => rfl⟩

end Z

set_option Elab.async false
set_option linter.all false
set_option maxRecDepth 100000
set_option maxHeartbeats 4000000

namespace Z
open PySem PySem.Spec PyProof.Rows L2 Z.R
local macro_rules | `(tactic| walk_at "sx") => `(tactic| try simp only [and_assoc, cxOf_K, cxOf_Kn, C8.tCut, rEq, rNe, sc_ii, sc_ss, sc_bb, sc_is, sc_si, sc_bs, sc_sb, tSeq, tAsg, tPar, tPar3, tC, gName, gNil, gCons, gTup, gSub, rSetL, L2.start, tVar, tOp, tUn, rI0, rI, rU, tTest, tChain, tOrV, tAndV, tNotV, tCB, tCons, tNil, tLst, tTup, tIfS, tNext, tRet, tRetN, tDrop, tAnd, tOr, tNot, tB, tIf, tSl, tFld, sFld, putF, tNoPart, tPart, rSlL, tBM, tBM0, rAppend, rPop, rExtend, tCall, tMeth, tLstRg, tRg1, tRg2, List.map_cons, List.map_nil, List.replicate, List.length_cons, List.length_nil, List.append, List.cons_append, List.nil_append, List.append_nil, List.getElem?_cons_zero, List.getElem?_cons_succ, List.set_cons_zero, List.set_cons_succ, Option.some.injEq, exists_eq_left', exists_eq_left, exists_eq, exists_and_left, exists_const, wipe, tYes, upd_same, ↓reduceIte, decide_false, decide_true, Bool.not_true, Bool.not_false, Bool.false_eq_true, V.int.injEq, HO.lst.injEq, HO.tup.injEq, V.ref.injEq, V.str.injEq, one_inj, le_a, le_z, le_0, le_9, mem_let, mem_dig, V.bl.injEq, List.cons.injEq, and_true, true_and, reduceCtorEq, false_and, exists_false, or_false, false_or])
theorem bit_is (c j : Nat) : decide (Builtin.bitAnd ((c : Int) / 2 ^ j) 1 = 1) = bitN c j := by
  rw [bitAnd_m1]
  unfold bitN
  have e : ((c : Int) / 2 ^ j) % 2 = ((c / 2 ^ j % 2 : Nat) : Int) := by
    simp
  rw [e, Bool.eq_iff_iff, decide_eq_true_eq, beq_iff_eq]
  omega
section
variable {K : PySem.W.Frag} {H : Hp} {Q : VK} {c0 c1 c2 c3 c5 c6 c9 c10 c11 c12 c13 c14 c15 c16 c17 c18 : Option V} {N : Addr} {xs : List V} {n : Nat}
/-- all lots of places -/
theorem lc_lots2 (eN : H N = some (.lst xs)) (hl : xs.length = n) (hn : n ≤ 7)
    (done : ∀ (D : Addr) (H' : Hp) (bs : List (Addr × List Nat)), H D = none → Same H H' → H' D = some (.lst (bs.map fun b => .ref b.1)) → Lots H' bs → bs.map (·.2) = subs n → (∀ b ∈ bs, H b.1 = none) → Q (.ref D) H') :
    tLc (iRng1 (tCons (tOp (fun x y H Q => ∃ i, x = V.int i ∧ ∃ x : Nat, y = V.int (x : Nat) ∧ CShl i (x : Nat) ∧ Q (V.int (i * 2 ^ x)) H) (tC (V.int 1)) (tCB (fun xs H Q => ∃ x, xs = [x] ∧ ∃ x_1 : Nat, LenV K x H x_1 ∧ Q (V.int (x_1 : Nat)) H) (tCons (tVar 4) tNil))) tNil)) (gName 8) tYes
      (tLc (iRng1 (tCons (tCB (fun xs H Q => ∃ x, xs = [x] ∧ ∃ x_1 : Nat, LenV K x H x_1 ∧ Q (V.int (x_1 : Nat)) H) (tCons (tVar 4) tNil)) tNil)) (gName 7)
        (tTest (tOp rEq (tOp (rI0 fun i j => V.int (Builtin.bitAnd i j)) (tOp (fun x y H Q => ∃ i, x = V.int i ∧ ∃ x : Nat, y = V.int (x : Nat) ∧ Q (V.int (i / 2 ^ x)) H) (tVar 8) (tVar 7)) (tC (V.int 1))) (tC (V.int 1)))) (tVar 7) [7]) [8]
      [c0, c1, c2, c3, some (.ref N), c5, c6, none, none, c9, c10, c11, c12, c13, c14, c15, c16, c17, c18] H Q := by
  have h2 : 2 ^ n ≤ 128 := Nat.pow_le_pow_right (by decide) (by omega : n ≤ 7)
  have e2 : (1 : Int) * 2 ^ n = ((2 ^ n : Nat) : Int) := by
    rw [Int.one_mul, Int.natCast_pow]
    rfl
  refine ⟨_, rfl, _, rfl, n, len_l eN hl.symm, 1, rfl, n, rfl, ?_, _, rfl, ?_, ?_, fun D nD => lc_range (lo := 0) (fun i H' => Same H H' ∧ ∃ bs : List (Addr × List Nat), H' D = some (.lst (bs.map fun b => .ref b.1)) ∧ Lots H' bs ∧ bs.map (·.2) = (subs n).take i ∧ ∀ b ∈ bs, H b.1 = none ∧ b.1 ≠ D) ⟨same_upd nD, [], upd_same, nofun, rfl, nofun⟩ ?_ ?_⟩
  · exact ⟨by omega, by
      have : Builtin.Int.intBits 1 = 1 := by decide +kernel
      rw [this]
      omega⟩
  · rw [e2]
    generalize 2 ^ n = z at h2
    omega
  · rw [e2]
    generalize 2 ^ n = z at h2
    omega
  · rintro i H' hi ⟨sm, bs, eD, hb, hs, hf⟩
    rw [e2, Int.toNat_natCast] at hi
    have hi1 : i < 128 := Nat.lt_of_lt_of_le hi h2
    walk_at "sx"
    refine ⟨_, rfl, _, rfl, n, len_l (sm _ _ eN) hl.symm, n, rfl, by omega, by omega, fun E nE => lc_range (lo := 0) (fun j H'' => Same H' H'' ∧ H'' E = some (.lst (((List.range j).filter (bitN i)).map vN))) ⟨same_upd nE, upd_same⟩ ?_ ?_⟩
    · rintro j H'' hj ⟨s2, eE⟩
      rw [Int.toNat_natCast] at hj
      walk_at "sx"
      refine ⟨j, by omega, ?_⟩
      rw [Int.zero_add, Int.zero_add, bit_is]
      have er : (List.range (j + 1)).filter (bitN i) = (List.range j).filter (bitN i) ++ if bitN i j = true then [j] else [] := by
        rw [List.range_succ, List.filter_append]
        simp only [List.filter_cons, List.filter_nil]
      rw [er]
      refine ite2 (fun c => ?_) (fun c => ?_)
      · rw [if_pos c]
        refine ⟨_, eE, ?_, same_D s2 nE, ?_⟩
        · rw [List.length_map]
          exact small1000 (Nat.le_trans (List.length_filter_le _ _) (by rw [List.length_range]; omega))
        · rw [List.map_append]
          rfl
      · rw [if_neg c, List.append_nil]
        exact ⟨s2, eE⟩
    · rintro H'' ⟨s2, eE⟩
      rw [Int.toNat_natCast] at eE
      walk_at "sx"
      have hsi : (subs n)[i]? = some ((List.range n).filter (bitN i)) := by
        unfold subs
        rw [List.getElem?_map, List.getElem?_range hi]
        rfl
      have hbl : bs.length = i := by
        have := congrArg List.length hs
        rw [List.length_map, List.length_take] at this
        have h3 : (subs n).length = 2 ^ n := by
          unfold subs
          rw [List.length_map, List.length_range]
        omega
      have nED : E ≠ D := fun e => by
        rw [e, eD] at nE
        cases nE
      refine ⟨_, s2 _ _ eD, ?_, same_D (sm.trans s2) nD, bs ++ [(E, (List.range n).filter (bitN i))], ?_, fun b hb' => ?_, ?_, fun b hb' => ?_⟩
      · rw [List.length_map]
        exact small1000 (by omega)
      · rw [List.map_append]
        rfl
      · rcases List.mem_append.mp hb' with h | h
        · rw [upd_ne (hf b h).2]
          exact s2 _ _ (hb b h)
        · rw [List.mem_singleton.mp h, upd_ne nED]
          exact eE
      · rw [List.map_append, hs, List.take_add_one, hsi]
        rfl
      · rcases List.mem_append.mp hb' with h | h
        · exact hf b h
        · rw [List.mem_singleton.mp h]
          exact ⟨none_back sm nE, nED⟩
  · rintro H' ⟨sm, bs, eD, hb, hs, hf⟩
    rw [e2, Int.toNat_natCast, List.take_of_length_le (by unfold subs; rw [List.length_map, List.length_range]; exact Nat.le_refl _)] at hs
    exact done D H' bs nD sm eD hb hs fun b h => (hf b h).1
/-- the lengths of the loose lots -/
theorem lc_wide {B L : Addr} {us : List V} {P : List (Nat × Nat)} {bs : List (Addr × List Nat)} (eB : H B = some (.lst us)) (dB : Prs H us P) (hP : P.length ≤ 3600) (eL : H L = some (.lst (bs.map fun b => .ref b.1))) (hb : Lots H bs) (hl : ∀ b ∈ bs, b.2.length ≤ 60) (hz : bs.length ≤ 1000)
    (done : ∀ (D : Addr) (H' : Hp), H D = none → Same H H' → H' D = some (.lst (((bs.filter fun b => looseB P b.2).map fun b => (b.2.length : Int)).map V.int)) → Q (.ref D) H') {c4 c7 c8 : Option V} :
    tLc (iList K (tVar 6)) (gName 10) (tB (tCall (spLLoose K) [] E0 (tCons (tVar 5) (tCons (tVar 10) tNil)))) (tCB (fun xs H Q => ∃ x, xs = [x] ∧ ∃ x_1 : Nat, LenV K x H x_1 ∧ Q (V.int (x_1 : Nat)) H) (tCons (tVar 10) tNil)) [10]
      [c0, c1, c2, c3, c4, some (.ref B), some (.ref L), c7, c8, c9, c10, c11, c12, c13, c14, c15, c16, c17, c18] H Q := by
  refine ⟨_, rfl, L, rfl, ⟨_, SqL.of eL⟩, fun D nD => lc_list (K := K) (a := L) (xs := bs.map fun b => .ref b.1) (fun i H' => Same H H' ∧ H' D = some (.lst ((((bs.take i).filter fun b => looseB P b.2).map fun b => (b.2.length : Int)).map V.int))) ⟨same_upd nD, upd_same⟩ (fun i H' _ h => SqL.of (h.1 _ _ eL)) ?_ ?_⟩
  · rintro i x H' hi ⟨sm, eD⟩
    obtain ⟨b, hbi, rfl⟩ := map_ref_at hi
    have hm := List.mem_of_getElem? hbi
    have et : (bs.take (i + 1)).filter (fun b => looseB P b.2) = (bs.take i).filter (fun b => looseB P b.2) ++ if looseB P b.2 = true then [b] else [] := by
      rw [List.take_add_one, hbi, List.filter_append]
      simp only [Option.toList_some, List.filter_cons, List.filter_nil]
    walk_at "sx"
    refine ⟨B, b.1, us, P, b.2, rfl, sm _ _ eB, dB.same sm, hP, .inl (SqL.of (sm _ _ (hb b hm))), hl b hm, fun H2 s2 => ?_⟩
    refine ⟨_, rfl, ?_⟩
    rw [et]
    refine ite2 (fun c => ?_) (fun c => ?_)
    · rw [if_pos c]
      refine ⟨b.2.length, len_l ((sm.trans s2) _ _ (hb b hm)) (by rw [List.length_map]), _, s2 _ _ eD, ?_, same_D (sm.trans s2) nD, ?_⟩
      · rw [List.length_map, List.length_map]
        exact small1000 (Nat.le_trans (List.length_filter_le _ _) (by rw [List.length_take]; omega))
      · rw [List.map_append, List.map_append]
        rfl
    · rw [if_neg c, List.append_nil]
      exact ⟨sm.trans s2, s2 _ _ eD⟩
  · rintro H' ⟨sm, eD⟩
    rw [List.length_map, List.take_of_length_le (Nat.le_refl _)] at eD
    exact done D H' nD sm eD
end
theorem wide_is {α : Type} {p : Pt α} {bs : List (Addr × List Nat)} {m : Int} (hs : bs.map (·.2) = subs (Pt.cnt p)) (hm : m ∈ (bs.filter fun b => looseB (Pt.told p 0) b.2).map fun b => (b.2.length : Int)) (hx : ∀ y ∈ (bs.filter fun b => looseB (Pt.told p 0) b.2).map (fun b => (b.2.length : Int)), y ≤ m) : m = ((Pt.widest (Pt.plc p 0)).length : Nat) := by
  obtain ⟨b, hb, rfl⟩ := List.mem_map.mp hm
  obtain ⟨hb, hl⟩ := List.mem_filter.mp hb
  have h1 := Pt.wide_le p (hs ▸ List.mem_map.mpr ⟨b, hb, rfl⟩) (loose_of.mp hl)
  obtain ⟨h2, h3⟩ := Pt.wide_ex p
  rw [← hs] at h2
  obtain ⟨b2, hb2, e⟩ := List.mem_map.mp h2
  have := hx _ (List.mem_map.mpr ⟨b2, List.mem_filter.mpr ⟨hb2, by rw [e]; exact loose_of.mpr h3⟩, rfl⟩)
  rw [e] at this
  omega
theorem wide_some {α : Type} {p : Pt α} {bs : List (Addr × List Nat)} (hs : bs.map (·.2) = subs (Pt.cnt p)) : 0 < ((bs.filter fun b => looseB (Pt.told p 0) b.2).map fun b => (b.2.length : Int)).length := by
  obtain ⟨h2, h3⟩ := Pt.wide_ex p
  rw [← hs] at h2
  obtain ⟨b2, hb2, e⟩ := List.mem_map.mp h2
  rw [List.length_map]
  exact List.length_pos_of_mem (List.mem_filter.mpr ⟨hb2, by rw [e]; exact loose_of.mpr h3⟩)
theorem cond_is (i l : Nat) : decide ((2 : Int) * i = (l : Int) * ((l : Int) - 1)) = decide (2 * i = l * (l - 1)) := by
  rw [Bool.eq_iff_iff, decide_eq_true_eq, decide_eq_true_eq]
  cases l with
  | zero => simp; omega
  | succ l =>
    have e : ((l + 1 : Nat) : Int) * (((l + 1 : Nat) : Int) - 1) = (((l + 1) * l : Nat) : Int) := by
      rw [Int.natCast_mul]
      congr 1
      omega
    rw [e, Nat.add_sub_cancel]
    omega
/-- the greatest chain so far -/
structure Hi (P : List (Nat × Nat)) (bs : List (Addr × List Nat)) (i h : Nat) : Prop where
  le : ∀ b ∈ bs.take i, 2 * inside P b.2 = b.2.length * (b.2.length - 1) → b.2.length ≤ h
  ex : h = 0 ∨ ∃ b ∈ bs, 2 * inside P b.2 = b.2.length * (b.2.length - 1) ∧ b.2.length = h
theorem Hi.step {P : List (Nat × Nat)} {bs : List (Addr × List Nat)} {i h : Nat} {b : Addr × List Nat} (H : Hi P bs i h) (hb : bs[i]? = some b) : Hi P bs (i + 1) (if 2 * inside P b.2 = b.2.length * (b.2.length - 1) ∧ h < b.2.length then b.2.length else h) := by
  have hm := List.mem_of_getElem? hb
  have et : bs.take (i + 1) = bs.take i ++ [b] := by
    rw [List.take_add_one, hb]
    rfl
  refine ⟨fun x hx hc => ?_, ?_⟩
  · rw [et] at hx
    rcases List.mem_append.mp hx with hx | hx
    · have := H.le x hx hc
      split
      · omega
      · exact this
    · rw [List.mem_singleton.mp hx] at hc ⊢
      split
      · exact Nat.le_refl _
      · rename_i hn
        exact Nat.not_lt.mp fun hlt => hn ⟨hc, hlt⟩
  · split
    · rename_i hc
      exact .inr ⟨b, hm, hc.1, rfl⟩
    · exact H.ex
theorem Hi.is {α : Type} {p : Pt α} {bs : List (Addr × List Nat)} {h : Nat} (H : Hi (Pt.told p 0) bs bs.length h) (hs : bs.map (·.2) = subs (Pt.cnt p)) : h = Pt.time (fun _ => 1) p := by
  obtain ⟨h1, h2, h3⟩ := Pt.high_ex p (tb := fun _ => 1) fun _ => rfl
  rw [← hs] at h1
  obtain ⟨b, hb, e⟩ := List.mem_map.mp h1
  have g1 : Pt.time (fun _ => 1) p ≤ h := by
    have := H.le b (by rw [List.take_of_length_le (Nat.le_refl _)]; exact hb) (by rw [e]; exact h2)
    rw [e, h3] at this
    exact this
  rcases H.ex with rfl | ⟨b2, hb2, hc, rfl⟩
  · omega
  · have := Pt.high_le p (tb := fun _ => 1) (fun _ => rfl) (hs ▸ List.mem_map.mpr ⟨b2, hb2, rfl⟩) hc
    omega
theorem enc_tm9 {p : Pt Str} (h : Pt.WfE p) (hc : Pt.cnt p ≤ 60) : Tm (Pt.enc .str p) := by
  rcases h with rfl | w
  · rw [Pt.enc]
    exact .tup _ (by simp) fun d hd => by
      rw [List.mem_singleton.mp hd]
      exact .str _ (by decide) (by decide +kernel)
  · induction w with
    | deed x hx =>
      rw [Pt.enc]
      refine .tup _ (by simp) fun d hd => ?_
      simp only [List.mem_cons, List.not_mem_nil, or_false] at hd
      rcases hd with rfl | rfl
      · exact .str _ (by decide) (by decide +kernel)
      · have := Pt.name_len hx
        exact .str _ (by omega) (Pt.word_strOk (Pt.name_wd hx))
    | nd r ps h2 h hw ho ih =>
      rw [Pt.enc_nd]
      refine .tup _ (by simp) fun d hd => ?_
      simp only [List.mem_cons, List.not_mem_nil, or_false] at hd
      rcases hd with rfl | rfl
      · exact .str _ (by cases r <;> decide) (by cases r <;> decide +kernel)
      · refine .tup _ ?_ fun d hd => ?_
        · rw [List.length_map]
          have h3 := Pt.len_cnt (qs := ps) fun p hp => by
            have := Pt.cnt_pos (h p hp)
            omega
          rw [Pt.cnt_nd] at hc
          omega
        · obtain ⟨q, hq, rfl⟩ := List.mem_map.mp hd
          exact ih q hq (Nat.le_trans (Pt.cnt_mem (r := r) hq) hc)
theorem tld {K : PySem.W.Frag} {C : Addr} {H : Hp} {Q : VK} {E : XK} {w : Nat} {v u : V} {e : PyData} {p : Pt Str} (hw : Pt.WfE p) (hc : Pt.cnt p ≤ 30) (hv : Dp K H v (Pt.enc .str p)) (h5 : w ≤ 5) (hu : Dp K H u e) (tme : Tm e) (q : ∀ v' H', Same H H' → ToldR K w p e v' H' → Q v' H') : spTld K C [.int w, v, u] H Q E := by
  have hp := Pt.party_wf hw hc
  refine ⟨w, v, u, _, e, rfl, h5, hv, enc_tm9 hw (by omega), hu, tme, fun H' h => ?_, fun p' v' H' h s r => ?_⟩
  · rw [hp] at h
    cases h
  · rw [hp] at h
    obtain rfl := Option.some.inj h
    exact q v' H' s r
theorem tld0 {K : PySem.W.Frag} {C : Addr} {H : Hp} {Q : VK} {E : XK} {v u : V} {e : PyData} {p : Pt Str} (hw : Pt.WfE p) (hc : Pt.cnt p ≤ 30) (hv : Dp K H v (Pt.enc .str p)) (hu : Dp K H u e) (tme : Tm e) (q : ∀ H', Same H H' → Q (.int ((Pt.widest (Pt.plc p 0)).length : Nat)) H') : spTld K C [.int 0, v, u] H Q E :=
  tld (w := 0) hw hc hv (by omega) hu tme fun v' H' s r => by
    rcases r with ⟨_, rfl⟩ | ⟨h, _⟩ | ⟨h, _⟩ | ⟨h, _⟩ | ⟨h, _⟩ | ⟨h, _⟩
    · exact q H' s
    all_goals omega
theorem tld1 {K : PySem.W.Frag} {C : Addr} {H : Hp} {Q : VK} {E : XK} {v u : V} {e : PyData} {p : Pt Str} (hw : Pt.WfE p) (hc : Pt.cnt p ≤ 30) (hv : Dp K H v (Pt.enc .str p)) (hu : Dp K H u e) (tme : Tm e) (q : ∀ H', Same H H' → Q (.int (Pt.time (fun _ => 1) p : Nat)) H') : spTld K C [.int 1, v, u] H Q E :=
  tld (w := 1) hw hc hv (by omega) hu tme fun v' H' s r => by
    rcases r with ⟨h, _⟩ | ⟨_, rfl⟩ | ⟨h, _⟩ | ⟨h, _⟩ | ⟨h, _⟩ | ⟨h, _⟩
    · omega
    · exact q H' s
    all_goals omega
/-- the two papers, right by the law's own eyes -/
theorem tld23 {K : PySem.W.Frag} {C : Addr} {H : Hp} {Q : VK} {E : XK} {v u : V} {e : PyData} {p : Pt Str} (k : Bool) (hw : Pt.WfE p) (hc : Pt.cnt p ≤ 30) (hv : Dp K H v (Pt.enc .str p)) (hu : Dp K H u e) (tme : Tm e)
    (q : ∀ v' H' (lots : List (List Nat)) (row : List Nat), Same H H' → Dp K H' v' (.tuple [.tuple (lots.map dN), dN row]) → rightB k (Pt.cnt p) (Pt.told p 0) (.tuple [.tuple (lots.map dN), dN row]) = true → row.length = (if k then Pt.time (fun _ => 1) p else (Pt.widest (Pt.plc p 0)).length) → Q v' H') : spTld K C [.int (2 + if k then 1 else 0), v, u] H Q E := by
  cases k with
  | false =>
    refine tld (w := 2) hw hc hv (by omega) hu tme fun v' H' s r => ?_
    rcases r with ⟨h, _⟩ | ⟨h, _⟩ | ⟨_, cs, ws, h1, h2, d⟩ | ⟨h, _⟩ | ⟨h, _⟩ | ⟨h, _⟩
    · omega
    · omega
    · exact q v' H' cs ws s d (cover_right h1 h2) h2.length_eq
    all_goals omega
  | true =>
    refine tld (w := 3) hw hc hv (by omega) hu tme fun v' H' s r => ?_
    rcases r with ⟨h, _⟩ | ⟨h, _⟩ | ⟨h, _⟩ | ⟨_, ys, h1, h2, d⟩ | ⟨h, _⟩ | ⟨h, _⟩
    · omega
    · omega
    · omega
    · exact q v' H' _ _ s d (levels_right h1 h2) (Pt.lev (tb := fun _ : Str => 1) (fun _ => rfl) p 0 0).llen
    all_goals omega
theorem tld45 {K : PySem.W.Frag} {C : Addr} {H : Hp} {Q : VK} {E : XK} {v u : V} {e : PyData} {p : Pt Str} (k : Bool) (hw : Pt.WfE p) (hc : Pt.cnt p ≤ 30) (hv : Dp K H v (Pt.enc .str p)) (hu : Dp K H u e) (tme : Tm e)
    (q : ∀ H', Same H H' → Q (.bl (rightB k (Pt.cnt p) (Pt.told p 0) e)) H') : spTld K C [.int (4 + if k then 1 else 0), v, u] H Q E := by
  cases k with
  | false =>
    refine tld (w := 4) hw hc hv (by omega) hu tme fun v' H' s r => ?_
    rcases r with ⟨h, _⟩ | ⟨h, _⟩ | ⟨h, _⟩ | ⟨h, _⟩ | ⟨_, rfl⟩ | ⟨h, _⟩
    · omega
    · omega
    · omega
    · omega
    · exact q H' s
    · omega
  | true =>
    refine tld (w := 5) hw hc hv (by omega) hu tme fun v' H' s r => ?_
    rcases r with ⟨h, _⟩ | ⟨h, _⟩ | ⟨h, _⟩ | ⟨h, _⟩ | ⟨h, _⟩ | ⟨_, rfl⟩
    · omega
    · omega
    · omega
    · omega
    · omega
    · exact q H' s
theorem right_len {k : Bool} {n : Nat} {P : List (Nat × Nat)} {lots : List (List Nat)} {row : List Nat} (h : rightB k n P (.tuple [.tuple (lots.map dN), dN row]) = true) : lots.length ≤ n ∧ (∀ l ∈ lots, l.length ≤ n) ∧ row.length ≤ n := by
  have hl : ∀ a b : List Nat, dN a = dN b → a.length = b.length := fun a b e => by
    have := congrArg List.length (PyData.tuple.inj e)
    rwa [List.length_map, List.length_map] at this
  cases e1 : plL n (dN row) with
  | none =>
    rw [right_norow e1] at h
    cases h
  | some row' =>
    cases e2 : Pt.mapO (lotN n) (lots.map dN) with
    | none =>
      rw [right_nolots e2] at h
      cases h
    | some lots' =>
      rw [right_eq e1 e2, Bool.and_eq_true, Bool.and_eq_true, Bool.and_eq_true, decide_eq_true_eq, decide_eq_true_eq] at h
      obtain ⟨e3, h3, h4⟩ := plL_ok e1
      obtain ⟨e5, h5⟩ := lotN_map e2
      have g1 : row'.length ≤ n := nodup_lt h4 h3
      have g2 := congrArg List.length e5
      rw [List.length_map, List.length_map] at g2
      refine ⟨by have := h.1.2; omega, fun l hm => ?_, by rw [hl _ _ e3]; exact g1⟩
      have : dN l ∈ lots'.map dN := e5 ▸ List.mem_map.mpr ⟨l, hm, rfl⟩
      obtain ⟨l', hm', e⟩ := List.mem_map.mp this
      rw [← hl _ _ e]
      exact nodup_lt (h5 l' hm').2.1 (h5 l' hm').1

end Z

set_option Elab.async false
set_option linter.all false
set_option maxRecDepth 100000
set_option maxHeartbeats 4000000

namespace Z
open PySem PySem.Spec PyProof.Rows L2 Z.R
local macro_rules | `(tactic| walk_at "sx") => `(tactic| try simp only [and_assoc, cxOf_K, cxOf_Kn, C8.tCut, rEq, rNe, sc_ii, sc_ss, sc_bb, sc_is, sc_si, sc_bs, sc_sb, tSeq, tAsg, tPar, tPar3, tC, gName, gNil, gCons, gTup, gSub, rSetL, L2.start, tVar, tOp, tUn, rI0, rI, rU, tTest, tChain, tOrV, tAndV, tNotV, tCB, tCons, tNil, tLst, tTup, tIfS, tNext, tRet, tRetN, tDrop, tAnd, tOr, tNot, tB, tIf, tSl, tFld, sFld, putF, tNoPart, tPart, rSlL, tBM, tBM0, rAppend, rPop, rExtend, tCall, tMeth, tLstRg, tRg1, tRg2, List.map_cons, List.map_nil, List.replicate, List.length_cons, List.length_nil, List.append, List.cons_append, List.nil_append, List.append_nil, List.getElem?_cons_zero, List.getElem?_cons_succ, List.set_cons_zero, List.set_cons_succ, Option.some.injEq, exists_eq_left', exists_eq_left, exists_eq, exists_and_left, exists_const, wipe, tYes, upd_same, ↓reduceIte, decide_false, decide_true, Bool.not_true, Bool.not_false, Bool.false_eq_true, V.int.injEq, HO.lst.injEq, HO.tup.injEq, V.ref.injEq, V.str.injEq, one_inj, le_a, le_z, le_0, le_9, mem_let, mem_dig, V.bl.injEq, List.cons.injEq, and_true, true_and, reduceCtorEq, false_and, exists_false, or_false, false_or])
section
variable {P : Program} {w : World} {K : PySem.W.Frag} {mg : Str → Option Value} {base : Heap}
theorem sc_law : FnScope ["script", "draw", "turn", "party", "names", "pairs", "lots", "place", "code", "wide", "lot", "high", "inside", "pair", "kind", "told", "value", "odd", "which"] ["script"] (defScope s_law) := ⟨rfl, rfl, rfl, by decide +kernel, rfl, by decide +kernel, by decide +kernel⟩
theorem ok_law {f C : Addr} {fd : FuncData} (F : Fun K "law" "law" s_law f fd) (c__law_draw : Cl P w K mg base 1 "_law_draw" (spDraw K)) (c__law_party : Cl P w K mg base 76 "_law_party" (spParty K)) (c__law_pairs : Cl P w K mg base 63 "_law_pairs" (spPairs K 31))
    (c__law_loose : Cl P w K mg base 1 "_law_loose" (spLLoose K)) (c__law_told : Cl P w K mg base 76 "_law_told" (spTld K C)) (c__law_right : Cl P w K mg base 64 "_law_right" (spRight K)) (c__law_tries : Cl P w K mg base 40 "_law_tries" (spTries K)) (c__law_says : Cl P w K mg base 1 "_law_says" spSays) (c__law_odd_party : Cl P w K mg base 3 "_law_odd_party" (spOdd K))
    (b_range : mg "range" = none) (b_len : mg "len" = none) (b_max : mg "max" = none) : LawRun P w K mg base f fd "script" (spLaw K) := by
  have nd := sc_law.nd
  refine lawRun F sc_law fun cdv A s H v Q E hA h => ?_
  obtain ⟨a0, ns, e, hS, hn, q⟩ := h
  obtain rfl : v = .ref a0 := by
    have := List.cons.inj e
    exact this.1
  subst hA
  have hr : Room 77 (callerA.deeper (envOfC (Str.ofString "law") (defScope s_law) s.heap.objs.size f cdv)) := ⟨rfl, (by decide : callerA.depth + 1 + 3 * 77 + 5 < recursionLimit), (by decide : callerA.units + 3 + 16 * 77 + 200 < cLine)⟩
  refine ⟨_, (C8.pss_cut (ps_set (i := 1) nd rfl (.inl rfl) (pcl c__law_draw hr (by omega) (pa_cons (pv 0) pa_nil)))
  (C8.pss_cut (ps_for PassesOwn.never rfl (pi_range1 (by rfl) b_range (pa_cons pe_int pa_nil)) (pg_name (i := 2) nd rfl (.inl rfl))
    (C8.pss_cut (ps_set (i := 3) nd rfl (.inl rfl) (pcl c__law_party hr (by omega) (pa_cons (pv 1) (pa_cons pe_int pa_nil))))
  (C8.pss_cut (ps_asg (pcl c__law_pairs hr (by omega) (pa_cons (pv 3) pa_nil)) (pg_tupK (K := K) rfl (n := 2) (by rfl) (pgs_cons (pg_name (i := 4) nd rfl (.inr rfl)) (pgs_cons (pg_name (i := 5) nd rfl (.inr rfl)) pgs_nil))))
  (C8.pss_cut (ps_setLc (i := 6) (own := [("code", 8)]) rfl nd rfl rfl (sw_true rfl rfl rfl (by decide +kernel)) (pi_range1 (by rfl) b_range (pa_cons (pe_op op_shlN pe_int (pe_callB (call_lenK (K := K) rfl) (by rfl) b_len (by decide +kernel) (pa_cons (pv 4) pa_nil))) pa_nil)) (blkOk_by (N := ["script", "draw", "turn", "party", "names", "pairs", "lots", "place", "code", "wide", "lot", "high", "inside", "pair", "kind", "told", "value", "odd", "which"]) (sc := defScope s_law) (by decide +kernel)) (fun _ _ _ _ _ => (pg_name (i := 8) nd rfl (.inr rfl))) (fun _ _ _ _ _ => pts_nil) (fun _ _ _ _ _ => (pe_lc (own := [("place", 7)]) rfl nd (pi_range1 (by rfl) b_range (pa_cons (pe_callB (call_lenK (K := K) rfl) (by rfl) b_len (by decide +kernel) (pa_cons (pv 4) pa_nil)) pa_nil)) (blkOk_in (N := ["script", "draw", "turn", "party", "names", "pairs", "lots", "place", "code", "wide", "lot", "high", "inside", "pair", "kind", "told", "value", "odd", "which"]) (sc := defScope s_law) rfl (by decide +kernel)) (fun _ _ _ _ _ => (pg_name (i := 7) nd rfl (.inl rfl))) (fun _ _ _ _ _ => (pts_one (pt_cmpR op_eq (pe_op op_and (pe_op op_shrN (pv 8) (pv 7)) pe_int) pe_int (nomark _)))) (fun _ _ _ _ _ => (pv 7)))))
  (C8.pss_cut (ps_set (i := 9) nd rfl (.inl rfl) (pe_callB (cr_maxK (K := K) rfl rfl) (by rfl) b_max (by decide +kernel) (pa_cons (pe_lc (own := [("lot", 10)]) rfl nd (pi_listK (K := K) rfl (pv 6)) (blkOk_by (N := ["script", "draw", "turn", "party", "names", "pairs", "lots", "place", "code", "wide", "lot", "high", "inside", "pair", "kind", "told", "value", "odd", "which"]) (sc := defScope s_law) (by decide +kernel)) (fun _ _ _ _ _ => (pg_name (i := 10) nd rfl (.inl rfl))) (fun _ _ _ _ _ => (pts_one (pt_val (pcl c__law_loose hr (by omega) (pa_cons (pv 5) (pa_cons (pv 10) pa_nil)))))) (fun _ _ _ _ _ => (pe_callB (call_lenK (K := K) rfl) (by rfl) b_len (by decide +kernel) (pa_cons (pv 10) pa_nil)))) pa_nil)))
  (pss_cons (ps_set (i := 11) nd rfl (.inl rfl) pe_int)
  (C8.pss_cut (ps_for PassesOwn.never rfl (pi_listK (K := K) rfl (pv 6)) (pg_name (i := 10) nd rfl (.inr rfl))
    (pss_cons (ps_set (i := 12) nd rfl (.inl rfl) (pe_callB (call_lenK (K := K) rfl) (by rfl) b_len (by decide +kernel) (pa_cons (pe_lc (own := [("pair", 13)]) rfl nd (pi_listK (K := K) rfl (pv 5)) (blkOk_by (N := ["script", "draw", "turn", "party", "names", "pairs", "lots", "place", "code", "wide", "lot", "high", "inside", "pair", "kind", "told", "value", "odd", "which"]) (sc := defScope s_law) (by decide +kernel)) (fun _ _ _ _ _ => (pg_name (i := 13) nd rfl (.inl rfl))) (fun _ _ _ _ _ => (pts_one (PW.pt (pw_and (pt_cmpR (R.op_in_seqK (K := K) rfl) (pe_ix (ix_tupK (K := K) rfl) (pv 13) pe_int (fun _ _ => rfl)) (pv 10) (by rfl)) (pw_and1 (pt_cmpR (R.op_in_seqK (K := K) rfl) (pe_ix (ix_tupK (K := K) rfl) (pv 13) pe_int (fun _ _ => rfl)) (pv 10) (by rfl))))))) (fun _ _ _ _ _ => (pv 13))) pa_nil)))
  (pss_one (ps_set (i := 11) nd rfl (.inl rfl) (pe_ifExp (PW.pt (pw_and (pt_cmpR op_eq (pe_op op_mul pe_int (pv 12)) (pe_op op_mul (pe_callB (call_lenK (K := K) rfl) (by rfl) b_len (by decide +kernel) (pa_cons (pv 10) pa_nil)) (pe_op op_sub (pe_callB (call_lenK (K := K) rfl) (by rfl) b_len (by decide +kernel) (pa_cons (pv 10) pa_nil)) pe_int)) (nomark _)) (pw_and1 (pt_cmpR op_gt (pe_callB (call_lenK (K := K) rfl) (by rfl) b_len (by decide +kernel) (pa_cons (pv 10) pa_nil)) (pv 11) (nomark _))))) (pe_callB (call_lenK (K := K) rfl) (by rfl) b_len (by decide +kernel) (pa_cons (pv 10) pa_nil)) (pv 11))))))
  (C8.pss_cut (ps_if (pt_cmpR (op_neD hr.units) (pe_lst (pa_cons (pcl c__law_told hr (by omega) (pa_cons pe_int (pa_cons (pv 3) (pa_cons pe_non pa_nil)))) (pa_cons (pcl c__law_told hr (by omega) (pa_cons pe_int (pa_cons (pv 3) (pa_cons pe_non pa_nil)))) pa_nil))) (pe_lst (pa_cons (pv 9) (pa_cons (pv 11) pa_nil))) (nomark _)) (pss_one (ps_ret pe_bl)) pss_nil)
  (pss_one (ps_for PassesOwn.never rfl (pi_listK (K := K) rfl (pe_lst (pa_cons pe_int (pa_cons pe_int pa_nil)))) (pg_name (i := 14) nd rfl (.inl rfl))
    (C8.pss_cut (ps_set (i := 15) nd rfl (.inl rfl) (pcl c__law_told hr (by omega) (pa_cons (pe_op op_add pe_int (pv 14)) (pa_cons (pv 3) (pa_cons pe_non pa_nil)))))
  (C8.pss_cut (ps_if (PW.pt (pw_or (pt_not (pt_val (pcl c__law_right hr (by omega) (pa_cons (pv 3) (pa_cons (pv 15) (pa_cons (pv 14) pa_nil)))))) (pw_or1 (pt_cmpR op_ne (pe_callB (call_lenK (K := K) rfl) (by rfl) b_len (by decide +kernel) (pa_cons (pe_ix (ix_tupK (K := K) rfl) (pv 15) pe_int (fun _ _ => rfl)) pa_nil)) (pe_ix (ix_listK (K := K) rfl) (pe_lst (pa_cons (pv 9) (pa_cons (pv 11) pa_nil))) (pv 14) (fun _ _ => rfl)) (nomark _))))) (pss_one (ps_ret pe_bl)) pss_nil)
  (pss_one (ps_for PassesOwn.never rfl (pi_listK (K := K) rfl (pcl c__law_tries hr (by omega) (pa_cons (pv 1) (pa_cons (pv 15) (pa_cons (pe_callB (call_lenK (K := K) rfl) (by rfl) b_len (by decide +kernel) (pa_cons (pv 4) pa_nil)) pa_nil))))) (pg_name (i := 16) nd rfl (.inl rfl))
    (pss_one (ps_if (pt_not (pt_val (pcl c__law_says hr (by omega) (pa_cons (pcl c__law_told hr (by omega) (pa_cons (pe_op op_add pe_int (pv 14)) (pa_cons (pv 3) (pa_cons (pv 16) pa_nil)))) (pa_cons (pcl c__law_right hr (by omega) (pa_cons (pv 3) (pa_cons (pv 16) (pa_cons (pv 14) pa_nil)))) pa_nil))))) (pss_one (ps_ret pe_bl)) pss_nil))))))))))))))))
  (pss_cons (ps_set (i := 17) nd rfl (.inr rfl) (pcl c__law_odd_party hr (by omega) (pa_cons (pv 1) pa_nil)))
  (pss_one (ps_ret (pe_cmpR (op_eqD hr.units) (pe_lc (own := [("which", 18)]) rfl nd (pi_range1 (by rfl) b_range (pa_cons pe_int pa_nil)) (blkOk_by (N := ["script", "draw", "turn", "party", "names", "pairs", "lots", "place", "code", "wide", "lot", "high", "inside", "pair", "kind", "told", "value", "odd", "which"]) (sc := defScope s_law) (by decide +kernel)) (fun _ _ _ _ _ => (pg_name (i := 18) nd rfl (.inl rfl))) (fun _ _ _ _ _ => pts_nil) (fun _ _ _ _ _ => (pcl c__law_told hr (by omega) (pa_cons (pv 18) (pa_cons (pv 17) (pa_cons (pe_tup pa_nil) pa_nil)))))) (pe_op op_rep (pe_lst (pa_cons pe_str pa_nil)) pe_int) (nomark _))))))), ?_⟩
  walk_at "sx"
  refine ⟨fun σ H' => ∃ d c, σ = [some (.ref a0), some (.ref d), none, none, none, none, none, none, none, none, none, none, none, none, none, none, none, none, none] ∧ DrawAt H' d c 0, ⟨a0, ns, rfl, hS, hn, fun p c H' _ _ _ D => ⟨p, c, rfl, D⟩⟩, ?_⟩
  rintro σ H1 ⟨d, c, rfl, D1⟩
  refine ⟨fun σ H' => ∃ c2 c3 c4 c5 c6 c9 c10 c11 c12 c14 c15 c16 : Option V, σ = [some (.ref a0), some (.ref d), c2, c3, c4, c5, c6, none, none, c9, c10, c11, c12, none, c14, c15, c16, none, none] ∧ DrawAt H' d c 2000, ⟨_, rfl, by decide, by decide, for_range (lo := 0) (n := 2)
    (fun i σ H' => ∃ c2 c3 c4 c5 c6 c9 c10 c11 c12 c14 c15 c16 : Option V, σ = [some (.ref a0), some (.ref d), c2, c3, c4, c5, c6, none, none, c9, c10, c11, c12, none, c14, c15, c16, none, none] ∧ DrawAt H' d c (i * 1000)) ⟨none, none, none, none, none, none, none, none, none, none, none, none, rfl, D1⟩ ?_ ?_⟩, ?_⟩
  · rintro i σ H2 hi ⟨c2, c3, c4, c5, c6, c9, c10, c11, c12, c14, c15, c16, rfl, D2⟩
    walk_at "sx"
    -- the party
    refine ⟨fun σ H' => ∃ (p : Pt Str) (v : V), σ = [some (.ref a0), some (.ref d), some (.int (0 + (i : Int))), some v, c4, c5, c6, none, none, c9, c10, c11, c12, none, c14, c15, c16, none, none] ∧ Pt.WfE p ∧ Pt.cnt p ≤ 7 ∧ Dp K H' v (Pt.enc .str p) ∧ DrawAt H' d c (i * 1000 + 22), ⟨d, c, _, rfl, D2, by omega, fun p v H' w hc dp D _ => ⟨p, v, rfl, w, hc, dp, D⟩⟩, ?_⟩
    rintro σ H3 ⟨p, v, rfl, hw, hc7, hv, D3⟩
    have ho : Pt.Okc p := wf_okc hw (by omega)
    have hdp : Pt.dep p < 31 := by
      have := ho.1.2
      omega
    -- its names and pairs
    refine ⟨fun σ H' => ∃ (N B : Addr) (us : List V), σ = [some (.ref a0), some (.ref d), some (.int (0 + (i : Int))), some v, some (.ref N), some (.ref B), c6, none, none, c9, c10, c11, c12, none, c14, c15, c16, none, none] ∧ Same H3 H' ∧ H3 N = none ∧ H3 B = none ∧ H' N = some (.lst ((Pt.names p).map V.str)) ∧ H' B = some (.lst us) ∧ Prs H' us (Pt.told p 0), ?_, ?_⟩
    · walk_at "sx"
      exact ⟨v, p, rfl, hv, ho, hdp, fun t N B us H' sm nN nB st eN eB dB => ⟨t, rfl, _, st, rfl, _, _, rfl, _, _, rfl, rfl, N, rfl, B, rfl, sm, nN, nB, eN, us, eB, dB⟩⟩
    rintro σ H4 ⟨N, B, us, rfl, s4, nN, nB, eN, eB, dB⟩
    have hnl : ((Pt.names p).map V.str).length = Pt.cnt p := by rw [List.length_map, Pt.names_len]
    have hP : (Pt.told p 0).length ≤ 3600 := Nat.le_trans (Pt.told_len _ _) (Nat.mul_le_mul ho.2 ho.2)
    have hv4 := L2.Dp.same s4 hv
    have D4 := D3.same s4
    -- all lots
    refine ⟨fun σ H' => ∃ (L : Addr) (bs : List (Addr × List Nat)), σ = [some (.ref a0), some (.ref d), some (.int (0 + (i : Int))), some v, some (.ref N), some (.ref B), some (.ref L), none, none, c9, c10, c11, c12, none, c14, c15, c16, none, none] ∧ Same H4 H' ∧ H' L = some (.lst (bs.map fun b => .ref b.1)) ∧ Lots H' bs ∧ bs.map (·.2) = subs (Pt.cnt p), ?_, ?_⟩
    · walk_at "sx"
      refine lc_lots2 eN hnl hc7 fun D H' bs nD sm eD hb hs hf => ?_
      exact ⟨D, rfl, sm, bs, eD, hb, hs⟩
    rintro σ H5 ⟨L, bs, rfl, s5, eL, hb, hs⟩
    have hbl : ∀ b ∈ bs, b.2.length ≤ 60 := fun b h => by
      have h1 : b.2 ∈ subs (Pt.cnt p) := hs ▸ List.mem_map.mpr ⟨b, h, rfl⟩
      obtain ⟨h2, h3⟩ := mem_subs.mp h1
      have := nodup_lt (Pt.inc_nodup h2) h3
      omega
    have hbn : bs.length ≤ 1000 := by
      have h1 := congrArg List.length hs
      rw [List.length_map] at h1
      unfold subs at h1
      rw [List.length_map, List.length_range] at h1
      have h2 : 2 ^ Pt.cnt p ≤ 128 := Nat.pow_le_pow_right (by decide) (by omega : Pt.cnt p ≤ 7)
      omega
    -- the widest
    refine ⟨fun σ H' => σ = [some (.ref a0), some (.ref d), some (.int (0 + (i : Int))), some v, some (.ref N), some (.ref B), some (.ref L), none, none, some (.int ((Pt.widest (Pt.plc p 0)).length : Nat)), c10, c11, c12, none, c14, c15, c16, none, none] ∧ Same H5 H', ?_, ?_⟩
    · walk_at "sx"
      refine lc_wide (s5 _ _ eB) (dB.same s5) hP eL hb hbl hbn fun D H' nD sm eD => ?_
      refine ⟨D, _, rfl, SqL.of eD, wide_some hs, fun m hm hx => ⟨?_, sm⟩⟩
      rw [wide_is hs hm hx]
    rintro σ H6 ⟨rfl, s6⟩
    walk_at "sx"
    -- the highest
    refine ⟨fun σ H' => ∃ c10 c12 : Option V, σ = [some (.ref a0), some (.ref d), some (.int (0 + (i : Int))), some v, some (.ref N), some (.ref B), some (.ref L), none, none, some (.int ((Pt.widest (Pt.plc p 0)).length : Nat)), c10, some (.int (Pt.time (fun _ => 1) p : Nat)), c12, none, c14, c15, c16, none, none] ∧ Same H6 H', ?_, ?_⟩
    · walk_at "sx"
      refine ⟨_, rfl, L, rfl, ⟨_, SqL.of (s6 _ _ eL)⟩, for_list (K := K) (a := L) (xs := bs.map fun b => .ref b.1) (fun j σ H' => ∃ (c10 c12 : Option V) (h : Nat), σ = [some (.ref a0), some (.ref d), some (.int (0 + (i : Int))), some v, some (.ref N), some (.ref B), some (.ref L), none, none, some (.int ((Pt.widest (Pt.plc p 0)).length : Nat)), c10, some (.int (h : Nat)), c12, none, c14, c15, c16, none, none] ∧ Same H6 H' ∧ Hi (Pt.told p 0) bs j h) ⟨_, _, 0, rfl, .refl _, fun b hb => (by cases hb), .inl rfl⟩ (fun j σ H' _ ⟨_, _, _, _, sm, _⟩ => SqL.of ((s6.trans sm) _ _ eL)) ?_ ?_⟩
      · rintro j x σ H7 hj ⟨c10, c12, h, rfl, s7, hh⟩
        obtain ⟨b, hbj, rfl⟩ := map_ref_at hj
        have hm := List.mem_of_getElem? hbj
        have hst := hh.step hbj
        have eb := (s6.trans s7) _ _ (hb b hm)
        walk_at "sx"
        refine lc_inside rfl rfl (by decide) (by simp) ((s5.trans (s6.trans s7)) _ _ eB) (dB.same (s5.trans (s6.trans s7))) hP (.inl (SqL.of eb)) fun D H8 ws nD s8 eD hw9 => ?_
        have eb8 := s8 _ _ eb
        have hbl9 := hbl b hm
        have hsm := s7.trans s8
        refine ⟨_, len_l eD rfl, .inl ⟨by decide, by decide⟩, b.2.length, len_l eb8 (by rw [List.length_map]), b.2.length, len_l eb8 (by rw [List.length_map]), .inl ⟨by omega, by omega⟩, ?_⟩
        rw [hw9, cond_is]
        refine ite2 (fun c1 => ⟨b.2.length, len_l eb8 (by rw [List.length_map]), ite2 (fun c2 => ⟨b.2.length, len_l eb8 (by rw [List.length_map]), _, b.2.length, rfl, rfl, hsm, ?_⟩) (fun c2 => ⟨_, h, rfl, rfl, hsm, ?_⟩)⟩) (fun c1 => ⟨_, h, rfl, rfl, hsm, ?_⟩)
        · rw [decide_eq_true_eq] at c1 c2
          rw [if_pos ⟨c1, by omega⟩] at hst
          exact hst
        · rw [decide_eq_true_eq] at c1 c2
          rw [if_neg (fun q => c2 (by omega))] at hst
          exact hst
        · rw [decide_eq_true_eq] at c1
          rw [if_neg (fun q => c1 q.1)] at hst
          exact hst
      · rintro σ H7 ⟨c10, c12, h, rfl, s7, hh⟩
        rw [List.length_map] at hh
        rw [← hh.is hs]
        exact ⟨c10, c12, rfl, s7⟩
    rintro σ H7 ⟨c10, c12, rfl, s7⟩
    -- as the program says
    refine ⟨fun σ H' => σ = [some (.ref a0), some (.ref d), some (.int (0 + (i : Int))), some v, some (.ref N), some (.ref B), some (.ref L), none, none, some (.int ((Pt.widest (Pt.plc p 0)).length : Nat)), c10, some (.int (Pt.time (fun _ => 1) p : Nat)), c12, none, c14, c15, c16, none, none] ∧ Same H7 H', ?_, ?_⟩
    · walk_at "sx"
      have hv7 := L2.Dp.same (s5.trans (s6.trans s7)) hv4
      refine tld0 hw (by omega) hv7 .non .non fun H8 s8 => tld1 hw (by omega) (L2.Dp.same s8 hv7) .non .non fun H9 s9 => ⟨by decide, fun p1 n1 => ⟨by decide, fun p2 n2 => ?_⟩⟩
      refine ⟨.list [.int ((Pt.widest (Pt.plc p 0)).length : Nat), .int (Pt.time (fun _ => 1) p : Nat)], .list [.int ((Pt.widest (Pt.plc p 0)).length : Nat), .int (Pt.time (fun _ => 1) p : Nat)], .lst (SqL.of ((same_upd n2) _ _ upd_same)) (.cons (.int _) (.cons (.int _) .nil)), .lst (SqL.of upd_same) (.cons (.int _) (.cons (.int _) .nil)), shaped_ints [_, _], shaped_ints [_, _], _, rfl, ?_⟩
      have ev : PyData.eqv (.list [.int ((Pt.widest (Pt.plc p 0)).length : Nat), .int (Pt.time (fun _ => 1) p : Nat)]) (.list [.int ((Pt.widest (Pt.plc p 0)).length : Nat), .int (Pt.time (fun _ => 1) p : Nat)]) = true := by
        have := eqv_ints [((Pt.widest (Pt.plc p 0)).length : Int), (Pt.time (fun _ => 1) p : Int)] [((Pt.widest (Pt.plc p 0)).length : Int), (Pt.time (fun _ => 1) p : Int)]
        rw [decide_eq_true rfl] at this
        exact this
      rw [ev]
      exact iteF (((s8.trans s9).trans (same_upd n1)).trans (same_upd n2))
    rintro σ H8 ⟨rfl, s8⟩
    walk_at "sx"
    have s38 : Same H3 H8 := s4.trans (s5.trans (s6.trans (s7.trans s8)))
    have hto : To (Pt.enc .str p) := Pt.enc_to (fun _ => .str _) p
    have hNd : N ≠ d := (D3.off nN).1
    refine ⟨by decide, fun KL nKL => ?_⟩
    have D9 := (D3.same s38).same (same_upd (o := .lst [V.int 0, .int 1]) nKL)
    have hKd : KL ≠ d := ((D3.same s38).off nKL).1
    have hv9 := L2.Dp.same (s38.trans (same_upd (o := .lst [V.int 0, .int 1]) nKL)) hv
    have eN9 := (s5.trans (s6.trans (s7.trans (s8.trans (same_upd (o := .lst [V.int 0, .int 1]) nKL))))) _ _ eN
    refine ⟨KL, rfl, ⟨_, SqL.of upd_same⟩, for_list (K := K) (a := KL) (xs := [V.int 0, .int 1]) (fun k σ H' => ∃ c14 c15 c16 : Option V, σ = [some (.ref a0), some (.ref d), some (.int (0 + (i : Int))), some v, some (.ref N), some (.ref B), some (.ref L), none, none, some (.int ((Pt.widest (Pt.plc p 0)).length : Nat)), c10, some (.int (Pt.time (fun _ => 1) p : Nat)), c12, none, c14, c15, c16, none, none] ∧ H' KL = some (.lst [V.int 0, .int 1]) ∧ Dp K H' v (Pt.enc .str p) ∧ H' N = some (.lst ((Pt.names p).map V.str)) ∧ DrawAt H' d c (i * 1000 + 22 + 200 * k)) ⟨_, _, _, rfl, upd_same, hv9, eN9, D9⟩ (fun k σ H' _ ⟨_, _, _, _, e, _⟩ => SqL.of e) ?_ ?_⟩
    · rintro k x σ H9 hk ⟨c14, c15, c16, rfl, eK, hv, eN, D⟩
      obtain ⟨kb, hk2, rfl⟩ : ∃ kb : Bool, k < 2 ∧ x = .int (if kb then 1 else 0) := by
        match k, hk with
        | 0, hk => exact ⟨false, by decide, (Option.some.inj hk).symm⟩
        | 1, hk => exact ⟨true, by decide, (Option.some.inj hk).symm⟩
      walk_at "sx"
      refine ⟨fun σ H' => ∃ (lots : List (List Nat)) (row : List Nat) (vt : V), σ = [some (.ref a0), some (.ref d), some (.int (0 + (i : Int))), some v, some (.ref N), some (.ref B), some (.ref L), none, none, some (.int ((Pt.widest (Pt.plc p 0)).length : Nat)), c10, some (.int (Pt.time (fun _ => 1) p : Nat)), c12, none, some (.int (if kb then 1 else 0)), some vt, c16, none, none] ∧ Same H9 H' ∧ Dp K H' vt (.tuple [.tuple (lots.map dN), dN row]) ∧ rightB kb (Pt.cnt p) (Pt.told p 0) (.tuple [.tuple (lots.map dN), dN row]) = true ∧ row.length = (if kb then Pt.time (fun _ => 1) p else (Pt.widest (Pt.plc p 0)).length),
        tld23 kb hw (by omega) hv .non .non fun v' H' lots row s dp r l => ⟨lots, row, v', rfl, s, dp, r, l⟩, ?_⟩
      rintro σ H10 ⟨lots, row, vt, rfl, s10, dp, hright, hlen⟩
      obtain ⟨hl1, hl2, hl3⟩ := right_len hright
      have tmt : Tm (.tuple [.tuple (lots.map dN), dN row]) := (told_bn (by omega) (fun l h => by have := hl2 l h; omega) (by omega)).tm.1
      refine ⟨fun σ H' => σ = [some (.ref a0), some (.ref d), some (.int (0 + (i : Int))), some v, some (.ref N), some (.ref B), some (.ref L), none, none, some (.int ((Pt.widest (Pt.plc p 0)).length : Nat)), c10, some (.int (Pt.time (fun _ => 1) p : Nat)), c12, none, some (.int (if kb then 1 else 0)), some vt, c16, none, none] ∧ Same H10 H', ?_, ?_⟩
      · walk_at "sx"
        refine ⟨v, vt, p, _, kb, rfl, L2.Dp.same s10 hv, ho, dp, tmt, fun H11 s11 => ⟨_, rfl, ?_⟩⟩
        rw [hright]
        refine iteF (ix_dp (k := 1) (L2.Dp.same s11 dp) (by simp) fun vr dr => ⟨_, len_dp dr, by decide, fun p5 n5 => ?_⟩)
        have hrl : ((row.map fun i : Nat => PyData.int (i : Nat)).length : Int) = ((if kb then Pt.time (fun _ => 1) p else (Pt.widest (Pt.plc p 0)).length : Nat) : Int) := by
          rw [List.length_map, hlen]
        have sm5 := s11.trans (same_upd (o := .lst [.int ((Pt.widest (Pt.plc p 0)).length : Nat), .int (Pt.time (fun _ => 1) p : Nat)]) n5)
        cases kb with
        | false =>
          refine ixl upd_same rfl ⟨rfl, ite2 (fun c => ?_) (fun _ => sm5)⟩
          rw [hrl] at c
          simp at c
        | true =>
          refine ixl upd_same rfl ⟨rfl, ite2 (fun c => ?_) (fun _ => sm5)⟩
          rw [hrl] at c
          simp at c
      rintro σ H11 ⟨rfl, s11⟩
      have hv11 := L2.Dp.same (s10.trans s11) hv
      have eN11 := (s10.trans s11) _ _ eN
      have eK11 := (s10.trans s11) _ _ eK
      have D11 := D.same (s10.trans s11)
      refine ⟨_, rfl, _, rfl, _, rfl, _, rfl, Pt.cnt p, len_l eN11 hnl.symm, d, c, _, vt, lots, row, Pt.cnt p, rfl, D11, by omega, L2.Dp.same s11 dp, by omega, fun l h => by have := hl2 l h; omega, by omega, by omega, fun TL ts H12 eT hts good D12 B12 hTd => ⟨TL, rfl, ⟨_, SqL.of eT⟩, ?_⟩⟩
      have hv12 := hto.mono (D11.tp B12) _ hv11
      refine for_list (K := K) (a := TL) (xs := ts) (fun j σ H' => ∃ c16 : Option V, σ = [some (.ref a0), some (.ref d), some (.int (0 + (i : Int))), some v, some (.ref N), some (.ref B), some (.ref L), none, none, some (.int ((Pt.widest (Pt.plc p 0)).length : Nat)), c10, some (.int (Pt.time (fun _ => 1) p : Nat)), c12, none, some (.int (if kb then 1 else 0)), some vt, c16, none, none] ∧ Same H12 H') ⟨_, rfl, .refl _⟩ (fun j σ H' _ ⟨_, _, s⟩ => SqL.of (s _ _ eT)) ?_ ?_
      · rintro j u σ H13 hj ⟨c16, rfl, s13⟩
        obtain ⟨e, tme, hu⟩ := good u (List.mem_of_getElem? hj)
        walk_at "sx"
        refine tld45 kb hw (by omega) (L2.Dp.same s13 hv12) (L2.Dp.same s13 hu) tme fun H14 s14 => ⟨v, u, p, e, kb, rfl, L2.Dp.same (s13.trans s14) hv12, ho, L2.Dp.same (s13.trans s14) hu, tme, fun H15 s15 => ⟨_, _, rfl, _, rfl, ?_⟩⟩
        rw [beq_self_eq_true]
        exact iteF (s13.trans (s14.trans s15))
      · rintro σ H13 ⟨c16, rfl, s13⟩
        exact ⟨_, _, _, rfl, s13 _ _ (B12 _ _ eK11 hKd), L2.Dp.same s13 hv12, s13 _ _ (B12 _ _ eN11 hNd), (D12.same s13).mono (by omega)⟩
    · rintro σ H9 ⟨c14, c15, c16, rfl, eK, hv, eN, D⟩
      exact ⟨_, _, _, _, _, _, _, _, _, _, _, _, rfl, D.mono (by simp only [List.length_cons, List.length_nil]; omega)⟩
  · rintro σ H2 ⟨c2, c3, c4, c5, c6, c9, c10, c11, c12, c14, c15, c16, rfl, D2⟩
    exact ⟨c2, c3, c4, c5, c6, c9, c10, c11, c12, c14, c15, c16, rfl, D2⟩
  · rintro σ H2 ⟨c2, c3, c4, c5, c6, c9, c10, c11, c12, c14, c15, c16, rfl, D2⟩
    walk_at "sx"
    refine ⟨d, c, 2000, rfl, D2, by decide, fun od vo H3 tmo hpo dpo D3 B3 => ?_⟩
    refine ⟨6, rfl, by decide, by decide, fun D nD => lc_range (lo := 0) (fun i H' => Same H3 H' ∧ H' D = some (.lst (List.replicate i (V.str "<malformed>")))) ⟨same_upd nD, upd_same⟩ ?_ ?_⟩
    · rintro i H' hi ⟨sm, eD⟩
      have hi6 : i < 6 := hi
      walk_at "sx"
      refine ⟨by decide, fun p np => ⟨i, vo, _, od, .tuple [], by rw [Int.zero_add], by omega, L2.Dp.same (sm.trans (same_upd np)) dpo, tmo, .tup (SqT.of upd_same) .nil, .tup _ (by simp) nofun, fun H4 _ s4 => ⟨_, s4 _ _ ((same_upd np) _ _ eD), ?_, same_D (sm.trans ((same_upd np).trans s4)) nD, ?_⟩, fun p' v' H4 h => ?_⟩⟩
      · rw [List.length_replicate]
        exact small1000 (by omega)
      · rw [← List.replicate_succ', List.replicate_succ]
      · rw [hpo] at h
        cases h
    · rintro H' ⟨sm, eD⟩
      walk_at "sx"
      have eD : H' D = some (.lst (List.replicate 6 (V.str "<malformed>"))) := eD
      refine ⟨by decide, fun p np => ⟨p, 6, _, rfl, rfl, upd_same, by decide, by decide, by decide, fun p2 n2 => ?_⟩⟩
      have f1 := same_upd (o := .lst [V.str "<malformed>"]) np
      have f2 := same_upd (o := .lst (List.replicate ((6 : Int).toNat) [V.str "<malformed>"]).flatten) n2
      have er : (List.replicate ((6 : Int).toNat) [V.str "<malformed>"]).flatten = List.replicate 6 (V.str "<malformed>") := by
        rw [List.flatten_replicate_singleton]
        rfl
      refine ⟨.list (List.replicate 6 (.str "<malformed>")), .list (List.replicate 6 (.str "<malformed>")), .lst (SqL.of (f2 _ _ (f1 _ _ eD))) (dps_rep 6 (.str _)), .lst (SqL.of (by rw [upd_same, er])) (dps_rep 6 (.str _)), by decide +kernel, by decide +kernel, ?_⟩
      have ev : PyData.eqv (.list (List.replicate 6 (.str "<malformed>"))) (.list (List.replicate 6 (.str "<malformed>"))) = true := by decide +kernel
      rw [ev]
      exact q _
end

end Z

set_option Elab.async false
set_option linter.all false
set_option maxRecDepth 100000
set_option maxHeartbeats 4000000

namespace Z
open PySem PySem.Spec PyProof.Rows L2 Z.R
local macro_rules | `(tactic| walk_at "sx") => `(tactic| try simp only [and_assoc, cxOf_K, cxOf_Kn, C8.tCut, rEq, rNe, sc_ii, sc_ss, sc_bb, sc_is, sc_si, sc_bs, sc_sb, tSeq, tAsg, tPar, tPar3, tC, gName, gNil, gCons, gTup, gSub, rSetL, L2.start, tVar, tOp, tUn, rI0, rI, rU, tTest, tChain, tOrV, tAndV, tNotV, tCB, tCons, tNil, tLst, tTup, tIfS, tNext, tRet, tRetN, tDrop, tAnd, tOr, tNot, tB, tIf, tSl, tFld, sFld, putF, tNoPart, tPart, rSlL, tBM, tBM0, rAppend, rPop, rExtend, tCall, tMeth, tLstRg, tRg1, tRg2, List.map_cons, List.map_nil, List.replicate, List.length_cons, List.length_nil, List.append, List.cons_append, List.nil_append, List.append_nil, List.getElem?_cons_zero, List.getElem?_cons_succ, List.set_cons_zero, List.set_cons_succ, Option.some.injEq, exists_eq_left', exists_eq_left, exists_eq, exists_and_left, exists_const, wipe, tYes, upd_same, ↓reduceIte, decide_false, decide_true, Bool.not_true, Bool.not_false, Bool.false_eq_true, V.int.injEq, HO.lst.injEq, HO.tup.injEq, V.ref.injEq, V.str.injEq, one_inj, le_a, le_z, le_0, le_9, mem_let, mem_dig, V.bl.injEq, List.cons.injEq, and_true, true_and, reduceCtorEq, false_and, exists_false, or_false, false_or])
theorem empty_mk {K : PySem.W.Frag} {H : Hp} {a : Addr} {od : Option Addr} {t : Tok} {n : Nat} {sl : Array (Option Value)} (l : K.lookup a = some ⟨.type "tuple", od, .seq #[.str "empty" t] n, sl⟩) : SqT K H a [V.str "empty"] :=
  .inr ⟨_, _, _, l, rfl, rfl, by show 1 ≤ sizeLine; decide, .cons ⟨_, rfl⟩ .nil⟩
theorem words_mk {K : PySem.W.Frag} {H : Hp} {a : Addr} {od : Option Addr} {t0 t1 t2 t3 t4 t5 t6 t7 t8 t9 t10 t11 t12 t13 t14 t15 t16 t17 t18 t19 t20 t21 t22 t23 t24 t25 t26 t27 t28 t29 t30 : Tok} {n : Nat} {sl : Array (Option Value)} (l : K.lookup a = some ⟨.type "tuple", od, .seq #[.str "empty" t0, .str "none" t1, .str "deed" t2, .str "deeds" t3, .str "then" t4, .str "beside" t5, .str "either" t6, .str "both" t7, .str "not" t8, .str "and" t9, .str "or" t10, .str "again" t11, .str "party" t12, .str "machine" t13, .str "table" t14, .str "order" t15, .str "row" t16, .str "value" t17, .str "start" t18, .str "ends" t19, .str "lines" t20, .str "hands" t21, .str "ask" t22, .str "log" t23, .str "alike" t24, .str "within" t25, .str "apart" t26, .str "reads" t27, .str "looser" t28, .str "same" t29, .str "all" t30] n, sl⟩) : SqT K H a (WORDSL.map V.str) :=
  .inr ⟨_, _, _, l, rfl, rfl, by show 31 ≤ sizeLine; decide, (.cons ⟨_, rfl⟩ (.cons ⟨_, rfl⟩ (.cons ⟨_, rfl⟩ (.cons ⟨_, rfl⟩ (.cons ⟨_, rfl⟩ (.cons ⟨_, rfl⟩ (.cons ⟨_, rfl⟩ (.cons ⟨_, rfl⟩ (.cons ⟨_, rfl⟩ (.cons ⟨_, rfl⟩ (.cons ⟨_, rfl⟩ (.cons ⟨_, rfl⟩ (.cons ⟨_, rfl⟩ (.cons ⟨_, rfl⟩ (.cons ⟨_, rfl⟩ (.cons ⟨_, rfl⟩ (.cons ⟨_, rfl⟩ (.cons ⟨_, rfl⟩ (.cons ⟨_, rfl⟩ (.cons ⟨_, rfl⟩ (.cons ⟨_, rfl⟩ (.cons ⟨_, rfl⟩ (.cons ⟨_, rfl⟩ (.cons ⟨_, rfl⟩ (.cons ⟨_, rfl⟩ (.cons ⟨_, rfl⟩ (.cons ⟨_, rfl⟩ (.cons ⟨_, rfl⟩ (.cons ⟨_, rfl⟩ (.cons ⟨_, rfl⟩ (.cons ⟨_, rfl⟩ .nil)))))))))))))))))))))))))))))))⟩
theorem ranks_mk {K : PySem.W.Frag} {w : World} {a : Addr} {n : Nat} {h1 h2 h3 : Int} {t1 t2 t3 u1 u2 u3 : Tok} (l : K.lookup a = some ⟨.type "dict", none, .dict #[⟨h1, .str "deed" t1, .int 0 u1⟩, ⟨h2, .str "row" t2, .int 1 u2⟩, ⟨h3, .str "beside" t3, .int 2 u3⟩] n, #[]⟩)
    (e1 : h1 = PyData.keyHash w.params "deed") (e2 : h2 = PyData.keyHash w.params "row") (e3 : h3 = PyData.keyHash w.params "beside") (r : Bool) : KDct K w a (if r then "row" else "beside") (.int (Pt.rank r)) := by
  have kl : PySem.W.KeysLit w.params #[(⟨h1, .str "deed" t1, .int 0 u1⟩ : DictEntry), ⟨h2, .str "row" t2, .int 1 u2⟩, ⟨h3, .str "beside" t3, .int 2 u3⟩].toList := ⟨⟨_, _, rfl, e1⟩, ⟨_, _, rfl, e2⟩, ⟨_, _, rfl, e3⟩, trivial⟩
  have b1 : ((Str.ofString "deed") == (Str.ofString "row")) = false := by decide +kernel
  have b2 : ((Str.ofString "deed") == (Str.ofString "beside")) = false := by decide +kernel
  have b3 : ((Str.ofString "row") == (Str.ofString "beside")) = false := by decide +kernel
  cases r with
  | true =>
    refine ⟨_, _, .int 1 u2, l, kl, ?_, ⟨_, rfl⟩⟩
    unfold PySem.W.nsIn
    rw [l]
    simp only [List.find?_cons, List.find?_nil, Value.isStr, if_true]
    first | rfl | decide +kernel | simp [b1]
  | false =>
    refine ⟨_, _, .int 2 u3, l, kl, ?_, ⟨_, rfl⟩⟩
    unfold PySem.W.nsIn
    rw [l]
    simp only [List.find?_cons, List.find?_nil, Value.isStr]
    first | rfl | decide +kernel | simp [b2, b3]

end Z

set_option Elab.async false
set_option linter.all false
set_option maxRecDepth 100000
set_option maxHeartbeats 4000000

namespace Z
open PySem PySem.Spec PyProof.Rows L2 Z.R
local macro_rules | `(tactic| walk_at "sx") => `(tactic| try simp only [and_assoc, cxOf_K, cxOf_Kn, C8.tCut, rEq, rNe, sc_ii, sc_ss, sc_bb, sc_is, sc_si, sc_bs, sc_sb, tSeq, tAsg, tPar, tPar3, tC, gName, gNil, gCons, gTup, gSub, rSetL, L2.start, tVar, tOp, tUn, rI0, rI, rU, tTest, tChain, tOrV, tAndV, tNotV, tCB, tCons, tNil, tLst, tTup, tIfS, tNext, tRet, tRetN, tDrop, tAnd, tOr, tNot, tB, tIf, tSl, tFld, sFld, putF, tNoPart, tPart, rSlL, tBM, tBM0, rAppend, rPop, rExtend, tCall, tMeth, tLstRg, tRg1, tRg2, List.map_cons, List.map_nil, List.replicate, List.length_cons, List.length_nil, List.append, List.cons_append, List.nil_append, List.append_nil, List.getElem?_cons_zero, List.getElem?_cons_succ, List.set_cons_zero, List.set_cons_succ, Option.some.injEq, exists_eq_left', exists_eq_left, exists_eq, exists_and_left, exists_const, wipe, tYes, upd_same, ↓reduceIte, decide_false, decide_true, Bool.not_true, Bool.not_false, Bool.false_eq_true, V.int.injEq, HO.lst.injEq, HO.tup.injEq, V.ref.injEq, V.str.injEq, one_inj, le_a, le_z, le_0, le_9, mem_let, mem_dig, V.bl.injEq, List.cons.injEq, and_true, true_and, reduceCtorEq, false_and, exists_false, or_false, false_or])
theorem exm_own {K : PySem.W.Frag} {S : Addr} (h1 : PySem.W.subIn K (.ref S) (.type "BaseException") = some true) (h2 : PySem.W.isClsIn K S = true) (h3 : PySem.W.typeIn K (.ref S) = some (.type "type")) (h4 : PySem.W.subIn K (.ref S) (.ref S) = some true) : PySem.W.exmOne K (.ref S) (.ref S) = some true := by
  have b1 : (PySem.W.subIn K (.ref S) (.type "BaseException") == some true) = true := by rw [h1]; rfl
  have b2 : ((PySem.W.clsIn K S).isSome && PySem.W.typeIn K (.ref S) == some (.type "type")) = true := by
    rw [show (PySem.W.clsIn K S).isSome = true from h2, h3]
    rfl
  have b3 : (if (PySem.W.subIn K (.ref S) (.type "BaseException") == some true) = true then (if ((PySem.W.clsIn K S).isSome && PySem.W.typeIn K (.ref S) == some (.type "type")) = true then PySem.W.subIn K (.ref S) (.ref S) else none) else none) = some true := by
    rw [if_pos b1, if_pos b2]
    exact h4
  exact b3
theorem all_mk {P : Program} {w : World} {K : PySem.W.Frag} {h : Heap} {mg : Str → Option Value} {fa : Addr} {CMalformed : Addr} {f__law_draw : Addr} {f__law_take : Addr} {f__law_key : Addr} {f__law_join : Addr} {f__law_grow : Addr} {f__law_party : Addr} {f__law_names : Addr} {f__law_crossed : Addr} {f__law_pairs : Addr} {f__law_loose : Addr} {f_has_shape : Addr} {f_is_name : Addr} {f_key_of : Addr} {f_fits_party : Addr} {f_count_of : Addr} {f_is_party : Addr} {f_check_party : Addr} {f_placed : Addr} {f_widest_of : Addr} {f_width : Addr} {f_names_in : Addr} {f_deeds_of : Addr} {f_time_in : Addr} {f_height : Addr} {f_chains_of : Addr} {f_cover : Addr} {f_bare : Addr} {f_starts_in : Addr} {f_longest_in : Addr} {f_levels : Addr} {f_is_whole : Addr} {f_are_places : Addr} {f_places_told : Addr} {f_ahead_of : Addr} {f_is_chain : Addr} {f_is_loose : Addr} {f_takes_cover : Addr} {f_takes_levels : Addr} {f__law_told : Addr} {f__law_whole : Addr} {f__law_are_places : Addr} {f__law_chain : Addr} {f__law_right : Addr} {f__law_bent : Addr} {f__law_tries : Addr} {f__law_says : Addr} {f__law_odd_party : Addr} {f_law : Addr} {v_MOST_DEEDS : Tok} {v_MOST_DEEP : Tok} {v_LETTERS : Tok} {v_SIGNS : Tok} {v_WORDS : Addr} {v_EMPTY : Addr} {v_RANKS : Addr} {E_od : Option Addr} {E_t : Tok} {E_n : Nat} {E_sl : Array (Option Value)} {W_od : Option Addr} {W_0 W_1 W_2 W_3 W_4 W_5 W_6 W_7 W_8 W_9 W_10 W_11 W_12 W_13 W_14 W_15 W_16 W_17 W_18 W_19 W_20 W_21 W_22 W_23 W_24 W_25 W_26 W_27 W_28 W_29 W_30 : Tok} {W_n : Nat} {W_sl : Array (Option Value)} {R_n : Nat} {R_h1 R_h2 R_h3 : Int} {R_t1 R_t2 R_t3 R_u1 R_u2 R_u3 : Tok}
    {od__law_draw an__law_draw : Option Addr} {sl__law_draw : Array (Option Value)} {oc__law_draw kV__law_draw dc__law_draw pm__law_draw cd__law_draw ct__law_draw : Value}
    {od__law_take an__law_take : Option Addr} {sl__law_take : Array (Option Value)} {oc__law_take kV__law_take dc__law_take pm__law_take cd__law_take ct__law_take : Value}
    {od__law_key an__law_key : Option Addr} {sl__law_key : Array (Option Value)} {oc__law_key kV__law_key dc__law_key pm__law_key cd__law_key ct__law_key : Value}
    {od__law_join an__law_join : Option Addr} {sl__law_join : Array (Option Value)} {oc__law_join kV__law_join dc__law_join pm__law_join cd__law_join ct__law_join : Value}
    {od__law_grow an__law_grow : Option Addr} {sl__law_grow : Array (Option Value)} {oc__law_grow kV__law_grow dc__law_grow pm__law_grow cd__law_grow ct__law_grow : Value}
    {od__law_party an__law_party : Option Addr} {sl__law_party : Array (Option Value)} {oc__law_party kV__law_party dc__law_party pm__law_party cd__law_party ct__law_party : Value}
    {od__law_names an__law_names : Option Addr} {sl__law_names : Array (Option Value)} {oc__law_names kV__law_names dc__law_names pm__law_names cd__law_names ct__law_names : Value}
    {od__law_crossed an__law_crossed : Option Addr} {sl__law_crossed : Array (Option Value)} {oc__law_crossed kV__law_crossed dc__law_crossed pm__law_crossed cd__law_crossed ct__law_crossed : Value}
    {od__law_pairs an__law_pairs : Option Addr} {sl__law_pairs : Array (Option Value)} {oc__law_pairs kV__law_pairs dc__law_pairs pm__law_pairs cd__law_pairs ct__law_pairs : Value}
    {od__law_loose an__law_loose : Option Addr} {sl__law_loose : Array (Option Value)} {oc__law_loose kV__law_loose dc__law_loose pm__law_loose cd__law_loose ct__law_loose : Value}
    {od_has_shape an_has_shape : Option Addr} {sl_has_shape : Array (Option Value)} {oc_has_shape kV_has_shape dc_has_shape pm_has_shape cd_has_shape ct_has_shape : Value}
    {od_is_name an_is_name : Option Addr} {sl_is_name : Array (Option Value)} {oc_is_name kV_is_name dc_is_name pm_is_name cd_is_name ct_is_name : Value}
    {od_key_of an_key_of : Option Addr} {sl_key_of : Array (Option Value)} {oc_key_of kV_key_of dc_key_of pm_key_of cd_key_of ct_key_of : Value}
    {od_fits_party an_fits_party : Option Addr} {sl_fits_party : Array (Option Value)} {oc_fits_party kV_fits_party dc_fits_party pm_fits_party cd_fits_party ct_fits_party : Value}
    {od_count_of an_count_of : Option Addr} {sl_count_of : Array (Option Value)} {oc_count_of kV_count_of dc_count_of pm_count_of cd_count_of ct_count_of : Value}
    {od_is_party an_is_party : Option Addr} {sl_is_party : Array (Option Value)} {oc_is_party kV_is_party dc_is_party pm_is_party cd_is_party ct_is_party : Value}
    {od_check_party an_check_party : Option Addr} {sl_check_party : Array (Option Value)} {oc_check_party kV_check_party dc_check_party pm_check_party cd_check_party ct_check_party : Value}
    {od_placed an_placed : Option Addr} {sl_placed : Array (Option Value)} {oc_placed kV_placed dc_placed pm_placed cd_placed ct_placed : Value}
    {od_widest_of an_widest_of : Option Addr} {sl_widest_of : Array (Option Value)} {oc_widest_of kV_widest_of dc_widest_of pm_widest_of cd_widest_of ct_widest_of : Value}
    {od_width an_width : Option Addr} {sl_width : Array (Option Value)} {oc_width kV_width dc_width pm_width cd_width ct_width : Value}
    {od_names_in an_names_in : Option Addr} {sl_names_in : Array (Option Value)} {oc_names_in kV_names_in dc_names_in pm_names_in cd_names_in ct_names_in : Value}
    {od_deeds_of an_deeds_of : Option Addr} {sl_deeds_of : Array (Option Value)} {oc_deeds_of kV_deeds_of dc_deeds_of pm_deeds_of cd_deeds_of ct_deeds_of : Value}
    {od_time_in an_time_in : Option Addr} {sl_time_in : Array (Option Value)} {oc_time_in kV_time_in dc_time_in pm_time_in cd_time_in ct_time_in : Value}
    {od_height an_height : Option Addr} {sl_height : Array (Option Value)} {oc_height kV_height dc_height pm_height cd_height ct_height : Value}
    {od_chains_of an_chains_of : Option Addr} {sl_chains_of : Array (Option Value)} {oc_chains_of kV_chains_of dc_chains_of pm_chains_of cd_chains_of ct_chains_of : Value}
    {od_cover an_cover : Option Addr} {sl_cover : Array (Option Value)} {oc_cover kV_cover dc_cover pm_cover cd_cover ct_cover : Value}
    {od_bare an_bare : Option Addr} {sl_bare : Array (Option Value)} {oc_bare kV_bare dc_bare pm_bare cd_bare ct_bare : Value}
    {od_starts_in an_starts_in : Option Addr} {sl_starts_in : Array (Option Value)} {oc_starts_in kV_starts_in dc_starts_in pm_starts_in cd_starts_in ct_starts_in : Value}
    {od_longest_in an_longest_in : Option Addr} {sl_longest_in : Array (Option Value)} {oc_longest_in kV_longest_in dc_longest_in pm_longest_in cd_longest_in ct_longest_in : Value}
    {od_levels an_levels : Option Addr} {sl_levels : Array (Option Value)} {oc_levels kV_levels dc_levels pm_levels cd_levels ct_levels : Value}
    {od_is_whole an_is_whole : Option Addr} {sl_is_whole : Array (Option Value)} {oc_is_whole kV_is_whole dc_is_whole pm_is_whole cd_is_whole ct_is_whole : Value}
    {od_are_places an_are_places : Option Addr} {sl_are_places : Array (Option Value)} {oc_are_places kV_are_places dc_are_places pm_are_places cd_are_places ct_are_places : Value}
    {od_places_told an_places_told : Option Addr} {sl_places_told : Array (Option Value)} {oc_places_told kV_places_told dc_places_told pm_places_told cd_places_told ct_places_told : Value}
    {od_ahead_of an_ahead_of : Option Addr} {sl_ahead_of : Array (Option Value)} {oc_ahead_of kV_ahead_of dc_ahead_of pm_ahead_of cd_ahead_of ct_ahead_of : Value}
    {od_is_chain an_is_chain : Option Addr} {sl_is_chain : Array (Option Value)} {oc_is_chain kV_is_chain dc_is_chain pm_is_chain cd_is_chain ct_is_chain : Value}
    {od_is_loose an_is_loose : Option Addr} {sl_is_loose : Array (Option Value)} {oc_is_loose kV_is_loose dc_is_loose pm_is_loose cd_is_loose ct_is_loose : Value}
    {od_takes_cover an_takes_cover : Option Addr} {sl_takes_cover : Array (Option Value)} {oc_takes_cover kV_takes_cover dc_takes_cover pm_takes_cover cd_takes_cover ct_takes_cover : Value}
    {od_takes_levels an_takes_levels : Option Addr} {sl_takes_levels : Array (Option Value)} {oc_takes_levels kV_takes_levels dc_takes_levels pm_takes_levels cd_takes_levels ct_takes_levels : Value}
    {od__law_told an__law_told : Option Addr} {sl__law_told : Array (Option Value)} {oc__law_told kV__law_told dc__law_told pm__law_told cd__law_told ct__law_told : Value}
    {od__law_whole an__law_whole : Option Addr} {sl__law_whole : Array (Option Value)} {oc__law_whole kV__law_whole dc__law_whole pm__law_whole cd__law_whole ct__law_whole : Value}
    {od__law_are_places an__law_are_places : Option Addr} {sl__law_are_places : Array (Option Value)} {oc__law_are_places kV__law_are_places dc__law_are_places pm__law_are_places cd__law_are_places ct__law_are_places : Value}
    {od__law_chain an__law_chain : Option Addr} {sl__law_chain : Array (Option Value)} {oc__law_chain kV__law_chain dc__law_chain pm__law_chain cd__law_chain ct__law_chain : Value}
    {od__law_right an__law_right : Option Addr} {sl__law_right : Array (Option Value)} {oc__law_right kV__law_right dc__law_right pm__law_right cd__law_right ct__law_right : Value}
    {od__law_bent an__law_bent : Option Addr} {sl__law_bent : Array (Option Value)} {oc__law_bent kV__law_bent dc__law_bent pm__law_bent cd__law_bent ct__law_bent : Value}
    {od__law_tries an__law_tries : Option Addr} {sl__law_tries : Array (Option Value)} {oc__law_tries kV__law_tries dc__law_tries pm__law_tries cd__law_tries ct__law_tries : Value}
    {od__law_says an__law_says : Option Addr} {sl__law_says : Array (Option Value)} {oc__law_says kV__law_says dc__law_says pm__law_says cd__law_says ct__law_says : Value}
    {od__law_odd_party an__law_odd_party : Option Addr} {sl__law_odd_party : Array (Option Value)} {oc__law_odd_party kV__law_odd_party dc__law_odd_party pm__law_odd_party cd__law_odd_party ct__law_odd_party : Value}
    {od_law an_law : Option Addr} {sl_law : Array (Option Value)} {oc_law kV_law dc_law pm_law cd_law ct_law : Value}
    (X : K.In h) (G : h.Ns mainGlobals mg) (hfa : mg "law" = some (.ref fa))
    (aXMalformed : PySem.W.nsIn K mainGlobals "Malformed" = some (some (.ref CMalformed)))
    (xXMalformed : PySem.W.excIn K CMalformed [.type "ValueError", .type "Exception", .type "BaseException", .type "object"] "ValueError.__new__" = true)
    (kXMalformed : PySem.W.keepIn K (.ref CMalformed) = true)
    (bXMalformed : PySem.W.subIn K (.ref CMalformed) (.type "BaseException") = some true)
    (tXMalformed : PySem.W.typeIn K (.ref CMalformed) = some (.type "type"))
    (iXMalformed : PySem.W.isClsIn K CMalformed = true)
    (sXMalformed : PySem.W.subIn K (.ref CMalformed) (.ref CMalformed) = some true)
    (a__law_draw : PySem.W.nsIn K mainGlobals "_law_draw" = some (some (.ref f__law_draw)))
    (l__law_draw : K.lookup f__law_draw = some ⟨oc__law_draw, od__law_draw, .func (PySem.W.fnOf "_law_draw" "_law_draw" (defArgs s__law_draw) (defBody s__law_draw) (defScope s__law_draw) .none kV__law_draw dc__law_draw pm__law_draw an__law_draw cd__law_draw ct__law_draw), sl__law_draw⟩)
    (c__law_draw : PySem.W.codeIn K cd__law_draw "_law_draw" = true)
    (k__law_draw : PySem.W.keepIn K (.ref f__law_draw) = true)
    (a__law_take : PySem.W.nsIn K mainGlobals "_law_take" = some (some (.ref f__law_take)))
    (l__law_take : K.lookup f__law_take = some ⟨oc__law_take, od__law_take, .func (PySem.W.fnOf "_law_take" "_law_take" (defArgs s__law_take) (defBody s__law_take) (defScope s__law_take) .none kV__law_take dc__law_take pm__law_take an__law_take cd__law_take ct__law_take), sl__law_take⟩)
    (c__law_take : PySem.W.codeIn K cd__law_take "_law_take" = true)
    (k__law_take : PySem.W.keepIn K (.ref f__law_take) = true)
    (a__law_key : PySem.W.nsIn K mainGlobals "_law_key" = some (some (.ref f__law_key)))
    (l__law_key : K.lookup f__law_key = some ⟨oc__law_key, od__law_key, .func (PySem.W.fnOf "_law_key" "_law_key" (defArgs s__law_key) (defBody s__law_key) (defScope s__law_key) .none kV__law_key dc__law_key pm__law_key an__law_key cd__law_key ct__law_key), sl__law_key⟩)
    (c__law_key : PySem.W.codeIn K cd__law_key "_law_key" = true)
    (k__law_key : PySem.W.keepIn K (.ref f__law_key) = true)
    (a__law_join : PySem.W.nsIn K mainGlobals "_law_join" = some (some (.ref f__law_join)))
    (l__law_join : K.lookup f__law_join = some ⟨oc__law_join, od__law_join, .func (PySem.W.fnOf "_law_join" "_law_join" (defArgs s__law_join) (defBody s__law_join) (defScope s__law_join) .none kV__law_join dc__law_join pm__law_join an__law_join cd__law_join ct__law_join), sl__law_join⟩)
    (c__law_join : PySem.W.codeIn K cd__law_join "_law_join" = true)
    (k__law_join : PySem.W.keepIn K (.ref f__law_join) = true)
    (a__law_grow : PySem.W.nsIn K mainGlobals "_law_grow" = some (some (.ref f__law_grow)))
    (l__law_grow : K.lookup f__law_grow = some ⟨oc__law_grow, od__law_grow, .func (PySem.W.fnOf "_law_grow" "_law_grow" (defArgs s__law_grow) (defBody s__law_grow) (defScope s__law_grow) .none kV__law_grow dc__law_grow pm__law_grow an__law_grow cd__law_grow ct__law_grow), sl__law_grow⟩)
    (c__law_grow : PySem.W.codeIn K cd__law_grow "_law_grow" = true)
    (k__law_grow : PySem.W.keepIn K (.ref f__law_grow) = true)
    (a__law_party : PySem.W.nsIn K mainGlobals "_law_party" = some (some (.ref f__law_party)))
    (l__law_party : K.lookup f__law_party = some ⟨oc__law_party, od__law_party, .func (PySem.W.fnOf "_law_party" "_law_party" (defArgs s__law_party) (defBody s__law_party) (defScope s__law_party) .none kV__law_party dc__law_party pm__law_party an__law_party cd__law_party ct__law_party), sl__law_party⟩)
    (c__law_party : PySem.W.codeIn K cd__law_party "_law_party" = true)
    (k__law_party : PySem.W.keepIn K (.ref f__law_party) = true)
    (a__law_names : PySem.W.nsIn K mainGlobals "_law_names" = some (some (.ref f__law_names)))
    (l__law_names : K.lookup f__law_names = some ⟨oc__law_names, od__law_names, .func (PySem.W.fnOf "_law_names" "_law_names" (defArgs s__law_names) (defBody s__law_names) (defScope s__law_names) .none kV__law_names dc__law_names pm__law_names an__law_names cd__law_names ct__law_names), sl__law_names⟩)
    (c__law_names : PySem.W.codeIn K cd__law_names "_law_names" = true)
    (k__law_names : PySem.W.keepIn K (.ref f__law_names) = true)
    (a__law_crossed : PySem.W.nsIn K mainGlobals "_law_crossed" = some (some (.ref f__law_crossed)))
    (l__law_crossed : K.lookup f__law_crossed = some ⟨oc__law_crossed, od__law_crossed, .func (PySem.W.fnOf "_law_crossed" "_law_crossed" (defArgs s__law_crossed) (defBody s__law_crossed) (defScope s__law_crossed) .none kV__law_crossed dc__law_crossed pm__law_crossed an__law_crossed cd__law_crossed ct__law_crossed), sl__law_crossed⟩)
    (c__law_crossed : PySem.W.codeIn K cd__law_crossed "_law_crossed" = true)
    (k__law_crossed : PySem.W.keepIn K (.ref f__law_crossed) = true)
    (a__law_pairs : PySem.W.nsIn K mainGlobals "_law_pairs" = some (some (.ref f__law_pairs)))
    (l__law_pairs : K.lookup f__law_pairs = some ⟨oc__law_pairs, od__law_pairs, .func (PySem.W.fnOf "_law_pairs" "_law_pairs" (defArgs s__law_pairs) (defBody s__law_pairs) (defScope s__law_pairs) .none kV__law_pairs dc__law_pairs pm__law_pairs an__law_pairs cd__law_pairs ct__law_pairs), sl__law_pairs⟩)
    (c__law_pairs : PySem.W.codeIn K cd__law_pairs "_law_pairs" = true)
    (k__law_pairs : PySem.W.keepIn K (.ref f__law_pairs) = true)
    (a__law_loose : PySem.W.nsIn K mainGlobals "_law_loose" = some (some (.ref f__law_loose)))
    (l__law_loose : K.lookup f__law_loose = some ⟨oc__law_loose, od__law_loose, .func (PySem.W.fnOf "_law_loose" "_law_loose" (defArgs s__law_loose) (defBody s__law_loose) (defScope s__law_loose) .none kV__law_loose dc__law_loose pm__law_loose an__law_loose cd__law_loose ct__law_loose), sl__law_loose⟩)
    (c__law_loose : PySem.W.codeIn K cd__law_loose "_law_loose" = true)
    (k__law_loose : PySem.W.keepIn K (.ref f__law_loose) = true)
    (a_has_shape : PySem.W.nsIn K mainGlobals "has_shape" = some (some (.ref f_has_shape)))
    (l_has_shape : K.lookup f_has_shape = some ⟨oc_has_shape, od_has_shape, .func (PySem.W.fnOf "has_shape" "has_shape" (defArgs s_has_shape) (defBody s_has_shape) (defScope s_has_shape) .none kV_has_shape dc_has_shape pm_has_shape an_has_shape cd_has_shape ct_has_shape), sl_has_shape⟩)
    (c_has_shape : PySem.W.codeIn K cd_has_shape "has_shape" = true)
    (k_has_shape : PySem.W.keepIn K (.ref f_has_shape) = true)
    (a_is_name : PySem.W.nsIn K mainGlobals "is_name" = some (some (.ref f_is_name)))
    (l_is_name : K.lookup f_is_name = some ⟨oc_is_name, od_is_name, .func (PySem.W.fnOf "is_name" "is_name" (defArgs s_is_name) (defBody s_is_name) (defScope s_is_name) .none kV_is_name dc_is_name pm_is_name an_is_name cd_is_name ct_is_name), sl_is_name⟩)
    (c_is_name : PySem.W.codeIn K cd_is_name "is_name" = true)
    (k_is_name : PySem.W.keepIn K (.ref f_is_name) = true)
    (a_key_of : PySem.W.nsIn K mainGlobals "key_of" = some (some (.ref f_key_of)))
    (l_key_of : K.lookup f_key_of = some ⟨oc_key_of, od_key_of, .func (PySem.W.fnOf "key_of" "key_of" (defArgs s_key_of) (defBody s_key_of) (defScope s_key_of) .none kV_key_of dc_key_of pm_key_of an_key_of cd_key_of ct_key_of), sl_key_of⟩)
    (c_key_of : PySem.W.codeIn K cd_key_of "key_of" = true)
    (k_key_of : PySem.W.keepIn K (.ref f_key_of) = true)
    (a_fits_party : PySem.W.nsIn K mainGlobals "fits_party" = some (some (.ref f_fits_party)))
    (l_fits_party : K.lookup f_fits_party = some ⟨oc_fits_party, od_fits_party, .func (PySem.W.fnOf "fits_party" "fits_party" (defArgs s_fits_party) (defBody s_fits_party) (defScope s_fits_party) .none kV_fits_party dc_fits_party pm_fits_party an_fits_party cd_fits_party ct_fits_party), sl_fits_party⟩)
    (c_fits_party : PySem.W.codeIn K cd_fits_party "fits_party" = true)
    (k_fits_party : PySem.W.keepIn K (.ref f_fits_party) = true)
    (a_count_of : PySem.W.nsIn K mainGlobals "count_of" = some (some (.ref f_count_of)))
    (l_count_of : K.lookup f_count_of = some ⟨oc_count_of, od_count_of, .func (PySem.W.fnOf "count_of" "count_of" (defArgs s_count_of) (defBody s_count_of) (defScope s_count_of) .none kV_count_of dc_count_of pm_count_of an_count_of cd_count_of ct_count_of), sl_count_of⟩)
    (c_count_of : PySem.W.codeIn K cd_count_of "count_of" = true)
    (k_count_of : PySem.W.keepIn K (.ref f_count_of) = true)
    (a_is_party : PySem.W.nsIn K mainGlobals "is_party" = some (some (.ref f_is_party)))
    (l_is_party : K.lookup f_is_party = some ⟨oc_is_party, od_is_party, .func (PySem.W.fnOf "is_party" "is_party" (defArgs s_is_party) (defBody s_is_party) (defScope s_is_party) .none kV_is_party dc_is_party pm_is_party an_is_party cd_is_party ct_is_party), sl_is_party⟩)
    (c_is_party : PySem.W.codeIn K cd_is_party "is_party" = true)
    (k_is_party : PySem.W.keepIn K (.ref f_is_party) = true)
    (a_check_party : PySem.W.nsIn K mainGlobals "check_party" = some (some (.ref f_check_party)))
    (l_check_party : K.lookup f_check_party = some ⟨oc_check_party, od_check_party, .func (PySem.W.fnOf "check_party" "check_party" (defArgs s_check_party) (defBody s_check_party) (defScope s_check_party) .none kV_check_party dc_check_party pm_check_party an_check_party cd_check_party ct_check_party), sl_check_party⟩)
    (c_check_party : PySem.W.codeIn K cd_check_party "check_party" = true)
    (k_check_party : PySem.W.keepIn K (.ref f_check_party) = true)
    (a_placed : PySem.W.nsIn K mainGlobals "placed" = some (some (.ref f_placed)))
    (l_placed : K.lookup f_placed = some ⟨oc_placed, od_placed, .func (PySem.W.fnOf "placed" "placed" (defArgs s_placed) (defBody s_placed) (defScope s_placed) .none kV_placed dc_placed pm_placed an_placed cd_placed ct_placed), sl_placed⟩)
    (c_placed : PySem.W.codeIn K cd_placed "placed" = true)
    (k_placed : PySem.W.keepIn K (.ref f_placed) = true)
    (a_widest_of : PySem.W.nsIn K mainGlobals "widest_of" = some (some (.ref f_widest_of)))
    (l_widest_of : K.lookup f_widest_of = some ⟨oc_widest_of, od_widest_of, .func (PySem.W.fnOf "widest_of" "widest_of" (defArgs s_widest_of) (defBody s_widest_of) (defScope s_widest_of) .none kV_widest_of dc_widest_of pm_widest_of an_widest_of cd_widest_of ct_widest_of), sl_widest_of⟩)
    (c_widest_of : PySem.W.codeIn K cd_widest_of "widest_of" = true)
    (k_widest_of : PySem.W.keepIn K (.ref f_widest_of) = true)
    (a_width : PySem.W.nsIn K mainGlobals "width" = some (some (.ref f_width)))
    (l_width : K.lookup f_width = some ⟨oc_width, od_width, .func (PySem.W.fnOf "width" "width" (defArgs s_width) (defBody s_width) (defScope s_width) .none kV_width dc_width pm_width an_width cd_width ct_width), sl_width⟩)
    (c_width : PySem.W.codeIn K cd_width "width" = true)
    (k_width : PySem.W.keepIn K (.ref f_width) = true)
    (a_names_in : PySem.W.nsIn K mainGlobals "names_in" = some (some (.ref f_names_in)))
    (l_names_in : K.lookup f_names_in = some ⟨oc_names_in, od_names_in, .func (PySem.W.fnOf "names_in" "names_in" (defArgs s_names_in) (defBody s_names_in) (defScope s_names_in) .none kV_names_in dc_names_in pm_names_in an_names_in cd_names_in ct_names_in), sl_names_in⟩)
    (c_names_in : PySem.W.codeIn K cd_names_in "names_in" = true)
    (k_names_in : PySem.W.keepIn K (.ref f_names_in) = true)
    (a_deeds_of : PySem.W.nsIn K mainGlobals "deeds_of" = some (some (.ref f_deeds_of)))
    (l_deeds_of : K.lookup f_deeds_of = some ⟨oc_deeds_of, od_deeds_of, .func (PySem.W.fnOf "deeds_of" "deeds_of" (defArgs s_deeds_of) (defBody s_deeds_of) (defScope s_deeds_of) .none kV_deeds_of dc_deeds_of pm_deeds_of an_deeds_of cd_deeds_of ct_deeds_of), sl_deeds_of⟩)
    (c_deeds_of : PySem.W.codeIn K cd_deeds_of "deeds_of" = true)
    (k_deeds_of : PySem.W.keepIn K (.ref f_deeds_of) = true)
    (a_time_in : PySem.W.nsIn K mainGlobals "time_in" = some (some (.ref f_time_in)))
    (l_time_in : K.lookup f_time_in = some ⟨oc_time_in, od_time_in, .func (PySem.W.fnOf "time_in" "time_in" (defArgs s_time_in) (defBody s_time_in) (defScope s_time_in) .none kV_time_in dc_time_in pm_time_in an_time_in cd_time_in ct_time_in), sl_time_in⟩)
    (c_time_in : PySem.W.codeIn K cd_time_in "time_in" = true)
    (k_time_in : PySem.W.keepIn K (.ref f_time_in) = true)
    (a_height : PySem.W.nsIn K mainGlobals "height" = some (some (.ref f_height)))
    (l_height : K.lookup f_height = some ⟨oc_height, od_height, .func (PySem.W.fnOf "height" "height" (defArgs s_height) (defBody s_height) (defScope s_height) .none kV_height dc_height pm_height an_height cd_height ct_height), sl_height⟩)
    (c_height : PySem.W.codeIn K cd_height "height" = true)
    (k_height : PySem.W.keepIn K (.ref f_height) = true)
    (a_chains_of : PySem.W.nsIn K mainGlobals "chains_of" = some (some (.ref f_chains_of)))
    (l_chains_of : K.lookup f_chains_of = some ⟨oc_chains_of, od_chains_of, .func (PySem.W.fnOf "chains_of" "chains_of" (defArgs s_chains_of) (defBody s_chains_of) (defScope s_chains_of) .none kV_chains_of dc_chains_of pm_chains_of an_chains_of cd_chains_of ct_chains_of), sl_chains_of⟩)
    (c_chains_of : PySem.W.codeIn K cd_chains_of "chains_of" = true)
    (k_chains_of : PySem.W.keepIn K (.ref f_chains_of) = true)
    (a_cover : PySem.W.nsIn K mainGlobals "cover" = some (some (.ref f_cover)))
    (l_cover : K.lookup f_cover = some ⟨oc_cover, od_cover, .func (PySem.W.fnOf "cover" "cover" (defArgs s_cover) (defBody s_cover) (defScope s_cover) .none kV_cover dc_cover pm_cover an_cover cd_cover ct_cover), sl_cover⟩)
    (c_cover : PySem.W.codeIn K cd_cover "cover" = true)
    (k_cover : PySem.W.keepIn K (.ref f_cover) = true)
    (a_bare : PySem.W.nsIn K mainGlobals "bare" = some (some (.ref f_bare)))
    (l_bare : K.lookup f_bare = some ⟨oc_bare, od_bare, .func (PySem.W.fnOf "bare" "bare" (defArgs s_bare) (defBody s_bare) (defScope s_bare) .none kV_bare dc_bare pm_bare an_bare cd_bare ct_bare), sl_bare⟩)
    (c_bare : PySem.W.codeIn K cd_bare "bare" = true)
    (k_bare : PySem.W.keepIn K (.ref f_bare) = true)
    (a_starts_in : PySem.W.nsIn K mainGlobals "starts_in" = some (some (.ref f_starts_in)))
    (l_starts_in : K.lookup f_starts_in = some ⟨oc_starts_in, od_starts_in, .func (PySem.W.fnOf "starts_in" "starts_in" (defArgs s_starts_in) (defBody s_starts_in) (defScope s_starts_in) .none kV_starts_in dc_starts_in pm_starts_in an_starts_in cd_starts_in ct_starts_in), sl_starts_in⟩)
    (c_starts_in : PySem.W.codeIn K cd_starts_in "starts_in" = true)
    (k_starts_in : PySem.W.keepIn K (.ref f_starts_in) = true)
    (a_longest_in : PySem.W.nsIn K mainGlobals "longest_in" = some (some (.ref f_longest_in)))
    (l_longest_in : K.lookup f_longest_in = some ⟨oc_longest_in, od_longest_in, .func (PySem.W.fnOf "longest_in" "longest_in" (defArgs s_longest_in) (defBody s_longest_in) (defScope s_longest_in) .none kV_longest_in dc_longest_in pm_longest_in an_longest_in cd_longest_in ct_longest_in), sl_longest_in⟩)
    (c_longest_in : PySem.W.codeIn K cd_longest_in "longest_in" = true)
    (k_longest_in : PySem.W.keepIn K (.ref f_longest_in) = true)
    (a_levels : PySem.W.nsIn K mainGlobals "levels" = some (some (.ref f_levels)))
    (l_levels : K.lookup f_levels = some ⟨oc_levels, od_levels, .func (PySem.W.fnOf "levels" "levels" (defArgs s_levels) (defBody s_levels) (defScope s_levels) .none kV_levels dc_levels pm_levels an_levels cd_levels ct_levels), sl_levels⟩)
    (c_levels : PySem.W.codeIn K cd_levels "levels" = true)
    (k_levels : PySem.W.keepIn K (.ref f_levels) = true)
    (a_is_whole : PySem.W.nsIn K mainGlobals "is_whole" = some (some (.ref f_is_whole)))
    (l_is_whole : K.lookup f_is_whole = some ⟨oc_is_whole, od_is_whole, .func (PySem.W.fnOf "is_whole" "is_whole" (defArgs s_is_whole) (defBody s_is_whole) (defScope s_is_whole) .none kV_is_whole dc_is_whole pm_is_whole an_is_whole cd_is_whole ct_is_whole), sl_is_whole⟩)
    (c_is_whole : PySem.W.codeIn K cd_is_whole "is_whole" = true)
    (k_is_whole : PySem.W.keepIn K (.ref f_is_whole) = true)
    (a_are_places : PySem.W.nsIn K mainGlobals "are_places" = some (some (.ref f_are_places)))
    (l_are_places : K.lookup f_are_places = some ⟨oc_are_places, od_are_places, .func (PySem.W.fnOf "are_places" "are_places" (defArgs s_are_places) (defBody s_are_places) (defScope s_are_places) .none kV_are_places dc_are_places pm_are_places an_are_places cd_are_places ct_are_places), sl_are_places⟩)
    (c_are_places : PySem.W.codeIn K cd_are_places "are_places" = true)
    (k_are_places : PySem.W.keepIn K (.ref f_are_places) = true)
    (a_places_told : PySem.W.nsIn K mainGlobals "places_told" = some (some (.ref f_places_told)))
    (l_places_told : K.lookup f_places_told = some ⟨oc_places_told, od_places_told, .func (PySem.W.fnOf "places_told" "places_told" (defArgs s_places_told) (defBody s_places_told) (defScope s_places_told) .none kV_places_told dc_places_told pm_places_told an_places_told cd_places_told ct_places_told), sl_places_told⟩)
    (c_places_told : PySem.W.codeIn K cd_places_told "places_told" = true)
    (k_places_told : PySem.W.keepIn K (.ref f_places_told) = true)
    (a_ahead_of : PySem.W.nsIn K mainGlobals "ahead_of" = some (some (.ref f_ahead_of)))
    (l_ahead_of : K.lookup f_ahead_of = some ⟨oc_ahead_of, od_ahead_of, .func (PySem.W.fnOf "ahead_of" "ahead_of" (defArgs s_ahead_of) (defBody s_ahead_of) (defScope s_ahead_of) .none kV_ahead_of dc_ahead_of pm_ahead_of an_ahead_of cd_ahead_of ct_ahead_of), sl_ahead_of⟩)
    (c_ahead_of : PySem.W.codeIn K cd_ahead_of "ahead_of" = true)
    (k_ahead_of : PySem.W.keepIn K (.ref f_ahead_of) = true)
    (a_is_chain : PySem.W.nsIn K mainGlobals "is_chain" = some (some (.ref f_is_chain)))
    (l_is_chain : K.lookup f_is_chain = some ⟨oc_is_chain, od_is_chain, .func (PySem.W.fnOf "is_chain" "is_chain" (defArgs s_is_chain) (defBody s_is_chain) (defScope s_is_chain) .none kV_is_chain dc_is_chain pm_is_chain an_is_chain cd_is_chain ct_is_chain), sl_is_chain⟩)
    (c_is_chain : PySem.W.codeIn K cd_is_chain "is_chain" = true)
    (k_is_chain : PySem.W.keepIn K (.ref f_is_chain) = true)
    (a_is_loose : PySem.W.nsIn K mainGlobals "is_loose" = some (some (.ref f_is_loose)))
    (l_is_loose : K.lookup f_is_loose = some ⟨oc_is_loose, od_is_loose, .func (PySem.W.fnOf "is_loose" "is_loose" (defArgs s_is_loose) (defBody s_is_loose) (defScope s_is_loose) .none kV_is_loose dc_is_loose pm_is_loose an_is_loose cd_is_loose ct_is_loose), sl_is_loose⟩)
    (c_is_loose : PySem.W.codeIn K cd_is_loose "is_loose" = true)
    (k_is_loose : PySem.W.keepIn K (.ref f_is_loose) = true)
    (a_takes_cover : PySem.W.nsIn K mainGlobals "takes_cover" = some (some (.ref f_takes_cover)))
    (l_takes_cover : K.lookup f_takes_cover = some ⟨oc_takes_cover, od_takes_cover, .func (PySem.W.fnOf "takes_cover" "takes_cover" (defArgs s_takes_cover) (defBody s_takes_cover) (defScope s_takes_cover) .none kV_takes_cover dc_takes_cover pm_takes_cover an_takes_cover cd_takes_cover ct_takes_cover), sl_takes_cover⟩)
    (c_takes_cover : PySem.W.codeIn K cd_takes_cover "takes_cover" = true)
    (k_takes_cover : PySem.W.keepIn K (.ref f_takes_cover) = true)
    (a_takes_levels : PySem.W.nsIn K mainGlobals "takes_levels" = some (some (.ref f_takes_levels)))
    (l_takes_levels : K.lookup f_takes_levels = some ⟨oc_takes_levels, od_takes_levels, .func (PySem.W.fnOf "takes_levels" "takes_levels" (defArgs s_takes_levels) (defBody s_takes_levels) (defScope s_takes_levels) .none kV_takes_levels dc_takes_levels pm_takes_levels an_takes_levels cd_takes_levels ct_takes_levels), sl_takes_levels⟩)
    (c_takes_levels : PySem.W.codeIn K cd_takes_levels "takes_levels" = true)
    (k_takes_levels : PySem.W.keepIn K (.ref f_takes_levels) = true)
    (a__law_told : PySem.W.nsIn K mainGlobals "_law_told" = some (some (.ref f__law_told)))
    (l__law_told : K.lookup f__law_told = some ⟨oc__law_told, od__law_told, .func (PySem.W.fnOf "_law_told" "_law_told" (defArgs s__law_told) (defBody s__law_told) (defScope s__law_told) .none kV__law_told dc__law_told pm__law_told an__law_told cd__law_told ct__law_told), sl__law_told⟩)
    (c__law_told : PySem.W.codeIn K cd__law_told "_law_told" = true)
    (k__law_told : PySem.W.keepIn K (.ref f__law_told) = true)
    (a__law_whole : PySem.W.nsIn K mainGlobals "_law_whole" = some (some (.ref f__law_whole)))
    (l__law_whole : K.lookup f__law_whole = some ⟨oc__law_whole, od__law_whole, .func (PySem.W.fnOf "_law_whole" "_law_whole" (defArgs s__law_whole) (defBody s__law_whole) (defScope s__law_whole) .none kV__law_whole dc__law_whole pm__law_whole an__law_whole cd__law_whole ct__law_whole), sl__law_whole⟩)
    (c__law_whole : PySem.W.codeIn K cd__law_whole "_law_whole" = true)
    (k__law_whole : PySem.W.keepIn K (.ref f__law_whole) = true)
    (a__law_are_places : PySem.W.nsIn K mainGlobals "_law_are_places" = some (some (.ref f__law_are_places)))
    (l__law_are_places : K.lookup f__law_are_places = some ⟨oc__law_are_places, od__law_are_places, .func (PySem.W.fnOf "_law_are_places" "_law_are_places" (defArgs s__law_are_places) (defBody s__law_are_places) (defScope s__law_are_places) .none kV__law_are_places dc__law_are_places pm__law_are_places an__law_are_places cd__law_are_places ct__law_are_places), sl__law_are_places⟩)
    (c__law_are_places : PySem.W.codeIn K cd__law_are_places "_law_are_places" = true)
    (k__law_are_places : PySem.W.keepIn K (.ref f__law_are_places) = true)
    (a__law_chain : PySem.W.nsIn K mainGlobals "_law_chain" = some (some (.ref f__law_chain)))
    (l__law_chain : K.lookup f__law_chain = some ⟨oc__law_chain, od__law_chain, .func (PySem.W.fnOf "_law_chain" "_law_chain" (defArgs s__law_chain) (defBody s__law_chain) (defScope s__law_chain) .none kV__law_chain dc__law_chain pm__law_chain an__law_chain cd__law_chain ct__law_chain), sl__law_chain⟩)
    (c__law_chain : PySem.W.codeIn K cd__law_chain "_law_chain" = true)
    (k__law_chain : PySem.W.keepIn K (.ref f__law_chain) = true)
    (a__law_right : PySem.W.nsIn K mainGlobals "_law_right" = some (some (.ref f__law_right)))
    (l__law_right : K.lookup f__law_right = some ⟨oc__law_right, od__law_right, .func (PySem.W.fnOf "_law_right" "_law_right" (defArgs s__law_right) (defBody s__law_right) (defScope s__law_right) .none kV__law_right dc__law_right pm__law_right an__law_right cd__law_right ct__law_right), sl__law_right⟩)
    (c__law_right : PySem.W.codeIn K cd__law_right "_law_right" = true)
    (k__law_right : PySem.W.keepIn K (.ref f__law_right) = true)
    (a__law_bent : PySem.W.nsIn K mainGlobals "_law_bent" = some (some (.ref f__law_bent)))
    (l__law_bent : K.lookup f__law_bent = some ⟨oc__law_bent, od__law_bent, .func (PySem.W.fnOf "_law_bent" "_law_bent" (defArgs s__law_bent) (defBody s__law_bent) (defScope s__law_bent) .none kV__law_bent dc__law_bent pm__law_bent an__law_bent cd__law_bent ct__law_bent), sl__law_bent⟩)
    (c__law_bent : PySem.W.codeIn K cd__law_bent "_law_bent" = true)
    (k__law_bent : PySem.W.keepIn K (.ref f__law_bent) = true)
    (a__law_tries : PySem.W.nsIn K mainGlobals "_law_tries" = some (some (.ref f__law_tries)))
    (l__law_tries : K.lookup f__law_tries = some ⟨oc__law_tries, od__law_tries, .func (PySem.W.fnOf "_law_tries" "_law_tries" (defArgs s__law_tries) (defBody s__law_tries) (defScope s__law_tries) .none kV__law_tries dc__law_tries pm__law_tries an__law_tries cd__law_tries ct__law_tries), sl__law_tries⟩)
    (c__law_tries : PySem.W.codeIn K cd__law_tries "_law_tries" = true)
    (k__law_tries : PySem.W.keepIn K (.ref f__law_tries) = true)
    (a__law_says : PySem.W.nsIn K mainGlobals "_law_says" = some (some (.ref f__law_says)))
    (l__law_says : K.lookup f__law_says = some ⟨oc__law_says, od__law_says, .func (PySem.W.fnOf "_law_says" "_law_says" (defArgs s__law_says) (defBody s__law_says) (defScope s__law_says) .none kV__law_says dc__law_says pm__law_says an__law_says cd__law_says ct__law_says), sl__law_says⟩)
    (c__law_says : PySem.W.codeIn K cd__law_says "_law_says" = true)
    (k__law_says : PySem.W.keepIn K (.ref f__law_says) = true)
    (a__law_odd_party : PySem.W.nsIn K mainGlobals "_law_odd_party" = some (some (.ref f__law_odd_party)))
    (l__law_odd_party : K.lookup f__law_odd_party = some ⟨oc__law_odd_party, od__law_odd_party, .func (PySem.W.fnOf "_law_odd_party" "_law_odd_party" (defArgs s__law_odd_party) (defBody s__law_odd_party) (defScope s__law_odd_party) .none kV__law_odd_party dc__law_odd_party pm__law_odd_party an__law_odd_party cd__law_odd_party ct__law_odd_party), sl__law_odd_party⟩)
    (c__law_odd_party : PySem.W.codeIn K cd__law_odd_party "_law_odd_party" = true)
    (k__law_odd_party : PySem.W.keepIn K (.ref f__law_odd_party) = true)
    (a_law : PySem.W.nsIn K mainGlobals "law" = some (some (.ref f_law)))
    (l_law : K.lookup f_law = some ⟨oc_law, od_law, .func (PySem.W.fnOf "law" "law" (defArgs s_law) (defBody s_law) (defScope s_law) .none kV_law dc_law pm_law an_law cd_law ct_law), sl_law⟩)
    (c_law : PySem.W.codeIn K cd_law "law" = true)
    (k_law : PySem.W.keepIn K (.ref f_law) = true)
    (z_abs : PySem.W.nsIn K mainGlobals "abs" = some none)
    (z_all : PySem.W.nsIn K mainGlobals "all" = some none)
    (z_any : PySem.W.nsIn K mainGlobals "any" = some none)
    (z_bool : PySem.W.nsIn K mainGlobals "bool" = some none)
    (z_int : PySem.W.nsIn K mainGlobals "int" = some none)
    (z_isinstance : PySem.W.nsIn K mainGlobals "isinstance" = some none)
    (z_len : PySem.W.nsIn K mainGlobals "len" = some none)
    (z_list : PySem.W.nsIn K mainGlobals "list" = some none)
    (z_max : PySem.W.nsIn K mainGlobals "max" = some none)
    (z_range : PySem.W.nsIn K mainGlobals "range" = some none)
    (z_set : PySem.W.nsIn K mainGlobals "set" = some none)
    (z_sorted : PySem.W.nsIn K mainGlobals "sorted" = some none)
    (z_str : PySem.W.nsIn K mainGlobals "str" = some none)
    (z_sum : PySem.W.nsIn K mainGlobals "sum" = some none)
    (z_tuple : PySem.W.nsIn K mainGlobals "tuple" = some none)
    (z_zip : PySem.W.nsIn K mainGlobals "zip" = some none)
    (y_MOST_DEEDS : PySem.W.nsIn K mainGlobals "MOST_DEEDS" = some (some (.int 60 v_MOST_DEEDS)))
    (y_MOST_DEEP : PySem.W.nsIn K mainGlobals "MOST_DEEP" = some (some (.int 30 v_MOST_DEEP)))
    (y_LETTERS : PySem.W.nsIn K mainGlobals "LETTERS" = some (some (.str "abcdefghijklmnopqrstuvwxyz" v_LETTERS)))
    (y_SIGNS : PySem.W.nsIn K mainGlobals "SIGNS" = some (some (.str "abcdefghijklmnopqrstuvwxyz0123456789" v_SIGNS)))
    (y_WORDS : PySem.W.nsIn K mainGlobals "WORDS" = some (some (.ref v_WORDS)))
    (y_EMPTY : PySem.W.nsIn K mainGlobals "EMPTY" = some (some (.ref v_EMPTY)))
    (y_RANKS : PySem.W.nsIn K mainGlobals "RANKS" = some (some (.ref v_RANKS)))
    (E_l : K.lookup v_EMPTY = some ⟨.type "tuple", E_od, .seq #[.str "empty" E_t] E_n, E_sl⟩)
    (W_l : K.lookup v_WORDS = some ⟨.type "tuple", W_od, .seq #[.str "empty" W_0, .str "none" W_1, .str "deed" W_2, .str "deeds" W_3, .str "then" W_4, .str "beside" W_5, .str "either" W_6, .str "both" W_7, .str "not" W_8, .str "and" W_9, .str "or" W_10, .str "again" W_11, .str "party" W_12, .str "machine" W_13, .str "table" W_14, .str "order" W_15, .str "row" W_16, .str "value" W_17, .str "start" W_18, .str "ends" W_19, .str "lines" W_20, .str "hands" W_21, .str "ask" W_22, .str "log" W_23, .str "alike" W_24, .str "within" W_25, .str "apart" W_26, .str "reads" W_27, .str "looser" W_28, .str "same" W_29, .str "all" W_30] W_n, W_sl⟩)
    (R_l : K.lookup v_RANKS = some ⟨.type "dict", none, .dict #[⟨R_h1, .str "deed" R_t1, .int 0 R_u1⟩, ⟨R_h2, .str "row" R_t2, .int 1 R_u2⟩, ⟨R_h3, .str "beside" R_t3, .int 2 R_u3⟩] R_n, #[]⟩)
    (R_1 : R_h1 = PyData.keyHash w.params "deed")
    (R_2 : R_h2 = PyData.keyHash w.params "row")
    (R_3 : R_h3 = PyData.keyHash w.params "beside") :
    ∃ fd : FuncData, (∀ (s : Shared) (u : Value), BindsTo s fd ⟨[u], []⟩ [("script", u)]) ∧ ∀ base : Heap, K.In base → base.Ns mainGlobals mg → base.NoDigits → LawRun P w K mg base fa fd "script" (spLaw K) := by
  have e := hfa.symm.trans (PySem.W.mg_of X G a_law)
  cases e
  have T_Malformed : XC K mg "Malformed" CMalformed := ⟨xXMalformed, PySem.W.mg_of X G aXMalformed, kXMalformed, bXMalformed, tXMalformed, exm_own bXMalformed iXMalformed tXMalformed sXMalformed⟩
  have F__law_draw := fun_mk (st := s__law_draw) l__law_draw c__law_draw k__law_draw
  have B__law_draw := F__law_draw.binds (ps := ["script"]) fun _ _ _ _ _ _ us hl => match us, hl with | [_], _ => rfl
  have M__law_draw := PySem.W.mg_of X G a__law_draw
  have F__law_take := fun_mk (st := s__law_take) l__law_take c__law_take k__law_take
  have B__law_take := F__law_take.binds (ps := ["draw", "many"]) fun _ _ _ _ _ _ us hl => match us, hl with | [_, _], _ => rfl
  have M__law_take := PySem.W.mg_of X G a__law_take
  have F__law_key := fun_mk (st := s__law_key) l__law_key c__law_key k__law_key
  have B__law_key := F__law_key.binds (ps := ["party"]) fun _ _ _ _ _ _ us hl => match us, hl with | [_], _ => rfl
  have M__law_key := PySem.W.mg_of X G a__law_key
  have F__law_join := fun_mk (st := s__law_join) l__law_join c__law_join k__law_join
  have B__law_join := F__law_join.binds (ps := ["word", "parts"]) fun _ _ _ _ _ _ us hl => match us, hl with | [_, _], _ => rfl
  have M__law_join := PySem.W.mg_of X G a__law_join
  have F__law_grow := fun_mk (st := s__law_grow) l__law_grow c__law_grow k__law_grow
  have B__law_grow := F__law_grow.binds (ps := ["draw", "names", "size"]) fun _ _ _ _ _ _ us hl => match us, hl with | [_, _, _], _ => rfl
  have M__law_grow := PySem.W.mg_of X G a__law_grow
  have F__law_party := fun_mk (st := s__law_party) l__law_party c__law_party k__law_party
  have B__law_party := F__law_party.binds (ps := ["draw", "most"]) fun _ _ _ _ _ _ us hl => match us, hl with | [_, _], _ => rfl
  have M__law_party := PySem.W.mg_of X G a__law_party
  have F__law_names := fun_mk (st := s__law_names) l__law_names c__law_names k__law_names
  have B__law_names := F__law_names.binds (ps := ["party"]) fun _ _ _ _ _ _ us hl => match us, hl with | [_], _ => rfl
  have M__law_names := PySem.W.mg_of X G a__law_names
  have F__law_crossed := fun_mk (st := s__law_crossed) l__law_crossed c__law_crossed k__law_crossed
  have B__law_crossed := F__law_crossed.binds (ps := ["one", "two"]) fun _ _ _ _ _ _ us hl => match us, hl with | [_, _], _ => rfl
  have M__law_crossed := PySem.W.mg_of X G a__law_crossed
  have F__law_pairs := fun_mk (st := s__law_pairs) l__law_pairs c__law_pairs k__law_pairs
  have B__law_pairs := F__law_pairs.binds (ps := ["party"]) fun _ _ _ _ _ _ us hl => match us, hl with | [_], _ => rfl
  have M__law_pairs := PySem.W.mg_of X G a__law_pairs
  have F__law_loose := fun_mk (st := s__law_loose) l__law_loose c__law_loose k__law_loose
  have B__law_loose := F__law_loose.binds (ps := ["pairs", "places"]) fun _ _ _ _ _ _ us hl => match us, hl with | [_, _], _ => rfl
  have M__law_loose := PySem.W.mg_of X G a__law_loose
  have F_has_shape := fun_mk (st := s_has_shape) l_has_shape c_has_shape k_has_shape
  have B_has_shape := F_has_shape.binds (ps := ["value", "size"]) fun _ _ _ _ _ _ us hl => match us, hl with | [_, _], _ => rfl
  have M_has_shape := PySem.W.mg_of X G a_has_shape
  have F_is_name := fun_mk (st := s_is_name) l_is_name c_is_name k_is_name
  have B_is_name := F_is_name.binds (ps := ["value"]) fun _ _ _ _ _ _ us hl => match us, hl with | [_], _ => rfl
  have M_is_name := PySem.W.mg_of X G a_is_name
  have F_key_of := fun_mk (st := s_key_of) l_key_of c_key_of k_key_of
  have B_key_of := F_key_of.binds (ps := ["party"]) fun _ _ _ _ _ _ us hl => match us, hl with | [_], _ => rfl
  have M_key_of := PySem.W.mg_of X G a_key_of
  have F_fits_party := fun_mk (st := s_fits_party) l_fits_party c_fits_party k_fits_party
  have B_fits_party := F_fits_party.binds (ps := ["value", "depth"]) fun _ _ _ _ _ _ us hl => match us, hl with | [_, _], _ => rfl
  have M_fits_party := PySem.W.mg_of X G a_fits_party
  have F_count_of := fun_mk (st := s_count_of) l_count_of c_count_of k_count_of
  have B_count_of := F_count_of.binds (ps := ["party"]) fun _ _ _ _ _ _ us hl => match us, hl with | [_], _ => rfl
  have M_count_of := PySem.W.mg_of X G a_count_of
  have F_is_party := fun_mk (st := s_is_party) l_is_party c_is_party k_is_party
  have B_is_party := F_is_party.binds (ps := ["value"]) fun _ _ _ _ _ _ us hl => match us, hl with | [_], _ => rfl
  have M_is_party := PySem.W.mg_of X G a_is_party
  have F_check_party := fun_mk (st := s_check_party) l_check_party c_check_party k_check_party
  have B_check_party := F_check_party.binds (ps := ["value"]) fun _ _ _ _ _ _ us hl => match us, hl with | [_], _ => rfl
  have M_check_party := PySem.W.mg_of X G a_check_party
  have F_placed := fun_mk (st := s_placed) l_placed c_placed k_placed
  have B_placed := F_placed.binds (ps := ["party", "start"]) fun _ _ _ _ _ _ us hl => match us, hl with | [_, _], _ => rfl
  have M_placed := PySem.W.mg_of X G a_placed
  have F_widest_of := fun_mk (st := s_widest_of) l_widest_of c_widest_of k_widest_of
  have B_widest_of := F_widest_of.binds (ps := ["tree"]) fun _ _ _ _ _ _ us hl => match us, hl with | [_], _ => rfl
  have M_widest_of := PySem.W.mg_of X G a_widest_of
  have F_width := fun_mk (st := s_width) l_width c_width k_width
  have B_width := F_width.binds (ps := ["party"]) fun _ _ _ _ _ _ us hl => match us, hl with | [_], _ => rfl
  have M_width := PySem.W.mg_of X G a_width
  have F_names_in := fun_mk (st := s_names_in) l_names_in c_names_in k_names_in
  have B_names_in := F_names_in.binds (ps := ["party"]) fun _ _ _ _ _ _ us hl => match us, hl with | [_], _ => rfl
  have M_names_in := PySem.W.mg_of X G a_names_in
  have F_deeds_of := fun_mk (st := s_deeds_of) l_deeds_of c_deeds_of k_deeds_of
  have B_deeds_of := F_deeds_of.binds (ps := ["party"]) fun _ _ _ _ _ _ us hl => match us, hl with | [_], _ => rfl
  have M_deeds_of := PySem.W.mg_of X G a_deeds_of
  have F_time_in := fun_mk (st := s_time_in) l_time_in c_time_in k_time_in
  have B_time_in := F_time_in.binds (ps := ["party", "table"]) fun _ _ _ _ _ _ us hl => match us, hl with | [_, _], _ => rfl
  have M_time_in := PySem.W.mg_of X G a_time_in
  have F_height := fun_mk (st := s_height) l_height c_height k_height
  have B_height := F_height.binds (ps := ["party"]) fun _ _ _ _ _ _ us hl => match us, hl with | [_], _ => rfl
  have M_height := PySem.W.mg_of X G a_height
  have F_chains_of := fun_mk (st := s_chains_of) l_chains_of c_chains_of k_chains_of
  have B_chains_of := F_chains_of.binds (ps := ["tree"]) fun _ _ _ _ _ _ us hl => match us, hl with | [_], _ => rfl
  have M_chains_of := PySem.W.mg_of X G a_chains_of
  have F_cover := fun_mk (st := s_cover) l_cover c_cover k_cover
  have B_cover := F_cover.binds (ps := ["party"]) fun _ _ _ _ _ _ us hl => match us, hl with | [_], _ => rfl
  have M_cover := PySem.W.mg_of X G a_cover
  have F_bare := fun_mk (st := s_bare) l_bare c_bare k_bare
  have B_bare := F_bare.binds (ps := ["tree"]) fun _ _ _ _ _ _ us hl => match us, hl with | [_], _ => rfl
  have M_bare := PySem.W.mg_of X G a_bare
  have F_starts_in := fun_mk (st := s_starts_in) l_starts_in c_starts_in k_starts_in
  have B_starts_in := F_starts_in.binds (ps := ["tree", "table", "start"]) fun _ _ _ _ _ _ us hl => match us, hl with | [_, _, _], _ => rfl
  have M_starts_in := PySem.W.mg_of X G a_starts_in
  have F_longest_in := fun_mk (st := s_longest_in) l_longest_in c_longest_in k_longest_in
  have B_longest_in := F_longest_in.binds (ps := ["tree", "table"]) fun _ _ _ _ _ _ us hl => match us, hl with | [_, _], _ => rfl
  have M_longest_in := PySem.W.mg_of X G a_longest_in
  have F_levels := fun_mk (st := s_levels) l_levels c_levels k_levels
  have B_levels := F_levels.binds (ps := ["party"]) fun _ _ _ _ _ _ us hl => match us, hl with | [_], _ => rfl
  have M_levels := PySem.W.mg_of X G a_levels
  have F_is_whole := fun_mk (st := s_is_whole) l_is_whole c_is_whole k_is_whole
  have B_is_whole := F_is_whole.binds (ps := ["value"]) fun _ _ _ _ _ _ us hl => match us, hl with | [_], _ => rfl
  have M_is_whole := PySem.W.mg_of X G a_is_whole
  have F_are_places := fun_mk (st := s_are_places) l_are_places c_are_places k_are_places
  have B_are_places := F_are_places.binds (ps := ["party", "value"]) fun _ _ _ _ _ _ us hl => match us, hl with | [_, _], _ => rfl
  have M_are_places := PySem.W.mg_of X G a_are_places
  have F_places_told := fun_mk (st := s_places_told) l_places_told c_places_told k_places_told
  have B_places_told := F_places_told.binds (ps := ["party", "start"]) fun _ _ _ _ _ _ us hl => match us, hl with | [_, _], _ => rfl
  have M_places_told := PySem.W.mg_of X G a_places_told
  have F_ahead_of := fun_mk (st := s_ahead_of) l_ahead_of c_ahead_of k_ahead_of
  have B_ahead_of := F_ahead_of.binds (ps := ["party"]) fun _ _ _ _ _ _ us hl => match us, hl with | [_], _ => rfl
  have M_ahead_of := PySem.W.mg_of X G a_ahead_of
  have F_is_chain := fun_mk (st := s_is_chain) l_is_chain c_is_chain k_is_chain
  have B_is_chain := F_is_chain.binds (ps := ["there", "places"]) fun _ _ _ _ _ _ us hl => match us, hl with | [_, _], _ => rfl
  have M_is_chain := PySem.W.mg_of X G a_is_chain
  have F_is_loose := fun_mk (st := s_is_loose) l_is_loose c_is_loose k_is_loose
  have B_is_loose := F_is_loose.binds (ps := ["there", "places"]) fun _ _ _ _ _ _ us hl => match us, hl with | [_, _], _ => rfl
  have M_is_loose := PySem.W.mg_of X G a_is_loose
  have F_takes_cover := fun_mk (st := s_takes_cover) l_takes_cover c_takes_cover k_takes_cover
  have B_takes_cover := F_takes_cover.binds (ps := ["party", "value"]) fun _ _ _ _ _ _ us hl => match us, hl with | [_, _], _ => rfl
  have M_takes_cover := PySem.W.mg_of X G a_takes_cover
  have F_takes_levels := fun_mk (st := s_takes_levels) l_takes_levels c_takes_levels k_takes_levels
  have B_takes_levels := F_takes_levels.binds (ps := ["party", "value"]) fun _ _ _ _ _ _ us hl => match us, hl with | [_, _], _ => rfl
  have M_takes_levels := PySem.W.mg_of X G a_takes_levels
  have F__law_told := fun_mk (st := s__law_told) l__law_told c__law_told k__law_told
  have B__law_told := F__law_told.binds (ps := ["which", "party", "value"]) fun _ _ _ _ _ _ us hl => match us, hl with | [_, _, _], _ => rfl
  have M__law_told := PySem.W.mg_of X G a__law_told
  have F__law_whole := fun_mk (st := s__law_whole) l__law_whole c__law_whole k__law_whole
  have B__law_whole := F__law_whole.binds (ps := ["value"]) fun _ _ _ _ _ _ us hl => match us, hl with | [_], _ => rfl
  have M__law_whole := PySem.W.mg_of X G a__law_whole
  have F__law_are_places := fun_mk (st := s__law_are_places) l__law_are_places c__law_are_places k__law_are_places
  have B__law_are_places := F__law_are_places.binds (ps := ["many", "value"]) fun _ _ _ _ _ _ us hl => match us, hl with | [_, _], _ => rfl
  have M__law_are_places := PySem.W.mg_of X G a__law_are_places
  have F__law_chain := fun_mk (st := s__law_chain) l__law_chain c__law_chain k__law_chain
  have B__law_chain := F__law_chain.binds (ps := ["pairs", "places"]) fun _ _ _ _ _ _ us hl => match us, hl with | [_, _], _ => rfl
  have M__law_chain := PySem.W.mg_of X G a__law_chain
  have F__law_right := fun_mk (st := s__law_right) l__law_right c__law_right k__law_right
  have B__law_right := F__law_right.binds (ps := ["party", "value", "kind"]) fun _ _ _ _ _ _ us hl => match us, hl with | [_, _, _], _ => rfl
  have M__law_right := PySem.W.mg_of X G a__law_right
  have F__law_bent := fun_mk (st := s__law_bent) l__law_bent c__law_bent k__law_bent
  have B__law_bent := F__law_bent.binds (ps := ["draw", "data"]) fun _ _ _ _ _ _ us hl => match us, hl with | [_, _], _ => rfl
  have M__law_bent := PySem.W.mg_of X G a__law_bent
  have F__law_tries := fun_mk (st := s__law_tries) l__law_tries c__law_tries k__law_tries
  have B__law_tries := F__law_tries.binds (ps := ["draw", "told", "many"]) fun _ _ _ _ _ _ us hl => match us, hl with | [_, _, _], _ => rfl
  have M__law_tries := PySem.W.mg_of X G a__law_tries
  have F__law_says := fun_mk (st := s__law_says) l__law_says c__law_says k__law_says
  have B__law_says := F__law_says.binds (ps := ["value", "due"]) fun _ _ _ _ _ _ us hl => match us, hl with | [_, _], _ => rfl
  have M__law_says := PySem.W.mg_of X G a__law_says
  have F__law_odd_party := fun_mk (st := s__law_odd_party) l__law_odd_party c__law_odd_party k__law_odd_party
  have B__law_odd_party := F__law_odd_party.binds (ps := ["draw"]) fun _ _ _ _ _ _ us hl => match us, hl with | [_], _ => rfl
  have M__law_odd_party := PySem.W.mg_of X G a__law_odd_party
  have F_law := fun_mk (st := s_law) l_law c_law k_law
  have B_law := F_law.binds (ps := ["script"]) fun _ _ _ _ _ _ us hl => match us, hl with | [_], _ => rfl
  have M_law := PySem.W.mg_of X G a_law
  have b_abs := PySem.W.mg_none_of X G z_abs
  have b_all := PySem.W.mg_none_of X G z_all
  have b_any := PySem.W.mg_none_of X G z_any
  have b_bool := PySem.W.mg_none_of X G z_bool
  have b_int := PySem.W.mg_none_of X G z_int
  have b_isinstance := PySem.W.mg_none_of X G z_isinstance
  have b_len := PySem.W.mg_none_of X G z_len
  have b_list := PySem.W.mg_none_of X G z_list
  have b_max := PySem.W.mg_none_of X G z_max
  have b_range := PySem.W.mg_none_of X G z_range
  have b_set := PySem.W.mg_none_of X G z_set
  have b_sorted := PySem.W.mg_none_of X G z_sorted
  have b_str := PySem.W.mg_none_of X G z_str
  have b_sum := PySem.W.mg_none_of X G z_sum
  have b_tuple := PySem.W.mg_none_of X G z_tuple
  have b_zip := PySem.W.mg_none_of X G z_zip
  have g_MOST_DEEDS : GV mg "MOST_DEEDS" (.int 60) := ⟨_, PySem.W.mg_of X G y_MOST_DEEDS, ⟨_, rfl⟩⟩
  have g_MOST_DEEP : GV mg "MOST_DEEP" (.int 30) := ⟨_, PySem.W.mg_of X G y_MOST_DEEP, ⟨_, rfl⟩⟩
  have g_LETTERS : GV mg "LETTERS" (.str "abcdefghijklmnopqrstuvwxyz") := ⟨_, PySem.W.mg_of X G y_LETTERS, ⟨_, rfl⟩⟩
  have g_SIGNS : GV mg "SIGNS" (.str "abcdefghijklmnopqrstuvwxyz0123456789") := ⟨_, PySem.W.mg_of X G y_SIGNS, ⟨_, rfl⟩⟩
  have g_WORDS : GV mg "WORDS" (.ref v_WORDS) := ⟨_, PySem.W.mg_of X G y_WORDS, rfl⟩
  have g_EMPTY : GV mg "EMPTY" (.ref v_EMPTY) := ⟨_, PySem.W.mg_of X G y_EMPTY, rfl⟩
  have g_RANKS : GV mg "RANKS" (.ref v_RANKS) := ⟨_, PySem.W.mg_of X G y_RANKS, rfl⟩
  refine ⟨PySem.W.fnOf "law" "law" (defArgs s_law) (defBody s_law) (defScope s_law) .none kV_law dc_law pm_law an_law cd_law ct_law, fun s u => .of_eq rfl, fun base _ _ ndg => ?_⟩
  have hE : ∀ H, SqT K H v_EMPTY [V.str "empty"] := fun H => empty_mk E_l
  have hW : ∀ H, SqT K H v_WORDS (WORDSL.map V.str) := fun H => words_mk W_l
  have hR : ∀ r : Bool, KDct K w v_RANKS (if r then "row" else "beside") (.int (Pt.rank r)) := ranks_mk R_l R_1 R_2 R_3
  have C__law_draw : Cl P w K mg base 1 "_law_draw" (spDraw K) := ⟨_, _, _, ok__law_draw F__law_draw b_int b_abs, M__law_draw, k__law_draw, B__law_draw⟩
  have C__law_take : Cl P w K mg base 1 "_law_take" (spTake) := ⟨_, _, _, ok__law_take F__law_take b_int b_len, M__law_take, k__law_take, B__law_take⟩
  have C__law_key : Cl P w K mg base 40 "_law_key" (spKey K 31) := ⟨_, _, _, (ok__law_key F__law_key M__law_key B__law_key b_tuple b_sum 31).mono (by decide), M__law_key, k__law_key, B__law_key⟩
  have C__law_join : Cl P w K mg base 43 "_law_join" (spJoin K) := ⟨_, _, _, ok__law_join F__law_join C__law_key b_list b_tuple b_len b_sorted, M__law_join, k__law_join, B__law_join⟩
  have C__law_grow : Cl P w K mg base 75 "_law_grow" (spGrow K 31) := ⟨_, _, _, (ok__law_grow F__law_grow M__law_grow B__law_grow C__law_take C__law_join b_len 31).mono (by decide), M__law_grow, k__law_grow, B__law_grow⟩
  have C__law_party : Cl P w K mg base 76 "_law_party" (spParty K) := ⟨_, _, _, ok__law_party F__law_party C__law_take C__law_grow b_len b_max, M__law_party, k__law_party, B__law_party⟩
  have C__law_names : Cl P w K mg base 32 "_law_names" (spLNames K 31) := ⟨_, _, _, (ok__law_names F__law_names M__law_names B__law_names  31).mono (by decide), M__law_names, k__law_names, B__law_names⟩
  have C__law_crossed : Cl P w K mg base 1 "_law_crossed" (spCross K) := ⟨_, _, _, ok__law_crossed F__law_crossed , M__law_crossed, k__law_crossed, B__law_crossed⟩
  have C__law_pairs : Cl P w K mg base 63 "_law_pairs" (spPairs K 31) := ⟨_, _, _, (ok__law_pairs F__law_pairs M__law_pairs B__law_pairs C__law_names C__law_crossed b_list b_len b_range 31).mono (by decide), M__law_pairs, k__law_pairs, B__law_pairs⟩
  have C__law_loose : Cl P w K mg base 1 "_law_loose" (spLLoose K) := ⟨_, _, _, ok__law_loose F__law_loose , M__law_loose, k__law_loose, B__law_loose⟩
  have C_has_shape : Cl P w K mg base 1 "has_shape" (spShape K) := ⟨_, _, _, ok_has_shape F_has_shape b_isinstance b_tuple b_len, M_has_shape, k_has_shape, B_has_shape⟩
  have C_is_name : Cl P w K mg base 1 "is_name" (spName K) := ⟨_, _, _, ok_is_name F_is_name b_isinstance b_str b_len b_all hW g_WORDS g_LETTERS g_SIGNS, M_is_name, k_is_name, B_is_name⟩
  have C_key_of : Cl P w K mg base 40 "key_of" (spKey K 31) := ⟨_, _, _, (ok_key_of F_key_of M_key_of B_key_of b_tuple b_sum hR g_RANKS 31).mono (by decide), M_key_of, k_key_of, B_key_of⟩
  have C_fits_party : Cl P w K mg base 71 "fits_party" (spFits K 31) := ⟨_, _, _, (ok_fits_party F_fits_party M_fits_party B_fits_party C_has_shape C_is_name C_key_of b_isinstance b_str b_tuple b_len b_all b_any b_sorted g_MOST_DEEDS 31).mono (by decide), M_fits_party, k_fits_party, B_fits_party⟩
  have C_count_of : Cl P w K mg base 40 "count_of" (spCount K 31) := ⟨_, _, _, (ok_count_of F_count_of M_count_of B_count_of b_sum hE g_EMPTY 31).mono (by decide), M_count_of, k_count_of, B_count_of⟩
  have C_is_party : Cl P w K mg base 72 "is_party" (spIsP K) := ⟨_, _, _, ok_is_party F_is_party C_has_shape C_fits_party C_count_of b_isinstance b_str hE g_EMPTY g_MOST_DEEDS g_MOST_DEEP, M_is_party, k_is_party, B_is_party⟩
  have C_check_party : ClX P w K mg base 73 "check_party" (spChk K CMalformed) := ⟨_, _, _, ok_check_party F_check_party C_is_party T_Malformed, M_check_party, k_check_party, B_check_party⟩
  have C_placed : Cl P w K mg base 32 "placed" (spPlaced K 31) := ⟨_, _, _, (ok_placed F_placed M_placed B_placed b_tuple hE g_EMPTY 31).mono (by decide), M_placed, k_placed, B_placed⟩
  have C_widest_of : Cl P w K mg base 32 "widest_of" (spWidest K 31) := ⟨_, _, _, (ok_widest_of F_widest_of M_widest_of B_widest_of b_len b_max hE g_EMPTY 31).mono (by decide), M_widest_of, k_widest_of, B_widest_of⟩
  have C_width : ClX P w K mg base 74 "width" (spWidth K CMalformed) := ⟨_, _, _, ok_width F_width C_check_party C_placed C_widest_of b_len, M_width, k_width, B_width⟩
  have C_names_in : Cl P w K mg base 32 "names_in" (spNames K 31) := ⟨_, _, _, (ok_names_in F_names_in M_names_in B_names_in hE g_EMPTY 31).mono (by decide), M_names_in, k_names_in, B_names_in⟩
  have C_deeds_of : ClX P w K mg base 74 "deeds_of" (spDeeds K CMalformed) := ⟨_, _, _, ok_deeds_of F_deeds_of C_check_party C_names_in b_tuple b_set b_sorted, M_deeds_of, k_deeds_of, B_deeds_of⟩
  have C_time_in : Cl P w K mg base 32 "time_in" (spTime K 31) := ⟨_, _, _, (ok_time_in F_time_in M_time_in B_time_in b_sum b_max hE g_EMPTY 31).mono (by decide), M_time_in, k_time_in, B_time_in⟩
  have C_height : ClX P w K mg base 75 "height" (spHeight K CMalformed) := ⟨_, _, _, ok_height F_height C_check_party C_deeds_of C_time_in, M_height, k_height, B_height⟩
  have C_chains_of : Cl P w K mg base 32 "chains_of" (spChains K 31) := ⟨_, _, _, (ok_chains_of F_chains_of M_chains_of B_chains_of b_len b_zip hE g_EMPTY 31).mono (by decide), M_chains_of, k_chains_of, B_chains_of⟩
  have C_cover : ClX P w K mg base 74 "cover" (spCover K CMalformed) := ⟨_, _, _, ok_cover F_cover C_check_party C_placed C_chains_of C_widest_of b_tuple b_sorted, M_cover, k_cover, B_cover⟩
  have C_bare : Cl P w K mg base 32 "bare" (spBare K 31) := ⟨_, _, _, (ok_bare F_bare M_bare B_bare b_tuple hE g_EMPTY 31).mono (by decide), M_bare, k_bare, B_bare⟩
  have C_starts_in : Cl P w K mg base 70 "starts_in" (spStarts K 31) := ⟨_, _, _, (ok_starts_in F_starts_in M_starts_in B_starts_in C_time_in C_bare hE g_EMPTY 31).mono (by decide), M_starts_in, k_starts_in, B_starts_in⟩
  have C_longest_in : Cl P w K mg base 70 "longest_in" (spLongest K 31) := ⟨_, _, _, (ok_longest_in F_longest_in M_longest_in B_longest_in C_time_in C_bare b_max hE g_EMPTY 31).mono (by decide), M_longest_in, k_longest_in, B_longest_in⟩
  have C_levels : ClX P w K mg base 75 "levels" (spLevels K CMalformed) := ⟨_, _, _, ok_levels F_levels C_check_party C_deeds_of C_placed C_starts_in C_longest_in b_tuple b_sorted, M_levels, k_levels, B_levels⟩
  have C_is_whole : Cl P w K mg base 1 "is_whole" (spWhole K) := ⟨_, _, _, ok_is_whole F_is_whole b_isinstance b_int b_bool, M_is_whole, k_is_whole, B_is_whole⟩
  have C_are_places : Cl P w K mg base 41 "are_places" (spAreP K) := ⟨_, _, _, ok_are_places F_are_places C_count_of C_is_whole b_isinstance b_tuple b_all b_len b_set hE g_EMPTY, M_are_places, k_are_places, B_are_places⟩
  have C_places_told : Cl P w K mg base 32 "places_told" (spTold K 31) := ⟨_, _, _, (ok_places_told F_places_told M_places_told B_places_told b_list b_range hE g_EMPTY 31).mono (by decide), M_places_told, k_places_told, B_places_told⟩
  have C_ahead_of : Cl P w K mg base 33 "ahead_of" (spAhead K) := ⟨_, _, _, ok_ahead_of F_ahead_of C_places_told, M_ahead_of, k_ahead_of, B_ahead_of⟩
  have C_is_chain : Cl P w K mg base 1 "is_chain" (spChain K) := ⟨_, _, _, ok_is_chain F_is_chain b_all b_zip, M_is_chain, k_is_chain, B_is_chain⟩
  have C_is_loose : Cl P w K mg base 1 "is_loose" (spLoose K) := ⟨_, _, _, ok_is_loose F_is_loose b_any, M_is_loose, k_is_loose, B_is_loose⟩
  have C_takes_cover : ClX P w K mg base 74 "takes_cover" (spTakes false K CMalformed) := ⟨_, _, _, ok_takes_cover F_takes_cover C_check_party C_has_shape C_are_places C_ahead_of C_is_chain C_is_loose C_count_of b_isinstance b_tuple b_all b_len b_sorted b_list b_range, M_takes_cover, k_takes_cover, B_takes_cover⟩
  have C_takes_levels : ClX P w K mg base 74 "takes_levels" (spTakes true K CMalformed) := ⟨_, _, _, ok_takes_levels F_takes_levels C_check_party C_has_shape C_are_places C_ahead_of C_is_chain C_is_loose C_count_of b_isinstance b_tuple b_all b_len b_sorted b_list b_range, M_takes_levels, k_takes_levels, B_takes_levels⟩
  have C__law_told : Cl P w K mg base 76 "_law_told" (spTld K CMalformed) := ⟨_, _, _, ok__law_told F__law_told C_width C_height C_cover C_levels C_takes_cover C_takes_levels T_Malformed, M__law_told, k__law_told, B__law_told⟩
  have C__law_whole : Cl P w K mg base 1 "_law_whole" (spWhole K) := ⟨_, _, _, ok__law_whole F__law_whole b_isinstance b_int b_bool, M__law_whole, k__law_whole, B__law_whole⟩
  have C__law_are_places : Cl P w K mg base 2 "_law_are_places" (spLAre K) := ⟨_, _, _, ok__law_are_places F__law_are_places C__law_whole b_isinstance b_tuple b_all b_len b_set, M__law_are_places, k__law_are_places, B__law_are_places⟩
  have C__law_chain : Cl P w K mg base 1 "_law_chain" (spLChain K) := ⟨_, _, _, ok__law_chain F__law_chain b_all b_len b_range, M__law_chain, k__law_chain, B__law_chain⟩
  have C__law_right : Cl P w K mg base 64 "_law_right" (spRight K) := ⟨_, _, _, ok__law_right F__law_right C__law_pairs C__law_are_places C__law_chain C__law_loose b_isinstance b_tuple b_len b_all b_list b_range b_sorted, M__law_right, k__law_right, B__law_right⟩
  have C__law_bent : Cl P w K mg base 36 "_law_bent" (spBent K 31) := ⟨_, _, _, (ok__law_bent F__law_bent M__law_bent B__law_bent C__law_take C__law_whole b_isinstance b_tuple b_len 31).mono (by decide), M__law_bent, k__law_bent, B__law_bent⟩
  have C__law_tries : Cl P w K mg base 40 "_law_tries" (spTries K) := ⟨_, _, _, ok__law_tries F__law_tries C__law_take C__law_bent b_list b_tuple b_range b_len b_sorted, M__law_tries, k__law_tries, B__law_tries⟩
  have C__law_says : Cl P w K mg base 1 "_law_says" (spSays) := ⟨_, _, _, ok__law_says F__law_says b_isinstance b_bool, M__law_says, k__law_says, B__law_says⟩
  have C__law_odd_party : Cl P w K mg base 3 "_law_odd_party" (spOdd K) := ⟨_, _, _, ok__law_odd_party F__law_odd_party C__law_take b_len, M__law_odd_party, k__law_odd_party, B__law_odd_party⟩
  exact ok_law F_law C__law_draw C__law_party C__law_pairs C__law_loose C__law_told C__law_right C__law_tries C__law_says C__law_odd_party b_range b_len b_max

end Z

open PySem PySem.W PyProof.Rows
set_option maxRecDepth 100000 in
set_option maxHeartbeats 0 in
theorem PySem.Challenge.cw_forksalike_k31_whole_covers_and_levels_holds : PySem.Challenge.rw_forksalike_k31_whole_covers_and_levels.Holds := by
  w_on; o_law; k_head; (case hw => w_witness2)
  k_fill
  refine Z.walkG rfl rfl (fun w h Y => PySem.W.kIn_of Y) ?F
  case F =>
    intro w mg fa h KX G hmg
    refine' Z.all_mk (w := w) KX G hmg ?aXMalformed ?xXMalformed ?kXMalformed ?bXMalformed ?tXMalformed ?iXMalformed ?sXMalformed ?a__law_draw ?l__law_draw ?c__law_draw ?k__law_draw ?a__law_take ?l__law_take ?c__law_take ?k__law_take ?a__law_key ?l__law_key ?c__law_key ?k__law_key ?a__law_join ?l__law_join ?c__law_join ?k__law_join ?a__law_grow ?l__law_grow ?c__law_grow ?k__law_grow ?a__law_party ?l__law_party ?c__law_party ?k__law_party ?a__law_names ?l__law_names ?c__law_names ?k__law_names ?a__law_crossed ?l__law_crossed ?c__law_crossed ?k__law_crossed ?a__law_pairs ?l__law_pairs ?c__law_pairs ?k__law_pairs ?a__law_loose ?l__law_loose ?c__law_loose ?k__law_loose ?a_has_shape ?l_has_shape ?c_has_shape ?k_has_shape ?a_is_name ?l_is_name ?c_is_name ?k_is_name ?a_key_of ?l_key_of ?c_key_of ?k_key_of ?a_fits_party ?l_fits_party ?c_fits_party ?k_fits_party ?a_count_of ?l_count_of ?c_count_of ?k_count_of ?a_is_party ?l_is_party ?c_is_party ?k_is_party ?a_check_party ?l_check_party ?c_check_party ?k_check_party ?a_placed ?l_placed ?c_placed ?k_placed ?a_widest_of ?l_widest_of ?c_widest_of ?k_widest_of ?a_width ?l_width ?c_width ?k_width ?a_names_in ?l_names_in ?c_names_in ?k_names_in ?a_deeds_of ?l_deeds_of ?c_deeds_of ?k_deeds_of ?a_time_in ?l_time_in ?c_time_in ?k_time_in ?a_height ?l_height ?c_height ?k_height ?a_chains_of ?l_chains_of ?c_chains_of ?k_chains_of ?a_cover ?l_cover ?c_cover ?k_cover ?a_bare ?l_bare ?c_bare ?k_bare ?a_starts_in ?l_starts_in ?c_starts_in ?k_starts_in ?a_longest_in ?l_longest_in ?c_longest_in ?k_longest_in ?a_levels ?l_levels ?c_levels ?k_levels ?a_is_whole ?l_is_whole ?c_is_whole ?k_is_whole ?a_are_places ?l_are_places ?c_are_places ?k_are_places ?a_places_told ?l_places_told ?c_places_told ?k_places_told ?a_ahead_of ?l_ahead_of ?c_ahead_of ?k_ahead_of ?a_is_chain ?l_is_chain ?c_is_chain ?k_is_chain ?a_is_loose ?l_is_loose ?c_is_loose ?k_is_loose ?a_takes_cover ?l_takes_cover ?c_takes_cover ?k_takes_cover ?a_takes_levels ?l_takes_levels ?c_takes_levels ?k_takes_levels ?a__law_told ?l__law_told ?c__law_told ?k__law_told ?a__law_whole ?l__law_whole ?c__law_whole ?k__law_whole ?a__law_are_places ?l__law_are_places ?c__law_are_places ?k__law_are_places ?a__law_chain ?l__law_chain ?c__law_chain ?k__law_chain ?a__law_right ?l__law_right ?c__law_right ?k__law_right ?a__law_bent ?l__law_bent ?c__law_bent ?k__law_bent ?a__law_tries ?l__law_tries ?c__law_tries ?k__law_tries ?a__law_says ?l__law_says ?c__law_says ?k__law_says ?a__law_odd_party ?l__law_odd_party ?c__law_odd_party ?k__law_odd_party ?a_law ?l_law ?c_law ?k_law ?z_abs ?z_all ?z_any ?z_bool ?z_int ?z_isinstance ?z_len ?z_list ?z_max ?z_range ?z_set ?z_sorted ?z_str ?z_sum ?z_tuple ?z_zip ?y_MOST_DEEDS ?y_MOST_DEEP ?y_LETTERS ?y_SIGNS ?y_WORDS ?y_EMPTY ?y_RANKS ?E_l ?W_l ?R_l ?R_1 ?R_2 ?R_3
    (case aXMalformed => k_is)
    (case xXMalformed => k_exc)
    (case kXMalformed => k_is)
    (case bXMalformed => k_is)
    (case tXMalformed => k_is)
    (case iXMalformed => k_is)
    (case sXMalformed => first | rfl | k_is)
    (case a__law_draw => k_is)
    (case l__law_draw => k_is)
    (case c__law_draw => k_is)
    (case k__law_draw => k_is)
    (case a__law_take => k_is)
    (case l__law_take => k_is)
    (case c__law_take => k_is)
    (case k__law_take => k_is)
    (case a__law_key => k_is)
    (case l__law_key => k_is)
    (case c__law_key => k_is)
    (case k__law_key => k_is)
    (case a__law_join => k_is)
    (case l__law_join => k_is)
    (case c__law_join => k_is)
    (case k__law_join => k_is)
    (case a__law_grow => k_is)
    (case l__law_grow => k_is)
    (case c__law_grow => k_is)
    (case k__law_grow => k_is)
    (case a__law_party => k_is)
    (case l__law_party => k_is)
    (case c__law_party => k_is)
    (case k__law_party => k_is)
    (case a__law_names => k_is)
    (case l__law_names => k_is)
    (case c__law_names => k_is)
    (case k__law_names => k_is)
    (case a__law_crossed => k_is)
    (case l__law_crossed => k_is)
    (case c__law_crossed => k_is)
    (case k__law_crossed => k_is)
    (case a__law_pairs => k_is)
    (case l__law_pairs => k_is)
    (case c__law_pairs => k_is)
    (case k__law_pairs => k_is)
    (case a__law_loose => k_is)
    (case l__law_loose => k_is)
    (case c__law_loose => k_is)
    (case k__law_loose => k_is)
    (case a_has_shape => k_is)
    (case l_has_shape => k_is)
    (case c_has_shape => k_is)
    (case k_has_shape => k_is)
    (case a_is_name => k_is)
    (case l_is_name => k_is)
    (case c_is_name => k_is)
    (case k_is_name => k_is)
    (case a_key_of => k_is)
    (case l_key_of => k_is)
    (case c_key_of => k_is)
    (case k_key_of => k_is)
    (case a_fits_party => k_is)
    (case l_fits_party => k_is)
    (case c_fits_party => k_is)
    (case k_fits_party => k_is)
    (case a_count_of => k_is)
    (case l_count_of => k_is)
    (case c_count_of => k_is)
    (case k_count_of => k_is)
    (case a_is_party => k_is)
    (case l_is_party => k_is)
    (case c_is_party => k_is)
    (case k_is_party => k_is)
    (case a_check_party => k_is)
    (case l_check_party => k_is)
    (case c_check_party => k_is)
    (case k_check_party => k_is)
    (case a_placed => k_is)
    (case l_placed => k_is)
    (case c_placed => k_is)
    (case k_placed => k_is)
    (case a_widest_of => k_is)
    (case l_widest_of => k_is)
    (case c_widest_of => k_is)
    (case k_widest_of => k_is)
    (case a_width => k_is)
    (case l_width => k_is)
    (case c_width => k_is)
    (case k_width => k_is)
    (case a_names_in => k_is)
    (case l_names_in => k_is)
    (case c_names_in => k_is)
    (case k_names_in => k_is)
    (case a_deeds_of => k_is)
    (case l_deeds_of => k_is)
    (case c_deeds_of => k_is)
    (case k_deeds_of => k_is)
    (case a_time_in => k_is)
    (case l_time_in => k_is)
    (case c_time_in => k_is)
    (case k_time_in => k_is)
    (case a_height => k_is)
    (case l_height => k_is)
    (case c_height => k_is)
    (case k_height => k_is)
    (case a_chains_of => k_is)
    (case l_chains_of => k_is)
    (case c_chains_of => k_is)
    (case k_chains_of => k_is)
    (case a_cover => k_is)
    (case l_cover => k_is)
    (case c_cover => k_is)
    (case k_cover => k_is)
    (case a_bare => k_is)
    (case l_bare => k_is)
    (case c_bare => k_is)
    (case k_bare => k_is)
    (case a_starts_in => k_is)
    (case l_starts_in => k_is)
    (case c_starts_in => k_is)
    (case k_starts_in => k_is)
    (case a_longest_in => k_is)
    (case l_longest_in => k_is)
    (case c_longest_in => k_is)
    (case k_longest_in => k_is)
    (case a_levels => k_is)
    (case l_levels => k_is)
    (case c_levels => k_is)
    (case k_levels => k_is)
    (case a_is_whole => k_is)
    (case l_is_whole => k_is)
    (case c_is_whole => k_is)
    (case k_is_whole => k_is)
    (case a_are_places => k_is)
    (case l_are_places => k_is)
    (case c_are_places => k_is)
    (case k_are_places => k_is)
    (case a_places_told => k_is)
    (case l_places_told => k_is)
    (case c_places_told => k_is)
    (case k_places_told => k_is)
    (case a_ahead_of => k_is)
    (case l_ahead_of => k_is)
    (case c_ahead_of => k_is)
    (case k_ahead_of => k_is)
    (case a_is_chain => k_is)
    (case l_is_chain => k_is)
    (case c_is_chain => k_is)
    (case k_is_chain => k_is)
    (case a_is_loose => k_is)
    (case l_is_loose => k_is)
    (case c_is_loose => k_is)
    (case k_is_loose => k_is)
    (case a_takes_cover => k_is)
    (case l_takes_cover => k_is)
    (case c_takes_cover => k_is)
    (case k_takes_cover => k_is)
    (case a_takes_levels => k_is)
    (case l_takes_levels => k_is)
    (case c_takes_levels => k_is)
    (case k_takes_levels => k_is)
    (case a__law_told => k_is)
    (case l__law_told => k_is)
    (case c__law_told => k_is)
    (case k__law_told => k_is)
    (case a__law_whole => k_is)
    (case l__law_whole => k_is)
    (case c__law_whole => k_is)
    (case k__law_whole => k_is)
    (case a__law_are_places => k_is)
    (case l__law_are_places => k_is)
    (case c__law_are_places => k_is)
    (case k__law_are_places => k_is)
    (case a__law_chain => k_is)
    (case l__law_chain => k_is)
    (case c__law_chain => k_is)
    (case k__law_chain => k_is)
    (case a__law_right => k_is)
    (case l__law_right => k_is)
    (case c__law_right => k_is)
    (case k__law_right => k_is)
    (case a__law_bent => k_is)
    (case l__law_bent => k_is)
    (case c__law_bent => k_is)
    (case k__law_bent => k_is)
    (case a__law_tries => k_is)
    (case l__law_tries => k_is)
    (case c__law_tries => k_is)
    (case k__law_tries => k_is)
    (case a__law_says => k_is)
    (case l__law_says => k_is)
    (case c__law_says => k_is)
    (case k__law_says => k_is)
    (case a__law_odd_party => k_is)
    (case l__law_odd_party => k_is)
    (case c__law_odd_party => k_is)
    (case k__law_odd_party => k_is)
    (case a_law => k_is)
    (case l_law => k_is)
    (case c_law => k_is)
    (case k_law => k_is)
    (case z_abs => k_is)
    (case z_all => k_is)
    (case z_any => k_is)
    (case z_bool => k_is)
    (case z_int => k_is)
    (case z_isinstance => k_is)
    (case z_len => k_is)
    (case z_list => k_is)
    (case z_max => k_is)
    (case z_range => k_is)
    (case z_set => k_is)
    (case z_sorted => k_is)
    (case z_str => k_is)
    (case z_sum => k_is)
    (case z_tuple => k_is)
    (case z_zip => k_is)
    (case y_MOST_DEEDS => k_is)
    (case y_MOST_DEEP => k_is)
    (case y_LETTERS => k_is)
    (case y_SIGNS => k_is)
    (case y_WORDS => k_is)
    (case y_EMPTY => k_is)
    (case y_RANKS => k_is)
    (case E_l => k_is)
    (case W_l => k_is)
    (case R_l => k_is)
    (case R_1 => rfl)
    (case R_2 => rfl)
    (case R_3 => rfl)
