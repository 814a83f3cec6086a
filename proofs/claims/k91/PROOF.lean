import PyProof.Rows.All
import Wide.All
import OpenK.AllK
import Wide.FinOn
import HandS.ForMost
import HandS.IsInst
import HandS.Defaults
import HandS.Gcd
import HandS.Wide
import HandS.WideMore
import HandS.Zip
import HandS.TupMul
import HandS.TupAny
import HandS.Star
import HandS.Style
import HandS.Walk
import HandS.Deep
import HandS.OwnEq
import HandS.SortOrd
import HandS.SortInts
import HandS.Exc
import HandS.ExcInit
import HandS.ExcField
import HandS.TryMany
import HandS.WordsExc
import HandS.Lambda
import HandS.EndTab
import HandS.ListItems
import HandS.Remove
import KE.GoesMore
import KE.KItemsList
import HandS.SortRule
import KE.DataFind
import HandS.NamedTupSort
import PyProof.InstNe
import KE.KDflt
import PySem.Challenge.RW_everagain_k91_whole_parts_that_spread
import HandS.Conv
import HandS.Evl
import PyProof.ReprRoads
import PyProof.ReprLen
import KE.KNestM
section
set_option Elab.async false
set_option maxRecDepth 100000
namespace KB
open PySem L2
section
variable {K : PySem.W.Frag} {H H' : Hp}
/-- a tuple, a list, of ints -/
def tI (ns : List Int) : PyData := .tuple (ns.map .int)
def lI (ns : List Int) : PyData := .list (ns.map .int)
theorem same_rd {a : Addr} {u : HO} (e : Same H H') (h : Rd H a u) : Rd H' a u := by
  rcases h with h | ⟨o, h⟩
  · exact .inl (e _ _ h)
  · exact .inr ⟨o, e _ _ h⟩
theorem same_l {a : Addr} {xs : List V} (e : Same H H') (h : SqL K H a xs) : SqL K H' a xs := e.seq h
theorem same_t {a : Addr} {xs : List V} (e : Same H H') (h : SqT K H a xs) : SqT K H' a xs := by
  rcases h with h | h
  · exact .inl (same_rd e h)
  · exact .inr h
theorem same_new {p : Addr} {o : HO} (h : H p = none) : Same H (upd H p o) := fun b u e => by
  rw [upd_ne (ne_of_none e h)]
  exact e
mutual
theorem dp_same (e : Same H H') : ∀ (d : PyData) (v : V), Dp K H v d → Dp K H' v d
  | .none, _, h => by cases h; exact .non
  | .bool b, _, h => by cases h; exact .bl b
  | .int i, _, h => by cases h; exact .int i
  | .str x, _, h => by cases h; exact .str x
  | .list ds, _, h => by cases h with | lst hs ha => exact .lst (same_l e hs) (dps_same e ds _ ha)
  | .tuple ds, _, h => by cases h with | tup hs ha => exact .tup (same_t e hs) (dps_same e ds _ ha)
  | .dict ds, _, h => nomatch h
theorem dps_same (e : Same H H') : ∀ (ds : List PyData) (vs : List V), DpAll K H vs ds → DpAll K H' vs ds
  | [], _, h => by cases h; exact .nil
  | d :: ds, _, h => by cases h with | cons h1 h2 => exact .cons (dp_same e d _ h1) (dps_same e ds _ h2)
end
theorem dps_get : ∀ {vs : List V} {ds : List PyData} {i : Nat} {v : V}, DpAll K H vs ds → vs[i]? = some v → ∃ d, ds[i]? = some d ∧ Dp K H v d
  | [], _, i, v, _, e => by simp at e
  | x :: vs, _, 0, v, h, e => by
    cases h with
    | cons h1 h2 =>
      obtain rfl : x = v := by simpa using e
      exact ⟨_, rfl, h1⟩
  | x :: vs, _, i + 1, v, h, e => by
    cases h with
    | cons h1 h2 =>
      obtain ⟨d, q, r⟩ := dps_get (i := i) h2 (by simpa using e)
      exact ⟨d, by simpa using q, r⟩
theorem dps_len : ∀ {vs : List V} {ds : List PyData}, DpAll K H vs ds → vs.length = ds.length
  | [], _, h => by cases h; rfl
  | x :: vs, _, h => by
    cases h with
    | cons h1 h2 => simp [dps_len h2]
theorem dps_at {vs : List V} {ds : List PyData} {i : Nat} {d : PyData} (h : DpAll K H vs ds) (e : ds[i]? = some d) : ∃ v, vs[i]? = some v ∧ Dp K H v d := by
  have hl := dps_len h
  have hi : i < vs.length := by
    rw [hl]
    exact (List.getElem?_eq_some_iff.mp e).1
  obtain ⟨d', q, r⟩ := dps_get (i := i) (v := vs[i]) h (by simp [hi])
  rw [e] at q
  cases q
  exact ⟨_, by simp [hi], r⟩
theorem dps_snoc : ∀ {vs : List V} {ds : List PyData} {v : V} {d : PyData}, DpAll K H vs ds → Dp K H v d → DpAll K H (vs ++ [v]) (ds ++ [d])
  | [], _, v, d, h, r => by cases h; exact .cons r .nil
  | x :: vs, _, v, d, h, r => by
    cases h with
    | cons h1 h2 => exact .cons h1 (dps_snoc h2 r)
theorem dps_int : ∀ (ns : List Int), DpAll K H (ns.map V.int) (ns.map .int)
  | [] => .nil
  | n :: ns => .cons (.int n) (dps_int ns)
theorem dps_int' : ∀ {ns : List Int} {vs : List V}, DpAll K H vs (ns.map .int) → vs = ns.map V.int
  | [], vs, h => by cases h; rfl
  | n :: ns, vs, h => by
    cases h with
    | cons h1 h2 =>
      cases h1
      rw [dps_int' h2]
      rfl
theorem dpt {v : V} {ds : List PyData} (h : Dp K H v (.tuple ds)) : ∃ a xs, v = .ref a ∧ SqT K H a xs ∧ DpAll K H xs ds := by
  cases h with
  | tup h1 h2 => exact ⟨_, _, rfl, h1, h2⟩
theorem dpl {v : V} {ds : List PyData} (h : Dp K H v (.list ds)) : ∃ a xs, v = .ref a ∧ SqL K H a xs ∧ DpAll K H xs ds := by
  cases h with
  | lst h1 h2 => exact ⟨_, _, rfl, h1, h2⟩
theorem dp_tI {a : Addr} {ns : List Int} (h : SqT K H a (ns.map V.int)) : Dp K H (.ref a) (tI ns) := .tup h (dps_int ns)
theorem dp_lI {a : Addr} {ns : List Int} (h : SqL K H a (ns.map V.int)) : Dp K H (.ref a) (lI ns) := .lst h (dps_int ns)
theorem tI_dp {v : V} {ns : List Int} (h : Dp K H v (tI ns)) : ∃ a, v = .ref a ∧ SqT K H a (ns.map V.int) := by
  obtain ⟨a, xs, e, h1, h2⟩ := dpt h
  rw [dps_int' h2] at h1
  exact ⟨a, e, h1⟩
theorem lI_dp {v : V} {ns : List Int} (h : Dp K H v (lI ns)) : ∃ a, v = .ref a ∧ SqL K H a (ns.map V.int) := by
  obtain ⟨a, xs, e, h1, h2⟩ := dpl h
  rw [dps_int' h2] at h1
  exact ⟨a, e, h1⟩
theorem eqvI : ∀ (a b : List Int), PyData.eqvAll (a.map .int) (b.map .int) = decide (a = b)
  | [], [] => by simp [PyData.eqvAll]
  | [], _ :: _ => by simp [PyData.eqvAll]
  | _ :: _, [] => by simp [PyData.eqvAll]
  | x :: a, y :: b => by
    simp only [List.map_cons, PyData.eqvAll, PyData.eqv, eqvI a b]
    by_cases h : x = y <;> by_cases h' : a = b <;> simp [h, h']
theorem eqv_tI (a b : List Int) : PyData.eqv (tI a) (tI b) = decide (a = b) := by
  show PyData.eqv (.tuple _) (.tuple _) = _
  rw [PyData.eqv, eqvI]
theorem eqv_lI (a b : List Int) : PyData.eqv (lI a) (lI b) = decide (a = b) := by
  show PyData.eqv (.list _) (.list _) = _
  rw [PyData.eqv, eqvI]
theorem canI : ∀ (a : List Int), PyData.canLayAll0 (a.map .int) = true
  | [] => by simp [PyData.canLayAll0]
  | x :: a => by simp [PyData.canLayAll0, PyData.canLay0, canI a]
theorem depI : ∀ (a : List Int), PyData.depthAll (a.map .int) = 0
  | [] => by simp [PyData.depthAll]
  | x :: a => by simp [PyData.depthAll, PyData.depth, depI a]
theorem shp_tI (a : List Int) : SeqAt.shaped (tI a) = true := by
  unfold SeqAt.shaped tI
  simp [PyData.canLay0, canI, PyData.depth, depI]
theorem shp_lI (a : List Int) : SeqAt.shaped (lI a) = true := by
  unfold SeqAt.shaped lI
  simp [PyData.canLay0, canI, PyData.depth, depI]
theorem eqv_self {d : PyData} (h : SeqAt.shaped d = true) : PyData.eqv d d = true := SeqAt.eqv_refl _ (SeqAt.canLay_of_shaped h)
end
end KB
end
section
set_option Elab.async false
set_option linter.all false
set_option maxRecDepth 100000
set_option maxHeartbeats 4000000
/-! further rules of the layer; the layer's own with the written part K said (within a comprehension the reading must not name the block's context) -/
namespace KB
open PySem PySem.Spec PyProof.Rows L2
section
variable {X : Cx} {K : PySem.W.Frag} {pos : Pos}
theorem pe_ty_int (hg : Gl X "int") (hm : X.mg "int" = none) : PE X (.Name "int" pos) (tC (.ty "int")) := pe_bltn (u := .type "int") hg hm (by decide +kernel) rfl
theorem pe_ty_bool (hg : Gl X "bool") (hm : X.mg "bool" = none) : PE X (.Name "bool" pos) (tC (.ty "bool")) := pe_bltn (u := .type "bool") hg hm (by decide +kernel) rfl
theorem pe_ty_str (hg : Gl X "str") (hm : X.mg "str" = none) : PE X (.Name "str" pos) (tC (.ty "str")) := pe_bltn (u := .type "str") hg hm (by decide +kernel) rfl
theorem pe_ty_list (hg : Gl X "list") (hm : X.mg "list" = none) : PE X (.Name "list" pos) (tC (.ty "list")) := pe_bltn (u := .type "list") hg hm (by decide +kernel) rfl
theorem pe_ty_tuple (hg : Gl X "tuple") (hm : X.mg "tuple" = none) : PE X (.Name "tuple" pos) (tC (.ty "tuple")) := pe_bltn (u := .type "tuple") hg hm (by decide +kernel) rfl
theorem ixl (h : X.K = K) : IxR X (rIxL K) := by subst h; exact ix_list
theorem ixt (h : X.K = K) : IxR X (rIxT K) := by subst h; exact ix_tup
theorem ixs (h : X.K = K) : IxR X (rIx K) := by subst h; exact ix_seq
theorem sll (h : X.K = K) : SlR X (rSlL K) := by subst h; exact sl_list
theorem slt (h : X.K = K) : SlR X (rSlA K) := by subst h; exact sl_tupA
theorem pe_fldK {e : Expr} {ta : TE} {f : Str} (h : X.K = K) (he : PE X e ta) (hb : attributeBase e f X.env (eval e X.env) = eval e X.env) : PE X (.Attribute e f pos) (tFld K ta f) := by subst h; exact pe_fld he hb
theorem c_isi (h : X.K = K) : CallR X (.builtin "isinstance") (rIsi K) := by subst h; exact call_isi
theorem c_isiT (h : X.K = K) : CallR X (.builtin "isinstance") (rIsiT K) := by subst h; exact call_isiT
def rLenK (K : PySem.W.Frag) : List V → Hp → VK → Prop := fun xs H Q => ∃ p ys, xs = [.ref p] ∧ (SqL K H p ys ∨ SqT K H p ys) ∧ Q (.int ys.length) H
theorem c_len (h : X.K = K) : CallR X (.builtin "len") (rLenK K) := by subst h; exact call_len_seq
def rTupK (K : PySem.W.Frag) : List V → Hp → VK → Prop := fun xs H Q => ∃ p ys, xs = [.ref p] ∧ ((SqL K H p ys ∧ ∀ l, H l = none → Q (.ref l) (upd H l (.tup ys))) ∨ (SqT K H p ys ∧ Q (.ref p) H))
theorem c_tup (h : X.K = K) : CallR X (.type "tuple") (rTupK K) := by subst h; exact call_tuple_of
def rLstK (K : PySem.W.Frag) : List V → Hp → VK → Prop := fun xs H Q => ∃ p ys, xs = [.ref p] ∧ (SqL K H p ys ∨ SqT K H p ys) ∧ ∀ l, H l = none → Q (.ref l) (upd H l (.lst ys))
theorem c_lst (h : X.K = K) : CallR X (.type "list") (rLstK K) := by subst h; exact call_list_of
theorem c_all (h : X.K = K) (hc : X.calm = true) : CallR X (.builtin "all") (rAll K) := by subst h; exact cr_all hc
theorem c_any (h : X.K = K) (hc : X.calm = true) : CallR X (.builtin "any") (rAny K) := by subst h; exact cr_any hc
theorem c_sum (h : X.K = K) (hc : X.calm = true) : CallR X (.builtin "sum") (rSum K) := by subst h; exact cr_sum hc
theorem pil {tg l : Expr} {tl : TE} (h : X.K = K) (hl : PE X l tl) : PI X tg l (iList K tl) := by subst h; exact pi_list hl
theorem pit {tg l : Expr} {tl : TE} (h : X.K = K) (hl : PE X l tl) : PI X tg l (iTup K tl) := by subst h; exact pi_tup hl
theorem pgt {es : List Expr} {k : Nat} {t : TGs} {n : Nat} (hK : X.K = K) (hc : X.calm = true) (h : PGs X es t)
    (hn : (assignEach es X.env).length = n := by rfl) (hst : (assignEach es X.env).findIdx? (·.1) = none := by rfl) : PG X (.Tuple es k pos) (gTup K n t) := by subst hK; exact pg_tup hc h hn hst
theorem o_eqD (h : X.K = K) (hu : X.A.units + 64 < cLine) : OpR X (compareOp .Eq) (rEqD K) := by subst h; exact op_eqD hu
theorem o_neD (h : X.K = K) (hu : X.A.units + 64 < cLine) : OpR X (compareOp .NotEq) (rNeD K) := by subst h; exact op_neD hu
theorem o_catA (h : X.K = K) : OpR X (binaryOp .Add) (rCatA K) := by subst h; exact op_catA
theorem pa_starK {e : Expr} {es : List Expr} {te : TE} {t : TA} {p : Pos} (h : X.K = K) (he : PE X e te) (hr : PA X es t) (hs : starEach (.Starred e p :: es) X.env = (true, eval e X.env) :: starEach es X.env := by rfl) : PA X (.Starred e p :: es) (StX.tStar K te t) := by subst h; exact StX.pa_star he hr hs
theorem pi_zipK {e e2 : Expr} {ta : TA} {p pos tpos : Pos} {elts : List Expr} {kk : Nat} (h : X.K = K) (hg : Gl X "zip") (hm : X.mg "zip" = none) (ha : PA X [e, e2] ta)
    (hs : starEach [e, e2] X.env = (false, eval e X.env) :: starEach [e2] X.env := by rfl) (hpl : (backTo pos (starEach [e2] X.env)).any (·.1) = false := by rfl) :
    PI X (.Tuple elts kk tpos) (.Call (.Name "zip" p) [e, e2] [] pos) (RZ.iZipA K ta) := by subst h; exact RZ.pi_zipA hg hm ha hs hpl
end
end KB
end
section
set_option Elab.async false
set_option linter.all false
set_option maxRecDepth 100000
set_option maxHeartbeats 4000000
/-! data that never changes (tuples, instances), what stays of a heap, comprehensions by a relation -/
namespace KB
open PySem PySem.Spec PyProof.Rows L2
/-- what is never changed once it stands -/
def Imm : HO → Prop
  | .tup _ => True
  | .ins _ _ _ => True
  | _ => False
/-- what never changes stays -/
def Stab (H H' : Hp) : Prop := ∀ b o, H b = some o → Imm o → H' b = some o
theorem Stab.refl (H : Hp) : Stab H H := fun _ _ h _ => h
theorem Stab.trans {H H1 H2 : Hp} (a : Stab H H1) (b : Stab H1 H2) : Stab H H2 := fun c o h i => b c o (a c o h i) i
theorem Stab.same {H H' : Hp} (e : Same H H') : Stab H H' := fun b o h _ => e b o h
theorem Stab.new {H : Hp} {p : Addr} {o : HO} (h : H p = none) : Stab H (upd H p o) := Stab.same (same_new h)
theorem Stab.put {H : Hp} {p : Addr} {o u : HO} (h : H p = some u) (n : ¬ Imm u) : Stab H (upd H p o) := fun b q e i => by
  by_cases z : b = p
  · subst z
    rw [h] at e
    cases e
    exact absurd i n
  · rw [upd_ne z]
    exact e
theorem imm_lst {xs : List V} : ¬ Imm (.lst xs) := fun z => z
theorem imm_dK {xs : List (Key × V)} : ¬ Imm (.dK xs) := fun z => z
mutual
/-- v is this data, made of tuples -/
inductive Tv (H : Hp) : V → PyData → Prop
  | non : Tv H .non .none
  | bl (b : Bool) : Tv H (.bl b) (.bool b)
  | int (i : Int) : Tv H (.int i) (.int i)
  | str (x : Str) : Tv H (.str x) (.str x)
  | tup {a : Addr} {xs : List V} {ds : List PyData} : H a = some (.tup xs) → TvAll H xs ds → Tv H (.ref a) (.tuple ds)
inductive TvAll (H : Hp) : List V → List PyData → Prop
  | nil : TvAll H [] []
  | cons {v : V} {vs : List V} {d : PyData} {ds : List PyData} : Tv H v d → TvAll H vs ds → TvAll H (v :: vs) (d :: ds)
end
section
variable {K : PySem.W.Frag} {H H' : Hp}
mutual
theorem tv_stab (e : Stab H H') : ∀ (d : PyData) (v : V), Tv H v d → Tv H' v d
  | .none, _, h => by cases h; exact .non
  | .bool b, _, h => by cases h; exact .bl b
  | .int i, _, h => by cases h; exact .int i
  | .str x, _, h => by cases h; exact .str x
  | .list ds, _, h => nomatch h
  | .tuple ds, _, h => by cases h with | tup hs ha => exact .tup (e _ _ hs trivial) (tvs_stab e ds _ ha)
  | .dict ds, _, h => nomatch h
theorem tvs_stab (e : Stab H H') : ∀ (ds : List PyData) (vs : List V), TvAll H vs ds → TvAll H' vs ds
  | [], _, h => by cases h; exact .nil
  | d :: ds, _, h => by cases h with | cons h1 h2 => exact .cons (tv_stab e d _ h1) (tvs_stab e ds _ h2)
end
mutual
theorem tv_dp : ∀ (d : PyData) (v : V), Tv H v d → Dp K H v d
  | .none, _, h => by cases h; exact .non
  | .bool b, _, h => by cases h; exact .bl b
  | .int i, _, h => by cases h; exact .int i
  | .str x, _, h => by cases h; exact .str x
  | .list ds, _, h => nomatch h
  | .tuple ds, _, h => by cases h with | tup hs ha => exact .tup (SqT.of hs) (tvs_dp ds _ ha)
  | .dict ds, _, h => nomatch h
theorem tvs_dp : ∀ (ds : List PyData) (vs : List V), TvAll H vs ds → DpAll K H vs ds
  | [], _, h => by cases h; exact .nil
  | d :: ds, _, h => by cases h with | cons h1 h2 => exact .cons (tv_dp d _ h1) (tvs_dp ds _ h2)
end
theorem Tv.stab {v : V} {d : PyData} (h : Tv H v d) (e : Stab H H') : Tv H' v d := tv_stab e d v h
theorem TvAll.stab {v : List V} {d : List PyData} (h : TvAll H v d) (e : Stab H H') : TvAll H' v d := tvs_stab e d v h
theorem Tv.same {v : V} {d : PyData} (h : Tv H v d) (e : Same H H') : Tv H' v d := h.stab (.same e)
theorem Tv.dp {v : V} {d : PyData} (h : Tv H v d) : Dp K H v d := tv_dp d v h
theorem tvs_len : ∀ {vs : List V} {ds : List PyData}, TvAll H vs ds → vs.length = ds.length
  | [], _, h => by cases h; rfl
  | x :: vs, _, h => by
    cases h with
    | cons h1 h2 => simp [tvs_len h2]
theorem tvs_get : ∀ {vs : List V} {ds : List PyData} {i : Nat} {v : V}, TvAll H vs ds → vs[i]? = some v → ∃ d, ds[i]? = some d ∧ Tv H v d
  | [], _, i, v, _, e => by simp at e
  | x :: vs, _, 0, v, h, e => by
    cases h with
    | cons h1 h2 =>
      obtain rfl : x = v := by simpa using e
      exact ⟨_, rfl, h1⟩
  | x :: vs, _, i + 1, v, h, e => by
    cases h with
    | cons h1 h2 =>
      obtain ⟨d, q, r⟩ := tvs_get (i := i) h2 (by simpa using e)
      exact ⟨d, by simpa using q, r⟩
theorem tvs_at {vs : List V} {ds : List PyData} {i : Nat} {d : PyData} (h : TvAll H vs ds) (e : ds[i]? = some d) : ∃ v, vs[i]? = some v ∧ Tv H v d := by
  have hl := tvs_len h
  have hi : i < vs.length := by
    rw [hl]
    exact (List.getElem?_eq_some_iff.mp e).1
  obtain ⟨d', q, r⟩ := tvs_get (i := i) (v := vs[i]) h (by simp [hi])
  rw [e] at q
  cases q
  exact ⟨_, by simp [hi], r⟩
theorem tvs_mk : ∀ {vs : List V} {ds : List PyData}, vs.length = ds.length → (∀ (i : Nat) (v : V) (d : PyData), vs[i]? = some v → ds[i]? = some d → Tv H v d) → TvAll H vs ds
  | [], [], _, _ => .nil
  | [], d :: ds, h, _ => by simp at h
  | v :: vs, [], h, _ => by simp at h
  | v :: vs, d :: ds, h, q => .cons (q 0 v d rfl rfl) (tvs_mk (by simpa using h) fun i v' d' e1 e2 => q (i + 1) v' d' (by simpa using e1) (by simpa using e2))
theorem tvs_int : ∀ (ns : List Int), TvAll H (ns.map V.int) (ns.map .int)
  | [] => .nil
  | n :: ns => .cons (.int n) (tvs_int ns)
theorem tvs_int' : ∀ {ns : List Int} {vs : List V}, TvAll H vs (ns.map .int) → vs = ns.map V.int
  | [], vs, h => by cases h; rfl
  | n :: ns, vs, h => by
    cases h with
    | cons h1 h2 =>
      cases h1
      rw [tvs_int' h2]
      rfl
theorem tvt {v : V} {ds : List PyData} (h : Tv H v (.tuple ds)) : ∃ a xs, v = .ref a ∧ H a = some (.tup xs) ∧ TvAll H xs ds := by
  cases h with
  | tup h1 h2 => exact ⟨_, _, rfl, h1, h2⟩
theorem tv_tI {a : Addr} {ns : List Int} (h : H a = some (.tup (ns.map V.int))) : Tv H (.ref a) (tI ns) := .tup h (tvs_int ns)
theorem tI_tv {v : V} {ns : List Int} (h : Tv H v (tI ns)) : ∃ a, v = .ref a ∧ H a = some (.tup (ns.map V.int)) := by
  obtain ⟨a, xs, e, h1, h2⟩ := tvt h
  rw [tvs_int' h2] at h1
  exact ⟨a, e, h1⟩
theorem tyx_t {a : Addr} {xs : List V} (h : H a = some (.tup xs)) : TyX K H (.ref a) (.type "tuple") := .base (.tup h)
theorem tyx_l {a : Addr} {xs : List V} (h : H a = some (.lst xs)) : TyX K H (.ref a) (.type "list") := .base (.lst h)
end
/-! ### comprehensions: Z what holds of the heap while it runs, R i what the i-th item is -/
theorem lc_map {J : It} {n : Nat} {G : Hp → Prop} {Y : Nat → Hp → V → Hp → Prop} (W' : Walk J n G Y) {g : TG} {te : TE} {vs : List Nat} {σ : L2.St} {H1 : Hp} {D : Addr} {Qd : Hp → Prop}
    (Z : Hp → Prop) (R : Nat → V → Hp → Prop) (h0 : Z (upd H1 D (.lst []))) (hG : ∀ H, Z H → G H) (hR : ∀ i y H H', R i y H → Stab H H' → R i y H')
    (hZ : ∀ H xs ys, Z H → H D = some (.lst xs) → Z (upd H D (.lst ys))) (hn : n ≤ sizeLine)
    (hs : ∀ i x H H' ys, i < n → Z H → H D = some (.lst ys) → ys.length = i → Y i H x H' → ∀ Q : VK, (∀ y H4, Z H4 → H4 D = some (.lst ys) → Stab H H4 → R i y H4 → Q y H4) →
      g x (wipe σ vs) H' fun σ2 H2 => wipe σ2 vs = wipe σ vs ∧ te σ2 H2 Q)
    (hd : ∀ ys H, Z H → H D = some (.lst ys) → ys.length = n → (∀ i y, ys[i]? = some y → R i y H) → Qd H) :
    ∃ W : Nat → Nat → Hp → Prop, (∃ m, W 0 m (upd H1 D (.lst []))) ∧ ∀ i m H, W i m H →
      (J.stop i H ∧ Qd H) ∨ (J.go i H ∧ ∃ Nx : Hp → Prop, (∀ H', Nx H' → ∃ m', m' < m ∧ W (i + 1) m' H') ∧ ∀ x H', J.yld i H x H' → g x (wipe σ vs) H' fun σ2 H2 => wipe σ2 vs = wipe σ vs ∧ tYes σ2 H2 fun b H3 =>
        if b = true then te σ2 H3 fun y H4 => ∃ acc, H4 D = some (.lst acc) ∧ acc.length < sizeLine ∧ Nx (upd H4 D (.lst (acc ++ [y]))) else Nx H3) := by
  refine lc_it W' (tt := tYes) (fun i H => Z H ∧ ∃ ys, H D = some (.lst ys) ∧ ys.length = i ∧ ∀ j y, ys[j]? = some y → R j y H) ⟨h0, [], upd_same, rfl, fun j y e => by simp at e⟩ (fun i H _ h => hG H h.1) ?_ (fun H h => ?_)
  · rintro i x H H' hi ⟨hz, ys, hy, hl, hr⟩ y
    refine hs i x H H' ys hi hz hy hl y _ (fun v H4 z4 d4 st rv => ⟨ys, d4, Nat.lt_of_lt_of_le (by omega) hn, hZ _ _ _ z4 d4, ys ++ [v], upd_same, by simp [hl], fun j w e => ?_⟩)
    have st2 : Stab H4 (upd H4 D (.lst (ys ++ [v]))) := Stab.put d4 imm_lst
    by_cases hj : j < ys.length
    · rw [List.getElem?_append_left hj] at e
      exact hR _ _ _ _ (hR _ _ _ _ (hr j w e) st) st2
    · rw [List.getElem?_append_right (by omega)] at e
      have e0 : j - ys.length = 0 := by
        by_cases z : j - ys.length = 0
        · exact z
        · rw [List.getElem?_eq_none (by simp; omega)] at e
          cases e
      rw [e0] at e
      obtain rfl : v = w := by simpa using e
      have ej : j = i := by omega
      rw [ej]
      exact hR _ _ _ _ rv st2
  · obtain ⟨hz, ys, hy, hl, hr⟩ := h
    exact hd ys H hz hy hl hr
/-- .. where nothing that stands is changed -/
theorem lc_pure {J : It} {n : Nat} {G : Hp → Prop} {Y : Nat → Hp → V → Hp → Prop} (W' : Walk J n G Y) {g : TG} {te : TE} {vs : List Nat} {σ : L2.St} {H1 : Hp} {D : Addr} {Qd : Hp → Prop}
    (R : Nat → V → Hp → Prop) (hD : H1 D = none) (hG : ∀ H, Same H1 H → G H) (hR : ∀ i y H H', R i y H → Stab H H' → R i y H') (hn : n ≤ sizeLine)
    (hs : ∀ i x H H', i < n → Same H1 H → Y i H x H' → ∀ Q : VK, (∀ y H4, Same H H4 → R i y H4 → Q y H4) → g x (wipe σ vs) H' fun σ2 H2 => wipe σ2 vs = wipe σ vs ∧ te σ2 H2 Q)
    (hd : ∀ ys H, Same H1 H → H D = some (.lst ys) → ys.length = n → (∀ i y, ys[i]? = some y → R i y H) → Qd H) :
    ∃ W : Nat → Nat → Hp → Prop, (∃ m, W 0 m (upd H1 D (.lst []))) ∧ ∀ i m H, W i m H →
      (J.stop i H ∧ Qd H) ∨ (J.go i H ∧ ∃ Nx : Hp → Prop, (∀ H', Nx H' → ∃ m', m' < m ∧ W (i + 1) m' H') ∧ ∀ x H', J.yld i H x H' → g x (wipe σ vs) H' fun σ2 H2 => wipe σ2 vs = wipe σ vs ∧ tYes σ2 H2 fun b H3 =>
        if b = true then te σ2 H3 fun y H4 => ∃ acc, H4 D = some (.lst acc) ∧ acc.length < sizeLine ∧ Nx (upd H4 D (.lst (acc ++ [y]))) else Nx H3) :=
  lc_map W' (fun H => Same H1 H) R (same_new hD) hG hR (fun H xs ys z d b o e => by rw [upd_ne (ne_of_none e hD)]; exact z b o e) hn
    (fun i x H H' ys hi z d _ y Q q => hs i x H H' hi z y Q fun v H4 s4 r => q v H4 (z.trans s4) (s4 _ _ d) (.same s4) r) hd
theorem same_put {H H' : Hp} {p : Addr} {o : HO} (e : Same H H') (h : H p = none) : Same H (upd H' p o) := fun b u q => by
  rw [upd_ne (ne_of_none q h)]
  exact e b u q
/-- as a list of ints, where each item is an int -/
theorem ints_of {ys : List V} {f : Nat → Int} {n : Nat} (hl : ys.length = n) (h : ∀ (i : Nat) (y : V), ys[i]? = some y → y = V.int (f i)) : ys = ((List.range n).map f).map V.int := by
  apply List.ext_getElem?
  intro i
  by_cases hi : i < n
  · have e : ys[i]? = some (ys[i]'(by omega)) := by simp [hl, hi]
    rw [e, h i _ e]
    simp [hi]
  · rw [List.getElem?_eq_none (by omega), List.getElem?_eq_none (by simp; omega)]
theorem walk_zipT {K : PySem.W.Frag} {a b : Addr} {xs ys : List V} {n : Nat} (hn : n = min xs.length ys.length) : Walk (RZ.ItzT K a b) n (fun H => SqT K H a xs ∧ SqT K H b ys) (YPair (fun i => xs[i]?) (fun i => ys[i]?)) := by
  subst hn
  refine ⟨fun i H hi q => ?_, fun _ q => ⟨xs, ys, q.1, q.2, by omega⟩, fun i H v H' _ q y => ?_⟩
  · have h1 : i < xs.length := by omega
    have h2 : i < ys.length := by omega
    exact ⟨xs, ys, xs[i], ys[i], q.1, q.2, by simp [h1], by simp [h2]⟩
  · obtain ⟨T, x, z, h1, h2, h3, h4, h5⟩ := y
    exact ⟨T, x, z, h1, h2, h3, h4 xs q.1, h5 ys q.2⟩
end KB
end
section
set_option Elab.async false
set_option linter.all false
set_option maxRecDepth 100000
set_option maxHeartbeats 4000000
namespace KB
open PySem PySem.Spec PyProof.Rows L2
section
variable {K : PySem.W.Frag} {H : Hp} {σ : L2.St}
theorem kit_ll : PySem.W.kitAny K (.type "list") [.type "list", .type "tuple"] = some true :=
  kitAny_cons (b := true) (kit_ty (by decide +kernel)) (fun z => nomatch z) (fun _ => rfl)
theorem kit_tt : PySem.W.kitAny K (.type "tuple") [.type "list", .type "tuple"] = some true :=
  kitAny_cons (b := false) (kit_ty (by decide +kernel)) (fun _ => kitAny_cons (b := true) (kit_ty (by decide +kernel)) (fun z => nomatch z) (fun _ => rfl)) (fun z => nomatch z)
theorem kit_nn : PySem.W.kitAny K (.type "NoneType") [.type "list", .type "tuple"] = some false :=
  kitAny_cons (b := false) (kit_ty (by decide +kernel)) (fun _ => kitAny_cons (b := false) (kit_ty (by decide +kernel)) (fun _ => kitAny_nil) (fun z => nomatch z)) (fun z => nomatch z)
theorem kit_ss : PySem.W.kitAny K (.type "str") [.type "list", .type "tuple"] = some false :=
  kitAny_cons (b := false) (kit_ty (by decide +kernel)) (fun _ => kitAny_cons (b := false) (kit_ty (by decide +kernel)) (fun _ => kitAny_nil) (fun z => nomatch z)) (fun z => nomatch z)
theorem kit_ii : PySem.W.kitAny K (.type "int") [.type "list", .type "tuple"] = some false :=
  kitAny_cons (b := false) (kit_ty (by decide +kernel)) (fun _ => kitAny_cons (b := false) (kit_ty (by decide +kernel)) (fun _ => kitAny_nil) (fun z => nomatch z)) (fun z => nomatch z)
theorem kit_dd : PySem.W.kitAny K (.type "dict") [.type "list", .type "tuple"] = some false :=
  kitAny_cons (b := false) (kit_ty (by decide +kernel)) (fun _ => kitAny_cons (b := false) (kit_ty (by decide +kernel)) (fun _ => kitAny_nil) (fun z => nomatch z)) (fun z => nomatch z)
/-- isinstance(v, (list, tuple)), v in slot i -/
theorem isi_lt {i : Nat} {v : V} {t : Value} {b : Bool} {Q : VK} (hv : σ[i]? = some (some v)) (ty : ∀ H', Same H H' → TyX K H' v t) (hk : PySem.W.kitAny K t [.type "list", .type "tuple"] = some b)
    (q : ∀ p, H p = none → Q (.bl b) (upd H p (.tup [.ty "list", .ty "tuple"]))) :
    tCB (rIsiT K) (tCons (tVar i) (tCons (tTup (tCons (tC (.ty "list")) (tCons (tC (.ty "tuple")) tNil))) tNil)) σ H Q :=
  ⟨v, hv, by show 2 ≤ sizeLine; decide, fun p hp => ⟨v, p, _, t, _, b, rfl, upd_same, .cons (.ty _) (.cons (.ty _) .nil), ty _ (same_new hp), hk, q p hp⟩⟩
end
end KB
end
section
set_option Elab.async false
set_option linter.all false
set_option maxRecDepth 100000
set_option maxHeartbeats 4000000
/-! t * k for a tuple, k from 1 on -/
namespace KB
open PySem PySem.Spec PyProof.Rows L2
/-- t * 1 is t -/
theorem tup_one (l : Addr) (its : Array Value) (n : Nat) (dd : Option Addr) (sl : Array (Option Value)) (u : Tok) :
    Meets (Builtin.«tuple.__mul__» ⟨[.ref l, .int 1 u], []⟩) (fun _ R s => s.heap.get? l = some { cls := .type "tuple", dict := dd, data := .seq its n, slots := sl } ∧ R (.ok (.ret (.ref l))) s) :=
  .of_wp fun prog w A R s h => by
    obtain ⟨hp, g, d, tk, os⟩ := s
    obtain ⟨hl, h⟩ := h
    have f1 := AutoSeq1.idx_int
    have c1 : (its.isEmpty || (1 : Int) == 1) = true := by simp
    wp_walk using wpAny_loadPart' hl
    exact ⟨_, rfl, h⟩
/-- (x,) * k -/
def rRepK (K : PySem.W.Frag) : R2 := fun x y H Q => ∃ l k v, x = .ref l ∧ y = .int k ∧ SqT K H l [v] ∧ 1 ≤ k ∧ k ≤ 1000 ∧ (k = 1 → Q (.ref l) H) ∧ (2 ≤ k → ∀ p, H p = none → Q (.ref p) (upd H p (.tup (List.replicate k.toNat v))))
theorem flat_one {α : Type} (v : α) : ∀ n : Nat, (List.replicate n [v]).flatten = List.replicate n v
  | 0 => rfl
  | n + 1 => by rw [List.replicate_succ, List.flatten_cons, flat_one v n]; rfl
theorem o_repA {X : Cx} {K : PySem.W.Frag} (hK : X.K = K) : OpR X (binaryOp .Mult) (rRepK K) := by
  subst hK
  intro pins s σ H x y v u Q I rx ry h
  obtain ⟨l, k, z, rfl, rfl, hT, h1, h2, q1, q2⟩ := h
  by_cases e : k = 1
  · subst e
    cases rx
    obtain ⟨t, rfl⟩ := ry
    obtain ⟨its, r, ⟨⟨cls, dd, data, sl⟩, ho, hc, n, hd⟩, hs⟩ := I.tuple hT
    simp only at hc hd
    subst hc hd
    exact wpAny_binaryOp_repeat_ref (T := "tuple") (U := "int") (by decide) ⟨_, ho, rfl⟩ (fun s' => typeIs_int s' 1 t) noFill_tuple_mul F.fills_int_mul F.slot_int_rmul repeat_tuple F.slot_int_index.lookup
      (call_meets F.slot_int_rmul (typeIs_int s 1 t) F.entry_int_rmul (F.args_int_rmul_2 _ _) (int_rmul_tuple 1 t l its.toArray n dd sl)
        ⟨ho, rfl, ⟨_, ho, rfl⟩, call_meets F.slot_tuple_mul ⟨_, ho, rfl⟩ F.entry_tuple_mul (F.args_tuple_mul_2 _ _) (tup_one l its.toArray n dd sl t) ⟨ho, ⟨.ref l, H, I.tok _, rfl, q1 rfl⟩⟩⟩)
  · refine op_repT pins s σ H _ _ _ _ Q I rx ry ⟨l, k, [z], rfl, rfl, hT, by simp, by omega, h2, by simp, fun p hp => ?_⟩
    rw [flat_one]
    exact q2 (by omega) p hp
end KB
end
section
set_option Elab.async false
set_option linter.all false
set_option maxRecDepth 100000
set_option maxHeartbeats 4000000
/-! enumerate(t), t a tuple -/
namespace KB
open PySem PySem.Spec PyProof.Rows L2
open AutoSeq1 (wpAny_loadPart')
theorem enum_newT (l : Addr) (its : Array Value) :
    Meets (Builtin.«enumerate.__new__» ⟨[.type "enumerate", .ref l], []⟩) (fun _ R s => s.heap.IsTuple l its ∧
      R (.ok (.ret (.ref (s.heap.push { cls := .type "tuple_iterator", data := .fields #[.ref l, .int 0 0] }).objs.size)))
        { s with heap := (s.heap.push { cls := .type "tuple_iterator", data := .fields #[.ref l, .int 0 0] }).push { cls := .type "enumerate", data := .fields #[.none, .bool false, .ref s.heap.objs.size, rawInt 0, .none, .none] } }) :=
  .of_wp fun prog w A R s h => by
    obtain ⟨hp, g, d, tk, os⟩ := s
    obtain ⟨hl, h⟩ := h
    have hsub := sub_enumerate
    have q1 : ∀ {A' : Around} {E : Value → Shared → Prop} {Q : Value → Shared → Prop}, Q (.ref hp.objs.size) ⟨hp.push { cls := .type "tuple_iterator", data := .fields #[.ref l, .int 0 0] }, g, d, tk, os⟩ → wpAny (model prog w) A' (pyIter (.ref l)) Q E ⟨hp, g, d, tk, os⟩ :=
      fun q => wpAny_pyIter_tuple hl q
    wp_walk using q1
    refine wpAny_stack_any fun st => wpAny_pure ?_
    split
    · rename_i c _ _ _ _ _
      cases (c == Value.type "enumerate") <;> (wp_walk using q1; exact ⟨_, rfl, h⟩)
    · wp_walk using q1
      exact ⟨_, rfl, h⟩
section
variable {prog : Program} {w : World} {A : Around} {E : Value → Shared → Prop} {s : Shared}
theorem call_enumT {l : Addr} {its : Array Value} {Q : Value → Shared → Prop} (hL : s.heap.IsTuple l its)
    (h : ∀ h', IsEnum h' (s.heap.objs.size + 1) s.heap.objs.size 0 .none → h'.IsTupleIter s.heap.objs.size l 0 → (∀ b o, s.heap.get? b = some o → h'.get? b = some o) → Q (.ref (s.heap.objs.size + 1)) { s with heap := h' }) :
    wpAny (model prog w) A (call (.type "enumerate") [.ref l]) Q E s := by
  refine callType_new F.called_enumerate (by decide) (F.typeCall_enumerate_1 _) (F.newCall_enumerate_1 _) (fun obj => F.args_object_init_2 obj _) F.entry_enumerate_new (enum_newT l its) ⟨hL, ?_⟩
  have hz : (s.heap.push { cls := .type "tuple_iterator", data := .fields #[.ref l, .int 0 0] }).objs.size = s.heap.objs.size + 1 := Heap.size_push ..
  show _ ∧ _
  rw [hz]
  have he : IsEnum ((s.heap.push { cls := .type "tuple_iterator", data := .fields #[.ref l, .int 0 0] }).push { cls := .type "enumerate", data := .fields #[.none, .bool false, .ref s.heap.objs.size, rawInt 0, .none, .none] }) (s.heap.objs.size + 1) s.heap.objs.size 0 .none := by
    have q := Heap.get?_push_size (s.heap.push { cls := .type "tuple_iterator", data := .fields #[.ref l, .int 0 0] }) (o := { cls := .type "enumerate", data := .fields #[.none, .bool false, .ref s.heap.objs.size, rawInt 0, .none, .none] }) rfl
    rw [hz] at q
    exact q
  exact ⟨⟨_, he, rfl⟩, h _ he ⟨_, Heap.get?_push_of_some _ (Heap.get?_push_size _ rfl), rfl, rfl⟩ fun b o x => Heap.get?_push_of_some _ (Heap.get?_push_of_some _ x)⟩
end
/-- the tuple at a as it stands at each turn, its items with their numbers in new pairs -/
def ItEt (K : PySem.W.Frag) (a : Addr) : It where
  go i H := ∃ (xs : List V) (x : V), SqT K H a xs ∧ xs[i]? = some x
  yld i H v H' := ∃ t x, v = .ref t ∧ H t = none ∧ H' = upd H t (.tup [.int (i : Nat), x]) ∧ ∀ xs, SqT K H a xs → xs[i]? = some x
  stop i H := ∃ xs : List V, SqT K H a xs ∧ xs.length = i
theorem turn_enT {P : Program} {w : World} {K : PySem.W.Frag} {elts : List Expr} {kk : Nat} {tpos : Pos} (a e it : Addr) (hai : a ≠ it) (hae : e ≠ a) :
    Turn P w K (.Tuple elts kk tpos) (ItEt K a) [e, it] e (fun i h => (∃ old, IsEnum h e it ((i : Nat) : Int) old) ∧ h.IsTupleIter it a i ∧ e ≠ it) where
  mem := by simp
  obj := fun i h st b hb => by
    obtain ⟨⟨old, he⟩, ⟨o, ho, hc, hd⟩, _⟩ := st
    rcases (show b = e ∨ b = it by simpa using hb) with z | z
    · rw [z]
      exact ⟨_, he, fun v q => nomatch q⟩
    · rw [z]
      exact ⟨o, ho, fun v q => by rw [hd] at q; cases q⟩
  keep := fun i h h' st k => ⟨⟨st.1.choose, k e (by simp) _ st.1.choose_spec⟩, st.2.1.at fun o q => k it (by simp) o q, st.2.2⟩
  item := by
    intro X hP hw hK hc i pins s σ H E I hf st hg
    subst hP hw hK
    obtain ⟨⟨old, he⟩, hit, hne⟩ := st
    obtain ⟨xs, x, hq, hx⟩ := hg
    obtain ⟨its, rv, p, hz⟩ := I.tuple hq
    obtain ⟨u, hu, ru⟩ := rv.get hx
    have hel : e < s.heap.objs.size := Heap.lt_size he
    have hil : it < s.heap.objs.size := by
      obtain ⟨_, q, _⟩ := hit
      exact Heap.lt_size q
    have hlt : i < its.toArray.size := by
      have := (List.getElem?_eq_some_iff.mp hu).1
      simpa using this
    refine wpAny_pyNext_enum_itemD (Draws.tuple (prog := X.prog) (w := X.w) (A := X.A.in1) (I.ok.hd hc) it a hai its.toArray) he ⟨hit, p⟩ hlt hne (by simp [hne, hae]) fun x' h' tk px ho hst' hT hsz hk => ?_
    obtain rfl : x' = u := by
      have e1 : its[i]? = some x' := by simpa using px
      rw [hu] at e1
      exact (Option.some.inj e1).symm
    refine ⟨_, rfl, wpAny_letOwnedTupleGo_enum (s := { s with heap := h', toks := tk + 1 }) ho fun h'' he' sb => ?_⟩
    have hT2 : h''.get? s.heap.objs.size = some { cls := .type "tuple", data := .seq #[.int i tk, x'] } := (sb.2 _ (Nat.ne_of_gt hel)).trans hT
    have new : ObjOk X.prog X.w (upd H s.heap.objs.size (.tup [.int (i : Nat), x])) h'' s.heap.objs.size (.tup [.int (i : Nat), x]) :=
      ⟨by show 2 ≤ sizeLine; decide, [.int i tk, x'], .cons ⟨_, rfl⟩ (.cons ru .nil), ⟨_, hT2, rfl, _, rfl⟩⟩
    have I1 : Inv X pins σ (upd H s.heap.objs.size (.tup [.int (i : Nat), x])) { s with heap := h'', toks := tk + 1 } :=
      I.turnedNew (ch := [e, it]) (fun b ob hb q => (sb.2 b (fun z => hb (by simp [z]))).trans (hk b ob (fun z => hb (by simp [z])) (fun z => hb (by simp [z])) q)) hf (Nat.le_refl _) new
    refine ⟨.ref s.heap.objs.size, _, I1, rfl, ⟨_, x, rfl, I.hok.fresh (Nat.le_refl _), rfl, fun ys hy => by rw [I.tuple_inj hy hq]; exact hx⟩, ⟨⟨x', ?_⟩, hst'.1.at fun o q => (sb.2 it (Ne.symm hne)).trans q, hne⟩, fun b hb => ?_⟩
    · rw [show ((i + 1 : Nat) : Int) = (i : Int) + 1 by omega]
      exact he'
    · have hb' : b < s.heap.objs.size := by
        rcases (show b = e ∨ b = it by simpa using hb) with z | z
        · exact z ▸ hel
        · exact z ▸ hil
      rw [upd_ne (Nat.ne_of_lt hb')]
      exact (hf b hb).1
  done := by
    intro X hP hw hK hc i pins s σ H E I hf st hg
    subst hP hw hK
    obtain ⟨⟨old, he⟩, hit, hne⟩ := st
    obtain ⟨xs, hq, hx⟩ := hg
    obtain ⟨its, rv, p, hz⟩ := I.tuple hq
    obtain ⟨f0, f1, f2, f3, f4, f5⟩ := hf it (by simp)
    have hl : its.toArray.size = i := by
      have := rv.length
      simp
      omega
    subst hl
    exact wpAny_pyNext_enum_endD (Draws.tuple (prog := X.prog) (w := X.w) (A := X.A.in1) (I.ok.hd hc) it a hai its.toArray) he ⟨hit, p⟩ fun h' eb => ⟨rfl, I.turned (t' := s.toks) (fun b o hb q => eb b o hb q) f0 f1 f3 f4 f5⟩
  self := fun A i s Q E st h => wpAny_pyIter_enum st.1.choose_spec h
def iEnT (K : PySem.W.Frag) (ta : TA) : TI := fun σ H R => ta σ H fun vs H1 => ∃ a xs, vs = [.ref a] ∧ SqT K H1 a xs ∧ R (ItEt K a) H1
theorem pi_enT {X : Cx} {K : PySem.W.Frag} {e : Expr} {ta : TA} {p pos tpos : Pos} {elts : List Expr} {kk : Nat} (hK : X.K = K) (hg : Gl X "enumerate") (hm : X.mg "enumerate" = none) (ha : PA X [e] ta) (hs : starEach [e] X.env = [(false, eval e X.env)] := by rfl) :
    PI X (.Tuple elts kk tpos) (.Call (.Name "enumerate" p) [e] [] pos) (iEnT K ta) := by
  subst hK
  refine ⟨fun pins s σ H R I h => ?_⟩
  refine Call_ (ld_blt I hg hm boot_enumerate (callWith_type1 (thn (ha.run pos pins s σ H _ I h) fun us s1 ⟨vs, H1, I1, r1, q1⟩ => ?_) hs rfl))
  obtain ⟨a, xs, ex, hq, q⟩ := q1
  subst ex
  obtain ⟨u, rfl, rx⟩ := vals1 r1
  cases rx
  obtain ⟨its, rv, p', hz⟩ := I1.tuple hq
  have hla : a < s1.heap.objs.size := by
    obtain ⟨o, ho, _⟩ := p'
    exact Heap.lt_size ho
  refine call_enumT p' fun h' he hit hk => wpAny_pyIter_enum he ?_
  have I2 : Inv X pins σ H1 { s1 with heap := h' } := I1.kept (t' := s1.toks) hk
  refine ⟨s1.heap.objs.size + 1, [s1.heap.objs.size + 1, s1.heap.objs.size], _, _, H1, rfl, I2, turn_enT a (s1.heap.objs.size + 1) s1.heap.objs.size (Nat.ne_of_lt hla) (Nat.ne_of_gt (Nat.lt_succ_of_lt hla)), ⟨⟨.none, he⟩, hit, Nat.succ_ne_self _⟩, fun b hb => ?_, q⟩
  have hle : s1.heap.objs.size ≤ b := by
    rcases (show b = s1.heap.objs.size + 1 ∨ b = s1.heap.objs.size by simpa using hb) with z | z
    · rw [z]
      exact Nat.le_add_right _ _
    · rw [z]
      exact Nat.le_refl _
  exact I1.fpOk hle (I1.hok.fresh hle)
theorem walk_enT {K : PySem.W.Frag} {a : Addr} {xs : List V} : Walk (ItEt K a) xs.length (fun H => SqT K H a xs) (YPair (fun i => some (.int (i : Nat))) (fun i => xs[i]?)) := by
  refine ⟨fun i _ hi q => ⟨xs, xs[i], q, by simp [hi]⟩, fun _ q => ⟨xs, q, rfl⟩, fun i H v H' _ q y => ?_⟩
  obtain ⟨t, x, h1, h2, h3, h4⟩ := y
  exact ⟨t, .int (i : Nat), x, h1, h2, h3, rfl, h4 xs q⟩
theorem pi_enL {X : Cx} {K : PySem.W.Frag} {e : Expr} {ta : TA} {p pos tpos : Pos} {elts : List Expr} {kk : Nat} (hK : X.K = K) (hg : Gl X "enumerate") (hm : X.mg "enumerate" = none) (ha : PA X [e] ta) (hs : starEach [e] X.env = [(false, eval e X.env)] := by rfl) :
    PI X (.Tuple elts kk tpos) (.Call (.Name "enumerate" p) [e] [] pos) (iEnum K ta) := by
  subst hK
  exact pi_enum hg hm ha hs
end KB
end
section
set_option Elab.async false
set_option linter.all false
set_option maxRecDepth 100000
set_option maxHeartbeats 4000000
/-! *d.items() in a display -/
namespace KB
open PySem PySem.Spec PyProof.Rows L2
def tStarIt (te : TE) (t : TA) : TA := fun σ H Q => te σ H fun x H1 => ∃ (d : Addr) (kvs : List (Key × V)), x = .ref d ∧ H1 d = some (.dK kvs) ∧
  ∀ (H' : Hp) (ts : List Addr), Same H1 H' → (∀ b ∈ ts, H1 b = none) → Paired (fun (b : Addr) (q : Key × V) => H' b = some (.tup [kV q.1, q.2])) ts kvs → t σ H' fun ys H2 => Q (ts.map V.ref ++ ys) H2
section
variable {X : Cx}
theorem pairs_laid {pins : List (Addr × Obj)} {σ : L2.St} {H : Hp} {s : Shared} {h' : Heap} {tk : Nat} {lo : Addr} {kvs : List (Key × V)} {vs : List (Key × Value)} {as : List Addr} (I : Inv X pins σ H s) (kv : KV kvs vs)
    (hk : ∀ b o, s.heap.get? b = some o → h'.get? b = some o) (hlo : s.heap.objs.size ≤ lo) (hl : as.length = vs.length) (hG : PySem.W.KdxG (mixKind X.prog X.w) vs lo h' as) :
    ∃ H', Same H H' ∧ (∀ b ∈ as, H b = none) ∧ Paired (fun (b : Addr) (q : Key × V) => H' b = some (.tup [kV q.1, q.2])) as kvs ∧ Inv X pins σ H' { s with heap := h', toks := tk } := by
  have lk : kvs.length = vs.length := Paired.length kv
  have nd : as.Nodup := List.Pairwise.imp (fun {a b} (h : a < b) => Nat.ne_of_lt h) hG.rise
  have big : ∀ b ∈ as, s.heap.objs.size ≤ b := fun b hb => Nat.le_trans hlo (Nat.le_of_lt (hG.above b hb))
  have new : ∀ b ∈ as, H b = none := fun b hb => I.hok.fresh (big b hb)
  have atP := LiI.putT_at as kvs H (by omega) nd
  have low : ∀ b o, s.heap.get? b = some o → b ∉ as := fun b o e z => absurd (Heap.lt_size e) (Nat.not_lt.mpr (big b z))
  have kp : Same H (LiI.putT H as kvs) := fun b u e => by
    rw [LiI.putT_off as kvs _ (fun z => by rw [new b z] at e; cases e)]
    exact e
  refine ⟨_, kp, new, atP, ?_⟩
  refine I.call' (ch := []) rfl ⟨fun b o q _ _ _ => hk b o q, fun b o q _ _ _ => ⟨o.slots, hk b o q⟩, fun b o q n _ => ?_, fun b o q _ => ⟨o, hk b o q⟩, fun b xs q => kp b _ q, fun b o u q => kp b _ q, fun b ps q => ⟨#[], by rw [kp b _ q]; simp⟩⟩ (fun b u q => ?_) I.bare fun b z => by simp at z
  · rw [LiI.putT_off as kvs _ (low b o q)]
    exact n
  · by_cases hb : b ∈ as
    · obtain ⟨j, pk, e1, e2, e3⟩ := LiI.paired_ix atP hb
      rw [e3] at q
      cases q
      obtain ⟨key, k, x, f1, f2, f3⟩ := hG.pairs j b e1
      obtain ⟨qv, g1, g2, g3⟩ := LiI.paired_get kv e2
      rw [f1] at g1
      cases g1
      have rk : L2.RelV (kV pk.1) key := by
        rw [g2]
        exact relV_key (show keyIs k key = true from f2)
      exact ⟨by show 2 ≤ sizeLine; decide, [key, x], .cons rk (.cons g3 .nil), ⟨_, f3, rfl, _, rfl⟩⟩
    · rw [LiI.putT_off as kvs _ hb] at q
      exact (I.hok b u q).stay (fun d v _ y => hk d v y) (fun d y => kp d _ y) fun d xs y => kp d _ y
theorem pa_starIt {e : Expr} {es : List Expr} {te : TE} {t : TA} {p apos cpos : Pos} (hc : X.calm = true) (he : PE X e te) (hr : PA X es t) (hbase : attributeBase e "items" X.env (eval e X.env) = eval e X.env := by rfl) (hline : (apos.endLine == cpos.line) = true := by rfl)
    (hs : starEach (.Starred (.Call (.Attribute e "items" apos) [] [] cpos) p :: es) X.env = (true, eval (.Call (.Attribute e "items" apos) [] [] cpos) X.env) :: starEach es X.env := by rfl) :
    PA X (.Starred (.Call (.Attribute e "items" apos) [] [] cpos) p :: es) (tStarIt te t) := by
  refine ⟨fun pos pins s σ H Q I h => ?_⟩
  refine PySem.W.items_star ?_ hs
  refine wpAny_Call_method (T := "dict") (id := "dict.items") hbase rfl hline F.plainAttrs_dict F.slot_dict_items F.type_dict_items (thn (he.run pins s σ H _ I h) fun u s1 ⟨x, H1, I1, rx, d, kvs, ex, hd, q⟩ => ?_)
  subst ex
  obtain rfl : u = Value.ref d := rx
  obtain ⟨hz, hs0, vs, kv, hdo⟩ := I1.hok d _ hd
  obtain ⟨ep, hat⟩ := hdo.dictAt
  have lk : kvs.length = vs.length := Paired.length kv
  have I2 : Inv X pins σ H1 { s1 with heap := s1.heap.push { cls := .type "dict_items", data := .fields #[.ref d] } } := I1.kept (t' := s1.toks) fun b ob q => Heap.get?_push_of_some _ q
  refine ⟨hdo.typeIs, hdo.mapOf.noDict, ?_⟩
  show wpAny _ _ (callWith cpos (.builtin "dict.items") [.ref d] [] []) _ X.xe s1
  refine method_meetsIn F.slot_dict_items F.entry_dict_items rfl (PySem.evalArgs_none ⟨rfl, hdo.typeIs, F.args_dict_items_1 _, _, meets_dict_items (mixKind X.prog X.w) d hs0, ⟨vs, hdo⟩, ?_⟩)
  have hT : Shared.TypeIs { s1 with heap := s1.heap.push { cls := .type "dict_items", data := .fields #[.ref d] } } (.ref s1.heap.objs.size) "dict_items" := ⟨_, Heap.get?_push_size _ rfl, rfl⟩
  refine wpAny_bind (wpAny_specialOf hT F.slot_dict_items_iter.lookup (wpAny_pure ⟨rfl, ?_⟩))
  refine PySem.W.kdx_collect (knd := mixKind X.prog X.w) (kvs := vs) (ep := ep) (I1.ok.hd hc) ⟨_, Heap.get?_push_size _ rfl, rfl, rfl⟩ (hat.push _) (by omega) fun h' tk as hk hl hG => ?_
  obtain ⟨H', k1, k2, k3, J⟩ := pairs_laid (tk := tk) I2 kv hk (Nat.le_refl _) hl hG
  exact thn (hr.run pos pins _ σ H' _ J (q H' as k1 k2 k3)) fun ws s3 ⟨zs, H3, I3, r3, q3⟩ => ⟨as.map V.ref ++ zs, H3, I3, (LiI.vals_refs as).append r3, q3⟩
end
end KB
end
section
set_option Elab.async false
set_option linter.all false
set_option maxRecDepth 100000
set_option maxHeartbeats 4000000
/-! sorted of triples of ints, any number of them -/
namespace KB
open PySem PySem.Spec PyProof.Rows L2 SrtO Srt
def IsTrip (h : Heap) (v : Value) (x y z : Int) : Prop := ∃ a o t u r n, v = .ref a ∧ h.get? a = some o ∧ o.cls = .type "tuple" ∧ o.data = .seq #[.int x t, .int y u, .int z r] n
theorem IsTrip.keeps {h h' : Heap} {v : Value} {x y z : Int} (p : IsTrip h v x y z) (k : ∀ b o, h.get? b = some o → o.cls = .type "tuple" → h'.get? b = some o) : IsTrip h' v x y z := by
  obtain ⟨a, o, t, u, r, n, e, ho, hc, hd⟩ := p
  exact ⟨a, o, t, u, r, n, e, k _ _ ho hc, hc, hd⟩
abbrev I3 := Int × Int × Int
def lexC (p q : I3) : Bool := if p.1 = q.1 then (if p.2.1 = q.2.1 then decide (p.2.2 < q.2.2) else decide (p.2.1 < q.2.1)) else decide (p.1 < q.1)
theorem lexC_iff {p q : I3} : lexC p q = true ↔ p.1 < q.1 ∨ (p.1 = q.1 ∧ (p.2.1 < q.2.1 ∨ (p.2.1 = q.2.1 ∧ p.2.2 < q.2.2))) := by
  unfold lexC
  split
  · split
    · simp only [decide_eq_true_eq]; omega
    · simp only [decide_eq_true_eq]; omega
  · simp only [decide_eq_true_eq]; omega
theorem lexC_no {p q : I3} : lexC p q = false ↔ ¬ (p.1 < q.1 ∨ (p.1 = q.1 ∧ (p.2.1 < q.2.1 ∨ (p.2.1 = q.2.1 ∧ p.2.2 < q.2.2)))) := by
  rw [← lexC_iff]
  cases lexC p q <;> simp
theorem swo_lexC {α : Type} (k : α → I3) : Swo fun v u => lexC (k v) (k u) := by
  refine ⟨fun x y h => ?_, fun x y z h1 h2 => ?_⟩
  · have a := lexC_iff.mp h
    refine lexC_no.mpr ?_
    omega
  · have a := lexC_no.mp h1
    have b := lexC_no.mp h2
    refine lexC_no.mpr ?_
    omega
section
variable {prog : Program} {w : World} {A : Around} {s : Shared}
theorem trip_cmp {vs : List Value} {k : Value → I3} (hp : ∀ v ∈ vs, IsTrip s.heap v (k v).1 (k v).2.1 (k v).2.2) : Cmp prog w A s (tuples' true) (fun p => p.1 ∈ vs) (lt2 fun v u => lexC (k v) (k u)) := by
  intro p q hm hm'
  have h1 := hp _ hm
  have h2 := hp _ hm'
  show wpAny (model prog w) A (keyLt' (tuples' true) p.1 q.1) (fun r s' => s' = s ∧ r = lexC (k p.1) (k q.1)) (fun _ _ => False) s
  unfold lexC
  generalize (k p.1).1 = x at h1 ⊢
  generalize (k p.1).2.1 = y at h1 ⊢
  generalize (k p.1).2.2 = z at h1 ⊢
  generalize (k q.1).1 = x' at h2 ⊢
  generalize (k q.1).2.1 = y' at h2 ⊢
  generalize (k q.1).2.2 = z' at h2 ⊢
  obtain ⟨a, o, t, u, r, n, e, ho, hc, hd⟩ := h1
  obtain ⟨a', o', t', u', r', n', e', ho', hc', hd'⟩ := h2
  rw [e, e']
  refine PySem.W.kat_lt ho hd ho' hd' ?_
  show PySem.W.KatLex prog w A true (decide (3 < 3)) _ [(.int x t, .int x' t'), (.int y u, .int y' u'), (.int z r, .int z' r')] 0 s
  refine PySem.W.kat_cons (SeqAt.EqAt.int_int x t x' t' prog w _ _ ?_)
  refine PySem.W.kat_go (fun e1 => ?_) (fun e1 => ?_)
  · have ex : x = x' := by simpa using e1
    simp only [if_pos ex]
    refine PySem.W.kat_yes (PySem.W.kat_cons (SeqAt.EqAt.int_int y u y' u' prog w _ _ ?_))
    refine PySem.W.kat_go (fun e2 => ?_) (fun e2 => ?_)
    · have ey : y = y' := by simpa using e2
      simp only [if_pos ey]
      refine PySem.W.kat_yes (PySem.W.kat_cons (SeqAt.EqAt.int_int z r z' r' prog w _ _ ?_))
      refine PySem.W.kat_go (fun e3 => ?_) (fun e3 => ?_)
      · have ez : z = z' := by simpa using e3
        rw [decide_eq_false (show ¬ z < z' by omega)]
        exact PySem.W.kat_yes (PySem.W.kat_nil ⟨rfl, rfl⟩)
      · exact PySem.W.kat_no (PySem.W.kat_one _ _ (PyProof.Rows.lt_int (show s = s ∧ _ from ⟨rfl, rfl⟩)))
    · have ey : ¬ y = y' := by simpa using e2
      simp only [if_neg ey]
      exact PySem.W.kat_no (PySem.W.kat_one _ _ (PyProof.Rows.lt_int (show s = s ∧ _ from ⟨rfl, rfl⟩)))
  · have ex : ¬ x = x' := by simpa using e1
    simp only [if_neg ex]
    exact PySem.W.kat_no (oneLt_int ⟨rfl, rfl⟩)
theorem firsts3 {h : Heap} : ∀ {vs : List Value}, (∀ v ∈ vs, ∃ x y z, IsTrip h v x y z) → ∃ fs : List Value, PySem.W.KatTups h vs fs ∧ fs.length = vs.length ∧ ∀ f ∈ fs, ∃ x t, f = Value.int x t
  | [], _ => ⟨[], PySem.W.KatTups.nil, rfl, fun _ hm => by simp at hm⟩
  | v :: vs, hp => by
    obtain ⟨fs, h1, h2, h3⟩ := firsts3 (vs := vs) fun v' hm => hp v' (List.mem_cons_of_mem _ hm)
    obtain ⟨x, y, z, a, o, t, u, r, n, e, ho, hc, hd⟩ := hp v (List.mem_cons_self ..)
    subst e
    refine ⟨.int x t :: fs, PySem.W.KatTups.cons ho hc hd rfl h1, by simp [h2], fun f hm => ?_⟩
    rcases List.mem_cons.mp hm with rfl | hm
    · exact ⟨x, t, rfl⟩
    · exact h3 f hm
theorem trips_sortable {a : Addr} {vs : List Value} {k : Value → I3} (h0 : 0 < vs.length) (hp : ∀ v ∈ vs, IsTrip s.heap v (k v).1 (k v).2.1 (k v).2.2) (ha : ∀ o, s.heap.get? a = some o → o.cls ≠ .type "tuple") : SortableO prog w A s a vs fun v u => lexC (k v) (k u) := by
  intro h' keep
  have hp' : ∀ v ∈ vs, IsTrip h' v (k v).1 (k v).2.1 (k v).2.2 := fun v hm => (hp v hm).keeps fun b o e c => keep b o (fun z => by subst z; exact ha o e c) e
  obtain ⟨fs, h1, h2, h3⟩ := firsts3 fun v hm => ⟨_, _, _, hp' v hm⟩
  refine ⟨tuples' true, fun Q E hq => ?_, trip_cmp hp'⟩
  refine PySem.W.kat_kind (T := .type "int") h1 (by omega) (fun f hm => ?_) (by rfl) ?_
  · obtain ⟨x, t, rfl⟩ := h3 f hm
    exact PySem.W.Looks.now
  · rw [show (Value.type "int" != Value.type "tuple") = true by decide +kernel]
    exact hq
theorem sorted_trips {l : Addr} {vs : List Value} {k : Value → I3} {Q : Value → Shared → Prop} {E : Value → Shared → Prop} (hl : s.heap.IsList l vs.toArray) (hz : vs.length ≤ sizeLine) (hp : ∀ v ∈ vs, IsTrip s.heap v (k v).1 (k v).2.1 (k v).2.2)
    (h : ∀ (h' : Heap) (d : Addr) (out : List Value), Srtd (fun v u => lexC (k v) (k u)) out → out.Perm vs → (∀ b o, s.heap.get? b = some o → h'.get? b = some o) → s.heap.objs.size ≤ d → (∃ n, h'.get? d = some (seqObj "list" out.toArray n)) → Q (.ref d) { s with heap := h' }) :
    wpAny (model prog w) A (call (.builtin "sorted") [.ref l]) Q E s := by
  refine sorted_ord (swo_lexC k) hl hz (fun h2 h₁ a ha kk => ?_) fun out hs hb => ?_
  · refine trips_sortable (s := { s with heap := h₁ }) (by omega) (fun v hm => (hp v hm).keeps fun b o e _ => (kk b o e).2) fun o e => ?_
    have e' : some o = some (seqObj "list" vs.toArray 0) := e.symm.trans ha
    cases e'
    intro c
    exact absurd (Value.type.inj c) (by decide)
  · exact h _ _ out hs hb.perm (fun b o e => sortedAll_old e) (Nat.le_succ _) (sortedAll_at s.heap vs out.toArray)
end
/-- sorted(xs), xs a list of triples of ints (k says which): a new list of the same, none ahead of a lesser one -/
def rSorted3 (K : PySem.W.Frag) : List V → Hp → VK → Prop := fun vs H Q => ∃ (a : Addr) (xs : List V) (k : V → I3), vs = [V.ref a] ∧ SqL K H a xs ∧ (∀ x ∈ xs, ∃ t, x = V.ref t ∧ H t = some (.tup [.int (k x).1, .int (k x).2.1, .int (k x).2.2])) ∧
  ∀ ys p, ys.Pairwise (fun x y => lexC (k y) (k x) = false) → ys.Perm xs → H p = none → Q (.ref p) (upd H p (.lst ys))
theorem c_sorted3 {X : Cx} {K : PySem.W.Frag} (hK : X.K = K) : CallR X (.builtin "sorted") (rSorted3 K) := by
  subst hK
  intro pins s σ H vs us Q I r h
  obtain ⟨a, xs, k, rfl, hs, hx, q⟩ := h
  obtain ⟨its, rv, hl, hz⟩ := I.list hs
  obtain ⟨u, rfl, ru⟩ := vals1 r
  obtain rfl : u = Value.ref a := ru
  obtain ⟨e1, e2⟩ := refs_back rv fun x m => by
    obtain ⟨t, e, _⟩ := hx x m
    exact ⟨t, e⟩
  refine sorted_trips (k := fun u => k (backV u)) hl.isList (by rw [← rv.length]; exact hz) (fun v hv => ?_) fun h' d out h1 h2 kp hd hn => ?_
  · obtain ⟨t, rfl⟩ := e2 v hv
    have hm : V.ref t ∈ xs := by
      rw [e1]
      exact List.mem_map.mpr ⟨_, hv, rfl⟩
    obtain ⟨t', e, ht⟩ := hx _ hm
    cases e
    obtain ⟨_, its2, r2, o, ho, hc, n, hd⟩ := I.hok _ _ ht
    cases r2 with
    | cons ra rb =>
      obtain ⟨u1, u2, rfl, rj, rk⟩ := vals2 rb
      obtain ⟨t1, rfl⟩ := ra
      obtain ⟨t2, rfl⟩ := rj
      obtain ⟨t3, rfl⟩ := rk
      exact ⟨t, o, t1, t2, t3, n, rfl, ho, hc, hd⟩
  · have h3 : ∀ u ∈ out, ∃ a, u = Value.ref a := fun u hu => e2 u (h2.mem_iff.mp hu)
    obtain ⟨n, hn⟩ := hn
    have hb : (out.map backV).Perm xs := by
      rw [e1]
      exact h2.map _
    refine ⟨.ref d, upd H d (.lst (out.map backV)), I.laid (t' := s.toks) kp hd ⟨?_, out, n, vals_back h3, hn⟩, rfl, q _ d (List.pairwise_map.mpr h1) hb (I.hok.fresh hd)⟩
    rw [hb.length_eq]
    exact hz
end KB
end
section
set_option Elab.async false
set_option linter.all false
set_option maxRecDepth 100000
set_option maxHeartbeats 4000000
/-! xs.remove(y), nested data that is there -/
namespace KB
open PySem PySem.Spec PyProof.Rows L2
def rRemD (K : PySem.W.Frag) : V → List V → Hp → VK → Prop := fun x xs H Q => ∃ (a : Addr) (y : V) (ys : List V) (d : PyData) (ds : List PyData) (j : Nat) (z : PyData), x = V.ref a ∧ xs = [y] ∧ H a = some (.lst ys) ∧ DpAll K H ys ds ∧ Dp K H y d ∧
  SeqAt.shaped (.list ds) = true ∧ SeqAt.shaped d = true ∧ ds[j]? = some z ∧ PyData.eqv z d = true ∧ (∀ (m : Nat) (z' : PyData), m < j → ds[m]? = some z' → PyData.eqv z' d = false) ∧ Q .non (upd H a (.lst (ys.eraseIdx j)))
theorem m_removeD {X : Cx} {K : PySem.W.Frag} (hK : X.K = K) (hu : X.A.units + 65 < cLine) : MtR X "list.remove" (rRemD K) := by
  subst hK
  intro pins s σ H x xs v us Q I rx rxs h
  obtain ⟨a, y, ys, d, ds, j, z, rfl, rfl, hH, ha, hy, sl, sd, hz, hzj, hno, q⟩ := h
  cases rx
  obtain ⟨uy, rfl, ry⟩ := rxs.one
  obtain ⟨bs, r1⟩ := Dp.reads I d y uy hy ry
  have hxs : PyData.canLayAll0 ds = true := SeqAt.canLay_of_shaped sl
  have hroom : X.A.units + 1 + min (PyData.depthAll ds) d.depth < cLine := room_in_shaped sd hu
  obtain ⟨zs, its, n, rv, hl, e⟩ := I.lstM hH
  obtain ⟨as, h4⟩ := Dp.readsAll I ds _ its ha rv
  have hn : its.length = ds.length := SeqAt.ReadsAll.length ds its as h4
  have hmap : its.map (SeqAt.readOf s.heap) = ds := SeqAt.readsAll_map ds its as hxs h4
  have hvl := rv.length
  have hjd := (List.getElem?_eq_some_iff.mp hz).1
  have hjl : j < its.length := by omega
  have at_ : ∀ (m : Nat) (hm : m < its.toArray.size) (z' : PyData), ds[m]? = some z' → SeqAt.readOf s.heap its.toArray[m] = z' := by
    intro m hm z' hz'
    have hml : m < its.length := by simpa using hm
    rw [← hmap, List.getElem?_map, List.getElem?_eq_getElem hml] at hz'
    simpa using hz'
  have fin : Vals (ys.eraseIdx j) (its.eraseIdx j) := by
    have := rv.eraseIdx j
    exact this
  refine call_meets PySem.F.slot_list_remove ⟨_, e, rfl⟩ PySem.F.entry_list_remove (PySem.F.args_list_remove_2 _ _)
    (SeqAt.list_removeAt a its.toArray n none #[] uy (fun u => PyData.eqv (SeqAt.readOf s.heap u) d) j (by simpa using hjl) ?_ ?_ (by rw [List.size_toArray]; omega)) ⟨e, SeqAt.items_eqAt (vs := its.toArray) (show ReadsAll s.heap its.toArray.toList ds as from h4) r1 hxs (SeqAt.canLay_of_shaped sd) hroom, ?_⟩
  · show PyData.eqv (SeqAt.readOf s.heap its.toArray[j]) d = true
    rw [at_ j (by simpa using hjl) z hz]
    exact hzj
  · intro m hm hmj
    have hmd : m < ds.length := by omega
    show PyData.eqv (SeqAt.readOf s.heap its.toArray[m]) d = false
    rw [at_ m hm _ (List.getElem?_eq_getElem hmd)]
    exact hno m _ hmj (List.getElem?_eq_getElem hmd)
  · refine ⟨.non, _, I.lset (its' := its.eraseIdx j) (t' := s.toks) hH e ?_ fin ?_, rfl, q⟩
    · show its.toArray.eraseIdxIfInBounds j = (its.eraseIdx j).toArray
      rw [List.eraseIdxIfInBounds_toArray]
    · have := List.length_eraseIdx_le ys j
      omega
end KB
end
section
set_option Elab.async false
set_option linter.all false
set_option maxRecDepth 100000
/-! != of two instances of a class with its own __eq__ and no own __ne__ -/
namespace KB
open PySem PySem.Spec PyProof.Rows L2 PySem.W
section
variable {prog : Program} {w : World} {A : Around} {E : Value → Shared → Prop} {s : Shared} {K : Frag} {x C L f : Addr} {h₀ : Heap} {m : Str → Option Value} {ox : Obj} {od : Option Obj} {b tb : Value}
theorem objNe_K (X : K.In s.heap) (I : InstAt s.heap x ox C od) (he : findIn K (.ref C) "__eq__" = some (some (.ref f))) (hf : isFn K (.ref f) = true) (hu : A.units < cLine) {Q : Fin → Shared → Prop}
    (hcall : wpAny (model prog w) A (call (.ref f) [.ref x, b]) (fun v s' => ∃ r, v = .bool r ∧ Q (.done (.ret (.bool (!r)))) s') E s) :
    wpAny (model prog w) A (Builtin.«object.__ne__» ⟨[.ref x, b], []⟩) Q E s := by
  unfold Builtin.«object.__ne__»
  repeat (first
    | with_reducible refine wpAny_cRoomFor hu ?_
    | (refine wpAny_bind (m := callSpecialIfBound? (.ref x) (Str.ofString "__eq__") [b])
        (ifBound_K X I he hf (wpAny_mono hcall (fun v s' hr => by
          obtain ⟨r, rfl, hq⟩ := hr
          repeat (first | exact hq | exact wpAny_pure hq | exact wpAny_truthy_bool hq | (refine wpAny_bind (m := truthy (.bool _)) (wpAny_truthy_bool ?_)) | wp_step)) fun _ _ e => e)))
    | wp_step)
theorem ne_K (X₀ : K.In h₀) (Fr' : Fr h₀ L s.heap m) (I : InstAt s.heap x ox C od) (hb : Looks (model prog w) s.heap (typeOf b) tb) (hn : notFirst K C tb = true) (hne : findIn K (.ref C) "__ne__" = some (some (.builtin "object.__ne__")))
    (hob : mroIn K C (.type "object") = some true) (he : findIn K (.ref C) "__eq__" = some (some (.ref f))) (hf : isFn K (.ref f) = true) (hu : A.units + 1 < cLine) {Q : Value → Shared → Prop}
    (hcall : wpAny (model prog w) A.in1 (call (.ref f) [.ref x, b]) (fun v s' => ∃ r, v = .bool r ∧ Q (.bool (!r)) s') E s) : wpAny (model prog w) A (richCompare .NotEq (.ref x) b) Q E s := by
  have X := X₀.keeps Fr'.keep
  have sp : Looks (model prog w) s.heap (specialOf (.ref x) "__ne__") (some (.builtin "object.__ne__")) := I.type.andThen (looks_findIn X hne)
  have iv : Looks (model prog w) s.heap (isInstance (.ref x) (.type "object")) true := I.type.andThen (looks_mroIn X hob)
  have one : wpAny (model prog w) A (tryCompare (.ref x) "__ne__" b) (fun r s' => ∃ v, r = some v ∧ Q v s') E s := by
    unfold tryCompare
    refine wpAny_bind (NtL.csib sp (PySem.F.cmp_object.ne.bind _) (wpAny_call (codeAny_call_builtin PySem.F.cmp_object.ne.plain PySem.F.cmpEntry_ne (@check_slot (model prog w) _ _ _ "object.__ne__" "object" "__ne__" (.ref x) [b] [] _ (by decide +kernel) (by decide +kernel) iv (PySem.F.cmpArgs_ne _ _) ?_))))
    refine objNe_K (A := A.in1) X I he hf hu (wpAny_mono hcall (fun v s' hv => ?_) fun _ _ e => e)
    obtain ⟨r, rfl, hq⟩ := hv
    exact ⟨r, rfl, wpAny_pure ⟨_, rfl, hq⟩⟩
  unfold richCompare
  simp only [oneThing_ref]
  refine wpAny_holding (wpAny_bind (wpAny_cRoomFor (Nat.lt_of_succ_lt hu) ?_))
  rw [cmpInfo_NotEq]
  refine wpAny_bind (I.type.here (wpAny_bind (hb.here ?_)))
  split
  · rename_i q
    have e : subIn K tb (.ref C) = some false := by
      rcases Bool.or_eq_true_iff.mp hn with e | e
      · rw [beq_iff_eq.mp e] at q; simp at q
      · exact beq_iff_eq.mp e
    refine wpAny_bind ((looks_subIn X e).here ?_)
    simp only [Bool.false_eq_true, if_false]
    refine wpAny_bind (wpAny_mono one (fun r s' z => ?_) fun _ _ e => e)
    obtain ⟨v, rfl, hq⟩ := z
    exact wpAny_pure hq
  · refine wpAny_bind (wpAny_pure ?_)
    simp only [Bool.false_eq_true, if_false]
    refine wpAny_bind (wpAny_mono one (fun r s' z => ?_) fun _ _ e => e)
    obtain ⟨v, rfl, hq⟩ := z
    exact wpAny_pure hq
end
/-- x != y of two instances that the own == calls equal -/
def rNeIns (C : Addr) (R : Addr → Addr → Hp → Prop) : R2 := fun x y H Q => DIns C R x y H ∧ ∀ H', Ext H H' → Q (.bl false) H'
theorem op_neIns {X : Cx} {n : Nat} {CX : CXT} {C f : Addr} {fd : FuncData} {ps : List Str} {R : Addr → Addr → Hp → Prop} {E : XK} (F : FnOk X.prog X.w X.K X.mg X.base CX n f fd ps (spEq R))
    (hne : PySem.W.findIn X.K (.ref C) "__ne__" = some (some (.builtin "object.__ne__"))) (hob : PySem.W.mroIn X.K C (.type "object") = some true) (hr : Room (n + 1) X.A)
    (hs : PySem.W.findIn X.K (.ref C) "__eq__" = some (some (.ref f))) (hf : PySem.W.isFn X.K (.ref f) = true) (hb : Binds X.K fd ps []) (hx : Passes CX X E) : OpR X (compareOp .NotEq) (rNeIns C R) := by
  intro pins s σ H x y u v Q I rx ry hq
  obtain ⟨⟨a, b, dx, dy, fs, gs, rfl, rfl, ha, hb', hrr⟩, q⟩ := hq
  cases rx
  cases ry
  show wpAny (model X.prog X.w) X.A (richCompare .NotEq _ _) (EP X pins σ Q) X.xe s
  obtain ⟨mA, J, _⟩ := ins_get I.hok ha
  obtain ⟨mB, J', _⟩ := ins_get I.hok hb'
  obtain ⟨od, J, _⟩ := J.look
  obtain ⟨od', J', _⟩ := J'.look
  obtain ⟨m, hF⟩ := I.fr
  have hsub : Sub X n X.A.in1 := ⟨hr.in1, rfl⟩
  refine ne_K I.ok.mod.kin hF J J'.type (by simp [PySem.W.notFirst]) hne hob hs hf (by have := hr.units; omega) ?_
  have hsp : spEq R [.ref a, .ref b] H (fun v H' => v = .bl true ∧ Ext H H') E := ⟨a, b, rfl, hrr, fun H' e => ⟨rfl, e⟩⟩
  have e0 : Env0 X.prog X.w X.K X.mg X.base X.A.in1 X.stack s H := I.env0.in1
  have hl := F.len _ _ _ _ hsp
  have r2 : Vals [V.ref a, V.ref b] [Value.ref a, Value.ref b] := .cons rfl (.cons rfl .nil)
  refine wpAny_call (codeAny_mono (F.run X.A.in1 X.stack s H ⟨[.ref a, .ref b], []⟩ [.ref a, .ref b] [.ref a, .ref b] _ E hsub.room e0 (by
    have := hb s [.ref a, .ref b] I.kIn (by simpa using hl)
    simpa using this) r2 hsp) fun r s' hq => ?_)
  cases r with
  | error e => exact hx pins σ H s e s' I hq
  | ok fl =>
    cases fl with
    | ret w =>
      obtain ⟨z, H', I', rz, ez, ex⟩ := I.after hq
      subst ez
      cases rz
      exact ⟨true, rfl, .bl false, H', I', rfl, q _ ex⟩
    | next => exact False.elim hq
    | brk => exact False.elim hq
    | cont => exact False.elim hq
end KB
end
section
set_option Elab.async false
set_option linter.all false
set_option maxRecDepth 100000
set_option maxHeartbeats 2000000
/-! try with several clauses 'except x as n', the name the same; what comes behind the last of them is never reached -/
namespace KB
open PySem PySem.Spec PyProof.Rows L2
abbrev Suite := Addr → Value → Option Addr → TS
/-- the ends of a suite whose name (slot i) goes behind it -/
def goneD (i : Nat) (D : Ends) : Ends where
  nx σ H := D.nx (σ.set i none) H
  bk σ H := D.bk (σ.set i none) H
  ct σ H := D.ct (σ.set i none) H
  rt := D.rt
/-- what the clauses wish of an exception -/
def wNamed (K : PySem.W.Frag) (i : Nat) (D : Ends) : List (Value × Suite) → WX
  | [] => fun _ _ _ _ => False
  | e :: r => fun cls d σ H => ∃ b, PySem.W.exmOne K cls e.1 = some b ∧ (b = true → ∀ a, H a = none → e.2 a cls d (goneD i D) (σ.set i (some (.ref a))) H) ∧ (b = false → wNamed K i D r cls d σ H)
inductive NamedHs (X : Cx) (n : Str) : List ExceptHandler → List (Value × Suite) → Prop
  | stop {hds : List ExceptHandler} : NamedHs X n hds []
  | cons {x : Str} {c : Value} {ts : Suite} {st : Stmt} {sts : List Stmt} {p1 p2 : Pos} {hds : List ExceptHandler} {l : List (Value × Suite)} (nm : Names X x c)
      (ok : ∀ a oe cls d pn, Zc cls d oe → (∃ vs, oe.data = .fields vs) → PSs (X.suite a ((a, oe) :: pn)) (st :: sts) (ts a cls d)) (rest : NamedHs X n hds l) :
      NamedHs X n (.ExceptHandler (some (.Name x p1)) (some n) (st :: sts) p2 :: hds) ((c, ts) :: l)
section
variable {X : Cx} {n : Str} {i : Nat}
/-- one that has been caught: the clauses, one by one -/
theorem named_go {B : Heap} {a : Addr} {cls : Value} {d : Option Addr} {pins : List (Addr × Obj)} {D : Ends} {σ : L2.St} {H : Hp} {s : Shared} {h3 : Heap}
    (hN : X.N.Nodup) (hi : X.N[i]? = some n) (hk : X.env.kindOf n = some .local) (ok : X.Ok)
    (land : ∀ h, B.StaysIn h → s.heap.UpToSlots h → Inv X pins σ H { s with heap := h })
    (fly : HandSPX.FlyingZ B (X.env :: X.outer) a (Zc cls d) h3) (up : s.heap.UpToSlots h3) (na : H a = none)
    (nfr : ∀ {h : Heap} {o : Obj} {vs : Array Value}, h.get? a = some o → o.data = .fields vs → h.FunFrames B (X.env :: X.outer) → a ≠ X.env.locals ∧ a ∉ X.fs) :
    ∀ {hds : List ExceptHandler} {l : List (Value × Suite)}, NamedHs X n hds l → wNamed X.K i D l cls d σ H → wpAny (model X.prog X.w) X.A (handleBy (.ref a) X.env hds) (SP X pins D) X.xe { s with heap := h3 } := by
  intro hds l hh
  induction hh with
  | stop => exact fun w => w.elim
  | @cons x c ts st sts p1 p2 hds2 l2 nm suite rest ih =>
    rintro ⟨b, eb, yes, no⟩
    have I3 := land h3 fly.1 up
    obtain ⟨o3, vs3, g3, z3, f3⟩ := fly.there
    obtain ⟨nL, nF⟩ := nfr g3 f3 fly.2.2.1
    have S3 := I3.suite g3 f3 na nL nF
    have ty : PySem.W.Looks (model X.prog X.w) h3 (typeOf (.ref a)) cls := fun _ _ _ _ k q => wpAny_typeOf_ref (k _ _ g3) (by rw [z3.1]; exact q)
    have asked : ∀ {Q E : Value → Shared → Prop}, Q c { s with heap := h3 } → wpAny (model X.prog X.w) (X.A.mark (some (.ref a))) (eval (.Name x p1) X.env) Q E { s with heap := h3 } := fun {Q E} q => by
      obtain ⟨gl, db, hm⟩ := nm
      rcases hm with hm | ⟨hm, hv, hnn⟩
      · exact ld_glob (X := X.suite a ((a, o3) :: (X.pn ++ pins))) S3 gl hm q db
      · exact ld_blt (X := X.suite a ((a, o3) :: (X.pn ++ pins))) S3 gl hm hv q hnn db
    refine wpAny_handleBy_cons (codeAny_handlers_test ?_) (by rintro ⟨⟩)
    refine asked ((PySem.W.exm_one (M := model X.prog X.w) I3.kIn ty eb).here ?_)
    cases b with
    | false => exact ih (no rfl)
    | true =>
      refine codeAny_handlers_suite_as (HandSPX.lands_againZ fly fun h4 fl4 up4 => ?_)
      have I4 := land h4 fl4.1 (up.trans up4)
      obtain ⟨o4, vs4, g4, z4, f4⟩ := fl4.there
      have S4 := I4.suite g4 f4 na nL nF
      refine store_ok (X := X.suite a ((a, o4) :: (X.pn ++ pins))) (v := .ref a) S4 hN hi (.inl hk) rfl (fun s5 S5 => ?_) (.inr hk)
      have run := (suite a o4 cls d (X.pn ++ pins) z4 ⟨_, f4⟩).run [] s5 _ H _ S5 (yes rfl a na)
      refine wpAny_mono run (fun fl s6 q => ?_) fun _ _ z => z.elim
      cases fl with
      | ret u =>
        obtain ⟨v6, σ6, H6, S6, r6, q6⟩ := q
        exact gone_ok (S6.unsuite ok) hN hi hk fun s7 J => ⟨v6, _, H6, J, r6, q6⟩
      | next =>
        obtain ⟨σ6, H6, S6, q6⟩ := q
        exact gone_ok (S6.unsuite ok) hN hi hk fun s7 J => ⟨_, H6, J, q6⟩
      | brk =>
        obtain ⟨σ6, H6, S6, q6⟩ := q
        exact gone_ok (S6.unsuite ok) hN hi hk fun s7 J => ⟨_, H6, J, q6⟩
      | cont =>
        obtain ⟨σ6, H6, S6, q6⟩ := q
        exact gone_ok (S6.unsuite ok) hN hi hk fun s7 J => ⟨_, H6, J, q6⟩
/-- try: body / except x as n: .. / except y as n: .. / .. -/
theorem ps_try_named {body : List Stmt} {h₀ : ExceptHandler} {hds : List ExceptHandler} {l : List (Value × Suite)} {pos : Pos} {tb : WX → TS} (est : X.stack = X.env :: X.outer) (efr : X.env.frame = some X.env.locals)
    (hN : X.N.Nodup) (hi : X.N[i]? = some n) (hk : X.env.kindOf n = some .local)
    (hb : ∀ (W : WX) (pn : List (Addr × Obj)) (xe : Value → Shared → Prop), Takes (X.tr pn xe) W → PassesOwn (model X.prog X.w) X.A X.env xe → PSs (X.tr pn xe) body (tb W)) (hh : NamedHs X n (h₀ :: hds) l) :
    PS X (.Try body (h₀ :: hds) [] [] pos) (fun D σ H => tb (fun cls d σ' H' => i < σ'.length → wNamed X.K i D l cls d σ' H') D σ H) := by
  refine ⟨fun pins s σ H D I h => ?_⟩
  have ok := I.ok
  have afr : X.A.frames = some (X.env :: X.outer) := ok.frames.trans (congrArg some est)
  let xe' : Value → Shared → Prop := fun e s₁ => wpAny (model X.prog X.w) X.A (noteFrame e X.env) (fun _ s₂ => wpAny (model X.prog X.w) X.A (setFlight e none) (fun _ s₃ => wpAny (model X.prog X.w) X.A (handleBy e X.env (h₀ :: hds)) (SP X pins D) X.xe s₃) X.xe s₂) X.xe s₁
  have caught : Takes (X.tr (X.pn ++ pins) xe') (fun cls d σ' H' => i < σ'.length → wNamed X.K i D l cls d σ' H') := by
    rintro u s' ⟨a, B, sI, pins', σ', H', cls, d, rfl, J', nb, up, sky, na, os, ag, w⟩
    have J : Inv X pins σ' H' sI := J'.ofTry ok
    have hlen : i < σ'.length := by
      rw [J.len]
      exact (List.getElem?_eq_some_iff.mp hi).1
    have sky2 : Sky B (X.env :: X.outer) a (Zc cls d) X.env.locals s'.heap := est ▸ sky
    have land : ∀ h, B.StaysIn h → s'.heap.UpToSlots h → Inv X pins σ' H' { s' with heap := h } := fun h st u2 => J.landed nb st (up.trans u2) os ag
    show wpAny (model X.prog X.w) X.A (noteFrame (.ref a) X.env) _ _ _
    refine Sky.land Zc.steady afr efr sky2 fun h3 fl3 up3 => ?_
    refine named_go hN hi hk ok land fl3 up3 na (fun {h o vs} g f ff => ?_) hh (w hlen)
    have nfr : a ∉ frs (X.env :: X.outer) := fun hm => by
      obtain ⟨_, o', g', hne⟩ := ff.mem hm
      rw [g] at g'
      exact hne vs (Option.some.inj g' ▸ f)
    refine ⟨fun z => nfr (List.mem_filterMap.mpr ⟨X.env, List.mem_cons_self, by rw [efr, z]⟩), fun hm => ?_⟩
    obtain ⟨e, he, q⟩ := List.mem_filterMap.mp hm
    exact nfr (List.mem_filterMap.mpr ⟨e, List.mem_cons_of_mem _ he, q⟩)
  refine wpAny_Try_except (wpAny_mono ((hb _ (X.pn ++ pins) xe' caught PassesOwn.looking).run [] s σ H D (I.toTry _) h) (fun fl s1 q => ?_) fun _ _ z => z)
  cases fl with
  | ret u =>
    obtain ⟨v, σ', H', J, r, q⟩ := q
    exact ⟨v, σ', H', J.ofTry ok, r, q⟩
  | next =>
    obtain ⟨σ', H', J, q⟩ := q
    exact wpAny_execs_nil ⟨σ', H', J.ofTry ok, q⟩
  | brk =>
    obtain ⟨σ', H', J, q⟩ := q
    exact ⟨σ', H', J.ofTry ok, q⟩
  | cont =>
    obtain ⟨σ', H', J, q⟩ := q
    exact ⟨σ', H', J.ofTry ok, q⟩
end
end KB
end
section
set_option Elab.async false
set_option linter.all false
set_option maxRecDepth 100000
set_option maxHeartbeats 2000000
/-! a lambda with written defaults and no captured name, handed to a def that calls it without arguments -/
namespace KB
open PySem PySem.Spec PyProof.Rows L2 LamX
section
variable {P : Program} {w : World} {K : PySem.W.Frag} {mg : Str → Option Value} {base : Heap}
/-- the lambda runs: its body in a frame of its own -/
theorem run_lamD {CX : CXT} {k : Nat} {f c' : Addr} {qual : Str} {params : Arguments} {body : Expr} {scope : Scope} {dV doc pm ctv : Value} {N ps : List Str} {A : Around} {outer : List Env} {s : Shared} {H : Hp} {args : Args} {us : List Value} {vs : List V} {Q : VK} {E : XK}
    (S : FnScope N ps scope) (ho : s.heap.get? f = some (PySem.W.kdv_obj "<lambda>" qual params (.expr body) scope [] dV doc pm c' ctv)) (hcd : s.heap.CodeRec (.ref c') qual) (hr : Room (k + 1) A) (e0 : Env0 P w K mg base A outer s H)
    (hb : BindsTo s (PySem.W.kdv_fn "<lambda>" qual params (.expr body) scope [] dV doc pm (.ref c') ctv) args (ps.zip us)) (r : Vals vs us) (hl : vs.length = ps.length)
    (hbody : Room k (A.deeper (envOfC qual scope s.heap.objs.size f (.ref c'))) → ∃ t, PE (cxOf CX P w K mg base N qual scope f (.ref c') A outer s H E) body t ∧ t (L2.start N vs) H Q) :
    codeAny (model P w) A (.call (.ref f) args) (CR CX outer P w H s Q E) s := by
  have nolim : s.heap.NoLimit := e0.mod.nolimit.keeps fun b o e => (e0.bs b o e).1
  refine PySem.W.kla_callFunE hr.depth ho rfl S.co S.gen rfl hcd (hb _ _ _ _ ?_)
  refine wpAny_newFunctionEnv_cells S.kind (fun y hy => ?_) fun env he s1 x => ?_
  · rcases S.par y.1 (List.of_mem_zip hy).1 with q | q
    · exact Or.inl q
    · exact Or.inr ⟨q, PySem.W.cellsFrom_some _ _ _ (Or.inl q)⟩
  · subst he
    refine ⟨nolim.keeps x.toInCall.keep, ?_⟩
    obtain ⟨t, ht, q⟩ := hbody (hr.deeper _)
    refine PySem.W.kla_codeExpr (wpAny_mono (ht.run [] s1 _ H Q (inv_start S hr.hd e0 hl r x) q) (fun v s' z => ?_) fun _ _ z => z)
    obtain ⟨u, H', J, rv, q'⟩ := z
    exact ⟨u, H', J.os, J.bare, J.base, J.hok, rv, q'⟩
end
section
variable {X : Cx} {pins : List (Addr × Obj)} {σ : L2.St} {H : Hp} {s : Shared}
/-- the lambda is made: its defaults' tuple is new, its code object new or found in the table -/
theorem lam_makeD {T : List (Addr × Str)} {c P : Addr} {params : Arguments} {body : Expr} {scope : Scope} {pos : Pos} {E : Value → Shared → Prop} {Q : Value → Shared → Prop} {dv : List Value} (I : Inv X pins σ H s) (TB : TabB X.base X.mg c P) (hcode : X.env.code = .ref c)
    (hm : (P, X.env.qual ++ "<lambda>") ∈ T) (hu : ∀ p ∈ T, p.1 = P → p.2 = X.env.qual ++ "<lambda>") (hT : Tabs T H) (hdv : dv.isEmpty = false) (hcl : closureFor scope X.env = pure [])
    (h : ∀ (f t0 c' : Addr) (doc pm ctv : Value) (H1 : Hp) (s' : Shared), Inv X pins σ H1 s' → ExtN H H1 → Tabs T H1 →
      s'.heap.get? f = some (PySem.W.kdv_obj "<lambda>" (X.env.qual ++ "<lambda>") params (.expr body) scope [] (.ref t0) doc pm c' ctv) → s'.heap.get? t0 = some (PySem.W.kdv_tup dv) → H1 f = none → H1 t0 = none → f ∉ frs X.stack → t0 ∉ frs X.stack →
      H1 c' = some (CodeO c' (X.env.qual ++ "<lambda>")) → Q (.ref f) s') :
    wpAny (model X.prog X.w) X.A (makeFunction "<lambda>" (X.env.qual ++ "<lambda>") params (.expr body) scope X.env dv [] [] pos pos.line) Q E s := by
  rw [makeFunction_eq]
  simp only [List.zip_nil_right, List.filterMap_nil, List.isEmpty_nil, if_true, pure_bind, hdv, Bool.false_eq_true, if_false]
  refine wpAny_bind (wpAny_newTextTuple ?_)
  -- the tuple
  have k0 : ∀ b o, s.heap.get? b = some o → (s.heap.push (PySem.W.kdv_tup dv)).get? b = some o := fun b o e => Heap.get?_push_of_some _ e
  have I0 : Inv X pins σ H { s with heap := s.heap.push (PySem.W.kdv_tup dv), toks := s.toks } := I.kept k0
  have g0 : (s.heap.push (PySem.W.kdv_tup dv)).get? s.heap.objs.size = some (PySem.W.kdv_tup dv) := Heap.get?_push_size _ rfl
  have n0 : H s.heap.objs.size = none := I.hok.fresh (Nat.le_refl _)
  have out : ∀ f, s.heap.objs.size ≤ f → f ∉ frs X.stack := fun f hf z => by
    rcases List.mem_cons.mp (I.stkSub _ z) with e | e
    · rw [e] at hf
      exact absurd I.lt (Nat.not_lt.mpr hf)
    · exact I.nofs hf e
  have s01 : s.heap.objs.size < (s.heap.push (PySem.W.kdv_tup dv)).objs.size := by
    rw [Heap.size_push]
    exact Nat.lt_succ_self _
  generalize hg : s.heap.push (PySem.W.kdv_tup dv) = h0 at *
  obtain ⟨ps, hP, ht, ha⟩ := hT _ hm
  have bP : h0.BuiltinsAt X.mg P := TB.bm.keeps I0.bk
  have gP : h0.get? P = some { cls := .none, data := .fields ps } := I0.hok P _ hP
  have lP : P < h0.objs.size := Heap.lt_size gP
  have nP : s.heap.objs.size ≠ P := fun z => by
    rw [z, hP] at n0
    cases n0
  cases hc : codeAmong pos ps.toList with
  | some cv =>
    obtain ⟨c', rfl, hco⟩ := ha pos cv hc
    refine PySem.W.kdv_makeTailHit (mg := X.mg) (s := { s with heap := h0 }) hcl I.ok.glob (I0.mod.glob.keeps I0.bk) hcode (TB.code.keeps I0.bk) gP ht hc bP fun ctv doc h' tk hk hsz => ?_
    refine h h'.objs.size s.heap.objs.size c' doc _ ctv H _ (I0.kept (t' := tk) fun b o e => Heap.get?_push_of_some _ (hk b o e)) (ExtN.refl H) hT (Heap.get?_push_size _ rfl) (Heap.get?_push_of_some _ (hk _ _ g0)) (I0.hok.fresh hsz) n0 (out _ (Nat.le_trans (Nat.le_of_lt s01) hsz)) (out _ (Nat.le_refl _)) hco
  | none =>
    refine PySem.W.kdv_makeTail (mg := X.mg) (s := { s with heap := h0 }) hcl I.ok.glob (I0.mod.glob.keeps I0.bk) hcode (TB.code.keeps I0.bk) gP ht hc TB.gP bP fun c' ctv doc h' tk hx hge hlt hrec htb => ?_
    obtain ⟨c2, oc, vs, t, e2, hoc, hd, hv⟩ := hrec
    cases e2
    have nc : H c' = none := I0.hok.fresh hge
    let fo := PySem.W.kdv_obj "<lambda>" (X.env.qual ++ "<lambda>") params (.expr body) scope [] (.ref s.heap.objs.size) doc ((X.mg "__name__").getD .none) c' ctv
    have J := inv_table (t' := tk) (q := X.env.qual ++ "<lambda>") (more := #[rawInt pos.line, rawInt pos.col, .ref c']) (h' := h'.push fo) I0 hP (fun b o hb e => Heap.get?_push_of_some _ (hx b o hb e)) (Heap.get?_push_of_some _ htb) hge ⟨oc, vs, t, Heap.get?_push_of_some _ hoc, hd, hv⟩
    have ex : ExtN H (upd (upd H P (.tbl (ps ++ #[rawInt pos.line, rawInt pos.col, .ref c']))) c' (CodeO c' (X.env.qual ++ "<lambda>"))) := fun b o e n => by
      rw [upd_ne (ne_of_none e nc), upd_ne]
      · exact e
      · intro z
        subst z
        rw [hP] at e
        exact n ps (Option.some.inj e).symm
    have el : (ps ++ #[rawInt pos.line, rawInt pos.col, .ref c']).toList = ps.toList ++ [rawInt pos.line, rawInt pos.col, .ref c'] := by simp
    have pc : P ≠ c' := ne_of_none hP nc
    have g1 : (h'.push fo).get? s.heap.objs.size = some (PySem.W.kdv_tup dv) := Heap.get?_push_of_some _ (hx _ _ nP g0)
    have nf : ∀ b, h0.objs.size ≤ b → b ≠ c' → upd (upd H P (.tbl (ps ++ #[rawInt pos.line, rawInt pos.col, .ref c']))) c' (CodeO c' (X.env.qual ++ "<lambda>")) b = none := fun b hb hbc => by
      rw [upd_ne hbc, upd_ne (Nat.ne_of_gt (Nat.lt_of_lt_of_le lP hb))]
      exact I0.hok.fresh hb
    refine h h'.objs.size s.heap.objs.size c' doc _ ctv _ _ J ex (fun p hp => ?_) (Heap.get?_push_size _ rfl) g1 (nf h'.objs.size (Nat.le_trans hge (Nat.le_of_lt hlt)) (Nat.ne_of_gt hlt)) ?_ (out h'.objs.size (Nat.le_trans (Nat.le_of_lt s01) (Nat.le_trans hge (Nat.le_of_lt hlt)))) (out _ (Nat.le_refl _)) upd_same
    · by_cases hb : p.1 = P
      · rw [hu p hp hb, hb]
        refine ⟨_, (upd_ne pc).trans upd_same, el ▸ PySem.TriplesOk_snoc _ _ _ _ ht, fun p' cv hcv => ?_⟩
        rw [el] at hcv
        rcases among_app _ ht hcv with z | z
        · obtain ⟨c0, e1, e3⟩ := ha p' cv z
          exact ⟨c0, e1, ex _ _ e3 codeO_ne⟩
        · exact ⟨c', z, upd_same⟩
      · obtain ⟨ps', a1, a2, a3⟩ := hT p hp
        refine ⟨ps', by rw [upd_ne (ne_of_none a1 nc), upd_ne hb]; exact a1, a2, fun p' cv hcv => ?_⟩
        obtain ⟨c0, e1, e3⟩ := a3 p' cv hcv
        exact ⟨c0, e1, ex _ _ e3 codeO_ne⟩
    · rw [upd_ne (Nat.ne_of_lt (Nat.lt_of_lt_of_le s01 hge)), upd_ne nP]
      exact n0
end
end KB
end
section
set_option Elab.async false
set_option maxHeartbeats 1000000
/-! fractions of whole numbers in lowest terms -/
namespace M1
def rd (p q : Int) : List Int := [p / (Int.gcd p q : Int), q / (Int.gcd p q : Int)]
theorem gcd_pos {p q : Int} (h : 0 < q) : 0 < (Int.gcd p q : Int) := by
  have := Int.gcd_pos_of_ne_zero_right p (b := q) (by omega)
  omega
theorem split {p q : Int} (h : 0 < q) : ∃ a b, p = (Int.gcd p q : Int) * a ∧ q = (Int.gcd p q : Int) * b ∧ 0 < b ∧ Int.gcd a b = 1 ∧ p / (Int.gcd p q : Int) = a ∧ q / (Int.gcd p q : Int) = b := by
  have g := gcd_pos (p := p) h
  obtain ⟨a, ha⟩ := Int.gcd_dvd_left p q
  obtain ⟨b, hb⟩ := Int.gcd_dvd_right p q
  have ea : p / (Int.gcd p q : Int) = a := by
    conv => lhs; lhs; rw [ha]
    rw [Int.mul_ediv_cancel_left _ (by omega)]
  have eb : q / (Int.gcd p q : Int) = b := by
    conv => lhs; lhs; rw [hb]
    rw [Int.mul_ediv_cancel_left _ (by omega)]
  refine ⟨a, b, ha, hb, ?_, ?_, ea, eb⟩
  · rcases Int.lt_or_le 0 b with z | z
    · exact z
    · have : (Int.gcd p q : Int) * b ≤ 0 := Int.mul_nonpos_of_nonneg_of_nonpos (by omega) z
      omega
  · have := Int.gcd_ediv_gcd_ediv_gcd (i := p) (j := q) (by omega)
    rw [ea, eb] at this
    exact this
/-- the same fraction has the same lowest terms -/
theorem rd_eq {p q r s : Int} (hq : 0 < q) (hs : 0 < s) (h : p * s = r * q) : rd p q = rd r s := by
  obtain ⟨a, b, hp, hq', hb, hab, e1, e2⟩ := split (p := p) hq
  obtain ⟨c, d, hr, hs', hd, hcd, e3, e4⟩ := split (p := r) hs
  have g1 := gcd_pos (p := p) hq
  have g2 := gcd_pos (p := r) hs
  have h1 : a * d = c * b := by
    have h2 : ((Int.gcd p q : Int) * (Int.gcd r s : Int)) * (a * d) = ((Int.gcd p q : Int) * (Int.gcd r s : Int)) * (c * b) := by
      have h3 : ((Int.gcd p q : Int) * a) * ((Int.gcd r s : Int) * d) = ((Int.gcd r s : Int) * c) * ((Int.gcd p q : Int) * b) := by
        rw [← hp, ← hq', ← hr, ← hs']
        exact h
      calc _ = ((Int.gcd p q : Int) * a) * ((Int.gcd r s : Int) * d) := by ac_rfl
        _ = ((Int.gcd r s : Int) * c) * ((Int.gcd p q : Int) * b) := h3
        _ = _ := by ac_rfl
    exact Int.eq_of_mul_eq_mul_left (by have := Int.mul_pos g1 g2; omega) h2
  have d1 : b ∣ d := by
    have h3 : b ∣ d * a := ⟨c, by rw [Int.mul_comm d a, h1, Int.mul_comm]⟩
    have h4 : Int.gcd b (d * a) = Int.gcd b d := Int.gcd_mul_left_right_of_gcd_eq_one (by rw [Int.gcd_comm]; exact hab)
    have h5 : (Int.gcd b (d * a) : Int) = b := Int.gcd_eq_left (by omega) h3
    rw [h4] at h5
    rw [← h5]
    exact Int.gcd_dvd_right b d
  have d2 : d ∣ b := by
    have h3 : d ∣ b * c := ⟨a, by rw [Int.mul_comm b c, ← h1, Int.mul_comm]⟩
    have h4 : Int.gcd d (b * c) = Int.gcd d b := Int.gcd_mul_left_right_of_gcd_eq_one (by rw [Int.gcd_comm]; exact hcd)
    have h5 : (Int.gcd d (b * c) : Int) = d := Int.gcd_eq_left (by omega) h3
    rw [h4] at h5
    rw [← h5]
    exact Int.gcd_dvd_right d b
  have e5 : b = d := by
    have l1 := Int.le_of_dvd hd d1
    have l2 := Int.le_of_dvd hb d2
    omega
  have e6 : a = c := by
    rw [e5] at h1
    exact Int.eq_of_mul_eq_mul_right (by omega) h1
  unfold rd
  rw [e1, e2, e3, e4, e5, e6]
theorem rd_add {m n W : Int} (hW : 0 < W) : rd (m / (Int.gcd m W : Int) * (W / (Int.gcd n W : Int)) + n / (Int.gcd n W : Int) * (W / (Int.gcd m W : Int))) (W / (Int.gcd m W : Int) * (W / (Int.gcd n W : Int))) = rd (m + n) W := by
  obtain ⟨a, b, hm, hb', hb, _, e1, e2⟩ := split (p := m) hW
  obtain ⟨c, d, hn, hd', hd, _, e3, e4⟩ := split (p := n) hW
  rw [e1, e2, e3, e4]
  refine rd_eq (Int.mul_pos hb hd) hW ?_
  generalize (Int.gcd m W : Int) = g at *
  generalize (Int.gcd n W : Int) = k at *
  rw [Int.add_mul, Int.add_mul]
  have x1 : a * d * W = m * (b * d) := by
    rw [hb', hm]
    ac_rfl
  have x2 : c * b * W = n * (b * d) := by
    rw [hd', hn]
    ac_rfl
  rw [x1, x2]
theorem rd_zero {W : Int} (h : 0 < W) : rd 0 W = [0, 1] := by
  unfold rd
  have : (Int.gcd 0 W : Int) = W := by
    rw [Int.gcd_zero_left]
    omega
  rw [this, Int.zero_ediv, Int.ediv_self (by omega)]
theorem rd_one {m W : Int} (h : 0 < W) : rd m W = [1, 1] ↔ m = W := by
  constructor
  · intro e
    obtain ⟨a, b, hm, hb', hb, _, e1, e2⟩ := split (p := m) h
    unfold rd at e
    rw [e1, e2] at e
    simp only [List.cons.injEq, and_true] at e
    rw [e.1] at hm
    rw [e.2] at hb'
    omega
  · intro e
    subst e
    unfold rd
    have : (Int.gcd m m : Int) = m := by
      rw [Int.gcd_self]
      omega
    rw [this, Int.ediv_self (by omega)]
theorem rd_mul {m W t : Int} (hW : 0 < W) (ht : 0 < t) : rd (m * t) (W * t) = rd m W := rd_eq (Int.mul_pos hW ht) hW (by ac_rfl)
theorem rd_den {m W : Int} (hW : 0 < W) : 0 < W / (Int.gcd m W : Int) ∧ W / (Int.gcd m W : Int) ≤ W := by
  obtain ⟨a, b, hm, hb', hb, _, e1, e2⟩ := split (p := m) hW
  rw [e2]
  refine ⟨hb, ?_⟩
  have g := gcd_pos (p := m) hW
  have : 1 * b ≤ (Int.gcd m W : Int) * b := Int.mul_le_mul_of_nonneg_right (by omega) (by omega)
  omega
/-- the least common multiple of the denominators -/
def lcmI (a b : Int) : Int := a / (Int.gcd a b : Int) * b
theorem lcmI_pos {a b : Int} (ha : 0 < a) (hb : 0 < b) : 0 < lcmI a b := by
  obtain ⟨c, d, h1, h2, h3, _, e1, e2⟩ := split (p := a) hb
  unfold lcmI
  rw [e1]
  refine Int.mul_pos ?_ hb
  rcases Int.lt_or_le 0 c with z | z
  · exact z
  · have := Int.mul_nonpos_of_nonneg_of_nonpos (a := (Int.gcd a b : Int)) (b := c) (by omega) z
    omega
theorem lcmI_dvd {a b W : Int} (hb : 0 < b) (h1 : a ∣ W) (h2 : b ∣ W) : lcmI a b ∣ W := by
  obtain ⟨c, d, e1, e2, h3, co, q1, q2⟩ := split (p := a) hb
  have g := gcd_pos (p := a) hb
  unfold lcmI
  rw [q1]
  obtain ⟨x, hx⟩ := h1
  obtain ⟨y, hy⟩ := h2
  generalize hg : (Int.gcd a b : Int) = g' at *
  have : c * x = d * y := by
    have z : g' * (c * x) = g' * (d * y) := by
      rw [← Int.mul_assoc, ← Int.mul_assoc, ← e1, ← e2, ← hx, ← hy]
    exact Int.eq_of_mul_eq_mul_left (by omega) z
  have dv : c ∣ y := by
    have h5 : c ∣ y * d := ⟨x, by rw [Int.mul_comm y d, ← this]⟩
    have h6 : Int.gcd c (y * d) = Int.gcd c y := Int.gcd_mul_left_right_of_gcd_eq_one co
    have h7 : (Int.gcd c (y * d)) = c.natAbs := Int.gcd_eq_natAbs_left h5
    rw [h6] at h7
    have h8 := Int.gcd_dvd_right c y
    rw [h7] at h8
    exact Int.natAbs_dvd.mp h8
  obtain ⟨z, hz⟩ := dv
  exact ⟨z, by rw [hy, hz]; ac_rfl⟩
theorem dvd_lcmI {a b : Int} (hb : 0 < b) : a ∣ lcmI a b ∧ b ∣ lcmI a b := by
  obtain ⟨c, d, e1, e2, h3, co, q1, q2⟩ := split (p := a) hb
  unfold lcmI
  rw [q1]
  refine ⟨⟨d, ?_⟩, ⟨c, by ac_rfl⟩⟩
  conv => lhs; rw [e2]
  conv => rhs; lhs; rw [e1]
  ac_rfl
def lcmAll : List Int → Int := fun l => l.foldl lcmI 1
theorem lcmAll_spec {W : Int} (hW : 0 < W) : ∀ (l : List Int) (a : Int), 0 < a → a ∣ W → (∀ b ∈ l, 0 < b ∧ b ∣ W) → 0 < l.foldl lcmI a ∧ l.foldl lcmI a ∣ W ∧ a ∣ l.foldl lcmI a ∧ ∀ b ∈ l, b ∣ l.foldl lcmI a
  | [], a, h1, h2, _ => ⟨h1, h2, Int.dvd_refl _, fun _ h => by simp at h⟩
  | b :: l, a, h1, h2, h => by
    have hb := h b List.mem_cons_self
    have p := lcmI_pos h1 hb.1
    have q := lcmI_dvd hb.1 h2 hb.2
    obtain ⟨r1, r2, r3, r4⟩ := lcmAll_spec hW l (lcmI a b) p q fun c hc => h c (List.mem_cons_of_mem _ hc)
    have d := dvd_lcmI (a := a) hb.1
    refine ⟨r1, r2, Int.dvd_trans d.1 r3, fun c hc => ?_⟩
    rcases List.mem_cons.mp hc with e | hc
    · rw [e]
      exact Int.dvd_trans d.2 r3
    · exact r4 c hc
/-- parts without a common divisor: the denominators' least common multiple is the whole -/
theorem lcm_whole {W : Int} (hW : 0 < W) (ms : List Int) (h : ∀ d : Int, (∀ m ∈ ms, d ∣ m) → d ∣ W → d ∣ 1) : lcmAll (ms.map fun m => W / (Int.gcd m W : Int)) = W := by
  obtain ⟨p, q, _, r⟩ := lcmAll_spec hW (ms.map fun m => W / (Int.gcd m W : Int)) 1 (by omega) (Int.one_dvd _) fun b hb => by
    obtain ⟨m, _, rfl⟩ := List.mem_map.mp hb
    obtain ⟨a, b, hm, hb', hb, _, e1, e2⟩ := split (p := m) hW
    rw [e2]
    exact ⟨hb, ⟨(Int.gcd m W : Int), by rw [Int.mul_comm]; exact hb'⟩⟩
  unfold lcmAll
  generalize (ms.map fun m => W / (Int.gcd m W : Int)).foldl lcmI 1 = x at *
  obtain ⟨y, hy⟩ := q
  have hyp : 0 < y := by
    rcases Int.lt_or_le 0 y with z | z
    · exact z
    · have := Int.mul_nonpos_of_nonneg_of_nonpos (a := x) (b := y) (by omega) z
      omega
  have key : y ∣ 1 := by
    refine h y (fun m hm => ?_) ⟨x, by rw [Int.mul_comm]; exact hy⟩
    obtain ⟨a, b, e1, e2, hb, _, q1, q2⟩ := split (p := m) hW
    have rb := r (W / (Int.gcd m W : Int)) (List.mem_map.mpr ⟨m, hm, rfl⟩)
    rw [q2] at rb
    obtain ⟨z, hz⟩ := rb
    have g := gcd_pos (p := m) hW
    -- W = x y = b z y = g b
    have e3 : b * (z * y) = b * (Int.gcd m W : Int) := by
      rw [← Int.mul_assoc, ← hz, ← hy, Int.mul_comm b]
      exact e2
    have e4 : z * y = (Int.gcd m W : Int) := Int.eq_of_mul_eq_mul_left (by omega) e3
    rw [e1]
    exact ⟨z * a, by rw [← e4]; ac_rfl⟩
  have : y = 1 := by
    have := Int.le_of_dvd (by omega) key
    omega
  rw [this, Int.mul_one] at hy
  exact hy.symm
end M1
end
section
set_option Elab.async false
set_option linter.all false
set_option maxHeartbeats 1000000
/-! turns given out by the earliest end: each out's k-th turn stands between k and k + 1 shares of the whole -/
namespace M2
/-- sums over the outs -/
def S (n : Nat) (f : Nat → Int) : Int := ((List.range n).map f).sum
theorem S_zero (f : Nat → Int) : S 0 f = 0 := rfl
theorem S_succ (n : Nat) (f : Nat → Int) : S (n + 1) f = S n f + f n := by
  unfold S
  rw [List.range_succ, List.map_append, List.sum_append]
  simp
theorem S_le {f h : Nat → Int} : ∀ {n : Nat}, (∀ i, i < n → f i ≤ h i) → S n f ≤ S n h
  | 0, _ => Int.le_refl _
  | n + 1, q => by
    rw [S_succ, S_succ]
    have := S_le (n := n) fun i hi => q i (by omega)
    have := q n (by omega)
    omega
theorem S_lt {f h : Nat → Int} {j : Nat} : ∀ {n : Nat}, j < n → (∀ i, i < n → f i ≤ h i) → f j + 1 ≤ h j → S n f + 1 ≤ S n h
  | 0, hj, _, _ => by omega
  | n + 1, hj, q, z => by
    rw [S_succ, S_succ]
    by_cases e : j = n
    · subst e
      have := S_le (n := j) fun i hi => q i (by omega)
      omega
    · have := S_lt (n := n) (by omega) (fun i hi => q i (by omega)) z
      have := q n (by omega)
      omega
theorem S_mul {f : Nat → Int} (c : Int) : ∀ n, S n (fun i => c * f i) = c * S n f
  | 0 => by simp [S_zero]
  | n + 1 => by
    rw [S_succ, S_succ, S_mul c n, Int.mul_add]
theorem S_const0 : ∀ n, S n (fun _ => 0) = 0
  | 0 => rfl
  | n + 1 => by rw [S_succ, S_const0 n]; rfl
/-- one more at j -/
def bump (g : Nat → Int) (j : Nat) : Nat → Int := fun i => if i = j then g i + 1 else g i
theorem S_bump {g : Nat → Int} {j : Nat} : ∀ {n : Nat}, j < n → S n (bump g j) = S n g + 1
  | 0, h => by omega
  | n + 1, h => by
    rw [S_succ, S_succ]
    by_cases e : j = n
    · subst e
      have : S j (bump g j) = S j g := by
        unfold S
        congr 1
        refine List.map_congr_left fun i hi => ?_
        have := List.mem_range.mp hi
        unfold bump
        rw [if_neg (by omega)]
      rw [this]
      unfold bump
      rw [if_pos rfl]
      omega
    · rw [S_bump (n := n) (by omega)]
      unfold bump
      rw [if_neg (fun z => e z.symm)]
      omega
section
variable (W : Int) (s : Nat → Int)
/-- by when the next turn of an out must be, and from when on it may be -/
def dl (g : Nat → Int) (i : Nat) : Int := -((-(g i + 1)) * W / s i)
def rl (g : Nat → Int) (i : Nat) : Int := g i * W / s i
def elig (g : Nat → Int) (t : Int) (i : Nat) : Bool := decide (g i < s i) && decide (rl W s g i ≤ t)
def better (g : Nat → Int) (b : Option (Int × Nat)) (k : Nat) : Option (Int × Nat) := match b with
  | none => some (dl W s g k, k)
  | some (d, o) => if dl W s g k < d then some (dl W s g k, k) else some (d, o)
def pickTo (g : Nat → Int) (t : Int) : Nat → Option (Int × Nat)
  | 0 => none
  | k + 1 => if elig W s g t k = true then better W s g (pickTo g t k) k else pickTo g t k
end
section
variable {W : Int} {s : Nat → Int}
theorem elig_iff {g : Nat → Int} {t : Int} {i : Nat} : elig W s g t i = true ↔ g i < s i ∧ rl W s g i ≤ t := by simp [elig]
theorem pick_none {g : Nat → Int} {t : Int} : ∀ {k : Nat}, pickTo W s g t k = none → ∀ i, i < k → ¬ elig W s g t i = true
  | 0, _, i, hi => by omega
  | k + 1, h, i, hi => by
    unfold pickTo at h
    split at h
    · unfold better at h
      split at h
      · cases h
      · split at h <;> cases h
    · rename_i z
      by_cases e : i = k
      · subst e
        exact z
      · exact pick_none h i (by omega)
theorem pick_some {g : Nat → Int} {t : Int} : ∀ {k : Nat} {d : Int} {o : Nat}, pickTo W s g t k = some (d, o) → o < k ∧ elig W s g t o = true ∧ d = dl W s g o ∧ ∀ i, i < k → elig W s g t i = true → d < dl W s g i ∨ (d = dl W s g i ∧ o ≤ i)
  | 0, _, _, h => by cases h
  | k + 1, d, o, h => by
    unfold pickTo at h
    split at h
    · rename_i ek
      unfold better at h
      split at h
      · rename_i hn
        cases h
        refine ⟨by omega, ek, rfl, fun i hi he => ?_⟩
        by_cases e : i = k
        · subst e
          exact .inr ⟨rfl, Nat.le_refl _⟩
        · exact absurd he (pick_none hn i (by omega))
      · rename_i d' o' hs
        obtain ⟨h1, h2, h3, h4⟩ := pick_some hs
        split at h
        · rename_i lt
          cases h
          refine ⟨by omega, ek, rfl, fun i hi he => ?_⟩
          by_cases e : i = k
          · subst e
            exact .inr ⟨rfl, Nat.le_refl _⟩
          · rcases h4 i (by omega) he with z | z <;> exact .inl (by omega)
        · rename_i lt
          cases h
          refine ⟨by omega, h2, h3, fun i hi he => ?_⟩
          by_cases e : i = k
          · subst e
            by_cases z : d = dl W s g i
            · exact .inr ⟨z, by omega⟩
            · exact .inl (by omega)
          · exact h4 i (by omega) he
    · rename_i ek
      obtain ⟨h1, h2, h3, h4⟩ := pick_some h
      refine ⟨by omega, h2, h3, fun i hi he => ?_⟩
      by_cases e : i = k
      · subst e
        exact absurd he ek
      · exact h4 i (by omega) he
end
/-- whose turn it is -/
def pkOf (W : Int) (s : Nat → Int) (n : Nat) (g : Nat → Int) (t : Nat) : Nat := ((pickTo W s g t n).map (·.2)).getD 0
/-- what has been given ahead of turn t -/
def gv (W : Int) (s : Nat → Int) (n : Nat) : Nat → Nat → Int
  | 0 => fun _ => 0
  | t + 1 => bump (gv W s n t) (pkOf W s n (gv W s n t) t)
def pk (W : Int) (s : Nat → Int) (n t : Nat) : Nat := pkOf W s n (gv W s n t) t
theorem gv_succ (W : Int) (s : Nat → Int) (n t : Nat) : gv W s n (t + 1) = bump (gv W s n t) (pk W s n t) := rfl
/-- the turns of an out that must be by b and are not yet -/
def ex (W : Int) (s g : Nat → Int) (b : Int) (i : Nat) : Int := max 0 (b * s i / W - g i)
section
variable {W : Int} {s : Nat → Int} {n : Nat}
/-- what holds ahead of turn t -/
structure Good (W : Int) (s : Nat → Int) (n : Nat) (g : Nat → Int) (t : Int) : Prop where
  sum : S n g = t
  lo : ∀ i, i < n → 0 ≤ g i
  hi : ∀ i, i < n → g i ≤ s i
  up : ∀ i, i < n → (g i - 1) * W < t * s i
  inv : ∀ b, t ≤ b → b ≤ W → S n (ex W s g b) ≤ b - t
theorem dl_le {g : Nat → Int} {i : Nat} {b : Int} (hs : 0 < s i) : dl W s g i ≤ b ↔ (g i + 1) * W ≤ b * s i := by
  unfold dl
  have h1 : -((-(g i + 1)) * W / s i) ≤ b ↔ -b ≤ (-(g i + 1)) * W / s i := by omega
  rw [h1, Int.le_ediv_iff_mul_le hs, Int.neg_mul, Int.neg_mul]
  omega
theorem rl_le {g : Nat → Int} {i : Nat} {t : Int} (hs : 0 < s i) : rl W s g i ≤ t ↔ g i * W < (t + 1) * s i := by
  unfold rl
  rw [← Int.ediv_lt_iff_lt_mul hs]
  omega
theorem ex_le0 {g : Nat → Int} {i : Nat} {b : Int} (hW : 0 < W) (hs : 0 < s i) (h : b < dl W s g i) : ex W s g b i = 0 := by
  have h1 : ¬ (g i + 1) * W ≤ b * s i := fun z => by
    have := dl_le (W := W) (g := g) hs |>.mpr z
    omega
  have h2 : b * s i / W < g i + 1 := by
    rw [Int.ediv_lt_iff_lt_mul hW]
    omega
  unfold ex
  omega
theorem ex_pos {g : Nat → Int} {i : Nat} {b : Int} (hW : 0 < W) (hs : 0 < s i) (h : dl W s g i ≤ b) : 1 ≤ ex W s g b i ∧ ex W s g b i = b * s i / W - g i := by
  have h1 := dl_le (W := W) (g := g) hs |>.mp h
  have h2 : g i + 1 ≤ b * s i / W := by
    rw [Int.le_ediv_iff_mul_le hW]
    exact h1
  unfold ex
  omega
theorem start (hW : 0 < W) (hsum : S n s = W) (hs : ∀ i, i < n → 0 < s i) : Good W s n (fun _ => 0) 0 := by
  refine ⟨S_const0 n, fun _ _ => Int.le_refl _, fun i hi => by have := hs i hi; omega, fun i hi => by rw [Int.zero_mul]; omega, fun b h0 h1 => ?_⟩
  have h2 : W * S n (ex W s (fun _ => 0) b) ≤ W * b := by
    have : S n (fun i => W * ex W s (fun _ => 0) b i) ≤ S n (fun i => b * s i) := S_le fun i hi => by
      have p : 0 ≤ b * s i := Int.mul_nonneg h0 (by have := hs i hi; omega)
      have q : 0 ≤ b * s i / W := Int.ediv_nonneg p (by omega)
      have r := Int.ediv_mul_le (b * s i) (b := W) (by omega)
      unfold ex
      rw [Int.sub_zero, Int.max_eq_right q, Int.mul_comm]
      exact r
    rw [S_mul W, S_mul b, hsum, Int.mul_comm b W] at this
    exact this
  have := Int.le_of_mul_le_mul_left h2 hW
  omega
/-- there is an out to be given -/
theorem some_one {g : Nat → Int} {t : Int} (hW : 0 < W) (hsum : S n s = W) (hs : ∀ i, i < n → 0 < s i) (G : Good W s n g t) (ht : t < W) : ∃ d o, pickTo W s g t n = some (d, o) := by
  cases h : pickTo W s g t n with
  | some p => exact ⟨p.1, p.2, rfl⟩
  | none =>
    exfalso
    have hn := pick_none h
    have h1 : (t + 1) * S n s ≤ W * S n g := by
      rw [← S_mul, ← S_mul]
      refine S_le fun i hi => ?_
      have hi' := hs i hi
      rcases Int.lt_or_le (g i) (s i) with z | z
      · have z2 : ¬ rl W s g i ≤ t := fun z3 => hn i hi (elig_iff.mpr ⟨z, z3⟩)
        rw [rl_le hi'] at z2
        rw [Int.mul_comm W]
        omega
      · have e : g i = s i := by have := G.hi i hi; omega
        rw [e]
        exact Int.mul_le_mul_of_nonneg_right (by omega) (by omega)
    rw [hsum, G.sum, Int.mul_comm W t] at h1
    have := Int.le_of_mul_le_mul_right h1 hW
    omega
theorem next {g : Nat → Int} {t d : Int} {o : Nat} (hW : 0 < W) (hsum : S n s = W) (hs : ∀ i, i < n → 0 < s i) (G : Good W s n g t) (ht : t < W) (hp : pickTo W s g t n = some (d, o)) : Good W s n (bump g o) (t + 1) := by
  obtain ⟨ho, el, hd, hmin⟩ := pick_some hp
  obtain ⟨e1, e2⟩ := elig_iff.mp el
  have hso := hs o ho
  have ht0 : 0 ≤ t := by
    rw [← G.sum, ← S_const0 n]
    exact S_le fun i hi => G.lo i hi
  refine ⟨by rw [S_bump ho, G.sum], fun i hi => ?_, fun i hi => ?_, fun i hi => ?_, fun b h0 h1 => ?_⟩
  · have := G.lo i hi
    unfold bump
    split <;> omega
  · have := G.hi i hi
    unfold bump
    split
    · rename_i z
      subst z
      omega
    · omega
  · have hi' := hs i hi
    unfold bump
    split
    · rename_i z
      subst z
      rw [rl_le hi'] at e2
      rw [Int.add_sub_cancel]
      exact e2
    · have := G.up i hi
      rw [Int.add_mul, Int.one_mul]
      omega
  · by_cases hb : d ≤ b
    · have h2 := G.inv b (by omega) h1
      have h3 : S n (ex W s (bump g o) b) + 1 ≤ S n (ex W s g b) := by
        refine S_lt (j := o) ho (fun i hi => ?_) ?_
        · unfold ex bump
          split <;> omega
        · obtain ⟨p1, p2⟩ := ex_pos (g := g) hW hso (hd ▸ hb)
          rw [p2]
          have p3 : ex W s (bump g o) b o = max 0 (b * s o / W - (g o + 1)) := by
            unfold ex bump
            rw [if_pos rfl]
          rw [p3]
          omega
      omega
    · have h2 : W * S n (ex W s (bump g o) b) ≤ (b - (t + 1)) * S n s := by
        rw [← S_mul, ← S_mul]
        refine S_le fun i hi => ?_
        have hi' := hs i hi
        have nn : 0 ≤ (b - (t + 1)) * s i := Int.mul_nonneg (by omega) (by omega)
        have le : ex W s (bump g o) b i ≤ ex W s g b i := by
          unfold ex bump
          split <;> omega
        have m : W * ex W s (bump g o) b i ≤ W * ex W s g b i := Int.mul_le_mul_of_nonneg_left le (by omega)
        refine Int.le_trans m ?_
        by_cases el' : elig W s g t i = true
        · have : b < dl W s g i := by
            rcases hmin i hi el' with z | z <;> omega
          rw [ex_le0 hW hi' this, Int.mul_zero]
          exact nn
        · have key : (t + 1) * s i ≤ g i * W := by
            rcases Int.lt_or_le (g i) (s i) with z | z
            · have z2 : ¬ rl W s g i ≤ t := fun z3 => el' (elig_iff.mpr ⟨z, z3⟩)
              rw [rl_le hi'] at z2
              omega
            · have e : g i = s i := by have := G.hi i hi; omega
              rw [e, Int.mul_comm (s i)]
              exact Int.mul_le_mul_of_nonneg_right (by omega) (by omega)
          have r := Int.ediv_mul_le (b * s i) (b := W) (by omega)
          have r2 : (b * s i / W - g i) * W ≤ (b - (t + 1)) * s i := by
            rw [Int.sub_mul, Int.sub_mul]
            omega
          unfold ex
          rcases Int.le_total 0 (b * s i / W - g i) with z | z
          · rw [Int.max_eq_right z, Int.mul_comm]
            exact r2
          · rw [Int.max_eq_left z, Int.mul_zero]
            exact nn
      rw [hsum, Int.mul_comm W] at h2
      exact Int.le_of_mul_le_mul_right h2 hW
end
end M2
end
section
set_option Elab.async false
set_option linter.all false
set_option maxHeartbeats 1000000
/-! all turns ahead, and the same turns from a list of jobs -/
namespace M2
section
variable {N n : Nat} {s : Nat → Int}
theorem good_at (hN : 0 < N) (hsum : S n s = N) (hs : ∀ i, i < n → 0 < s i) : ∀ t : Nat, t ≤ N → Good N s n (gv N s n t) t
  | 0, _ => start (by omega) hsum hs
  | t + 1, h => by
    have G := good_at hN hsum hs t (by omega)
    obtain ⟨d, o, hp⟩ := some_one (by omega) hsum hs G (by omega)
    have e : pk N s n t = o := by
      unfold pk pkOf
      rw [hp]
      rfl
    rw [gv_succ, e]
    have := next (by omega) hsum hs G (by omega) hp
    have e2 : ((t : Int) + 1) = ((t + 1 : Nat) : Int) := by omega
    rw [← e2]
    exact this
theorem pick_at (hN : 0 < N) (hsum : S n s = N) (hs : ∀ i, i < n → 0 < s i) {t : Nat} (ht : t < N) : ∃ d, pickTo N s (gv N s n t) t n = some (d, pk N s n t) ∧ pk N s n t < n := by
  obtain ⟨d, o, hp⟩ := some_one (by omega) hsum hs (good_at hN hsum hs t (by omega)) (by omega)
  have e : pk N s n t = o := by
    unfold pk pkOf
    rw [hp]
    rfl
  refine ⟨d, by rw [e]; exact hp, ?_⟩
  rw [e]
  exact (pick_some hp).1
theorem ex_nn {W : Int} {g : Nat → Int} {b : Int} {i : Nat} : 0 ≤ ex W s g b i := by
  unfold ex
  omega
theorem S_one {f : Nat → Int} {j n : Nat} (hj : j < n) (h : ∀ i, i < n → 0 ≤ f i) : f j ≤ S n f := by
  have : S n (fun i => if i = j then f j else 0) ≤ S n f := S_le fun i hi => by
    split
    · rename_i e
      subst e
      exact Int.le_refl _
    · exact h i hi
  refine Int.le_trans ?_ this
  clear this h
  induction n with
  | zero => omega
  | succ n ih =>
    rw [S_succ]
    by_cases e : j = n
    · subst e
      rw [if_pos rfl]
      have : S j (fun i => if i = j then f j else 0) = S j (fun _ => 0) := by
        unfold S
        congr 1
        refine List.map_congr_left fun i hi => ?_
        have := List.mem_range.mp hi
        rw [if_neg (by omega)]
      rw [this, S_const0]
      omega
    · rw [if_neg (fun z => e z.symm)]
      have := ih (by omega)
      omega
/-- at the end each has its share -/
theorem gv_end (hN : 0 < N) (hsum : S n s = N) (hs : ∀ i, i < n → 0 < s i) {i : Nat} (hi : i < n) : gv N s n N i = s i := by
  have G := good_at hN hsum hs N (Nat.le_refl _)
  have h1 := G.inv N (Int.le_refl _) (Int.le_refl _)
  have h2 := S_one (f := ex N s (gv N s n N) N) hi fun i _ => ex_nn
  have h3 : (N : Int) * s i / N = s i := Int.mul_ediv_cancel_left _ (by omega)
  have h4 := G.hi i hi
  have h5 : ex N s (gv N s n N) N i = max 0 (s i - gv N s n N i) := by
    unfold ex
    rw [h3]
  rw [h5] at h2
  omega
/-- never a whole turn off -/
theorem near (hN : 0 < N) (hsum : S n s = N) (hs : ∀ i, i < n → 0 < s i) {t i : Nat} (ht : t ≤ N) (hi : i < n) : 0 - (N : Int) < gv N s n t i * N - s i * t ∧ gv N s n t i * N - s i * t < N := by
  have G := good_at hN hsum hs t ht
  have h1 := G.inv t (Int.le_refl _) (by omega)
  have h2 := S_one (f := ex N s (gv N s n t) t) hi fun i _ => ex_nn
  have h3 : (t : Int) * s i / N ≤ gv N s n t i := by
    have h2' : ex N s (gv N s n t) t i ≤ 0 := by omega
    unfold ex at h2'
    omega
  have h4 : (t : Int) * s i < (gv N s n t i + 1) * N := by
    rw [← Int.ediv_lt_iff_lt_mul (show (0 : Int) < N by omega)]
    exact Int.lt_add_one_iff.mpr h3
  have h5 := G.up i hi
  rw [Int.add_mul, Int.one_mul] at h4
  rw [Int.sub_mul, Int.one_mul] at h5
  have h6 : s i * (t : Int) = t * s i := Int.mul_comm _ _
  constructor <;> omega
/-! jobs -/
abbrev T3 := Int × Int × Int
def job (W : Int) (s : Nat → Int) (o : Nat) (k : Int) : T3 := (0 - (0 - (k + 1) * W) / s o, (o : Int), k * W / s o)
theorem job_dl {W : Int} {g : Nat → Int} {o : Nat} : (job W s o (g o)).1 = dl W s g o := by
  unfold job dl
  rw [Int.neg_mul]
  show 0 - (0 - (g o + 1) * W) / s o = _
  rw [Int.zero_sub, Int.zero_sub]
theorem job_rl {W : Int} {g : Nat → Int} {o : Nat} : (job W s o (g o)).2.2 = rl W s g o := rfl
theorem job_le {W : Int} {o : Nat} {k b : Int} (hs : 0 < s o) : (job W s o k).1 ≤ b ↔ (k + 1) * W ≤ b * s o := by
  have := job_dl (W := W) (s := s) (g := fun _ => k) (o := o)
  rw [this, dl_le hs]
theorem job_lt {W : Int} {o : Nat} {k k' : Int} (hs : 0 < s o) (hW : s o ≤ W) (h : k < k') : (job W s o k).1 < (job W s o k').1 := by
  rcases Int.lt_or_le (job W s o k).1 (job W s o k').1 with z | z
  · exact z
  · exfalso
    have h1 := (job_le (W := W) (k := k') (b := (job W s o k).1) hs).mp z
    have h2 : ¬ (job W s o k).1 ≤ (job W s o k).1 - 1 := by omega
    rw [job_le hs] at h2
    have h3 : (k + 1 + 1) * W ≤ (k' + 1) * W := Int.mul_le_mul_of_nonneg_right (by omega) (by omega)
    rw [Int.sub_mul, Int.one_mul] at h2
    rw [Int.add_mul (k + 1), Int.one_mul] at h3
    omega
theorem job_inj {W : Int} {o o' : Nat} {k k' : Int} (hs : 0 < s o) (hW : s o ≤ W) (h : job W s o k = job W s o' k') : o = o' ∧ k = k' := by
  have h1 : o = o' := by
    have : ((o : Nat) : Int) = o' := congrArg (fun p : T3 => p.2.1) h
    omega
  subst h1
  refine ⟨rfl, ?_⟩
  have h2 : (job W s o k).1 = (job W s o k').1 := congrArg (fun p : T3 => p.1) h
  rcases Int.lt_trichotomy k k' with z | z | z
  · have := job_lt (W := W) hs hW z
    omega
  · exact z
  · have := job_lt (W := W) hs hW z
    omega
theorem rl_mono {W : Int} {o : Nat} {k k' : Int} (hs : 0 < s o) (hW : 0 ≤ W) (h : k ≤ k') : (job W s o k).2.2 ≤ (job W s o k').2.2 :=
  Int.ediv_le_ediv hs (Int.mul_le_mul_of_nonneg_right h hW)
/-- the jobs that are left -/
structure Left (W : Int) (s : Nat → Int) (n : Nat) (g : Nat → Int) (l : List T3) : Prop where
  nd : l.Nodup
  mem : ∀ x, x ∈ l ↔ ∃ (o : Nat) (k : Int), o < n ∧ g o ≤ k ∧ k < s o ∧ x = job W s o k
def lex3 (p q : T3) : Prop := p.1 < q.1 ∨ (p.1 = q.1 ∧ (p.2.1 < q.2.1 ∨ (p.2.1 = q.2.1 ∧ p.2.2 < q.2.2)))
/-- the first of those that may be is the one that is picked -/
theorem head_is {W : Int} {g : Nat → Int} {t d : Int} {o : Nat} {l : List T3} (hW : ∀ i, i < n → s i ≤ W) (hs : ∀ i, i < n → 0 < s i) (L : Left W s n g l) (hp : pickTo W s g t n = some (d, o))
    {h : T3} (hm : h ∈ l) (hr : h.2.2 ≤ t) (hmin : ∀ x ∈ l, x.2.2 ≤ t → ¬ lex3 x h) : h = job W s o (g o) := by
  obtain ⟨ho, el, hd, hbest⟩ := pick_some hp
  obtain ⟨e1, e2⟩ := elig_iff.mp el
  obtain ⟨o', k, ho', hk1, hk2, rfl⟩ := (L.mem h).mp hm
  have s1 := hs o' ho'
  have w1 := hW o' ho'
  have hj := hmin (job W s o (g o)) ((L.mem _).mpr ⟨o, g o, ho, Int.le_refl _, e1, rfl⟩) e2
  have el' : elig W s g t o' = true := elig_iff.mpr ⟨by omega, by
    have := rl_mono (W := W) (s := s) (o := o') s1 (by omega) hk1
    have e : (job W s o' (g o')).2.2 = rl W s g o' := rfl
    rw [e] at this
    omega⟩
  have hb := hbest o' ho' el'
  have q1 : (job W s o' (g o')).1 ≤ (job W s o' k).1 := by
    rcases Int.lt_or_le (g o') k with z | z
    · have := job_lt (W := W) s1 w1 z
      omega
    · have : k = g o' := by omega
      rw [this]
      exact Int.le_refl _
  rw [job_dl] at q1
  have q2 : (job W s o (g o)).1 = d := by rw [job_dl, hd]
  have q3 : (job W s o (g o)).2.1 = (o : Int) := rfl
  have q4 : (job W s o' k).2.1 = (o' : Int) := rfl
  unfold lex3 at hj
  rw [q2, q3, q4] at hj
  have ho2 : o = o' := by omega
  subst ho2
  have hk : k = g o := by
    rcases Int.lt_or_le (g o) k with z | z
    · have := job_lt (W := W) s1 w1 z
      rw [job_dl] at this
      omega
    · omega
  rw [hk]
theorem left_next {W : Int} {g : Nat → Int} {o : Nat} {l : List T3} {j : Nat} (hW : ∀ i, i < n → s i ≤ W) (hs : ∀ i, i < n → 0 < s i) (L : Left W s n g l) (ho : o < n) (hj : l[j]? = some (job W s o (g o))) : Left W s n (bump g o) (l.eraseIdx j) := by
  obtain ⟨hjl, ej⟩ := List.getElem?_eq_some_iff.mp hj
  refine ⟨L.nd.sublist (List.eraseIdx_sublist ..), fun x => ?_⟩
  have hmem : x ∈ l.eraseIdx j ↔ x ∈ l ∧ x ≠ job W s o (g o) := by
    rw [List.mem_eraseIdx_iff_getElem]
    constructor
    · rintro ⟨i, hi, hne, e⟩
      refine ⟨e ▸ List.getElem_mem _, fun z => hne ?_⟩
      exact (List.getElem_inj L.nd).mp (by rw [e, z, ej])
    · rintro ⟨hx, hne⟩
      obtain ⟨i, hi, e⟩ := List.getElem_of_mem hx
      refine ⟨i, hi, fun z => ?_, e⟩
      subst z
      exact hne (e.symm.trans ej)
  rw [hmem, L.mem]
  constructor
  · rintro ⟨⟨o', k, h1, h2, h3, rfl⟩, hne⟩
    refine ⟨o', k, h1, ?_, h3, rfl⟩
    unfold bump
    split
    · rename_i e
      subst e
      have : k ≠ g o' := fun z => hne (by rw [z])
      omega
    · exact h2
  · rintro ⟨o', k, h1, h2, h3, rfl⟩
    have h4 : g o' ≤ k := by
      unfold bump at h2
      split at h2 <;> omega
    refine ⟨⟨o', k, h1, h4, h3, rfl⟩, fun z => ?_⟩
    obtain ⟨rfl, e⟩ := job_inj (hs o' h1) (hW o' h1) z
    unfold bump at h2
    rw [if_pos rfl] at h2
    omega
/-- all jobs, out by out -/
def jobs (W : Int) (s : Nat → Int) (o : Nat) (m : Nat) : List T3 := (List.range m).map fun (k : Nat) => job W s o (k : Int)
def allJobs (W : Int) (s : Nat → Int) (n : Nat) : List T3 := (List.range n).flatMap fun o => jobs W s o (s o).toNat
theorem left_all {W : Int} (hW : ∀ i, i < n → s i ≤ W) (hs : ∀ i, i < n → 0 < s i) : Left W s n (fun _ => 0) (allJobs W s n) := by
  constructor
  · have key : ∀ m, m ≤ n → (allJobs W s m).Nodup := by
      intro m
      induction m with
      | zero => intro _; exact List.nodup_nil
      | succ m ih =>
        intro hm
        unfold allJobs
        rw [List.range_succ, List.flatMap_append]
        refine List.nodup_append.mpr ⟨ih (by omega), ?_, ?_⟩
        · simp only [List.flatMap_cons, List.flatMap_nil, List.append_nil]
          unfold jobs
          refine List.Pairwise.map _ ?_ List.nodup_range
          intro a b hab e
          have := (job_inj (hs m (by omega)) (hW m (by omega)) e).2
          omega
        · intro a ha b hb e
          subst e
          simp only [List.flatMap_cons, List.flatMap_nil, List.append_nil, jobs, List.mem_map, List.mem_flatMap, List.mem_range] at ha hb
          obtain ⟨o, ho, k, hk, e1⟩ := ha
          obtain ⟨k', hk', e2⟩ := hb
          have := (job_inj (hs o (by omega)) (hW o (by omega)) (e1.trans e2.symm)).1
          omega
    exact key n (Nat.le_refl _)
  · intro x
    simp only [allJobs, jobs, List.mem_flatMap, List.mem_map, List.mem_range]
    constructor
    · rintro ⟨o, ho, k, hk, rfl⟩
      exact ⟨o, k, ho, by omega, by omega, rfl⟩
    · rintro ⟨o, k, ho, h1, h2, rfl⟩
      refine ⟨o, ho, k.toNat, by omega, ?_⟩
      rw [Int.toNat_of_nonneg h1]
end
end M2
end
section
set_option Elab.async false
set_option linter.all false
set_option maxHeartbeats 1000000
/-! parts over their common divisor -/
namespace M1
def gStep (g p : Int) : Int := (Int.gcd p g : Int)
def gA (l : List Int) : Int := l.foldl gStep 0
theorem gStep_nn (g p : Int) : 0 ≤ gStep g p := Int.natCast_nonneg _
theorem gFold : ∀ (l : List Int) (g : Int), (∀ p ∈ l, 0 < p) → 0 ≤ g → (l.foldl gStep g ∣ g) ∧ (∀ p ∈ l, l.foldl gStep g ∣ p) ∧ (∀ d : Int, d ∣ g → (∀ p ∈ l, d ∣ p) → d ∣ l.foldl gStep g) ∧ 0 ≤ l.foldl gStep g ∧ (l ≠ [] → 0 < l.foldl gStep g)
  | [], g, _, h => ⟨Int.dvd_refl _, fun _ hp => by simp at hp, fun d hd _ => hd, h, fun z => absurd rfl z⟩
  | p :: l, g, hp, h => by
    have p0 := hp p List.mem_cons_self
    have gp : 0 < gStep g p := by
      unfold gStep
      have := Int.gcd_pos_of_ne_zero_left (a := p) g (by omega)
      omega
    obtain ⟨h1, h2, h3, h4, h5⟩ := gFold l (gStep g p) (fun q hq => hp q (List.mem_cons_of_mem _ hq)) (gStep_nn _ _)
    have d1 : gStep g p ∣ p := Int.gcd_dvd_left p g
    have d2 : gStep g p ∣ g := Int.gcd_dvd_right p g
    refine ⟨Int.dvd_trans h1 d2, fun q hq => ?_, fun d hd hq => h3 d ?_ fun q hq' => hq q (List.mem_cons_of_mem _ hq'), h4, fun _ => ?_⟩
    · rcases List.mem_cons.mp hq with e | hq
      · rw [e]
        exact Int.dvd_trans h1 d1
      · exact h2 q hq
    · exact Int.dvd_coe_gcd (hq p List.mem_cons_self) hd
    · obtain ⟨k, hk⟩ := h1
      rcases Int.lt_or_le 0 (l.foldl gStep (gStep g p)) with z | z
      · exact z
      · have : l.foldl gStep (gStep g p) = 0 := by omega
        rw [this, Int.zero_mul] at hk
        omega
/-- the parts without their common divisor -/
def over (l : List Int) : List Int := l.map fun p => p / gA l
theorem over_len (l : List Int) : (over l).length = l.length := by simp [over]
theorem gA_facts {l : List Int} (h0 : l ≠ []) (hp : ∀ p ∈ l, 0 < p) : 0 < gA l ∧ (∀ p ∈ l, gA l ∣ p) ∧ ∀ d : Int, (∀ p ∈ l, d ∣ p) → d ∣ gA l := by
  obtain ⟨_, h2, h3, _, h5⟩ := gFold l 0 hp (Int.le_refl _)
  exact ⟨h5 h0, h2, fun d hd => h3 d (Int.dvd_zero d) hd⟩
theorem over_pos {l : List Int} (h0 : l ≠ []) (hp : ∀ p ∈ l, 0 < p) : ∀ m ∈ over l, 0 < m := by
  obtain ⟨g0, gd, _⟩ := gA_facts h0 hp
  intro m hm
  obtain ⟨p, hpl, rfl⟩ := List.mem_map.mp hm
  obtain ⟨k, hk⟩ := gd p hpl
  have p0 := hp p hpl
  have e : p / gA l = k := by
    conv => lhs; lhs; rw [hk]
    exact Int.mul_ediv_cancel_left _ (by omega)
  show 0 < p / gA l
  rw [e]
  rcases Int.lt_or_le 0 k with z | z
  · exact z
  · have := Int.mul_nonpos_of_nonneg_of_nonpos (a := gA l) (b := k) (by omega) z
    omega
theorem over_le {l : List Int} {b : Int} (h0 : l ≠ []) (hp : ∀ p ∈ l, 0 < p) (hb : ∀ p ∈ l, p ≤ b) : ∀ m ∈ over l, m ≤ b := by
  intro m hm
  obtain ⟨p, hpl, rfl⟩ := List.mem_map.mp hm
  have := Int.ediv_le_self (gA l) (Int.le_of_lt (hp p hpl))
  have := hb p hpl
  show p / gA l ≤ b
  omega
theorem over_no {l : List Int} (h0 : l ≠ []) (hp : ∀ p ∈ l, 0 < p) (d : Int) (hd : ∀ m ∈ over l, d ∣ m) : d ∣ 1 := by
  obtain ⟨g0, gd, gg⟩ := gA_facts h0 hp
  have : d * gA l ∣ gA l := gg _ fun p hpl => by
    obtain ⟨k, hk⟩ := hd (p / gA l) (List.mem_map.mpr ⟨p, hpl, rfl⟩)
    obtain ⟨j, hj⟩ := gd p hpl
    have e : p / gA l = j := by
      conv => lhs; lhs; rw [hj]
      exact Int.mul_ediv_cancel_left _ (by omega)
    refine ⟨k, ?_⟩
    rw [hj, ← e, hk]
    ac_rfl
  obtain ⟨k, hk⟩ := this
  refine ⟨k, ?_⟩
  have h1 : gA l * 1 = gA l * (d * k) := by
    rw [Int.mul_one]
    conv => lhs; rw [hk]
    ac_rfl
  exact Int.eq_of_mul_eq_mul_left (by omega) h1
theorem sum_pos : ∀ {l : List Int}, l ≠ [] → (∀ m ∈ l, 0 < m) → 0 < l.sum
  | [], h, _ => absurd rfl h
  | [m], _, h => by
    have := h m List.mem_cons_self
    simpa using this
  | m :: n :: l, _, h => by
    have := sum_pos (l := n :: l) (by simp) fun q hq => h q (List.mem_cons_of_mem _ hq)
    have := h m List.mem_cons_self
    rw [List.sum_cons]
    omega
theorem sum_le {b : Int} : ∀ {l : List Int}, (∀ m ∈ l, m ≤ b) → l.sum ≤ b * l.length
  | [], _ => by simp
  | m :: l, h => by
    have := sum_le (l := l) fun q hq => h q (List.mem_cons_of_mem _ hq)
    have := h m List.mem_cons_self
    rw [List.sum_cons, List.length_cons, Int.natCast_add, Int.mul_add]
    simp
    omega
end M1
end
section
set_option Elab.async false
set_option linter.all false
set_option maxRecDepth 100000
set_option maxHeartbeats 4000000
namespace K91
open PySem PySem.Spec PyProof.Rows L2 KB
/-- a def as it stands behind the top, whatever its defaults -/
structure FunA (K : PySem.W.Frag) (x qual : Str) (st : Stmt) (f : Addr) (fd : FuncData) : Prop where
  ex : ∃ (oc : Value) (od : Option Addr) (dV kV doc pm : Value) (an : Option Addr) (cdv ct : Value) (osl : Array (Option Value)),
    fd = PySem.W.fnOf x qual (defArgs st) (defBody st) (defScope st) dV kV doc pm an cdv ct ∧ K.lookup f = some ⟨oc, od, .func fd, osl⟩ ∧ PySem.W.codeIn K cdv qual = true
  kp : PySem.W.keepIn K (.ref f) = true
section
variable {P : Program} {w : World} {K : PySem.W.Frag} {mg : Str → Option Value} {base : Heap}
theorem FunA.ok {x qual : Str} {st : Stmt} {f : Addr} {fd : FuncData} {N ps : List Str} {k : Nat} {sp : Sp} (F : FunA K x qual st f fd) (S : FnScope N ps (defScope st)) (len : ∀ vs H Q E, sp vs H Q E → vs.length = ps.length)
    (hbody : ∀ (cdv : Value) (A : Around) (outer : List Env) (s : Shared) (H : Hp) (vs : List V) (Q : VK) (E : XK), Room k (A.deeper (envOfC qual (defScope st) s.heap.objs.size f cdv)) → sp vs H Q E →
      ∃ t, PSs (cxOf CX0 P w K mg base N qual (defScope st) f cdv A outer s H E).nox (defBody st) t ∧ t { nx := fun _ H' => Q .non H', rt := Q } (start N vs) H) : FnOk P w K mg base CX0 (k + 1) f fd ps sp := by
  obtain ⟨oc, od, dV, kV, doc, pm, an, cdv, ct, osl, rfl, lk, hcd⟩ := F.ex
  refine fn_of lk hcd S len fun A outer s H vs Q E hr hsp => ?_
  obtain ⟨t, h, q⟩ := hbody cdv A outer s H vs Q E hr hsp
  exact ⟨t, h.nox, q⟩
theorem FunA.okX {x qual : Str} {st : Stmt} {f : Addr} {fd : FuncData} {N ps : List Str} {k : Nat} {sp : Sp} (F : FunA K x qual st f fd) (S : FnScope N ps (defScope st)) (len : ∀ vs H Q E, sp vs H Q E → vs.length = ps.length)
    (hbody : ∀ (cdv : Value) (A : Around) (outer : List Env) (s : Shared) (H : Hp) (vs : List V) (Q : VK) (E : XK), Room k (A.deeper (envOfC qual (defScope st) s.heap.objs.size f cdv)) → sp vs H Q E →
      ∃ t, PSs (cxOf (L2.CX P w) P w K mg base N qual (defScope st) f cdv A outer s H E) (defBody st) t ∧ t { nx := fun _ H' => Q .non H', rt := Q } (start N vs) H) : FnOk P w K mg base (L2.CX P w) (k + 1) f fd ps sp := by
  obtain ⟨oc, od, dV, kV, doc, pm, an, cdv, ct, osl, rfl, lk, hcd⟩ := F.ex
  exact fn_of lk hcd S len fun A outer s H vs Q E hr hsp => hbody cdv A outer s H vs Q E hr hsp
end
def top (i : Nat) : Stmt := PySem.Challenge.pw_everagain_k91_whole_parts_that_spread.main.body.getD i (.Pass ⟨0, 0, 0, 0⟩)
abbrev s_is_integer : Stmt := top 11
abbrev s_need_integer : Stmt := top 12
abbrev s_is_row : Stmt := top 13
abbrev s_is_counts : Stmt := top 14
abbrev s_need_counts : Stmt := top 15
abbrev s_is_fraction : Stmt := top 17
abbrev s_reduced : Stmt := top 18
abbrev s_added : Stmt := top 19
abbrev s_total : Stmt := top 20
abbrev s_common_of : Stmt := top 21
abbrev s_is_pass : Stmt := top 28
abbrev s_need_rows : Stmt := top 29
abbrev s_need_part : Stmt := top 30
abbrev s_need_position : Stmt := top 31
abbrev s_sum_of : Stmt := top 32
abbrev s_gone : Stmt := top 33
abbrev s_closes_at : Stmt := top 34
abbrev s_first_crossing : Stmt := top 35
abbrev s_pace_of : Stmt := top 36
abbrev s_many_gone : Stmt := top 37
abbrev s_need_closing : Stmt := top 38
abbrev s_fell_counts : Stmt := top 39
abbrev s_reached : Stmt := top 40
abbrev s_spread_row : Stmt := top 42
abbrev s_spread_part : Stmt := top 43
abbrev s_need_shares : Stmt := top 44
abbrev s_evenly : Stmt := top 45
abbrev s_begun : Stmt := top 47
abbrev s_ring_of : Stmt := top 48
abbrev s_less : Stmt := top 49
abbrev s_rest_in : Stmt := top 50
abbrev s_triangle_in : Stmt := top 51
abbrev s_widened : Stmt := top 52
abbrev s_given_by : Stmt := top 53
abbrev s_need_round : Stmt := top 55
abbrev s_laps : Stmt := top 56
abbrev s_fair : Stmt := top 57
abbrev s_law_deck : Stmt := top 59
abbrev s_law_draw : Stmt := top 60
abbrev s_law_pick : Stmt := top 61
abbrev s_law_low : Stmt := top 62
abbrev s_law_shares : Stmt := top 63
abbrev s_law_fractions : Stmt := top 64
abbrev s_law_heard : Stmt := top 65
abbrev s_law_row : Stmt := top 66
abbrev s_law_right : Stmt := top 67
abbrev s_law : Stmt := top 68
abbrev s_BadValue_init : Stmt := inClass (top 4) 0
abbrev s_BadNumber_init : Stmt := inClass (top 5) 0
abbrev s_BadPart_init : Stmt := inClass (top 6) 0
abbrev s_Crosses_init : Stmt := inClass (top 7) 0
abbrev s_Misfit_init : Stmt := inClass (top 8) 0
abbrev s_TooMany_init : Stmt := inClass (top 9) 0
abbrev s_Part_init : Stmt := inClass (top 27) 0
abbrev s_Part_eq : Stmt := inClass (top 27) 1
abbrev s_Round_init : Stmt := inClass (top 54) 0
abbrev s_Round_rest : Stmt := inClass (top 54) 1
abbrev s_Round_gift : Stmt := inClass (top 54) 2
abbrev s_Round_fair : Stmt := inClass (top 54) 3
/-- where the top has laid each thing -/
structure Ad where
  f_is_integer : Addr
  d_is_integer : FuncData
  f_need_integer : Addr
  d_need_integer : FuncData
  f_is_row : Addr
  d_is_row : FuncData
  f_is_counts : Addr
  d_is_counts : FuncData
  f_need_counts : Addr
  d_need_counts : FuncData
  f_is_fraction : Addr
  d_is_fraction : FuncData
  f_reduced : Addr
  d_reduced : FuncData
  f_added : Addr
  d_added : FuncData
  f_total : Addr
  d_total : FuncData
  f_common_of : Addr
  d_common_of : FuncData
  f_is_pass : Addr
  d_is_pass : FuncData
  f_need_rows : Addr
  d_need_rows : FuncData
  f_need_part : Addr
  d_need_part : FuncData
  f_need_position : Addr
  d_need_position : FuncData
  f_sum_of : Addr
  d_sum_of : FuncData
  f_gone : Addr
  d_gone : FuncData
  f_closes_at : Addr
  d_closes_at : FuncData
  f_first_crossing : Addr
  d_first_crossing : FuncData
  f_pace_of : Addr
  d_pace_of : FuncData
  f_many_gone : Addr
  d_many_gone : FuncData
  f_need_closing : Addr
  d_need_closing : FuncData
  f_fell_counts : Addr
  d_fell_counts : FuncData
  f_reached : Addr
  d_reached : FuncData
  f_spread_row : Addr
  d_spread_row : FuncData
  f_spread_part : Addr
  d_spread_part : FuncData
  f_need_shares : Addr
  d_need_shares : FuncData
  f_evenly : Addr
  d_evenly : FuncData
  f_begun : Addr
  d_begun : FuncData
  f_ring_of : Addr
  d_ring_of : FuncData
  f_less : Addr
  d_less : FuncData
  f_rest_in : Addr
  d_rest_in : FuncData
  f_triangle_in : Addr
  d_triangle_in : FuncData
  f_widened : Addr
  d_widened : FuncData
  f_given_by : Addr
  d_given_by : FuncData
  f_need_round : Addr
  d_need_round : FuncData
  f_laps : Addr
  d_laps : FuncData
  f_fair : Addr
  d_fair : FuncData
  f_law_deck : Addr
  d_law_deck : FuncData
  f_law_draw : Addr
  d_law_draw : FuncData
  f_law_pick : Addr
  d_law_pick : FuncData
  f_law_low : Addr
  d_law_low : FuncData
  f_law_shares : Addr
  d_law_shares : FuncData
  f_law_fractions : Addr
  d_law_fractions : FuncData
  f_law_heard : Addr
  d_law_heard : FuncData
  f_law_row : Addr
  d_law_row : FuncData
  f_law_right : Addr
  d_law_right : FuncData
  f_law : Addr
  d_law : FuncData
  f_BadValue_init : Addr
  d_BadValue_init : FuncData
  f_BadNumber_init : Addr
  d_BadNumber_init : FuncData
  f_BadPart_init : Addr
  d_BadPart_init : FuncData
  f_Crosses_init : Addr
  d_Crosses_init : FuncData
  f_Misfit_init : Addr
  d_Misfit_init : FuncData
  f_TooMany_init : Addr
  d_TooMany_init : FuncData
  f_Part_init : Addr
  d_Part_init : FuncData
  f_Part_eq : Addr
  d_Part_eq : FuncData
  f_Round_init : Addr
  d_Round_init : FuncData
  f_Round_rest : Addr
  d_Round_rest : FuncData
  f_Round_gift : Addr
  d_Round_gift : FuncData
  f_Round_fair : Addr
  d_Round_fair : FuncData
  C_MarbleError : Addr
  C_BadValue : Addr
  C_BadNumber : Addr
  C_BadPart : Addr
  C_Crosses : Addr
  C_Misfit : Addr
  C_TooMany : Addr
  C_Part : Addr
  C_Round : Addr
  t_MOST_DOORS : Tok
  t_MOST_OUTS : Tok
  t_MOST_POSITIONS : Tok
  t_MOST_GIVES : Tok
  code_law : Addr
  tab_law : Addr
  code_right : Addr
  tab_right : Addr
/-- what the top has left -/
structure Txt (K : PySem.W.Frag) (mg : Str → Option Value) (A : Ad) : Prop where
  g_is_integer : mg "is_integer" = some (.ref A.f_is_integer)
  F_is_integer : FunA K "is_integer" "is_integer" s_is_integer A.f_is_integer A.d_is_integer
  B_is_integer : Binds K A.d_is_integer ["value"] []
  g_need_integer : mg "need_integer" = some (.ref A.f_need_integer)
  F_need_integer : FunA K "need_integer" "need_integer" s_need_integer A.f_need_integer A.d_need_integer
  B_need_integer : Binds K A.d_need_integer ["part", "value", "least", "most"] []
  g_is_row : mg "is_row" = some (.ref A.f_is_row)
  F_is_row : FunA K "is_row" "is_row" s_is_row A.f_is_row A.d_is_row
  B_is_row : Binds K A.d_is_row ["value", "many"] []
  g_is_counts : mg "is_counts" = some (.ref A.f_is_counts)
  F_is_counts : FunA K "is_counts" "is_counts" s_is_counts A.f_is_counts A.d_is_counts
  B_is_counts : Binds K A.d_is_counts ["value", "many"] []
  g_need_counts : mg "need_counts" = some (.ref A.f_need_counts)
  F_need_counts : FunA K "need_counts" "need_counts" s_need_counts A.f_need_counts A.d_need_counts
  B_need_counts : Binds K A.d_need_counts ["part", "value", "many"] []
  g_is_fraction : mg "is_fraction" = some (.ref A.f_is_fraction)
  F_is_fraction : FunA K "is_fraction" "is_fraction" s_is_fraction A.f_is_fraction A.d_is_fraction
  B_is_fraction : Binds K A.d_is_fraction ["value"] []
  g_reduced : mg "reduced" = some (.ref A.f_reduced)
  F_reduced : FunA K "reduced" "reduced" s_reduced A.f_reduced A.d_reduced
  B_reduced : Binds K A.d_reduced ["p", "q"] []
  g_added : mg "added" = some (.ref A.f_added)
  F_added : FunA K "added" "added" s_added A.f_added A.d_added
  B_added : Binds K A.d_added ["one", "other"] []
  g_total : mg "total" = some (.ref A.f_total)
  F_total : FunA K "total" "total" s_total A.f_total A.d_total
  B_total : Binds K A.d_total ["fractions"] []
  g_common_of : mg "common_of" = some (.ref A.f_common_of)
  F_common_of : FunA K "common_of" "common_of" s_common_of A.f_common_of A.d_common_of
  B_common_of : Binds K A.d_common_of ["fractions"] []
  g_is_pass : mg "is_pass" = some (.ref A.f_is_pass)
  F_is_pass : FunA K "is_pass" "is_pass" s_is_pass A.f_is_pass A.d_is_pass
  B_is_pass : Binds K A.d_is_pass ["value", "many", "outs"] []
  g_need_rows : mg "need_rows" = some (.ref A.f_need_rows)
  F_need_rows : FunA K "need_rows" "need_rows" s_need_rows A.f_need_rows A.d_need_rows
  B_need_rows : Binds K A.d_need_rows ["rows", "doors", "outs"] []
  g_need_part : mg "need_part" = some (.ref A.f_need_part)
  F_need_part : FunA K "need_part" "need_part" s_need_part A.f_need_part A.d_need_part
  B_need_part : Binds K A.d_need_part ["part", "value"] []
  g_need_position : mg "need_position" = some (.ref A.f_need_position)
  F_need_position : FunA K "need_position" "need_position" s_need_position A.f_need_position A.d_need_position
  B_need_position : Binds K A.d_need_position ["part", "position"] []
  g_sum_of : mg "sum_of" = some (.ref A.f_sum_of)
  F_sum_of : FunA K "sum_of" "sum_of" s_sum_of A.f_sum_of A.d_sum_of
  B_sum_of : Binds K A.d_sum_of ["one", "other"] []
  g_gone : mg "gone" = some (.ref A.f_gone)
  F_gone : FunA K "gone" "gone" s_gone A.f_gone A.d_gone
  B_gone : Binds K A.d_gone ["part", "position", "row"] []
  g_closes_at : mg "closes_at" = some (.ref A.f_closes_at)
  F_closes_at : FunA K "closes_at" "closes_at" s_closes_at A.f_closes_at A.d_closes_at
  B_closes_at : Binds K A.d_closes_at ["part", "position", "one", "other"] []
  g_first_crossing : mg "first_crossing" = some (.ref A.f_first_crossing)
  F_first_crossing : FunA K "first_crossing" "first_crossing" s_first_crossing A.f_first_crossing A.d_first_crossing
  B_first_crossing : Binds K A.d_first_crossing ["part"] []
  g_pace_of : mg "pace_of" = some (.ref A.f_pace_of)
  F_pace_of : FunA K "pace_of" "pace_of" s_pace_of A.f_pace_of A.d_pace_of
  B_pace_of : Binds K A.d_pace_of ["part", "position", "door"] []
  g_many_gone : mg "many_gone" = some (.ref A.f_many_gone)
  F_many_gone : FunA K "many_gone" "many_gone" s_many_gone A.f_many_gone A.d_many_gone
  B_many_gone : Binds K A.d_many_gone ["part", "position", "door", "many"] []
  g_need_closing : mg "need_closing" = some (.ref A.f_need_closing)
  F_need_closing : FunA K "need_closing" "need_closing" s_need_closing A.f_need_closing A.d_need_closing
  B_need_closing : Binds K A.d_need_closing ["part", "value"] []
  g_fell_counts : mg "fell_counts" = some (.ref A.f_fell_counts)
  F_fell_counts : FunA K "fell_counts" "fell_counts" s_fell_counts A.f_fell_counts A.d_fell_counts
  B_fell_counts : Binds K A.d_fell_counts ["part", "position", "counts"] []
  g_reached : mg "reached" = some (.ref A.f_reached)
  F_reached : FunA K "reached" "reached" s_reached A.f_reached A.d_reached
  B_reached : Binds K A.d_reached ["part", "start"] []
  g_spread_row : mg "spread_row" = some (.ref A.f_spread_row)
  F_spread_row : FunA K "spread_row" "spread_row" s_spread_row A.f_spread_row A.d_spread_row
  B_spread_row : Binds K A.d_spread_row ["parts", "whole"] []
  g_spread_part : mg "spread_part" = some (.ref A.f_spread_part)
  F_spread_part : FunA K "spread_part" "spread_part" s_spread_part A.f_spread_part A.d_spread_part
  B_spread_part : Binds K A.d_spread_part ["parts"] []
  g_need_shares : mg "need_shares" = some (.ref A.f_need_shares)
  F_need_shares : FunA K "need_shares" "need_shares" s_need_shares A.f_need_shares A.d_need_shares
  B_need_shares : Binds K A.d_need_shares ["value", "most"] []
  g_evenly : mg "evenly" = some (.ref A.f_evenly)
  F_evenly : FunA K "evenly" "evenly" s_evenly A.f_evenly A.d_evenly
  B_evenly : Binds K A.d_evenly ["shares"] []
  g_begun : mg "begun" = some (.ref A.f_begun)
  F_begun : FunA K "begun" "begun" s_begun A.f_begun A.d_begun
  B_begun : Binds K A.d_begun ["part", "position"] []
  g_ring_of : mg "ring_of" = some (.ref A.f_ring_of)
  F_ring_of : FunA K "ring_of" "ring_of" s_ring_of A.f_ring_of A.d_ring_of
  B_ring_of : Binds K A.d_ring_of ["part", "position", "door"] []
  g_less : mg "less" = some (.ref A.f_less)
  F_less : FunA K "less" "less" s_less A.f_less A.d_less
  B_less : Binds K A.d_less ["row", "times", "other"] []
  g_rest_in : mg "rest_in" = some (.ref A.f_rest_in)
  F_rest_in : FunA K "rest_in" "rest_in" s_rest_in A.f_rest_in A.d_rest_in
  B_rest_in : Binds K A.d_rest_in ["rows", "row", "begin"] []
  g_triangle_in : mg "triangle_in" = some (.ref A.f_triangle_in)
  F_triangle_in : FunA K "triangle_in" "triangle_in" s_triangle_in A.f_triangle_in A.d_triangle_in
  B_triangle_in : Binds K A.d_triangle_in ["part", "begin"] []
  g_widened : mg "widened" = some (.ref A.f_widened)
  F_widened : FunA K "widened" "widened" s_widened A.f_widened A.d_widened
  B_widened : Binds K A.d_widened ["part", "known", "door", "many"] []
  g_given_by : mg "given_by" = some (.ref A.f_given_by)
  F_given_by : FunA K "given_by" "given_by" s_given_by A.f_given_by A.d_given_by
  B_given_by : Binds K A.d_given_by ["part", "begin", "row"] []
  g_need_round : mg "need_round" = some (.ref A.f_need_round)
  F_need_round : FunA K "need_round" "need_round" s_need_round A.f_need_round A.d_need_round
  B_need_round : Binds K A.d_need_round ["part", "position"] []
  g_laps : mg "laps" = some (.ref A.f_laps)
  F_laps : FunA K "laps" "laps" s_laps A.f_laps A.d_laps
  B_laps : Binds K A.d_laps ["part", "position"] []
  g_fair : mg "fair" = some (.ref A.f_fair)
  F_fair : FunA K "fair" "fair" s_fair A.f_fair A.d_fair
  B_fair : Binds K A.d_fair ["part", "position"] []
  g_law_deck : mg "_law_deck" = some (.ref A.f_law_deck)
  F_law_deck : FunA K "_law_deck" "_law_deck" s_law_deck A.f_law_deck A.d_law_deck
  B_law_deck : Binds K A.d_law_deck ["script"] []
  g_law_draw : mg "_law_draw" = some (.ref A.f_law_draw)
  F_law_draw : FunA K "_law_draw" "_law_draw" s_law_draw A.f_law_draw A.d_law_draw
  B_law_draw : Binds K A.d_law_draw ["deck", "many"] []
  g_law_pick : mg "_law_pick" = some (.ref A.f_law_pick)
  F_law_pick : FunA K "_law_pick" "_law_pick" s_law_pick A.f_law_pick A.d_law_pick
  B_law_pick : Binds K A.d_law_pick ["deck", "some"] []
  g_law_low : mg "_law_low" = some (.ref A.f_law_low)
  F_law_low : FunA K "_law_low" "_law_low" s_law_low A.f_law_low A.d_law_low
  B_law_low : Binds K A.d_law_low ["p", "q"] []
  g_law_shares : mg "_law_shares" = some (.ref A.f_law_shares)
  F_law_shares : FunA K "_law_shares" "_law_shares" s_law_shares A.f_law_shares A.d_law_shares
  B_law_shares : Binds K A.d_law_shares ["deck", "many", "top"] []
  g_law_fractions : mg "_law_fractions" = some (.ref A.f_law_fractions)
  F_law_fractions : FunA K "_law_fractions" "_law_fractions" s_law_fractions A.f_law_fractions A.d_law_fractions
  B_law_fractions : Binds K A.d_law_fractions ["deck", "parts", "whole"] []
  g_law_heard : mg "_law_heard" = some (.ref A.f_law_heard)
  F_law_heard : FunA K "_law_heard" "_law_heard" s_law_heard A.f_law_heard A.d_law_heard
  B_law_heard : Binds K A.d_law_heard ["ask"] []
  g_law_row : mg "_law_row" = some (.ref A.f_law_row)
  F_law_row : FunA K "_law_row" "_law_row" s_law_row A.f_law_row A.d_law_row
  B_law_row : Binds K A.d_law_row ["parts", "whole"] []
  g_law_right : mg "_law_right" = some (.ref A.f_law_right)
  F_law_right : FunA K "_law_right" "_law_right" s_law_right A.f_law_right A.d_law_right
  B_law_right : Binds K A.d_law_right ["deck", "parts"] []
  g_law : mg "law" = some (.ref A.f_law)
  F_law : FunA K "law" "law" s_law A.f_law A.d_law
  B_law : Binds K A.d_law ["script"] []
  K_evenly : ∀ (s : Shared) (w : Value), BindsTo s A.d_evenly ⟨[], [("shares", w)]⟩ [("shares", w)]
  F_BadValue_init : FunA K "__init__" "BadValue.__init__" s_BadValue_init A.f_BadValue_init A.d_BadValue_init
  B_BadValue_init : Binds K A.d_BadValue_init ["self", "part"] []
  F_BadNumber_init : FunA K "__init__" "BadNumber.__init__" s_BadNumber_init A.f_BadNumber_init A.d_BadNumber_init
  B_BadNumber_init : Binds K A.d_BadNumber_init ["self", "part"] []
  F_BadPart_init : FunA K "__init__" "BadPart.__init__" s_BadPart_init A.f_BadPart_init A.d_BadPart_init
  B_BadPart_init : Binds K A.d_BadPart_init ["self", "part"] []
  F_Crosses_init : FunA K "__init__" "Crosses.__init__" s_Crosses_init A.f_Crosses_init A.d_Crosses_init
  B_Crosses_init : Binds K A.d_Crosses_init ["self", "position", "one", "other"] []
  F_Misfit_init : FunA K "__init__" "Misfit.__init__" s_Misfit_init A.f_Misfit_init A.d_Misfit_init
  B_Misfit_init : Binds K A.d_Misfit_init ["self", "part"] []
  F_TooMany_init : FunA K "__init__" "TooMany.__init__" s_TooMany_init A.f_TooMany_init A.d_TooMany_init
  B_TooMany_init : Binds K A.d_TooMany_init ["self", "what", "most"] []
  F_Part_init : FunA K "__init__" "Part.__init__" s_Part_init A.f_Part_init A.d_Part_init
  B_Part_init : Binds K A.d_Part_init ["self", "doors", "outs", "rows"] []
  F_Part_eq : FunA K "__eq__" "Part.__eq__" s_Part_eq A.f_Part_eq A.d_Part_eq
  B_Part_eq : Binds K A.d_Part_eq ["self", "other"] []
  F_Round_init : FunA K "__init__" "Round.__init__" s_Round_init A.f_Round_init A.d_Round_init
  B_Round_init : Binds K A.d_Round_init ["self", "part", "position"] []
  F_Round_rest : FunA K "rest" "Round.rest" s_Round_rest A.f_Round_rest A.d_Round_rest
  B_Round_rest : Binds K A.d_Round_rest ["self", "row"] []
  F_Round_gift : FunA K "gift" "Round.gift" s_Round_gift A.f_Round_gift A.d_Round_gift
  B_Round_gift : Binds K A.d_Round_gift ["self", "times"] []
  F_Round_fair : FunA K "fair" "Round.fair" s_Round_fair A.f_Round_fair A.d_Round_fair
  B_Round_fair : Binds K A.d_Round_fair ["self"] []
  g_MarbleError : mg "MarbleError" = some (.ref A.C_MarbleError)
  g_BadValue : mg "BadValue" = some (.ref A.C_BadValue)
  g_BadNumber : mg "BadNumber" = some (.ref A.C_BadNumber)
  g_BadPart : mg "BadPart" = some (.ref A.C_BadPart)
  g_Crosses : mg "Crosses" = some (.ref A.C_Crosses)
  g_Misfit : mg "Misfit" = some (.ref A.C_Misfit)
  g_TooMany : mg "TooMany" = some (.ref A.C_TooMany)
  g_Part : mg "Part" = some (.ref A.C_Part)
  g_Round : mg "Round" = some (.ref A.C_Round)
  x_BadValue : OexC K A.C_BadValue
  i_BadValue : PySem.W.findIn K (.ref A.C_BadValue) "__init__" = some (some (.ref A.f_BadValue_init))
  y_BadValue : PySem.W.typeIn K (.ref A.f_BadValue_init) = some (.type "function")
  z_BadValue : XfC K A.C_BadValue
  n_BadValue_part : PySem.W.findIn K (.ref A.C_BadValue) "part" = some none
  x_BadNumber : OexC K A.C_BadNumber
  i_BadNumber : PySem.W.findIn K (.ref A.C_BadNumber) "__init__" = some (some (.ref A.f_BadNumber_init))
  y_BadNumber : PySem.W.typeIn K (.ref A.f_BadNumber_init) = some (.type "function")
  z_BadNumber : XfC K A.C_BadNumber
  n_BadNumber_part : PySem.W.findIn K (.ref A.C_BadNumber) "part" = some none
  x_BadPart : OexC K A.C_BadPart
  i_BadPart : PySem.W.findIn K (.ref A.C_BadPart) "__init__" = some (some (.ref A.f_BadPart_init))
  y_BadPart : PySem.W.typeIn K (.ref A.f_BadPart_init) = some (.type "function")
  z_BadPart : XfC K A.C_BadPart
  n_BadPart_part : PySem.W.findIn K (.ref A.C_BadPart) "part" = some none
  x_Crosses : OexC K A.C_Crosses
  i_Crosses : PySem.W.findIn K (.ref A.C_Crosses) "__init__" = some (some (.ref A.f_Crosses_init))
  y_Crosses : PySem.W.typeIn K (.ref A.f_Crosses_init) = some (.type "function")
  z_Crosses : XfC K A.C_Crosses
  n_Crosses_position : PySem.W.findIn K (.ref A.C_Crosses) "position" = some none
  n_Crosses_one : PySem.W.findIn K (.ref A.C_Crosses) "one" = some none
  n_Crosses_other : PySem.W.findIn K (.ref A.C_Crosses) "other" = some none
  x_Misfit : OexC K A.C_Misfit
  i_Misfit : PySem.W.findIn K (.ref A.C_Misfit) "__init__" = some (some (.ref A.f_Misfit_init))
  y_Misfit : PySem.W.typeIn K (.ref A.f_Misfit_init) = some (.type "function")
  z_Misfit : XfC K A.C_Misfit
  n_Misfit_part : PySem.W.findIn K (.ref A.C_Misfit) "part" = some none
  x_TooMany : OexC K A.C_TooMany
  i_TooMany : PySem.W.findIn K (.ref A.C_TooMany) "__init__" = some (some (.ref A.f_TooMany_init))
  y_TooMany : PySem.W.typeIn K (.ref A.f_TooMany_init) = some (.type "function")
  z_TooMany : XfC K A.C_TooMany
  n_TooMany_what : PySem.W.findIn K (.ref A.C_TooMany) "what" = some none
  n_TooMany_most : PySem.W.findIn K (.ref A.C_TooMany) "most" = some none
  xm_BadValue_BadValue : PySem.W.exmOne K (.ref A.C_BadValue) (.ref A.C_BadValue) = some true
  xm_BadValue_Misfit : PySem.W.exmOne K (.ref A.C_BadValue) (.ref A.C_Misfit) = some false
  xm_BadValue_TooMany : PySem.W.exmOne K (.ref A.C_BadValue) (.ref A.C_TooMany) = some false
  xm_Misfit_BadValue : PySem.W.exmOne K (.ref A.C_Misfit) (.ref A.C_BadValue) = some false
  xm_Misfit_Misfit : PySem.W.exmOne K (.ref A.C_Misfit) (.ref A.C_Misfit) = some true
  xm_Misfit_TooMany : PySem.W.exmOne K (.ref A.C_Misfit) (.ref A.C_TooMany) = some false
  xm_TooMany_BadValue : PySem.W.exmOne K (.ref A.C_TooMany) (.ref A.C_BadValue) = some false
  xm_TooMany_Misfit : PySem.W.exmOne K (.ref A.C_TooMany) (.ref A.C_Misfit) = some false
  xm_TooMany_TooMany : PySem.W.exmOne K (.ref A.C_TooMany) (.ref A.C_TooMany) = some true
  c_Part : Cls K A.C_Part
  o_Part : C8.InsC K A.C_Part
  n_Part_doors : NoAttr K A.C_Part "doors"
  n_Part_outs : NoAttr K A.C_Part "outs"
  n_Part_rows : NoAttr K A.C_Part "rows"
  n_Part_many : NoAttr K A.C_Part "many"
  m_Part : Mk K A.C_Part A.f_Part_init
  e_Part : PySem.W.findIn K (.ref A.C_Part) "__eq__" = some (some (.ref A.f_Part_eq))
  en_Part : PySem.W.findIn K (.ref A.C_Part) "__ne__" = some (some (.builtin "object.__ne__"))
  eo_Part : PySem.W.mroIn K A.C_Part (.type "object") = some true
  ef_Part : PySem.W.isFn K (.ref A.f_Part_eq) = true
  c_Round : Cls K A.C_Round
  o_Round : C8.InsC K A.C_Round
  n_Round_part : NoAttr K A.C_Round "part"
  n_Round_begin : NoAttr K A.C_Round "begin"
  n_Round_spots : NoAttr K A.C_Round "spots"
  n_Round_laps : NoAttr K A.C_Round "laps"
  n_Round_gifts : NoAttr K A.C_Round "gifts"
  m_Round : Mk K A.C_Round A.f_Round_init
  h_Round_rest : Meth K A.C_Round "rest" A.f_Round_rest
  h_Round_gift : Meth K A.C_Round "gift" A.f_Round_gift
  h_Round_fair : Meth K A.C_Round "fair" A.f_Round_fair
  b_isinstance : mg "isinstance" = none
  b_int : mg "int" = none
  b_bool : mg "bool" = none
  b_str : mg "str" = none
  b_list : mg "list" = none
  b_tuple : mg "tuple" = none
  b_len : mg "len" = none
  b_all : mg "all" = none
  b_any : mg "any" = none
  b_sum : mg "sum" = none
  b_max : mg "max" = none
  b_abs : mg "abs" = none
  b_range : mg "range" = none
  b_zip : mg "zip" = none
  b_enumerate : mg "enumerate" = none
  b_sorted : mg "sorted" = none
  b_repr : mg "repr" = none
  c_MOST_DOORS : mg "MOST_DOORS" = some (.int (4) A.t_MOST_DOORS)
  c_MOST_OUTS : mg "MOST_OUTS" = some (.int (6) A.t_MOST_OUTS)
  c_MOST_POSITIONS : mg "MOST_POSITIONS" = some (.int (400) A.t_MOST_POSITIONS)
  c_MOST_GIVES : mg "MOST_GIVES" = some (.int (1000000000000) A.t_MOST_GIVES)
  c_gcd : mg "gcd" = some (.builtin "math.gcd")
end K91
end
section
set_option Elab.async false
set_option linter.all false
set_option maxRecDepth 100000
set_option maxHeartbeats 4000000
namespace K91
open PySem PySem.Spec PyProof.Rows L2 KB
section
variable {P : Program} {w : World} {K : PySem.W.Frag} {mg : Str → Option Value} {base : Heap} {A : Ad}
-- is_integer
abbrev N_is_integer : List Str := ["value"]
theorem sc_is_integer : FnScope N_is_integer ["value"] (defScope s_is_integer) := ⟨rfl, rfl, rfl, by decide +kernel, rfl, by decide +kernel, by decide +kernel⟩
/-- whether a value is an int and no bool -/
def isI : V → Option Bool
  | .int _ => some true
  | .bl _ => some false
  | _ => none
def sp_is_integer : Sp := fun vs H Q _ => ∃ x b, vs = [x] ∧ isI x = some b ∧ Q (.bl b) H
theorem G_is_integer (T : Txt K mg A) : FnOk P w K mg base CX0 1 A.f_is_integer A.d_is_integer ["value"] sp_is_integer := by
  refine T.F_is_integer.ok sc_is_integer (fun vs H Q E h => ?_) (fun cdv A' outer s H vs Q E hr h => ?_)
  · obtain ⟨x, b, rfl, _⟩ := h
    rfl
  · obtain ⟨x, b, rfl, hx, q⟩ := h
    have nd := sc_is_integer.nd
    refine ⟨_, (pss_one (ps_ret (pe_and (pe_callB call_isi (by rfl) T.b_isinstance (by decide +kernel) (pa_cons (pv 0) (pa_cons (pe_ty_int (by rfl) T.b_int) pa_nil))) (pe_one (pe_not (pe_callB call_isi (by rfl) T.b_isinstance (by decide +kernel) (pa_cons (pv 0) (pa_cons (pe_ty_bool (by rfl) T.b_bool) pa_nil)))))))), ?_⟩
    cases x with
    | int i =>
      cases hx
      refine ⟨_, rfl, _, _, _, _, _, rfl, .ty _, .base (.int i), kit_ty (by decide +kernel), _, rfl, iteT ?_⟩
      exact ⟨_, rfl, _, _, _, _, _, rfl, .ty _, .base (.int i), kit_ty (r := false) (by decide +kernel), _, rfl, q⟩
    | bl c =>
      cases hx
      refine ⟨_, rfl, _, _, _, _, _, rfl, .ty _, .base (.bl c), kit_ty (by decide +kernel), _, rfl, iteT ?_⟩
      exact ⟨_, rfl, _, _, _, _, _, rfl, .ty _, .base (.bl c), kit_ty (r := true) (by decide +kernel), _, rfl, q⟩
    | _ => cases hx
-- need_integer
abbrev N_need_integer : List Str := ["part", "value", "least", "most"]
theorem sc_need_integer : FnScope N_need_integer ["part", "value", "least", "most"] (defScope s_need_integer) := ⟨rfl, rfl, rfl, by decide +kernel, rfl, by decide +kernel, by decide +kernel⟩
def sp_need_integer : Sp := fun vs H Q _ => ∃ (p : V) (i l m : Int), vs = [p, .int i, .int l, .int m] ∧ l ≤ i ∧ i ≤ m ∧ Q (.int i) H
theorem G_need_integer (T : Txt K mg A) : FnOk P w K mg base CX0 2 A.f_need_integer A.d_need_integer ["part", "value", "least", "most"] sp_need_integer := by
  refine T.F_need_integer.ok sc_need_integer (fun vs H Q E h => ?_) (fun cdv A' outer s H vs Q E hr h => ?_)
  · obtain ⟨p, i, l, m, rfl, _⟩ := h
    rfl
  · obtain ⟨p, i, l, m, rfl, h1, h2, q⟩ := h
    refine ⟨_, (pss_cons (ps_if (PW.pt (pw_or (pt_not (pt_val (pe_call (G_is_integer T) (hr.mono (by decide)) rfl T.g_is_integer T.F_is_integer.kp T.B_is_integer .nil pass0 (pa_cons (pv 1) pa_nil)))) (pw_or1 (pt_cmpR op_lt (pv 1) (pv 2) (nomark _))))) (pss_one ps_never) pss_nil)
      (pss_cons (ps_if (PW.pt (pw_and (pt_cmpR op_notN (pv 3) pe_non (nomark _)) (pw_and1 (pt_cmpR op_gt (pv 1) (pv 3) (nomark _))))) (pss_one ps_never) pss_nil)
      (pss_one (ps_ret (pv 1))))), ?_⟩
    refine ⟨_, rfl, _, _, rfl, rfl, _, rfl, ?_⟩
    refine ⟨_, rfl, _, rfl, _, _, rfl, rfl, _, rfl, ?_⟩
    rw [decide_eq_false (show ¬ i < l by omega)]
    refine iteF ⟨_, rfl, rfl, _, rfl, iteT ?_⟩
    refine ⟨_, rfl, _, rfl, _, _, rfl, rfl, _, rfl, ?_⟩
    rw [decide_eq_false (show ¬ m < i by omega)]
    exact iteF ⟨_, rfl, q⟩
end
end K91
end
section
set_option Elab.async false
set_option linter.all false
set_option maxRecDepth 100000
set_option maxHeartbeats 4000000
namespace K91
open PySem PySem.Spec PyProof.Rows L2 KB
/-- a tuple or a list with these items stands at v -/
def Sq (H : Hp) (v : V) (xs : List V) : Prop := ∃ a, v = .ref a ∧ (H a = some (.tup xs) ∨ H a = some (.lst xs))
theorem Sq.same {H H' : Hp} {v : V} {xs : List V} (h : Sq H v xs) (e : Same H H') : Sq H' v xs := by
  obtain ⟨a, r, h⟩ := h
  exact ⟨a, r, h.imp (e _ _) (e _ _)⟩
section
variable {P : Program} {w : World} {K : PySem.W.Frag} {mg : Str → Option Value} {base : Heap} {A : Ad}
theorem neI {i j : Int} : (!decide (V.int i = V.int j)) = !decide (i = j) := by
  by_cases h : i = j
  · rw [h, decide_eq_true rfl, decide_eq_true rfl]
  · rw [decide_eq_false h, decide_eq_false (fun z => h (V.int.inj z))]
-- is_row
abbrev N_is_row : List Str := ["value", "many", "part"]
theorem sc_is_row : FnScope N_is_row ["value", "many"] (defScope s_is_row) := ⟨rfl, rfl, rfl, by decide +kernel, rfl, by decide +kernel, by decide +kernel⟩
def sp_is_row : Sp := fun vs H Q _ => ∃ (v : V) (ns : List Int) (m : Int), vs = [v, .int m] ∧ Sq H v (ns.map V.int) ∧ ns.length ≤ sizeLine ∧ ∀ H', Same H H' → Q (.bl (decide ((ns.length : Int) = m))) H'
theorem allB {ys : List V} {n : Nat} {f : Nat → Bool} (hl : ys.length = n) (h : ∀ (i : Nat) (y : V), ys[i]? = some y → y = V.bl (f i)) : ys = ((List.range n).map f).map V.bl := by
  apply List.ext_getElem?
  intro i
  by_cases hi : i < n
  · have e : ys[i]? = some (ys[i]'(by omega)) := by simp [hl, hi]
    rw [e, h i _ e]
    simp [hi]
  · rw [List.getElem?_eq_none (by omega), List.getElem?_eq_none (by simp; omega)]
theorem all_true {n : Nat} {f : Nat → Bool} (h : ∀ i, i < n → f i = true) : ((List.range n).map f).all id = true := by
  simp only [List.all_eq_true, List.mem_map, List.mem_range]
  rintro x ⟨i, hi, rfl⟩
  exact h i hi
theorem G_is_row (T : Txt K mg A) : FnOk P w K mg base CX0 2 A.f_is_row A.d_is_row ["value", "many"] sp_is_row := by
  refine T.F_is_row.ok sc_is_row (fun vs H Q E h => ?_) (fun cdv A' outer s H vs Q E hr h => ?_)
  · obtain ⟨v, ns, m, rfl, _⟩ := h
    rfl
  · obtain ⟨v, ns, m, rfl, ⟨a, rfl, hv⟩, hz, q⟩ := h
    have nd := sc_is_row.nd
    rcases hv with hv | hv
    · refine ⟨_, (pss_cons (ps_if (PW.pt (pw_or (pt_not (pt_val (pe_callB (c_isiT (K := K) rfl) (by rfl) T.b_isinstance (by decide +kernel) (pa_cons (pv 0) (pa_cons (pe_tup (pa_cons (pe_ty_list (by rfl) T.b_list) (pa_cons (pe_ty_tuple (by rfl) T.b_tuple) pa_nil))) pa_nil))))) (pw_or1 (pt_cmpR op_ne (pe_callB (c_len (K := K) rfl) (by rfl) T.b_len (by decide +kernel) (pa_cons (pv 0) pa_nil)) (pv 1) (nomark _))))) (pss_one (ps_ret pe_bl)) pss_nil)
      (pss_one (ps_ret (pe_callB (c_all (K := K) rfl rfl) (by rfl) T.b_all (by decide +kernel) (pa_cons (pe_lc (own := [("part", 2)]) (by rfl) nd (pit (K := K) rfl (pv 0)) (blkOk_by (own := [("part", 2)]) (N := N_is_row) (sc := defScope s_is_row) (by decide +kernel)) (fun _ _ _ _ _ => (pg_name (i := 2) nd rfl (Or.inl rfl))) (fun _ _ _ _ _ => pts_nil) (fun _ _ _ _ _ => (pe_call (G_is_integer T) (hr.mono (by decide)) rfl T.g_is_integer T.F_is_integer.kp T.B_is_integer .nil pass0 (pa_cons (pv 2) pa_nil)))) pa_nil))))), ?_⟩
      refine isi_lt rfl (fun H' e => tyx_t (e _ _ hv)) kit_tt fun p hp => ⟨_, rfl, ?_⟩
      have s1 := same_new (o := HO.tup [.ty "list", .ty "tuple"]) hp
      refine ⟨_, rfl, a, _, rfl, .inr (SqT.of (s1 _ _ hv)), _, rfl, rfl, _, rfl, ?_⟩
      rw [neI, List.length_map]
      by_cases hm : (ns.length : Int) = m
      · rw [decide_eq_true hm]
        refine iteF ?_
        refine ⟨_, rfl, a, rfl, ⟨_, SqT.of (s1 _ _ hv)⟩, fun D hD => lc_pure (walk_tup (K := K) (a := a) (xs := ns.map V.int)) (fun _ y _ => y = V.bl true) hD (fun H e => SqT.of (e _ _ (s1 _ _ hv))) (fun _ _ _ _ r _ => r) (by rw [List.length_map]; exact hz) (fun i x H2 H3 hi e y Q2 q2 => ?_) (fun ys H2 e hy hl hys => ?_)⟩
        · obtain ⟨rfl, hx⟩ := y
          rw [List.getElem?_map] at hx
          obtain ⟨n, _, rfl⟩ := Option.map_eq_some_iff.mp hx
          exact ⟨rfl, _, rfl, _, true, rfl, rfl, q2 _ _ (Same.refl _) rfl⟩
        · have e2 := allB (f := fun _ => true) hl hys
          refine ⟨D, _, rfl, SqL.of (by rw [hy, e2]), ?_⟩
          rw [all_true (fun _ _ => rfl)]
          have := q _ (s1.trans e)
          rw [decide_eq_true hm] at this
          exact this
      · rw [decide_eq_false hm]
        refine iteT ?_
        have := q _ s1
        rw [decide_eq_false hm] at this
        exact this
    · refine ⟨_, (pss_cons (ps_if (PW.pt (pw_or (pt_not (pt_val (pe_callB (c_isiT (K := K) rfl) (by rfl) T.b_isinstance (by decide +kernel) (pa_cons (pv 0) (pa_cons (pe_tup (pa_cons (pe_ty_list (by rfl) T.b_list) (pa_cons (pe_ty_tuple (by rfl) T.b_tuple) pa_nil))) pa_nil))))) (pw_or1 (pt_cmpR op_ne (pe_callB (c_len (K := K) rfl) (by rfl) T.b_len (by decide +kernel) (pa_cons (pv 0) pa_nil)) (pv 1) (nomark _))))) (pss_one (ps_ret pe_bl)) pss_nil)
      (pss_one (ps_ret (pe_callB (c_all (K := K) rfl rfl) (by rfl) T.b_all (by decide +kernel) (pa_cons (pe_lc (own := [("part", 2)]) (by rfl) nd (pil (K := K) rfl (pv 0)) (blkOk_by (own := [("part", 2)]) (N := N_is_row) (sc := defScope s_is_row) (by decide +kernel)) (fun _ _ _ _ _ => (pg_name (i := 2) nd rfl (Or.inl rfl))) (fun _ _ _ _ _ => pts_nil) (fun _ _ _ _ _ => (pe_call (G_is_integer T) (hr.mono (by decide)) rfl T.g_is_integer T.F_is_integer.kp T.B_is_integer .nil pass0 (pa_cons (pv 2) pa_nil)))) pa_nil))))), ?_⟩
      refine isi_lt rfl (fun H' e => tyx_l (e _ _ hv)) kit_ll fun p hp => ⟨_, rfl, ?_⟩
      have s1 := same_new (o := HO.tup [.ty "list", .ty "tuple"]) hp
      refine ⟨_, rfl, a, _, rfl, .inl (SqL.of (s1 _ _ hv)), _, rfl, rfl, _, rfl, ?_⟩
      rw [neI, List.length_map]
      by_cases hm : (ns.length : Int) = m
      · rw [decide_eq_true hm]
        refine iteF ?_
        refine ⟨_, rfl, a, rfl, ⟨_, SqL.of (s1 _ _ hv)⟩, fun D hD => lc_pure (walk_list (K := K) (a := a) (xs := ns.map V.int)) (fun _ y _ => y = V.bl true) hD (fun H e => SqL.of (e _ _ (s1 _ _ hv))) (fun _ _ _ _ r _ => r) (by rw [List.length_map]; exact hz) (fun i x H2 H3 hi e y Q2 q2 => ?_) (fun ys H2 e hy hl hys => ?_)⟩
        · obtain ⟨rfl, hx⟩ := y
          rw [List.getElem?_map] at hx
          obtain ⟨n, _, rfl⟩ := Option.map_eq_some_iff.mp hx
          exact ⟨rfl, _, rfl, _, true, rfl, rfl, q2 _ _ (Same.refl _) rfl⟩
        · have e2 := allB (f := fun _ => true) hl hys
          refine ⟨D, _, rfl, SqL.of (by rw [hy, e2]), ?_⟩
          rw [all_true (fun _ _ => rfl)]
          have := q _ (s1.trans e)
          rw [decide_eq_true hm] at this
          exact this
      · rw [decide_eq_false hm]
        refine iteT ?_
        have := q _ s1
        rw [decide_eq_false hm] at this
        exact this
end
end K91
end
section
set_option Elab.async false
set_option linter.all false
set_option maxRecDepth 100000
set_option maxHeartbeats 4000000
namespace K91
open PySem PySem.Spec PyProof.Rows L2 KB
section
variable {P : Program} {w : World} {K : PySem.W.Frag} {mg : Str → Option Value} {base : Heap} {A : Ad}
theorem andB {b c : Bool} {R : V → Hp → Prop} {H : Hp} (h : R (.bl (b && c)) H) : b = false → R (.bl false) H := fun e => by
  rw [e] at h
  exact h
/-! is_counts -/
abbrev N_is_counts : List Str := ["value", "many", "part"]
theorem sc_is_counts : FnScope N_is_counts ["value", "many"] (defScope s_is_counts) := ⟨rfl, rfl, rfl, by decide +kernel, rfl, by decide +kernel, by decide +kernel⟩
def sp_is_counts : Sp := fun vs H Q _ => ∃ (v : V) (ns : List Int) (m : Int), vs = [v, .int m] ∧ Sq H v (ns.map V.int) ∧ ns.length ≤ sizeLine ∧ ∀ H', Same H H' → Q (.bl (decide ((ns.length : Int) = m) && ns.all fun n => decide (0 ≤ n))) H'
theorem all_ge (ns : List Int) : ((List.range ns.length).map fun i => decide (0 ≤ ns.getD i 0)).all id = ns.all fun n => decide (0 ≤ n) := by
  rw [Bool.eq_iff_iff]
  simp only [List.all_eq_true, List.mem_map, List.mem_range]
  constructor
  · rintro h n hn
    obtain ⟨i, hi, e⟩ := List.getElem_of_mem hn
    have := h _ ⟨i, hi, rfl⟩
    simpa [hi, e] using this
  · rintro h x ⟨i, hi, rfl⟩
    have := h _ (List.getElem_mem hi)
    simpa [hi] using this
theorem some_getD {ns : List Int} {i : Nat} {n : Int} (h : ns[i]? = some n) : n = ns.getD i 0 := by
  rw [List.getD_eq_getElem?_getD, h]
  rfl
theorem G_is_counts (T : Txt K mg A) : FnOk P w K mg base CX0 3 A.f_is_counts A.d_is_counts ["value", "many"] (sp_is_counts) := by
  refine T.F_is_counts.ok sc_is_counts (fun vs H Q E h => ?_) (fun cdv A' outer s H vs Q E hr h => ?_)
  · obtain ⟨v, ns, m, rfl, _⟩ := h
    rfl
  · obtain ⟨v, ns, m, rfl, ⟨a, rfl, hv⟩, hz, q⟩ := h
    have nd := sc_is_counts.nd
    rcases hv with hv | hv
    · refine ⟨_, (pss_one (ps_ret (pe_and (pe_call (G_is_row T) (hr.mono (by decide)) rfl T.g_is_row T.F_is_row.kp T.B_is_row .nil pass0 (pa_cons (pv 0) (pa_cons (pv 1) pa_nil))) (pe_one (pe_callB (c_all (K := K) rfl rfl) (by rfl) T.b_all (by decide +kernel) (pa_cons (pe_lc (own := [("part", 2)]) (by rfl) nd (pit (K := K) rfl (pv 0)) (blkOk_by (own := [("part", 2)]) (N := N_is_counts) (sc := defScope s_is_counts) (by decide +kernel)) (fun _ _ _ _ _ => (pg_name (i := 2) nd rfl (Or.inl rfl))) (fun _ _ _ _ _ => pts_nil) (fun _ _ _ _ _ => (pe_cmpR op_ge (pv 2) pe_int (nomark _)))) pa_nil)))))), ?_⟩
      refine ⟨_, rfl, _, rfl, _, ns, m, rfl, ⟨a, rfl, .inl hv⟩, hz, fun H1 s1 => ⟨_, rfl, ?_⟩⟩
      have hv1 := s1 _ _ hv
      refine ite2 (fun hc => ?_) (fun hc => ?_)
      · refine ⟨_, rfl, a, rfl, ⟨_, SqT.of hv1⟩, fun D hD => lc_pure (walk_tup (K := K) (a := a) (xs := ns.map V.int)) (fun i y _ => y = V.bl (decide (0 ≤ ns.getD i 0))) hD (fun H e => SqT.of (e _ _ hv1)) (fun _ _ _ _ r _ => r) (by rw [List.length_map]; exact hz) (fun i x H2 H3 hi e y Q2 q2 => ?_) (fun ys H2 e hy hl hys => ?_)⟩
        · obtain ⟨rfl, hx⟩ := y
          rw [List.getElem?_map] at hx
          obtain ⟨n, hn, rfl⟩ := Option.map_eq_some_iff.mp hx
          refine ⟨rfl, _, rfl, _, _, rfl, rfl, q2 _ _ (Same.refl _) ?_⟩
          rw [some_getD hn]
        · have e2 := allB hl hys
          refine ⟨D, _, rfl, SqL.of (by rw [hy, e2]), ?_⟩
          have q3 := q _ (s1.trans e)
          rw [hc] at q3
          rw [List.length_map, all_ge]
          exact q3
      · have q3 := q _ s1
        rw [Bool.not_eq_true] at hc
        rw [hc] at q3
        exact q3
    · refine ⟨_, (pss_one (ps_ret (pe_and (pe_call (G_is_row T) (hr.mono (by decide)) rfl T.g_is_row T.F_is_row.kp T.B_is_row .nil pass0 (pa_cons (pv 0) (pa_cons (pv 1) pa_nil))) (pe_one (pe_callB (c_all (K := K) rfl rfl) (by rfl) T.b_all (by decide +kernel) (pa_cons (pe_lc (own := [("part", 2)]) (by rfl) nd (pil (K := K) rfl (pv 0)) (blkOk_by (own := [("part", 2)]) (N := N_is_counts) (sc := defScope s_is_counts) (by decide +kernel)) (fun _ _ _ _ _ => (pg_name (i := 2) nd rfl (Or.inl rfl))) (fun _ _ _ _ _ => pts_nil) (fun _ _ _ _ _ => (pe_cmpR op_ge (pv 2) pe_int (nomark _)))) pa_nil)))))), ?_⟩
      refine ⟨_, rfl, _, rfl, _, ns, m, rfl, ⟨a, rfl, .inr hv⟩, hz, fun H1 s1 => ⟨_, rfl, ?_⟩⟩
      have hv1 := s1 _ _ hv
      refine ite2 (fun hc => ?_) (fun hc => ?_)
      · refine ⟨_, rfl, a, rfl, ⟨_, SqL.of hv1⟩, fun D hD => lc_pure (walk_list (K := K) (a := a) (xs := ns.map V.int)) (fun i y _ => y = V.bl (decide (0 ≤ ns.getD i 0))) hD (fun H e => SqL.of (e _ _ hv1)) (fun _ _ _ _ r _ => r) (by rw [List.length_map]; exact hz) (fun i x H2 H3 hi e y Q2 q2 => ?_) (fun ys H2 e hy hl hys => ?_)⟩
        · obtain ⟨rfl, hx⟩ := y
          rw [List.getElem?_map] at hx
          obtain ⟨n, hn, rfl⟩ := Option.map_eq_some_iff.mp hx
          refine ⟨rfl, _, rfl, _, _, rfl, rfl, q2 _ _ (Same.refl _) ?_⟩
          rw [some_getD hn]
        · have e2 := allB hl hys
          refine ⟨D, _, rfl, SqL.of (by rw [hy, e2]), ?_⟩
          have q3 := q _ (s1.trans e)
          rw [hc] at q3
          rw [List.length_map, all_ge]
          exact q3
      · have q3 := q _ s1
        rw [Bool.not_eq_true] at hc
        rw [hc] at q3
        exact q3
/-! need_counts -/
abbrev N_need_counts : List Str := ["part", "value", "many"]
theorem sc_need_counts : FnScope N_need_counts ["part", "value", "many"] (defScope s_need_counts) := ⟨rfl, rfl, rfl, by decide +kernel, rfl, by decide +kernel, by decide +kernel⟩
def sp_need_counts : Sp := fun vs H Q _ => ∃ (p : V) (a : Addr) (ns : List Int) (m : Int), vs = [p, .ref a, .int m] ∧ H a = some (.lst (ns.map V.int)) ∧ ns.length ≤ sizeLine ∧ (ns.length : Int) = m ∧ (∀ n ∈ ns, 0 ≤ n) ∧
  ∀ H' t, Same H H' → H' t = some (.tup (ns.map V.int)) → Q (.ref t) H'
theorem G_need_counts (T : Txt K mg A) : FnOk P w K mg base CX0 4 A.f_need_counts A.d_need_counts ["part", "value", "many"] (sp_need_counts) := by
  refine T.F_need_counts.ok sc_need_counts (fun vs H Q E h => ?_) (fun cdv A' outer s H vs Q E hr h => ?_)
  · obtain ⟨p, a, ns, m, rfl, _⟩ := h
    rfl
  · obtain ⟨p, a, ns, m, rfl, hv, hz, hm, h0, q⟩ := h
    have nd := sc_need_counts.nd
    refine ⟨_, (pss_cons (ps_if (pt_not (pt_val (pe_call (G_is_counts T) (hr.mono (by decide)) rfl T.g_is_counts T.F_is_counts.kp T.B_is_counts .nil pass0 (pa_cons (pv 1) (pa_cons (pv 2) pa_nil))))) (pss_one ps_never) pss_nil)
      (pss_one (ps_ret (pe_callTy (c_tup (K := K) rfl) (by rfl) T.b_tuple (by decide +kernel) (pa_cons (pv 1) pa_nil))))), ?_⟩
    refine ⟨_, rfl, _, rfl, _, ns, m, rfl, ⟨a, rfl, .inr hv⟩, hz, fun H1 s1 => ⟨_, rfl, ?_⟩⟩
    have e1 : (decide ((ns.length : Int) = m) && ns.all fun n => decide (0 ≤ n)) = true := by
      rw [decide_eq_true hm, List.all_eq_true.mpr (fun n hn => decide_eq_true (h0 n hn))]
      rfl
    rw [e1]
    refine iteF ⟨_, rfl, a, _, rfl, .inl ⟨SqL.of (s1 _ _ hv), fun t ht => ?_⟩⟩
    exact q _ t (s1.trans (same_new ht)) upd_same
/-! is_fraction -/
abbrev N_is_fraction : List Str := ["value"]
theorem sc_is_fraction : FnScope N_is_fraction ["value"] (defScope s_is_fraction) := ⟨rfl, rfl, rfl, by decide +kernel, rfl, by decide +kernel, by decide +kernel⟩
def fr2 : V → V → Bool
  | .int _, .int q => decide (0 < q)
  | _, _ => false
def sp_is_fraction : Sp := fun vs H Q _ => ∃ (x : V) (r : Bool), vs = [x] ∧
  ((∃ v0 v1 b0 b1, Sq H x [v0, v1] ∧ isI v0 = some b0 ∧ isI v1 = some b1 ∧ r = fr2 v0 v1) ∨ (∃ xs, Sq H x xs ∧ xs.length ≠ 2 ∧ r = false) ∨ (x = .non ∧ r = false) ∨ ((∃ s, x = .str s) ∧ r = false)) ∧ ∀ H', Same H H' → Q (.bl r) H'
theorem at0 {x y : V} : atI [x, y] 0 = some x := rfl
theorem at1 {x y : V} : atI [x, y] 1 = some y := rfl
theorem G_is_fraction (T : Txt K mg A) : FnOk P w K mg base CX0 2 A.f_is_fraction A.d_is_fraction ["value"] (sp_is_fraction) := by
  refine T.F_is_fraction.ok sc_is_fraction (fun vs H Q E h => ?_) (fun cdv A' outer s H vs Q E hr h => ?_)
  · obtain ⟨x, r, rfl, _⟩ := h
    rfl
  · obtain ⟨x, r, rfl, hx, q⟩ := h
    have nd := sc_is_fraction.nd
    refine ⟨_, (pss_cons (ps_if (PW.pt (pw_or (pt_not (pt_val (pe_callB (c_isiT (K := K) rfl) (by rfl) T.b_isinstance (by decide +kernel) (pa_cons (pv 0) (pa_cons (pe_tup (pa_cons (pe_ty_list (by rfl) T.b_list) (pa_cons (pe_ty_tuple (by rfl) T.b_tuple) pa_nil))) pa_nil))))) (pw_or1 (pt_cmpR op_ne (pe_callB (c_len (K := K) rfl) (by rfl) T.b_len (by decide +kernel) (pa_cons (pv 0) pa_nil)) pe_int (nomark _))))) (pss_one (ps_ret pe_bl)) pss_nil)
      (pss_one (ps_ret (pe_and (pe_call (G_is_integer T) (hr.mono (by decide)) rfl T.g_is_integer T.F_is_integer.kp T.B_is_integer .nil pass0 (pa_cons (pe_ix (ixs (K := K) rfl) (pv 0) pe_int (fun _ _ => rfl)) pa_nil)) (pe_and (pe_call (G_is_integer T) (hr.mono (by decide)) rfl T.g_is_integer T.F_is_integer.kp T.B_is_integer .nil pass0 (pa_cons (pe_ix (ixs (K := K) rfl) (pv 0) pe_int (fun _ _ => rfl)) pa_nil)) (pe_one (pe_cmpR op_gt (pe_ix (ixs (K := K) rfl) (pv 0) pe_int (fun _ _ => rfl)) pe_int (nomark _)))))))), ?_⟩
    rcases hx with ⟨v0, v1, b0, b1, ⟨a, rfl, hv⟩, i0, i1, rfl⟩ | ⟨xs, ⟨a, rfl, hv⟩, hl, rfl⟩ | ⟨rfl, rfl⟩ | ⟨⟨s, rfl⟩, rfl⟩
    · have sq : ∀ H', Same H H' → SqL K H' a [v0, v1] ∨ SqT K H' a [v0, v1] := fun H' e => hv.elim (fun h => .inr (SqT.of (e _ _ h))) (fun h => .inl (SqL.of (e _ _ h)))
      have ix : ∀ H' (i : Int) (v : V) (Q : VK), Same H H' → atI [v0, v1] i = some v → Q v H' → rIx K (.ref a) (.int i) H' Q := fun H' i v Q e z q => by
        rcases hv with h | h
        · exact .inr (.inl ⟨a, _, i, v, rfl, rfl, SqT.of (e _ _ h), z, q⟩)
        · exact .inl ⟨a, _, i, v, rfl, rfl, SqL.of (e _ _ h), z, q⟩
      have fin : ∀ p, H p = none → (fun (b : Bool) (H1 : Hp) => H1 = upd H p (.tup [.ty "list", .ty "tuple"])) true (upd H p (.tup [.ty "list", .ty "tuple"])) := fun _ _ => rfl
      have main : ∀ p, H p = none → ∀ D : Ends, D.rt = Q → tRet (tAndV (tCall sp_is_integer [] E0 (tCons (tOp (rIx K) (tVar 0) (tC (.int 0))) tNil)) (tAndV (tCall sp_is_integer [] E0 (tCons (tOp (rIx K) (tVar 0) (tC (.int 1))) tNil)) (tOp (rI0 fun i j => .bl (decide (j < i))) (tOp (rIx K) (tVar 0) (tC (.int 1))) (tC (.int 0)))))
          D (L2.start N_is_fraction [.ref a]) (upd H p (.tup [.ty "list", .ty "tuple"])) := fun p hp D hD => by
        have s1 := same_new (o := HO.tup [.ty "list", .ty "tuple"]) hp
        refine ⟨_, rfl, ix _ 0 v0 _ s1 at0 ⟨_, b0, rfl, i0, _, rfl, ?_⟩⟩
        rw [hD]
        have q1 := q _ s1
        cases v0 with
        | int i =>
          cases i0
          refine iteT ⟨_, rfl, ix _ 1 v1 _ s1 at1 ⟨_, b1, rfl, i1, _, rfl, ?_⟩⟩
          cases v1 with
          | int j =>
            cases i1
            exact iteT ⟨_, rfl, ix _ 1 _ _ s1 at1 ⟨_, _, rfl, rfl, q1⟩⟩
          | bl c =>
            cases i1
            exact iteF q1
          | _ => cases i1
        | bl c =>
          cases i0
          exact iteF q1
        | _ => cases i0
      rcases hv with h | h
      · refine isi_lt rfl (fun H' e => tyx_t (e _ _ h)) kit_tt fun p hp => ⟨_, rfl, iteF ?_⟩
        refine ⟨_, rfl, a, _, rfl, sq _ (same_new hp), rfl, _, rfl, iteF ?_⟩
        exact main p hp _ rfl
      · refine isi_lt rfl (fun H' e => tyx_l (e _ _ h)) kit_ll fun p hp => ⟨_, rfl, iteF ?_⟩
        refine ⟨_, rfl, a, _, rfl, sq _ (same_new hp), rfl, _, rfl, iteF ?_⟩
        exact main p hp _ rfl
    · have sq : ∀ H', Same H H' → SqL K H' a xs ∨ SqT K H' a xs := fun H' e => hv.elim (fun h => .inr (SqT.of (e _ _ h))) (fun h => .inl (SqL.of (e _ _ h)))
      have e1 : (!decide (V.int (xs.length : Int) = V.int 2)) = true := by
        rw [neI, decide_eq_false (show ¬ (xs.length : Int) = 2 by omega)]
        rfl
      rcases hv with h | h
      · refine isi_lt rfl (fun H' e => tyx_t (e _ _ h)) kit_tt fun p hp => ⟨_, rfl, iteF ?_⟩
        refine ⟨_, rfl, a, _, rfl, sq _ (same_new hp), rfl, _, rfl, ?_⟩
        rw [e1]
        exact iteT (q _ (same_new hp))
      · refine isi_lt rfl (fun H' e => tyx_l (e _ _ h)) kit_ll fun p hp => ⟨_, rfl, iteF ?_⟩
        refine ⟨_, rfl, a, _, rfl, sq _ (same_new hp), rfl, _, rfl, ?_⟩
        rw [e1]
        exact iteT (q _ (same_new hp))
    · exact isi_lt rfl (fun H' e => .base .non) kit_nn fun p hp => ⟨_, rfl, iteT (iteT (q _ (same_new hp)))⟩
    · exact isi_lt rfl (fun H' e => .base (.str s)) kit_ss fun p hp => ⟨_, rfl, iteT (iteT (q _ (same_new hp)))⟩
/-! sum_of -/
abbrev N_sum_of : List Str := ["one", "other", "mine", "its"]
theorem sc_sum_of : FnScope N_sum_of ["one", "other"] (defScope s_sum_of) := ⟨rfl, rfl, rfl, by decide +kernel, rfl, by decide +kernel, by decide +kernel⟩
def addI (ns ms : List Int) : List Int := List.zipWith (· + ·) ns ms
theorem addI_eq {ns ms : List Int} (hl : ns.length = ms.length) : (List.range ns.length).map (fun i => ns.getD i 0 + ms.getD i 0) = addI ns ms := by
  apply List.ext_getElem
  · simp [addI, hl]
  · intro i h1 h2
    simp only [List.length_map, List.length_range] at h1
    have h3 : i < ms.length := by omega
    simp [addI, h1, h3]
def sp_sum_of : Sp := fun vs H Q _ => ∃ (v u : V) (ns ms : List Int), vs = [v, u] ∧ Tv H v (tI ns) ∧ Tv H u (tI ms) ∧ ns.length = ms.length ∧ ns.length ≤ 1000 ∧ ∀ H' t, Same H H' → Tv H' t (tI (addI ns ms)) → Q t H'
theorem G_sum_of (T : Txt K mg A) : FnOk P w K mg base CX0 1 A.f_sum_of A.d_sum_of ["one", "other"] (sp_sum_of) := by
  refine T.F_sum_of.ok sc_sum_of (fun vs H Q E h => ?_) (fun cdv A' outer s H vs Q E hr h => ?_)
  · obtain ⟨v, u, ns, ms, rfl, _⟩ := h
    rfl
  · obtain ⟨v, u, ns, ms, rfl, hv, hu', hl, hz, q⟩ := h
    obtain ⟨a, rfl, ha⟩ := tI_tv hv
    obtain ⟨b, rfl, hb⟩ := tI_tv hu'
    have nd := sc_sum_of.nd
    refine ⟨_, (pss_one (ps_ret (pe_callTy (c_tup (K := K) rfl) (by rfl) T.b_tuple (by decide +kernel) (pa_cons (pe_lc (own := [("mine", 2), ("its", 3)]) (by rfl) nd (pi_zipK (K := K) rfl rfl T.b_zip (pa_cons (pv 0) (pa_cons (pv 1) pa_nil))) (blkOk_by (own := [("mine", 2), ("its", 3)]) (N := N_sum_of) (sc := defScope s_sum_of) (by decide +kernel)) (fun _ _ _ _ _ => (pgt (K := K) (n := 2) rfl rfl (pgs_cons (pg_name (i := 2) nd rfl (Or.inl rfl)) (pgs_cons (pg_name (i := 3) nd rfl (Or.inl rfl)) pgs_nil)))) (fun _ _ _ _ _ => pts_nil) (fun _ _ _ _ _ => (pe_op op_add (pv 2) (pv 3)))) pa_nil)))), ?_⟩
    refine ⟨_, rfl, _, rfl, a, b, _, _, rfl, .inr ⟨SqT.of ha, SqT.of hb, fun D hD => lc_pure (walk_zipT (K := K) (a := a) (b := b) (xs := ns.map V.int) (ys := ms.map V.int) (n := ns.length) (by rw [List.length_map, List.length_map]; omega)) (fun i y _ => y = V.int (ns.getD i 0 + ms.getD i 0)) hD (fun H e => ⟨SqT.of (e _ _ ha), SqT.of (e _ _ hb)⟩) (fun _ _ _ _ r _ => r) (by rw [sizeLine_eq]; omega) (fun i x H2 H3 hi e y Q2 q2 => ?_) (fun ys H2 e hy hl' hys => ?_)⟩⟩
    · obtain ⟨t, x1, x2, rfl, ht, rfl, h1, h2⟩ := y
      dsimp only at h1 h2
      rw [List.getElem?_map] at h1 h2
      obtain ⟨n, hn, rfl⟩ := Option.map_eq_some_iff.mp h1
      obtain ⟨m, hm, rfl⟩ := Option.map_eq_some_iff.mp h2
      refine ⟨t, _, rfl, SqT.of upd_same, rfl, _, _, rfl, _, _, rfl, rfl, rfl, ?_⟩
      refine ⟨_, rfl, _, rfl, _, _, rfl, rfl, q2 _ _ (same_new ht) ?_⟩
      rw [some_getD hn, some_getD hm]
    · have e2 := ints_of hl' hys
      refine ⟨D, _, rfl, .inl ⟨SqL.of hy, fun t ht => ?_⟩⟩
      refine q _ (.ref t) (e.trans (same_new ht)) (tv_tI ?_)
      rw [upd_same, e2]
      rw [addI_eq hl]
end
end K91
end
section
set_option Elab.async false
set_option linter.all false
set_option maxRecDepth 100000
set_option maxHeartbeats 4000000
namespace K91
open PySem PySem.Spec PyProof.Rows L2 KB M1
section
variable {P : Program} {w : World} {K : PySem.W.Frag} {mg : Str → Option Value} {base : Heap} {A : Ad}
theorem divW {i j : Int} {b : Nat} (h : 0 < j) (hb : j < 2 ^ 64) : CDivW i j := wide_div (b := 64) h (by omega) (by decide) (by decide)
theorem mulOk {i j : Int} (h : i.natAbs < 2 ^ 64) : CMul i j := by constructor <;> omega
/-! reduced -/
abbrev N_reduced : List Str := ["p", "q", "common"]
theorem sc_reduced : FnScope N_reduced ["p", "q"] (defScope s_reduced) := ⟨rfl, rfl, rfl, by decide +kernel, rfl, by decide +kernel, by decide +kernel⟩
def sp_reduced : Sp := fun vs H Q _ => ∃ (p q : Int), vs = [.int p, .int q] ∧ 0 < q ∧ q < 2 ^ 62 ∧ ∀ H' t, Same H H' → Tv H' t (tI (rd p q)) → Q t H'
theorem G_reduced (T : Txt K mg A) : FnOk P w K mg base CX0 1 A.f_reduced A.d_reduced ["p", "q"] (sp_reduced) := by
  refine T.F_reduced.ok sc_reduced (fun vs H Q E h => ?_) (fun cdv A' outer s H vs Q E hr h => ?_)
  · obtain ⟨p, q, rfl, _⟩ := h
    rfl
  · obtain ⟨p, q, rfl, hq, hb, k⟩ := h
    have nd := sc_reduced.nd
    have g := gcd_pos (p := p) hq
    have gl : (Int.gcd p q : Int) ≤ q := Int.gcd_le_right p hq
    refine ⟨_, (pss_cons (ps_set (i := 2) nd rfl (Or.inl rfl) (pe_callBfun cr_gcd (by rfl) T.c_gcd (pa_cons (pv 0) (pa_cons (pv 1) pa_nil))))
      (pss_cons (ps_if (pt_cmpR op_lt (pv 1) pe_int (nomark _)) (pss_one (ps_set (i := 2) nd rfl (Or.inl rfl) (pe_un un_neg (pv 2)))) pss_nil)
      (pss_one (ps_ret (pe_tup (pa_cons (pe_op op_fdivW (pv 0) (pv 2)) (pa_cons (pe_op op_fdivW (pv 1) (pv 2)) pa_nil))))))), ?_⟩
    refine ⟨_, rfl, _, rfl, p, q, rfl, ?_⟩
    refine ⟨_, rfl, _, _, rfl, rfl, _, rfl, ?_⟩
    rw [decide_eq_false (show ¬ q < 0 by omega)]
    refine iteF ?_
    refine ⟨_, rfl, _, rfl, _, _, rfl, rfl, divW (b := 0) g (by show (Int.gcd p q : Int) < _; omega), _, rfl, _, rfl, _, _, rfl, rfl, divW (b := 0) g (by show (Int.gcd p q : Int) < _; omega), by show 2 ≤ sizeLine; decide, fun t ht => ?_⟩
    exact k _ (.ref t) (same_new ht) (tv_tI upd_same)
/-! added -/
abbrev N_added : List Str := ["one", "other"]
theorem sc_added : FnScope N_added ["one", "other"] (defScope s_added) := ⟨rfl, rfl, rfl, by decide +kernel, rfl, by decide +kernel, by decide +kernel⟩
def sp_added : Sp := fun vs H Q _ => ∃ (t u : V) (m n W : Int), vs = [t, u] ∧ Tv H t (tI (rd m W)) ∧ Tv H u (tI (rd n W)) ∧ 0 < W ∧ W < 2 ^ 30 ∧ m.natAbs < 2 ^ 40 ∧ n.natAbs < 2 ^ 40 ∧ ∀ H' r, Same H H' → Tv H' r (tI (rd (m + n) W)) → Q r H'
theorem at2 {a b : Int} : atI ([a, b].map V.int) 0 = some (.int a) ∧ atI ([a, b].map V.int) 1 = some (.int b) := ⟨rfl, rfl⟩
theorem natAbs_ediv_le (m g : Int) : (m / g).natAbs ≤ m.natAbs := Int.natAbs_ediv_le_natAbs m g
theorem G_added (T : Txt K mg A) : FnOk P w K mg base CX0 2 A.f_added A.d_added ["one", "other"] (sp_added) := by
  refine T.F_added.ok sc_added (fun vs H Q E h => ?_) (fun cdv A' outer s H vs Q E hr h => ?_)
  · obtain ⟨t, u, m, n, W, rfl, _⟩ := h
    rfl
  · obtain ⟨t, u, m, n, W, rfl, ht, hu', hW, hb, hm, hn, k⟩ := h
    obtain ⟨a, rfl, ha⟩ := tI_tv ht
    obtain ⟨b, rfl, hb'⟩ := tI_tv hu'
    have d1 := rd_den (m := m) hW
    have d2 := rd_den (m := n) hW
    have n1 := natAbs_ediv_le m (Int.gcd m W)
    have n2 := natAbs_ediv_le n (Int.gcd n W)
    refine ⟨_, (pss_one (ps_ret (pe_call (G_reduced T) (hr.mono (by decide)) rfl T.g_reduced T.F_reduced.kp T.B_reduced .nil pass0 (pa_cons (pe_op op_add (pe_op op_mul (pe_ix (ixt (K := K) rfl) (pv 0) pe_int (fun _ _ => rfl)) (pe_ix (ixt (K := K) rfl) (pv 1) pe_int (fun _ _ => rfl))) (pe_op op_mul (pe_ix (ixt (K := K) rfl) (pv 1) pe_int (fun _ _ => rfl)) (pe_ix (ixt (K := K) rfl) (pv 0) pe_int (fun _ _ => rfl)))) (pa_cons (pe_op op_mul (pe_ix (ixt (K := K) rfl) (pv 0) pe_int (fun _ _ => rfl)) (pe_ix (ixt (K := K) rfl) (pv 1) pe_int (fun _ _ => rfl))) pa_nil))))), ?_⟩
    refine ⟨_, rfl, a, _, _, _, rfl, rfl, SqT.of ha, rfl, _, rfl, b, _, _, _, rfl, rfl, SqT.of hb', rfl, _, _, rfl, rfl, mulOk (by omega), _, rfl, b, _, _, _, rfl, rfl, SqT.of hb', rfl, _, rfl, a, _, _, _, rfl, rfl, SqT.of ha, rfl, _, _, rfl, rfl, mulOk (by omega), _, _, rfl, rfl, _, rfl, a, _, _, _, rfl, rfl, SqT.of ha, rfl, _, rfl, b, _, _, _, rfl, rfl, SqT.of hb', rfl, _, _, rfl, rfl, mulOk (by omega), ?_⟩
    refine ⟨_, _, rfl, Int.mul_pos d1.1 d2.1, ?_, fun H' r s z => k H' r s ?_⟩
    · have : (W / (Int.gcd m W : Int)) * (W / (Int.gcd n W : Int)) ≤ 2 ^ 30 * 2 ^ 30 := Int.mul_le_mul (by omega) (by omega) (by omega) (by omega)
      omega
    · rw [rd_add hW] at z
      exact z
/-! total -/
abbrev N_total : List Str := ["fractions", "found", "one"]
theorem sc_total : FnScope N_total ["fractions"] (defScope s_total) := ⟨rfl, rfl, rfl, by decide +kernel, rfl, by decide +kernel, by decide +kernel⟩
/-- a list (of whatever kind) of fractions m / W, the ms in order -/
def FrL (H : Hp) (vs : List V) (W : Int) (ms : List Int) : Prop := vs.length = ms.length ∧ ∀ (i : Nat) (v : V), vs[i]? = some v → Tv H v (tI (rd (ms.getD i 0) W))
theorem FrL.same {H H' : Hp} {vs : List V} {W : Int} {ms : List Int} (h : FrL H vs W ms) (e : Same H H') : FrL H' vs W ms := ⟨h.1, fun i v hv => (h.2 i v hv).same e⟩
def sp_total : Sp := fun vs H Q _ => ∃ (a : Addr) (xs : List V) (ms : List Int) (W : Int), vs = [.ref a] ∧ H a = some (.lst xs) ∧ FrL H xs W ms ∧ 0 < W ∧ W < 2 ^ 30 ∧ ms.length ≤ 100 ∧ (∀ m ∈ ms, m.natAbs < 2 ^ 30) ∧ ∀ H' r, Same H H' → Tv H' r (tI (rd ms.sum W)) → Q r H'
theorem take_getD {l : List Int} {i : Nat} (h : i < l.length) : l.take (i + 1) = l.take i ++ [l.getD i 0] := by
  rw [List.take_succ]
  simp [h]
theorem sum_take_le : ∀ (l : List Int) (i : Nat), l.length ≤ 100 → (∀ m ∈ l, m.natAbs < 2 ^ 30) → (l.take i).sum.natAbs ≤ l.length * 2 ^ 30
  | [], i, _, _ => by simp
  | x :: l, 0, _, _ => by simp
  | x :: l, i + 1, hl, h => by
    have ih := sum_take_le l i (by simp at hl; omega) fun m hm => h m (List.mem_cons_of_mem _ hm)
    have hx := h x List.mem_cons_self
    simp only [List.take_succ_cons, List.sum_cons, List.length_cons]
    have := Int.natAbs_add_le x (l.take i).sum
    have e : (l.length + 1) * 2 ^ 30 = l.length * 2 ^ 30 + 2 ^ 30 := by omega
    omega
theorem G_total (T : Txt K mg A) : FnOk P w K mg base CX0 3 A.f_total A.d_total ["fractions"] (sp_total) := by
  refine T.F_total.ok sc_total (fun vs H Q E h => ?_) (fun cdv A' outer s H vs Q E hr h => ?_)
  · obtain ⟨a, xs, ms, W, rfl, _⟩ := h
    rfl
  · obtain ⟨a, xs, ms, W, rfl, ha, F, hW, hb, hl, hm, k⟩ := h
    have nd := sc_total.nd
    refine ⟨_, (pss_cons (ps_set (i := 1) nd rfl (Or.inl rfl) (pe_tup (pa_cons pe_int (pa_cons pe_int pa_nil))))
      (pss_cons (ps_for PassesOwn.never rfl (pil (K := K) rfl (pv 0)) (pg_name (i := 2) nd rfl (Or.inl rfl))
      (pss_one (ps_set (i := 1) nd rfl (Or.inl rfl) (pe_call (G_added T) (hr.mono (by decide)) rfl T.g_added T.F_added.kp T.B_added .nil pass0 (pa_cons (pv 1) (pa_cons (pv 2) pa_nil))))))
      (pss_one (ps_ret (pv 1))))), ?_⟩
    refine ⟨by show 2 ≤ sizeLine; decide, fun p hp => ?_⟩
    have s1 := same_new (o := HO.tup [.int 0, .int 1]) hp
    refine ⟨_, rfl, a, rfl, ⟨_, SqL.of (s1 _ _ ha)⟩, for_list (K := K) (a := a) (xs := xs) (fun i σ H1 => ∃ t v, σ = [some (.ref a), some t, v] ∧ Same H H1 ∧ Tv H1 t (tI (rd (ms.take i).sum W))) ⟨_, none, rfl, s1, ?_⟩ (fun i σ H1 _ ⟨_, _, _, e, _⟩ => SqL.of (e _ _ ha)) ?_ ?_⟩
    · rw [List.take_zero, List.sum_nil, rd_zero hW]
      exact tv_tI upd_same
    · rintro i y σ H1 hi ⟨t, v, rfl, e, z⟩
      have hil : i < ms.length := by
        rw [← F.1]
        exact (List.getElem?_eq_some_iff.mp hi).1
      have b1 := sum_take_le ms i hl hm
      have b2 : (ms.getD i 0).natAbs < 2 ^ 30 := by
        have := hm (ms.getD i 0) (by simp [hil])
        exact this
      have b3 : ms.length * 2 ^ 30 ≤ 100 * 2 ^ 30 := Nat.mul_le_mul_right _ hl
      refine ⟨_, rfl, _, rfl, t, y, (ms.take i).sum, ms.getD i 0, W, rfl, z, ((F.2 i y hi).same e), hW, hb, by omega, by omega, fun H' r s z' => ⟨r, some y, rfl, e.trans s, ?_⟩⟩
      rw [take_getD hil, List.sum_append, List.sum_cons, List.sum_nil, Int.add_zero]
      exact z'
    · rintro σ H1 ⟨t, v, rfl, e, z⟩
      rw [F.1, List.take_length] at z
      exact ⟨_, rfl, k _ _ e z⟩
/-! common_of -/
abbrev N_common_of : List Str := ["fractions", "found", "_", "q"]
theorem sc_common_of : FnScope N_common_of ["fractions"] (defScope s_common_of) := ⟨rfl, rfl, rfl, by decide +kernel, rfl, by decide +kernel, by decide +kernel⟩
def sp_common_of : Sp := fun vs H Q _ => ∃ (a : Addr) (xs : List V) (ms : List Int) (W : Int), vs = [.ref a] ∧ H a = some (.lst xs) ∧ FrL H xs W ms ∧ 0 < W ∧ W < 2 ^ 30 ∧ ∀ H', Same H H' → Q (.int (lcmAll (ms.map fun m => W / (Int.gcd m W : Int)))) H'
theorem G_common_of (T : Txt K mg A) : FnOk P w K mg base CX0 1 A.f_common_of A.d_common_of ["fractions"] (sp_common_of) := by
  refine T.F_common_of.ok sc_common_of (fun vs H Q E h => ?_) (fun cdv A' outer s H vs Q E hr h => ?_)
  · obtain ⟨a, xs, ms, W, rfl, _⟩ := h
    rfl
  · obtain ⟨a, xs, ms, W, rfl, ha, F, hW, hb, k⟩ := h
    have nd := sc_common_of.nd
    have spec : ∀ i, 0 < ((ms.take i).map fun m => W / (Int.gcd m W : Int)).foldl lcmI 1 ∧ ((ms.take i).map fun m => W / (Int.gcd m W : Int)).foldl lcmI 1 ≤ W := fun i => by
      obtain ⟨p, q, _⟩ := lcmAll_spec hW ((ms.take i).map fun m => W / (Int.gcd m W : Int)) 1 (by omega) (Int.one_dvd _) fun b hb => by
        obtain ⟨m, _, rfl⟩ := List.mem_map.mp hb
        obtain ⟨c, d, _, h2, h3, _, _, e2⟩ := split (p := m) hW
        rw [e2]
        exact ⟨h3, ⟨(Int.gcd m W : Int), by rw [Int.mul_comm]; exact h2⟩⟩
      exact ⟨p, Int.le_of_dvd hW q⟩
    refine ⟨_, (pss_cons (ps_set (i := 1) nd rfl (Or.inl rfl) pe_int)
      (pss_cons (ps_for PassesOwn.never rfl (pil (K := K) rfl (pv 0)) (pgt (K := K) (n := 2) rfl rfl (pgs_cons (pg_name (i := 2) nd rfl (Or.inl rfl)) (pgs_cons (pg_name (i := 3) nd rfl (Or.inl rfl)) pgs_nil)))
      (pss_one (ps_set (i := 1) nd rfl (Or.inl rfl) (pe_op op_mul (pe_op op_fdivW (pv 1) (pe_callBfun cr_gcd (by rfl) T.c_gcd (pa_cons (pv 1) (pa_cons (pv 3) pa_nil)))) (pv 3)))))
      (pss_one (ps_ret (pv 1))))), ?_⟩
    refine ⟨_, rfl, a, rfl, ⟨_, SqL.of ha⟩, for_list (K := K) (a := a) (xs := xs) (fun i σ H1 => ∃ c v u, σ = [some (.ref a), some (.int c), v, u] ∧ c = ((ms.take i).map fun m => W / (Int.gcd m W : Int)).foldl lcmI 1 ∧ Same H H1) ⟨1, none, none, rfl, rfl, Same.refl _⟩ (fun i σ H1 _ ⟨_, _, _, _, _, e⟩ => SqL.of (e _ _ ha)) ?_ ?_⟩
    · rintro i y σ H1 hi ⟨c, v, u, rfl, hc, e⟩
      have hil : i < ms.length := by
        rw [← F.1]
        exact (List.getElem?_eq_some_iff.mp hi).1
      obtain ⟨b, rfl, hb'⟩ := tI_tv ((F.2 i y hi).same e)
      have sp := spec i
      have dn := rd_den (m := ms.getD i 0) hW
      rw [← hc] at sp
      have g := gcd_pos (p := c) dn.1
      have gl := Int.gcd_le_right c dn.1
      refine ⟨b, _, rfl, SqT.of hb', rfl, _, _, rfl, _, _, rfl, rfl, ?_⟩
      refine ⟨_, rfl, _, rfl, _, rfl, _, _, rfl, _, _, rfl, rfl, divW (b := 0) g (by show (Int.gcd c (W / (Int.gcd (ms.getD i 0) W : Int)) : Int) < _; omega), _, rfl, _, _, rfl, rfl, mulOk (Nat.lt_of_le_of_lt (natAbs_ediv_le c _) (by omega)), ?_⟩
      refine ⟨_, _, _, rfl, ?_, e⟩
      rw [take_getD hil, List.map_append, List.foldl_append, ← hc]
      rfl
    · rintro σ H1 ⟨c, v, u, rfl, hc, e⟩
      rw [F.1, List.take_length] at hc
      subst hc
      exact ⟨_, rfl, k _ e⟩
end
end K91
end
section
set_option Elab.async false
set_option linter.all false
set_option maxRecDepth 100000
set_option maxHeartbeats 4000000
namespace K91
open PySem PySem.Spec PyProof.Rows L2 KB M1
/-! rows of a part of one door -/
abbrev Row := Int × List Int
def rowD (r : Row) : PyData := .tuple [.tuple [.int r.1, tI r.2]]
def rowsD (rs : List Row) : PyData := .tuple (rs.map rowD)
/-- each leads to a position, and gives so many numbers, none too great -/
def RowsOk (rs : List Row) (o : Nat) : Prop := 1 ≤ rs.length ∧ rs.length ≤ 400 ∧ o ≤ 6 ∧ 1 ≤ o ∧ ∀ r ∈ rs, 0 ≤ r.1 ∧ r.1 < rs.length ∧ r.2.length = o ∧ ∀ g ∈ r.2, 0 ≤ g ∧ g ≤ 1000000000000
/-- a list of lists of one pair -/
def RowsIn (H : Hp) (v : V) (rs : List Row) : Prop := ∃ a xs, v = .ref a ∧ H a = some (.lst xs) ∧ xs.length = rs.length ∧ ∀ (i : Nat) (x : V) (r : Row), xs[i]? = some x → rs[i]? = some r → ∃ b y, x = .ref b ∧ H b = some (.lst [y]) ∧ Tv H y (.tuple [.int r.1, tI r.2])
theorem _root_.KB.Tv.pair {H : Hp} {v : V} {n : Int} {gs : List Int} (h : Tv H v (.tuple [.int n, tI gs])) : ∃ a b, v = .ref a ∧ H a = some (.tup [.int n, .ref b]) ∧ H b = some (.tup (gs.map V.int)) := by
  obtain ⟨a, xs, rfl, ha, hs⟩ := tvt h
  cases hs with
  | cons h1 h2 =>
    cases h1
    cases h2 with
    | cons h3 h4 =>
      cases h4
      obtain ⟨b, rfl, hb⟩ := tI_tv h3
      exact ⟨a, b, rfl, ha, hb⟩
theorem pairTv {H : Hp} {a b : Addr} {n : Int} {gs : List Int} (h1 : H a = some (.tup [.int n, .ref b])) (h2 : H b = some (.tup (gs.map V.int))) : Tv H (.ref a) (.tuple [.int n, tI gs]) :=
  .tup h1 (.cons (.int n) (.cons (tv_tI h2) .nil))
section
variable {P : Program} {w : World} {K : PySem.W.Frag} {mg : Str → Option Value} {base : Heap} {A : Ad}
/-! is_pass -/
abbrev N_is_pass : List Str := ["value", "many", "outs", "one"]
theorem sc_is_pass : FnScope N_is_pass ["value", "many", "outs"] (defScope s_is_pass) := ⟨rfl, rfl, rfl, by decide +kernel, rfl, by decide +kernel, by decide +kernel⟩
def sp_is_pass : Sp := fun vs H Q _ => ∃ (v : V) (r : Row) (m o : Int), vs = [v, .int m, .int o] ∧ Tv H v (.tuple [.int r.1, tI r.2]) ∧ 0 ≤ r.1 ∧ r.1 < m ∧ (r.2.length : Int) = o ∧ r.2.length ≤ 6 ∧ (∀ g ∈ r.2, 0 ≤ g ∧ g ≤ 1000000000000) ∧ ∀ H', Same H H' → Q (.bl true) H'
theorem G_is_pass (T : Txt K mg A) : FnOk P w K mg base CX0 4 A.f_is_pass A.d_is_pass ["value", "many", "outs"] (sp_is_pass) := by
  refine T.F_is_pass.ok sc_is_pass (fun vs H Q E h => ?_) (fun cdv A' outer s H vs Q E hr h => ?_)
  · obtain ⟨v, r, m, o, rfl, _⟩ := h
    rfl
  · obtain ⟨v, ⟨n, gs⟩, m, o, rfl, hv, h0, h1, ho, h6, hg, q⟩ := h
    simp only at hv h0 h1 ho h6 hg
    obtain ⟨a, b, rfl, ha, hb⟩ := hv.pair
    have nd := sc_is_pass.nd
    have hz : gs.length ≤ sizeLine := by rw [sizeLine_eq]; omega
    refine ⟨_, (pss_cons (ps_if (PW.pt (pw_or (pt_not (pt_val (pe_callB (c_isiT (K := K) rfl) (by rfl) T.b_isinstance (by decide +kernel) (pa_cons (pv 0) (pa_cons (pe_tup (pa_cons (pe_ty_list (by rfl) T.b_list) (pa_cons (pe_ty_tuple (by rfl) T.b_tuple) pa_nil))) pa_nil))))) (pw_or (pt_cmpR op_ne (pe_callB (c_len (K := K) rfl) (by rfl) T.b_len (by decide +kernel) (pa_cons (pv 0) pa_nil)) pe_int (nomark _)) (pw_or1 (pt_not (pt_val (pe_call (G_is_integer T) (hr.mono (by decide)) rfl T.g_is_integer T.F_is_integer.kp T.B_is_integer .nil pass0 (pa_cons (pe_ix (ixt (K := K) rfl) (pv 0) pe_int (fun _ _ => rfl)) pa_nil)))))))) (pss_one (ps_ret pe_bl)) pss_nil)
      (pss_cons (ps_if (PW.pt (pw_or (pt_not (pt_chain op_le op_lt pe_int (pe_ix (ixt (K := K) rfl) (pv 0) pe_int (fun _ _ => rfl)) (pv 1))) (pw_or1 (pt_not (pt_val (pe_call (G_is_counts T) (hr.mono (by decide)) rfl T.g_is_counts T.F_is_counts.kp T.B_is_counts .nil pass0 (pa_cons (pe_ix (ixt (K := K) rfl) (pv 0) pe_int (fun _ _ => rfl)) (pa_cons (pv 2) pa_nil)))))))) (pss_one (ps_ret pe_bl)) pss_nil)
      (pss_one (ps_ret (pe_callB (c_all (K := K) rfl rfl) (by rfl) T.b_all (by decide +kernel) (pa_cons (pe_lc (own := [("one", 3)]) (by rfl) nd (pit (K := K) rfl (pe_ix (ixt (K := K) rfl) (pv 0) pe_int (fun _ _ => rfl))) (blkOk_by (own := [("one", 3)]) (N := N_is_pass) (sc := defScope s_is_pass) (by decide +kernel)) (fun _ _ _ _ _ => (pg_name (i := 3) nd rfl (Or.inl rfl))) (fun _ _ _ _ _ => pts_nil) (fun _ _ _ _ _ => (pe_cmpR op_le (pv 3) (pe_glob (v := .int 1000000000000) rfl T.c_MOST_GIVES ⟨_, rfl⟩) (nomark _)))) pa_nil)))))), ?_⟩
    refine isi_lt rfl (fun H' e => tyx_t (e _ _ ha)) kit_tt fun p hp => ⟨_, rfl, iteF ?_⟩
    have s1 := same_new (o := HO.tup [.ty "list", .ty "tuple"]) hp
    refine ⟨_, rfl, a, _, rfl, .inr (SqT.of (s1 _ _ ha)), rfl, _, rfl, iteF ?_⟩
    refine ⟨_, rfl, a, _, _, _, rfl, rfl, SqT.of (s1 _ _ ha), rfl, _, true, rfl, rfl, _, rfl, iteF ?_⟩
    refine ⟨_, rfl, a, _, _, _, rfl, rfl, SqT.of (s1 _ _ ha), rfl, _, _, rfl, rfl, _, rfl, ?_⟩
    rw [decide_eq_true (show (0 : Int) ≤ n from h0)]
    refine iteT ⟨_, rfl, _, _, rfl, rfl, _, rfl, ?_⟩
    rw [decide_eq_true h1]
    refine iteF ?_
    refine ⟨_, rfl, a, _, _, _, rfl, rfl, SqT.of (s1 _ _ ha), rfl, _, rfl, _, gs, o, rfl, ⟨b, rfl, .inl (s1 _ _ hb)⟩, hz, fun H2 s2 => ⟨_, rfl, ?_⟩⟩
    have e1 : (decide ((gs.length : Int) = o) && gs.all fun n => decide (0 ≤ n)) = true := by
      rw [decide_eq_true ho, List.all_eq_true.mpr (fun n hn => decide_eq_true (hg n hn).1)]
      rfl
    rw [e1]
    refine iteF ?_
    have s3 := s1.trans s2
    refine ⟨_, rfl, a, _, _, _, rfl, rfl, SqT.of (s3 _ _ ha), rfl, b, rfl, ⟨_, SqT.of (s3 _ _ hb)⟩, fun D hD => lc_pure (walk_tup (K := K) (a := b) (xs := gs.map V.int)) (fun i y _ => y = V.bl true) hD (fun H e => SqT.of (e _ _ (s3 _ _ hb))) (fun _ _ _ _ r _ => r) (by rw [List.length_map]; exact hz) (fun i x H2 H3 hi e y Q2 q2 => ?_) (fun ys H2 e hy hl hys => ?_)⟩
    · obtain ⟨rfl, hx⟩ := y
      rw [List.getElem?_map] at hx
      obtain ⟨g, hn, rfl⟩ := Option.map_eq_some_iff.mp hx
      have := hg g (List.mem_of_getElem? hn)
      refine ⟨rfl, _, rfl, _, _, rfl, rfl, q2 _ _ (Same.refl _) ?_⟩
      show V.bl (decide (g ≤ 1000000000000)) = V.bl true
      rw [decide_eq_true this.2]
    · have e2 := allB (f := fun _ => true) hl hys
      refine ⟨D, _, rfl, SqL.of (by rw [hy, e2]), ?_⟩
      rw [all_true (fun _ _ => rfl)]
      exact q _ (s3.trans e)
/-! need_rows -/
abbrev N_need_rows : List Str := ["rows", "doors", "outs", "row", "one"]
theorem sc_need_rows : FnScope N_need_rows ["rows", "doors", "outs"] (defScope s_need_rows) := ⟨rfl, rfl, rfl, by decide +kernel, rfl, by decide +kernel, by decide +kernel⟩
def sp_need_rows : Sp := fun vs H Q _ => ∃ (v : V) (rs : List Row) (o : Nat), vs = [v, .int 1, .int o] ∧ RowsIn H v rs ∧ RowsOk rs o ∧ ∀ H' t, Same H H' → Tv H' t (rowsD rs) → Q t H'
theorem G_need_rows (T : Txt K mg A) : FnOk P w K mg base CX0 5 A.f_need_rows A.d_need_rows ["rows", "doors", "outs"] (sp_need_rows) := by
  refine T.F_need_rows.ok sc_need_rows (fun vs H Q E h => ?_) (fun cdv A' outer s H vs Q E hr h => ?_)
  · obtain ⟨v, rs, o, rfl, _⟩ := h
    rfl
  · obtain ⟨v, rs, o, rfl, ⟨a, xs, rfl, ha, hl, hx⟩, ⟨r1, r2, o6, o1, hr3⟩, q⟩ := h
    have nd := sc_need_rows.nd
    have hz : xs.length ≤ sizeLine := by rw [sizeLine_eq]; omega
    refine ⟨_, (pss_cons (ps_if (PW.pt (pw_or (pt_not (pt_val (pe_callB (c_isiT (K := K) rfl) (by rfl) T.b_isinstance (by decide +kernel) (pa_cons (pv 0) (pa_cons (pe_tup (pa_cons (pe_ty_list (by rfl) T.b_list) (pa_cons (pe_ty_tuple (by rfl) T.b_tuple) pa_nil))) pa_nil))))) (pw_or1 (pt_not (pt_chain op_le op_le pe_int (pe_callB (c_len (K := K) rfl) (by rfl) T.b_len (by decide +kernel) (pa_cons (pv 0) pa_nil)) (pe_glob (v := .int 400) rfl T.c_MOST_POSITIONS ⟨_, rfl⟩)))))) (pss_one ps_never) pss_nil)
      (pss_cons (ps_for PassesOwn.never rfl (pil (K := K) rfl (pv 0)) (pg_name (i := 3) nd rfl (Or.inl rfl))
      (pss_cons (ps_if (PW.pt (pw_or (pt_not (pt_val (pe_callB (c_isiT (K := K) rfl) (by rfl) T.b_isinstance (by decide +kernel) (pa_cons (pv 3) (pa_cons (pe_tup (pa_cons (pe_ty_list (by rfl) T.b_list) (pa_cons (pe_ty_tuple (by rfl) T.b_tuple) pa_nil))) pa_nil))))) (pw_or1 (pt_cmpR op_ne (pe_callB (c_len (K := K) rfl) (by rfl) T.b_len (by decide +kernel) (pa_cons (pv 3) pa_nil)) (pv 1) (nomark _))))) (pss_one ps_never) pss_nil)
      (pss_one (ps_if (pt_not (pt_val (pe_callB (c_all (K := K) rfl rfl) (by rfl) T.b_all (by decide +kernel) (pa_cons (pe_lc (own := [("one", 4)]) (by rfl) nd (pil (K := K) rfl (pv 3)) (blkOk_by (own := [("one", 4)]) (N := N_need_rows) (sc := defScope s_need_rows) (by decide +kernel)) (fun _ _ _ _ _ => (pg_name (i := 4) nd rfl (Or.inl rfl))) (fun _ _ _ _ _ => pts_nil) (fun _ _ _ _ _ => (pe_call (G_is_pass T) (hr.mono (by decide)) rfl T.g_is_pass T.F_is_pass.kp T.B_is_pass .nil pass0 (pa_cons (pv 4) (pa_cons (pe_callB (c_len (K := K) rfl) (by rfl) T.b_len (by decide +kernel) (pa_cons (pv 0) pa_nil)) (pa_cons (pv 2) pa_nil)))))) pa_nil)))) (pss_one ps_never) pss_nil))))
      (pss_one (ps_ret (pe_callTy (c_tup (K := K) rfl) (by rfl) T.b_tuple (by decide +kernel) (pa_cons (pe_lc (own := [("row", 3)]) (by rfl) nd (pil (K := K) rfl (pv 0)) (blkOk_by (own := [("row", 3)]) (N := N_need_rows) (sc := defScope s_need_rows) (by decide +kernel)) (fun _ _ _ _ _ => (pg_name (i := 3) nd rfl (Or.inl rfl))) (fun _ _ _ _ _ => pts_nil) (fun _ _ _ _ _ => (pe_callTy (c_tup (K := K) rfl) (by rfl) T.b_tuple (by decide +kernel) (pa_cons (pe_lc (own := [("one", 4)]) (by rfl) nd (pil (K := K) rfl (pv 3)) (blkOk_by (own := [("one", 4)]) (N := N_need_rows) (sc := relS _ (defScope s_need_rows)) (by decide +kernel)) (fun _ _ _ _ _ => (pg_name (i := 4) nd rfl (Or.inl rfl))) (fun _ _ _ _ _ => pts_nil) (fun _ _ _ _ _ => (pe_tup (pa_cons (pe_ix (ixt (K := K) rfl) (pv 4) pe_int (fun _ _ => rfl)) (pa_cons (pe_callTy (c_tup (K := K) rfl) (by rfl) T.b_tuple (by decide +kernel) (pa_cons (pe_ix (ixt (K := K) rfl) (pv 4) pe_int (fun _ _ => rfl)) pa_nil)) pa_nil))))) pa_nil)))) pa_nil)))))), ?_⟩
    refine isi_lt rfl (fun H' e => tyx_l (e _ _ ha)) kit_ll fun p hp => ⟨_, rfl, iteF ?_⟩
    have s1 := same_new (o := HO.tup [.ty "list", .ty "tuple"]) hp
    refine ⟨_, rfl, a, _, rfl, .inl (SqL.of (s1 _ _ ha)), _, _, rfl, rfl, _, rfl, ?_⟩
    rw [decide_eq_true (show (1 : Int) ≤ (xs.length : Int) by omega)]
    refine iteT ⟨_, _, rfl, rfl, _, rfl, ?_⟩
    rw [decide_eq_true (show (xs.length : Int) ≤ 400 by omega)]
    refine iteF ?_
    refine ⟨_, rfl, a, rfl, ⟨_, SqL.of (s1 _ _ ha)⟩, for_list (K := K) (a := a) (xs := xs) (fun i σ H1 => ∃ u, σ = [some (.ref a), some (.int 1), some (.int o), u, none] ∧ Same H H1) ⟨none, rfl, s1⟩ (fun i σ H1 _ ⟨_, _, e⟩ => SqL.of (e _ _ ha)) ?_ ?_⟩
    · rintro i y σ H1 hi ⟨u, rfl, e⟩
      have hil : i < rs.length := by
        rw [← hl]
        exact (List.getElem?_eq_some_iff.mp hi).1
      obtain ⟨b, z, rfl, hb, hz'⟩ := hx i y rs[i] hi (by simp [hil])
      have hok := hr3 rs[i] (List.getElem_mem hil)
      refine isi_lt rfl (fun H' e' => tyx_l ((e.trans e') _ _ hb)) kit_ll fun p hp => ⟨_, rfl, iteF ?_⟩
      have s2 := e.trans (same_new (o := HO.tup [.ty "list", .ty "tuple"]) hp)
      refine ⟨_, rfl, b, _, rfl, .inl (SqL.of (s2 _ _ hb)), _, rfl, rfl, _, rfl, iteF ?_⟩
      refine ⟨_, rfl, b, rfl, ⟨_, SqL.of (s2 _ _ hb)⟩, fun D hD => lc_pure (walk_list (K := K) (a := b) (xs := [z])) (fun i y _ => y = V.bl true) hD (fun H e => SqL.of (e _ _ (s2 _ _ hb))) (fun _ _ _ _ r _ => r) (by show 1 ≤ sizeLine; decide) (fun j x H2 H3 hj e3 y Q2 q2 => ?_) (fun ys H2 e3 hy hl hys => ?_)⟩
      · obtain ⟨rfl, hx3⟩ := y
        have ex : x = z := by
          have : j = 0 := by simp at hj; omega
          subst this
          simpa using hx3.symm
        subst ex
        refine ⟨rfl, _, rfl, _, rfl, a, _, rfl, .inl (SqL.of ((s2.trans e3) _ _ ha)), _, rfl, x, rs[i], _, _, rfl, hz'.same (s2.trans e3), hok.1, by rw [hl]; exact hok.2.1, by rw [hok.2.2.1], by rw [hok.2.2.1]; exact o6, hok.2.2.2, fun H' s' => q2 _ _ s' rfl⟩
      · have e2 := allB (f := fun _ => true) hl hys
        refine ⟨D, _, rfl, SqL.of (by rw [hy, e2]), _, rfl, ?_⟩
        rw [all_true (fun _ _ => rfl)]
        exact iteF ⟨_, rfl, s2.trans e3⟩
    · rintro σ H1 ⟨u, rfl, e⟩
      refine ⟨_, rfl, a, rfl, ⟨_, SqL.of (e _ _ ha)⟩, fun D hD => lc_pure (walk_list (K := K) (a := a) (xs := xs)) (fun i y H' => Tv H' y (rowD (rs.getD i (0, [])))) hD (fun H e' => SqL.of ((e.trans e') _ _ ha)) (fun _ _ _ _ r st => r.stab st) hz (fun i x H2 H3 hi e3 y Q2 q2 => ?_) (fun ys H2 e3 hy hyl hys => ?_)⟩
      · obtain ⟨rfl, hx3⟩ := y
        have hil : i < rs.length := by omega
        obtain ⟨b, z, rfl, hb, hz'⟩ := hx i x rs[i] hx3 (by simp [hil])
        obtain ⟨c, d, rfl, hc, hd⟩ := hz'.pair
        have s2 := e.trans e3
        refine ⟨rfl, _, rfl, b, rfl, ⟨_, SqL.of (s2 _ _ hb)⟩, fun D' hD' => lc_pure (walk_list (K := K) (a := b) (xs := [V.ref c])) (fun j y H' => Tv H' y (.tuple [.int rs[i].1, tI rs[i].2])) hD' (fun H e' => SqL.of ((s2.trans e') _ _ hb)) (fun _ _ _ _ r st => r.stab st) (by show 1 ≤ sizeLine; decide) (fun j x H4 H5 hj e5 y Q3 q3 => ?_) (fun ys' H4 e5 hy' hyl' hys' => ?_)⟩
        · obtain ⟨rfl, hx5⟩ := y
          have ex : x = V.ref c := by
            have : j = 0 := by simp at hj; omega
            subst this
            simpa using hx5.symm
          subst ex
          have s4 := s2.trans e5
          refine ⟨rfl, _, rfl, c, _, _, _, rfl, rfl, SqT.of (s4 _ _ hc), rfl, _, rfl, c, _, _, _, rfl, rfl, SqT.of (s4 _ _ hc), rfl, d, _, rfl, .inr ⟨SqT.of (s4 _ _ hd), ?_⟩⟩
          refine ⟨by show 2 ≤ sizeLine; decide, fun t ht => q3 _ _ (same_new ht) (pairTv upd_same ((same_new ht) _ _ (s4 _ _ hd)))⟩
        · obtain ⟨y, rfl⟩ : ∃ y, ys' = [y] := by
            match ys', hyl' with
            | [y], _ => exact ⟨y, rfl⟩
          refine ⟨D', _, rfl, .inl ⟨SqL.of hy', fun t ht => q2 _ _ (e5.trans (same_new ht)) ?_⟩⟩
          have : rs.getD i (0, []) = rs[i] := by simp [hil]
          rw [this]
          exact .tup upd_same (.cons ((hys' 0 y rfl).same (same_new ht)) .nil)
      · refine ⟨D, _, rfl, .inl ⟨SqL.of hy, fun t ht => q _ _ ((e.trans e3).trans (same_new ht)) ?_⟩⟩
        refine .tup upd_same (tvs_mk (by rw [List.length_map]; omega) fun i v d hv hd => ?_)
        rw [List.getElem?_map] at hd
        obtain ⟨r, hr4, rfl⟩ := Option.map_eq_some_iff.mp hd
        have h3 := hys i v hv
        rw [List.getD_eq_getElem?_getD, hr4] at h3
        exact h3.same (same_new ht)
end
end K91
end
section
set_option Elab.async false
set_option linter.all false
set_option maxRecDepth 100000
set_option maxHeartbeats 4000000
namespace K91
open PySem PySem.Spec PyProof.Rows L2 KB M1
/-! a part as an object -/
def pf (o : Int) (rv : V) (n : Int) : List (Str × V) := [("doors", .int 1), ("outs", .int o), ("rows", rv), ("many", .int n)]
theorem look_ne {k x : Str} {v : V} {l : List (Str × V)} (h : (k == x) = false) : ((x, v) :: l).lookup k = l.lookup k := by
  rw [List.lookup_cons, h]
theorem look_eq {k : Str} {v : V} {l : List (Str × V)} : ((k, v) :: l).lookup k = some v := by simp
theorem pf_doors (o : Int) (rv : V) (n : Int) : (pf o rv n).lookup ("doors" : Str) = some (V.int 1) := look_eq
theorem pf_outs (o : Int) (rv : V) (n : Int) : (pf o rv n).lookup ("outs" : Str) = some (V.int o) := (look_ne (k := ("outs" : Str)) (x := ("doors" : Str)) (by decide +kernel)).trans look_eq
theorem pf_rows (o : Int) (rv : V) (n : Int) : (pf o rv n).lookup ("rows" : Str) = some rv := (look_ne (k := ("rows" : Str)) (x := ("doors" : Str)) (by decide +kernel)).trans ((look_ne (k := ("rows" : Str)) (x := ("outs" : Str)) (by decide +kernel)).trans look_eq)
theorem pf_many (o : Int) (rv : V) (n : Int) : (pf o rv n).lookup ("many" : Str) = some (V.int n) := (look_ne (k := ("many" : Str)) (x := ("doors" : Str)) (by decide +kernel)).trans ((look_ne (k := ("many" : Str)) (x := ("outs" : Str)) (by decide +kernel)).trans ((look_ne (k := ("many" : Str)) (x := ("rows" : Str)) (by decide +kernel)).trans look_eq))
def PartAt (A : Ad) (H : Hp) (v : V) (o : Nat) (rs : List Row) : Prop := ∃ p dx rv, v = .ref p ∧ H p = some (.ins A.C_Part dx (pf o rv rs.length)) ∧ Tv H rv (rowsD rs)
theorem PartAt.stab {A : Ad} {H H' : Hp} {v : V} {o : Nat} {rs : List Row} (h : PartAt A H v o rs) (e : Stab H H') : PartAt A H' v o rs := by
  obtain ⟨p, dx, rv, h1, h2, h3⟩ := h
  exact ⟨p, dx, rv, h1, e _ _ h2 trivial, h3.stab e⟩
theorem PartAt.same {A : Ad} {H H' : Hp} {v : V} {o : Nat} {rs : List Row} (h : PartAt A H v o rs) (e : Same H H') : PartAt A H' v o rs := h.stab (.same e)
/-- rows that lead round and round -/
structure Cyc (rs : List Row) (o : Nat) : Prop where
  ok : RowsOk rs o
  nx : ∀ (k : Nat) (h : k < rs.length), rs[k].1 = (((k + 1) % rs.length : Nat) : Int)
theorem Cyc.pos {rs : List Row} {o : Nat} (c : Cyc rs o) : 0 < rs.length := c.ok.1
theorem Cyc.outs {rs : List Row} {o : Nat} (c : Cyc rs o) (k : Nat) (h : k < rs.length) : rs[k].2.length = o := (c.ok.2.2.2.2 _ (List.getElem_mem h)).2.2.1
def sumG (rs : List Row) (o i : Nat) : List Int := ((rs.take i).map (·.2)).foldl addI (List.replicate o 0)
theorem addI_len {a b : List Int} (h : a.length = b.length) : (addI a b).length = a.length := by simp [addI, h]
theorem sumG_succ {rs : List Row} {o i : Nat} (h : i < rs.length) : sumG rs o (i + 1) = addI (sumG rs o i) rs[i].2 := by
  unfold sumG
  rw [List.take_add_one, List.getElem?_eq_getElem h]
  show ((rs.take i ++ [rs[i]]).map (·.2)).foldl addI _ = _
  rw [List.map_append, List.foldl_append]
  rfl
theorem sumG_len {rs : List Row} {o : Nat} (c : Cyc rs o) : ∀ i, i ≤ rs.length → (sumG rs o i).length = o
  | 0, _ => by simp [sumG]
  | i + 1, h => by
    have ih := sumG_len c i (by omega)
    rw [sumG_succ (by omega), addI_len, ih]
    rw [ih, c.outs i (by omega)]
theorem rows_at {H : Hp} {rv : V} {rs : List Row} (h : Tv H rv (rowsD rs)) : ∃ a xs, rv = .ref a ∧ H a = some (.tup xs) ∧ xs.length = rs.length ∧ ∀ (k : Nat) (hk : k < rs.length), ∃ b c d, xs[k]? = some (.ref b) ∧ H b = some (.tup [.ref c]) ∧ H c = some (.tup [.int rs[k].1, .ref d]) ∧ H d = some (.tup (rs[k].2.map V.int)) := by
  obtain ⟨a, xs, e, h1, h2⟩ := tvt h
  refine ⟨a, xs, e, h1, by rw [tvs_len h2, List.length_map], fun k hk => ?_⟩
  obtain ⟨v, hv, tv⟩ := tvs_at (i := k) (d := rowD rs[k]) h2 (by simp [hk])
  obtain ⟨b, ys, rfl, hb, hs⟩ := tvt tv
  cases hs with
  | cons t1 t2 =>
    cases t2
    obtain ⟨c, d, rfl, hc, hd⟩ := t1.pair
    exact ⟨b, c, d, hv, hb, hc, hd⟩
section
variable {P : Program} {w : World} {K : PySem.W.Frag} {mg : Str → Option Value} {base : Heap} {A : Ad}
/-- part.rows[k][0], part in slot ip, k in slot ix, 0 in slot id -/
theorem row_read {σ : L2.St} {H : Hp} {Q : VK} {ip ix id : Nat} {v : V} {o : Nat} {rs : List Row} {k : Nat} (T : Txt K mg A) (hp : σ[ip]? = some (some v)) (p : PartAt A H v o rs) (hk : σ[ix]? = some (some (.int k))) (hd : σ[id]? = some (some (.int 0))) (hlt : k < rs.length)
    (q : ∀ c d, H c = some (.tup [.int rs[k].1, .ref d]) → H d = some (.tup (rs[k].2.map V.int)) → Q (.ref c) H) : tOp (rIxT K) (tOp (rIxT K) (tFld K (tVar ip) "rows") (tVar ix)) (tVar id) σ H Q := by
  obtain ⟨p, dx, rv, rfl, h1, h2⟩ := p
  obtain ⟨a, xs, rfl, ha, hl, hx⟩ := rows_at h2
  obtain ⟨b, c, d, e1, e2, e3, e4⟩ := hx k hlt
  exact ⟨_, hp, p, _, dx, _, _, rfl, h1, T.c_Part, T.n_Part_rows, pf_rows _ _ _, _, hk, a, xs, _, _, rfl, rfl, SqT.of ha, atI_nat e1, _, hd, b, _, 0, _, rfl, rfl, SqT.of e2, rfl, q c d e3 e4⟩
/-! need_part, need_position -/
abbrev N_need_part : List Str := ["part", "value"]
theorem sc_need_part : FnScope N_need_part ["part", "value"] (defScope s_need_part) := ⟨rfl, rfl, rfl, by decide +kernel, rfl, by decide +kernel, by decide +kernel⟩
def sp_need_part : Sp := fun vs H Q _ => ∃ (s v : V) (o : Nat) (rs : List Row), vs = [s, v] ∧ PartAt A H v o rs ∧ Q v H
theorem G_need_part (T : Txt K mg A) : FnOk P w K mg base CX0 1 A.f_need_part A.d_need_part ["part", "value"] (sp_need_part (A := A)) := by
  refine T.F_need_part.ok sc_need_part (fun vs H Q E h => ?_) (fun cdv A' outer s H vs Q E hr h => ?_)
  · obtain ⟨s, v, o, rs, rfl, _⟩ := h
    rfl
  · obtain ⟨s, v, o, rs, rfl, ⟨p, dx, rv, rfl, h1, h2⟩, q⟩ := h
    refine ⟨_, (pss_cons (ps_if (pt_not (pt_val (pe_callB (C8.call_isC T.o_Part) (by rfl) T.b_isinstance (by decide +kernel) (pa_cons (pv 1) (pa_cons (pe_glob (v := .ref A.C_Part) rfl T.g_Part rfl) pa_nil))))) (pss_one ps_never) pss_nil)
      (pss_one (ps_ret (pv 1)))), ?_⟩
    exact ⟨_, rfl, p, dx, _, rfl, h1, _, rfl, iteF ⟨_, rfl, q⟩⟩
abbrev N_need_position : List Str := ["part", "position"]
theorem sc_need_position : FnScope N_need_position ["part", "position"] (defScope s_need_position) := ⟨rfl, rfl, rfl, by decide +kernel, rfl, by decide +kernel, by decide +kernel⟩
def sp_need_position : Sp := fun vs H Q _ => ∃ (v : V) (o : Nat) (rs : List Row), vs = [v, .int 0] ∧ PartAt A H v o rs ∧ 0 < rs.length ∧ Q (.int 0) H
theorem G_need_position (T : Txt K mg A) : FnOk P w K mg base CX0 3 A.f_need_position A.d_need_position ["part", "position"] (sp_need_position (A := A)) := by
  refine T.F_need_position.ok sc_need_position (fun vs H Q E h => ?_) (fun cdv A' outer s H vs Q E hr h => ?_)
  · obtain ⟨v, o, rs, rfl, _⟩ := h
    rfl
  · obtain ⟨v, o, rs, rfl, ⟨p, dx, rv, rfl, h1, h2⟩, h0, q⟩ := h
    refine ⟨_, (pss_one (ps_ret (pe_call (G_need_integer T) (hr.mono (by decide)) rfl T.g_need_integer T.F_need_integer.kp T.B_need_integer .nil pass0 (pa_cons pe_str (pa_cons (pv 1) (pa_cons pe_int (pa_cons (pe_op op_sub (pe_fldK (K := K) rfl (pv 0) rfl) pe_int) pa_nil))))))), ?_⟩
    refine ⟨_, rfl, _, rfl, p, _, dx, _, _, rfl, h1, T.c_Part, T.n_Part_many, pf_many _ _ _, _, _, rfl, rfl, _, 0, 0, _, rfl, by omega, by omega, q⟩
/-! gone -/
abbrev N_gone : List Str := ["part", "position", "row", "given", "door", "more"]
theorem sc_gone : FnScope N_gone ["part", "position", "row"] (defScope s_gone) := ⟨rfl, rfl, rfl, by decide +kernel, rfl, by decide +kernel, by decide +kernel⟩
def sp_gone : Sp := fun vs H Q _ => ∃ (v : V) (l : Addr) (n o : Nat) (rs : List Row), vs = [v, .int 0, .ref l] ∧ PartAt A H v o rs ∧ Cyc rs o ∧ H l = some (.lst (List.replicate n (V.int 0))) ∧ n ≤ rs.length ∧
  ∀ H' t, Same H H' → Tv H' t (.tuple [.int ((n % rs.length : Nat) : Int), tI (sumG rs o n)]) → Q t H'
theorem mod_lt' {i n : Nat} (h : i < n) : i % n = i := Nat.mod_eq_of_lt h
theorem G_gone (T : Txt K mg A) : FnOk P w K mg base CX0 2 A.f_gone A.d_gone ["part", "position", "row"] (sp_gone (A := A)) := by
  refine T.F_gone.ok sc_gone (fun vs H Q E h => ?_) (fun cdv A' outer s H vs Q E hr h => ?_)
  · obtain ⟨v, l, n, o, rs, rfl, _⟩ := h
    rfl
  · obtain ⟨v, l, n, o, rs, rfl, p, c, hl, hn, q⟩ := h
    have nd := sc_gone.nd
    obtain ⟨pa, dx, rv, rfl, h1, h2⟩ := id p
    have o6 : o ≤ 6 := c.ok.2.2.1
    have o1 : 1 ≤ o := c.ok.2.2.2.1
    refine ⟨_, (pss_cons (ps_set (i := 3) nd rfl (Or.inl rfl) (pe_op (o_repA (K := K) rfl) (pe_tup (pa_cons pe_int pa_nil)) (pe_fldK (K := K) rfl (pv 0) rfl)))
      (pss_cons (ps_for PassesOwn.never rfl (pil (K := K) rfl (pv 2)) (pg_name (i := 4) nd rfl (Or.inl rfl))
      (pss_cons (ps_asg (pe_ix (ixt (K := K) rfl) (pe_ix (ixt (K := K) rfl) (pe_fldK (K := K) rfl (pv 0) rfl) (pv 1) (fun _ _ => rfl)) (pv 4) (fun _ _ => rfl)) (pgt (K := K) (n := 2) rfl rfl (pgs_cons (pg_name (i := 1) nd rfl (Or.inl rfl)) (pgs_cons (pg_name (i := 5) nd rfl (Or.inl rfl)) pgs_nil))))
      (pss_one (ps_set (i := 3) nd rfl (Or.inl rfl) (pe_call (G_sum_of T) (hr.mono (by decide)) rfl T.g_sum_of T.F_sum_of.kp T.B_sum_of .nil pass0 (pa_cons (pv 3) (pa_cons (pv 5) pa_nil)))))))
      (pss_one (ps_ret (pe_tup (pa_cons (pv 1) (pa_cons (pv 3) pa_nil))))))), ?_⟩
    refine ⟨by show 1 ≤ sizeLine; decide, fun z hz => ?_⟩
    have s1 := same_new (o := HO.tup [.int 0]) hz
    -- the sums so far
    have go : ∀ (g : V) (H1 : Hp), Same H H1 → Tv H1 g (tI (List.replicate o 0)) → tSeq (tFor (iList K (tVar 2)) (gName 4) (tSeq (tAsg (tOp (rIxT K) (tOp (rIxT K) (tFld K (tVar 0) "rows") (tVar 1)) (tVar 4)) (gTup K 2 (gCons (gName 1) (gCons (gName 5) gNil)))) (tAsg (tCall sp_sum_of [] E0 (tCons (tVar 3) (tCons (tVar 5) tNil))) (gName 3)))) (tRet (tTup (tCons (tVar 1) (tCons (tVar 3) tNil))))
        { nx := fun _ H' => Q .non H', rt := Q } [some (.ref pa), some (.int 0), some (.ref l), some g, none, none] H1 := fun g H1 e hg => by
      refine ⟨_, rfl, l, rfl, ⟨_, SqL.of (e _ _ hl)⟩, for_list (K := K) (a := l) (xs := List.replicate n (V.int 0)) (fun i σ H2 => ∃ k g d m, σ = [some (.ref pa), some (.int k), some (.ref l), some g, d, m] ∧ k = ((i % rs.length : Nat) : Int) ∧ Same H H2 ∧ Tv H2 g (tI (sumG rs o i))) ⟨0, g, none, none, rfl, by rw [Nat.zero_mod]; rfl, e, ?_⟩ (fun i σ H2 _ ⟨_, _, _, _, _, _, e, _⟩ => SqL.of (e _ _ hl)) ?_ ?_⟩
      · simpa [sumG] using hg
      · rintro i y σ H2 hi ⟨k, g, d, m, rfl, hk, e2, hg⟩
        have hin : i < n := by
          have := (List.getElem?_eq_some_iff.mp hi).1
          simpa using this
        have hil : i < rs.length := by omega
        have ey : y = V.int 0 := by
          rw [List.getElem?_replicate, if_pos hin] at hi
          exact (Option.some.inj hi).symm
        subst ey
        rw [mod_lt' hil] at hk
        subst hk
        refine row_read T rfl (p.same e2) rfl rfl hil fun c' d' hc hd => ?_
        refine ⟨c', _, rfl, SqT.of hc, rfl, _, _, rfl, _, _, rfl, rfl, ?_⟩
        refine ⟨_, rfl, _, rfl, g, .ref d', _, _, rfl, hg, tv_tI hd, ?_, ?_, fun H' t s z => ⟨_, _, _, _, rfl, c.nx i hil, e2.trans s, ?_⟩⟩
        · rw [sumG_len c i (by omega), c.outs i hil]
        · rw [sumG_len c i (by omega)]
          omega
        · rw [sumG_succ hil]
          exact z
      · rintro σ H2 ⟨k, g, d, m, rfl, hk, e2, hg⟩
        rw [List.length_replicate] at hg hk
        subst hk
        refine ⟨_, rfl, _, rfl, by show 2 ≤ sizeLine; decide, fun t ht => q _ _ (e2.trans (same_new ht)) ?_⟩
        exact .tup upd_same (.cons (.int _) (.cons (hg.same (same_new ht)) .nil))
    refine ⟨_, rfl, pa, _, dx, _, _, rfl, s1 _ _ h1, T.c_Part, T.n_Part_outs, pf_outs _ _ _, z, _, _, rfl, rfl, SqT.of upd_same, by omega, by omega, fun e => ?_, fun e t ht => ?_⟩
    · have : o = 1 := by omega
      subst this
      exact go _ _ s1 (tv_tI upd_same)
    · refine go _ _ (s1.trans (same_new ht)) (tv_tI ?_)
      rw [upd_same, List.map_replicate]
      rfl
/-! first_crossing, need_closing -/
abbrev N_first_crossing : List Str := ["part", "position", "one", "other"]
theorem sc_first_crossing : FnScope N_first_crossing ["part"] (defScope s_first_crossing) := ⟨rfl, rfl, rfl, by decide +kernel, rfl, by decide +kernel, by decide +kernel⟩
def sp_first_crossing : Sp := fun vs H Q _ => ∃ (v : V) (o : Nat) (rs : List Row), vs = [v] ∧ PartAt A H v o rs ∧ rs.length ≤ 400 ∧ ∀ H', Same H H' → Q .non H'
theorem G_first_crossing (T : Txt K mg A) : FnOk P w K mg base CX0 2 A.f_first_crossing A.d_first_crossing ["part"] (sp_first_crossing (A := A)) := by
  refine T.F_first_crossing.ok sc_first_crossing (fun vs H Q E h => ?_) (fun cdv A' outer s H vs Q E hr h => ?_)
  · obtain ⟨v, o, rs, rfl, _⟩ := h
    rfl
  · obtain ⟨v, o, rs, rfl, ⟨p, dx, rv, rfl, h1, h2⟩, h4, q⟩ := h
    have nd := sc_first_crossing.nd
    refine ⟨_, (pss_cons (ps_for PassesOwn.never rfl (pi_range1 rfl T.b_range (pa_cons (pe_fldK (K := K) rfl (pv 0) rfl) pa_nil)) (pg_name (i := 1) nd rfl (Or.inl rfl))
      (pss_one (ps_for PassesOwn.never rfl (pi_range1 rfl T.b_range (pa_cons (pe_fldK (K := K) rfl (pv 0) rfl) pa_nil)) (pg_name (i := 2) nd rfl (Or.inl rfl))
      (pss_one (ps_for PassesOwn.never rfl (pi_range2 rfl T.b_range (pa_cons (pe_op op_add (pv 2) pe_int) (pa_cons (pe_fldK (K := K) rfl (pv 0) rfl) pa_nil))) (pg_name (i := 3) nd rfl (Or.inl rfl))
      (pss_one ps_never))))))
      (pss_one (ps_ret pe_non))), ?_⟩
    refine ⟨_, rfl, p, _, dx, _, _, rfl, h1, T.c_Part, T.n_Part_many, pf_many _ _ _, _, rfl, by omega, by omega, for_range (lo := 0) (n := ((rs.length : Nat) : Int).toNat) (fun i σ H2 => ∃ x y z, σ = [some (.ref p), x, y, z] ∧ Same H H2) ⟨none, none, none, rfl, Same.refl _⟩ ?_ ?_⟩
    · rintro i σ H2 hi ⟨x, y, z, rfl, e⟩
      refine ⟨_, rfl, p, _, dx, _, _, rfl, e _ _ h1, T.c_Part, T.n_Part_doors, pf_doors _ _ _, _, rfl, by omega, by omega, for_range (lo := 0) (n := ((1 : Int)).toNat) (fun j σ H2 => ∃ x y z, σ = [some (.ref p), x, y, z] ∧ Same H H2) ⟨_, _, _, rfl, e⟩ ?_ ?_⟩
      · rintro j σ H3 hj ⟨x, y, z, rfl, e3⟩
        have hj0 : j = 0 := by
          have : ((1 : Int)).toNat = 1 := rfl
          omega
        subst hj0
        refine ⟨_, rfl, _, _, rfl, rfl, _, rfl, p, _, dx, _, _, rfl, e3 _ _ h1, T.c_Part, T.n_Part_doors, pf_doors _ _ _, _, _, rfl, ⟨by decide, by decide, by decide, by decide⟩, for_range (lo := 0 + 0 + 1) (n := (1 - (0 + 0 + 1) : Int).toNat) (fun j σ H2 => ∃ x y z, σ = [some (.ref p), x, y, z] ∧ Same H H2) ⟨_, _, _, rfl, e3⟩ ?_ ?_⟩
        · intro k σ H4 hk
          exact absurd hk (by simp)
        · rintro σ H4 ⟨x, y, z, rfl, e4⟩
          exact ⟨x, y, z, rfl, e4⟩
      · rintro σ H3 ⟨x, y, z, rfl, e3⟩
        exact ⟨x, y, z, rfl, e3⟩
    · rintro σ H2 ⟨x, y, z, rfl, e⟩
      exact q _ e
abbrev N_need_closing : List Str := ["part", "value", "crossed"]
theorem sc_need_closing : FnScope N_need_closing ["part", "value"] (defScope s_need_closing) := ⟨rfl, rfl, rfl, by decide +kernel, rfl, by decide +kernel, by decide +kernel⟩
def sp_need_closing : Sp := fun vs H Q _ => ∃ (s v : V) (o : Nat) (rs : List Row), vs = [s, v] ∧ PartAt A H v o rs ∧ rs.length ≤ 400 ∧ ∀ H', Same H H' → Q v H'
theorem G_need_closing (T : Txt K mg A) : FnOk P w K mg base CX0 3 A.f_need_closing A.d_need_closing ["part", "value"] (sp_need_closing (A := A)) := by
  refine T.F_need_closing.ok sc_need_closing (fun vs H Q E h => ?_) (fun cdv A' outer s H vs Q E hr h => ?_)
  · obtain ⟨s, v, o, rs, rfl, _⟩ := h
    rfl
  · obtain ⟨s, v, o, rs, rfl, p, h4, q⟩ := h
    have nd := sc_need_closing.nd
    refine ⟨_, (pss_cons (ps_expr (pe_call (G_need_part T) (hr.mono (by decide)) rfl T.g_need_part T.F_need_part.kp T.B_need_part .nil pass0 (pa_cons (pv 0) (pa_cons (pv 1) pa_nil))))
      (pss_cons (ps_set (i := 2) nd rfl (Or.inl rfl) (pe_call (G_first_crossing T) (hr.mono (by decide)) rfl T.g_first_crossing T.F_first_crossing.kp T.B_first_crossing .nil pass0 (pa_cons (pv 1) pa_nil)))
      (pss_cons (ps_if (pt_cmpR op_notN (pv 2) pe_non (nomark _)) (pss_one ps_never) pss_nil)
      (pss_one (ps_ret (pv 1)))))), ?_⟩
    refine ⟨_, rfl, _, rfl, s, v, o, rs, rfl, p, ?_⟩
    refine ⟨_, rfl, v, o, rs, rfl, p, h4, fun H' e => ?_⟩
    exact ⟨_, rfl, rfl, _, rfl, iteF ⟨_, rfl, q _ e⟩⟩
end
end K91
end
section
set_option Elab.async false
set_option linter.all false
set_option maxRecDepth 100000
set_option maxHeartbeats 4000000
namespace K91
open PySem PySem.Spec PyProof.Rows L2 KB M1
/-! dicts with the keys 0, 1, .. -/
def rngK (f : Nat → V) (k : Nat) : List (L2.Key × V) := (List.range k).map fun (i : Nat) => (Sum.inl (i : Int), f i)
theorem rngK_len (f : Nat → V) (k : Nat) : (rngK f k).length = k := by simp [rngK]
theorem rngK_succ (f : Nat → V) (k : Nat) : rngK f (k + 1) = rngK f k ++ [(Sum.inl (k : Int), f k)] := by
  unfold rngK
  rw [List.range_succ, List.map_append]
  rfl
theorem valV_app {κ : Type} [DecidableEq κ] (l : List (κ × V)) (k : κ) (e : κ × V) : valV (l ++ [e]) k = (valV l k).or (if e.1 = k then some e.2 else none) := by
  unfold valV
  rw [List.find?_append]
  cases h : l.find? fun kv => decide (kv.1 = k) with
  | some y => simp
  | none =>
    by_cases z : e.1 = k <;> simp [List.find?_cons, z]
theorem rngK_val (f : Nat → V) (j : Nat) : ∀ k, valV (rngK f k) (Sum.inl (j : Int)) = if j < k then some (f j) else none
  | 0 => by simp [rngK, valV]
  | k + 1 => by
    rw [rngK_succ, valV_app, rngK_val f j k]
    show (if j < k then some (f j) else none).or (if (Sum.inl (k : Int) : L2.Key) = Sum.inl (j : Int) then some (f k) else none) = _
    by_cases h : j < k
    · rw [if_pos h, if_pos (show j < k + 1 by omega)]
      rfl
    · by_cases h' : j = k
      · subst h'
        simp
      · rw [if_neg h, if_neg (show ¬ j < k + 1 by omega), if_neg (by simp; omega)]
        rfl
theorem rngK_put (f : Nat → V) (k : Nat) : putK (rngK f k) (Sum.inl (k : Int)) (f k) = rngK f (k + 1) := by
  unfold putK
  rw [if_neg, rngK_succ]
  simp only [rngK, List.any_map, List.any_eq_true, List.mem_range, Function.comp, decide_eq_true_eq, not_exists, not_and]
  intro x hx
  simp
  omega
theorem _root_.KB.tvs_snoc {H : Hp} : ∀ {vs : List V} {ds : List PyData} {v : V} {d : PyData}, TvAll H vs ds → Tv H v d → TvAll H (vs ++ [v]) (ds ++ [d])
  | [], _, v, d, h, r => by cases h; exact .cons r .nil
  | x :: vs, _, v, d, h, r => by
    cases h with
    | cons h1 h2 => exact .cons h1 (tvs_snoc h2 r)
theorem rep_zero {K : PySem.W.Frag} {H : Hp} {l : Addr} {o : Nat} {Q : VK} (o1 : 1 ≤ o) (o6 : o ≤ 6) (hl : H l = some (.tup [.int 0])) (q : ∀ g H', Same H H' → Tv H' g (tI (List.replicate o 0)) → Q g H') : rRepK K (.ref l) (.int o) H Q := by
  refine ⟨l, _, _, rfl, rfl, SqT.of hl, by omega, by omega, fun e => ?_, fun e t ht => ?_⟩
  · have : o = 1 := by omega
    subst this
    exact q _ _ (Same.refl _) (tv_tI hl)
  · refine q _ _ (same_new ht) (tv_tI ?_)
    rw [upd_same, List.map_replicate]
    rfl
theorem cut_all (xs : List V) : cutV xs (some 0) none = xs := by
  unfold cutV
  rw [HT.sIx_none]
  show (xs.drop (min (0 : Int).toNat xs.length)).take _ = xs
  simp [HT.sIx]
section
variable {P : Program} {w : World} {K : PySem.W.Frag} {mg : Str → Option Value} {base : Heap} {A : Ad}
/-! pace_of -/
abbrev N_pace_of : List Str := ["part", "position", "door", "seen", "given", "at", "more", "threshold", "lap"]
theorem sc_pace_of : FnScope N_pace_of ["part", "position", "door"] (defScope s_pace_of) := ⟨rfl, rfl, rfl, by decide +kernel, rfl, by decide +kernel, by decide +kernel⟩
def sp_pace_of : Sp := fun vs H Q _ => ∃ (v : V) (o : Nat) (rs : List Row), vs = [v, .int 0, .int 0] ∧ PartAt A H v o rs ∧ Cyc rs o ∧ ∀ H' t, Same H H' → Tv H' t (.tuple [.int 0, .int rs.length, tI (sumG rs o rs.length)]) → Q t H'
theorem G_pace_of (T : Txt K mg A) : FnOk P w K mg base CX0 2 A.f_pace_of A.d_pace_of ["part", "position", "door"] (sp_pace_of (A := A)) := by
  refine T.F_pace_of.ok sc_pace_of (fun vs H Q E h => ?_) (fun cdv A' outer s H vs Q E hr h => ?_)
  · obtain ⟨v, o, rs, rfl, _⟩ := h
    rfl
  · obtain ⟨v, o, rs, rfl, p, c, q⟩ := h
    have nd := sc_pace_of.nd
    have hu := Nat.lt_of_le_of_lt (Nat.add_le_add_left (show 1 ≤ 64 by decide) _) hr.units
    obtain ⟨pa, dx, rv, rfl, h1, h2⟩ := id p
    have o6 : o ≤ 6 := c.ok.2.2.1
    have o1 : 1 ≤ o := c.ok.2.2.2.1
    have l4 : rs.length ≤ 400 := c.ok.2.1
    have l0 : 0 < rs.length := c.pos
    refine ⟨_, (pss_cons (ps_par3 (i := 3) (j := 4) (l := 5) (by rfl) nd rfl rfl rfl (by decide) (by decide) (by decide) rfl rfl rfl (pa_cons pe_dnewK (pa_cons (pe_lst pa_nil) (pa_cons (pv 1) pa_nil))) (by rfl))
      (pss_cons (ps_while PassesOwn.never (pt_cmp (pc_dnotin hu (pv 5) (pv 3))) (pss_cons (ps_dput hu (pv 3) (pv 5) (pe_callB (c_len (K := K) rfl) (by rfl) T.b_len (by decide +kernel) (pa_cons (pv 4) pa_nil)) rfl)
      (pss_cons (ps_asg (pe_ix (ixt (K := K) rfl) (pe_ix (ixt (K := K) rfl) (pe_fldK (K := K) rfl (pv 0) rfl) (pv 5) (fun _ _ => rfl)) (pv 2) (fun _ _ => rfl)) (pgt (K := K) (n := 2) rfl rfl (pgs_cons (pg_name (i := 5) nd rfl (Or.inl rfl)) (pgs_cons (pg_name (i := 6) nd rfl (Or.inl rfl)) pgs_nil))))
      (pss_one (ps_expr (pe_bm PySem.F.plainAttrs_list PySem.F.slot_list_append PySem.F.type_list_append mt_append (pv 4) (pa_cons (pv 6) pa_nil)))))))
      (pss_cons (ps_par (i := 7) (j := 8) (by rfl) nd rfl rfl (by decide) rfl rfl (pa_cons (pe_dget hu (pv 3) (pv 5) (fun _ _ => rfl)) (pa_cons (pe_op (o_repA (K := K) rfl) (pe_tup (pa_cons pe_int pa_nil)) (pe_fldK (K := K) rfl (pv 0) rfl)) pa_nil)) (by rfl))
      (pss_cons (ps_for PassesOwn.never rfl (pil (K := K) rfl (pe_slice (sll (K := K) rfl) (pv 4) (po_some (pv 7)) po_none)) (pg_name (i := 6) nd rfl (Or.inl rfl))
      (pss_one (ps_set (i := 8) nd rfl (Or.inl rfl) (pe_call (G_sum_of T) (hr.mono (by decide)) rfl T.g_sum_of T.F_sum_of.kp T.B_sum_of .nil pass0 (pa_cons (pv 8) (pa_cons (pv 6) pa_nil))))))
      (pss_one (ps_ret (pe_tup (pa_cons (pv 7) (pa_cons (pe_op op_sub (pe_callB (c_len (K := K) rfl) (by rfl) T.b_len (by decide +kernel) (pa_cons (pv 4) pa_nil)) (pv 7)) (pa_cons (pv 8) pa_nil)))))))))), ?_⟩
    intro sd hsd
    refine ⟨by show 0 ≤ sizeLine; decide, fun gl hgl => ⟨_, rfl, _, _, _, rfl, ?_⟩⟩
    have hne : gl ≠ sd := fun z => by
      subst z
      rw [upd_same] at hgl
      cases hgl
    have hgl0 : H gl = none := by
      rw [upd_ne hne] at hgl
      exact hgl
    refine ⟨fun m σ H2 => ∃ (k : Nat) (xs : List V) (a : Int) (mo : Option V), σ = [some (.ref pa), some (.int 0), some (.int 0), some (.ref sd), some (.ref gl), some (.int a), mo, none, none] ∧ a = ((k % rs.length : Nat) : Int) ∧ k ≤ rs.length ∧ m = rs.length - k ∧ Same H H2 ∧
      H2 sd = some (.dK (rngK (fun (i : Nat) => V.int i) k)) ∧ H2 gl = some (.lst xs) ∧ TvAll H2 xs ((rs.take k).map fun (r : Row) => tI r.2), ⟨_, 0, [], 0, none, rfl, by rw [Nat.zero_mod]; rfl, Nat.zero_le _, rfl, same_put (same_new hsd) hgl0, ?_, upd_same, .nil⟩, ?_⟩
    · rw [upd_ne (Ne.symm hne)]
      exact upd_same
    rintro m σ H2 ⟨k, xs, a, mo, rfl, rfl, hk, rfl, e, hs, hg, hx⟩
    have hg0 := hg
    have hxl : xs.length = k := by
      rw [tvs_len hx, List.length_map, List.length_take]
      omega
    refine ⟨_, rfl, _, rfl, sd, _, rfl, .inl ⟨_, .inl ((k % rs.length : Nat) : Int), .inl hs, rfl, rfl⟩, ?_⟩
    rw [rngK_val]
    by_cases hlt : k < rs.length
    · rw [Nat.mod_eq_of_lt hlt, if_neg (by omega)]
      refine ⟨_, rfl, iteT ⟨fun σ' H' => ∃ (xs : List V) (a : Int) (mo : Option V), σ' = [some (.ref pa), some (.int 0), some (.int 0), some (.ref sd), some (.ref gl), some (.int a), mo, none, none] ∧ a = (((k + 1) % rs.length : Nat) : Int) ∧ Same H H' ∧
        H' sd = some (.dK (rngK (fun (i : Nat) => V.int i) (k + 1))) ∧ H' gl = some (.lst xs) ∧ TvAll H' xs ((rs.take (k + 1)).map fun (r : Row) => tI r.2), ?_, ?_⟩⟩
      · rintro σ' H' ⟨xs, a, mo, h3, h4, h5, h6, h7, h8⟩
        exact ⟨rs.length - (k + 1), by omega, k + 1, xs, a, mo, h3, h4, hlt, rfl, h5, h6, h7, h8⟩
      refine ⟨_, rfl, gl, _, rfl, .inl (SqL.of hg), _, rfl, _, rfl, sd, _, rfl, .inl ⟨_, .inl (k : Int), hs, rfl, by rw [rngK_len, sizeLine_eq]; omega, rfl⟩, ?_⟩
      rw [hxl, rngK_put (fun (i : Nat) => V.int i) k]
      have e3 : Same H (upd H2 sd (.dK (rngK (fun (i : Nat) => V.int i) (k + 1)))) := same_put e hsd
      have st : Stab H2 (upd H2 sd (.dK (rngK (fun (i : Nat) => V.int i) (k + 1)))) := Stab.put hs imm_dK
      refine row_read T rfl (p.same e3) rfl rfl hlt fun c' d' hc hd => ?_
      refine ⟨c', _, rfl, SqT.of hc, rfl, _, _, rfl, _, _, rfl, rfl, ?_⟩
      have hg3 : (upd H2 sd (.dK (rngK (fun (i : Nat) => V.int i) (k + 1)))) gl = some (.lst xs) := by
        rw [upd_ne hne]
        exact hg
      refine ⟨_, rfl, .inl ⟨rfl, _, SqL.of hg3⟩, _, rfl, gl, xs, _, rfl, rfl, hg3, by rw [hxl, sizeLine_eq]; omega, ?_⟩
      have st2 : Stab (upd H2 sd (.dK (rngK (fun (i : Nat) => V.int i) (k + 1)))) (upd (upd H2 sd (.dK (rngK (fun (i : Nat) => V.int i) (k + 1)))) gl (.lst (xs ++ [.ref d']))) := Stab.put hg3 imm_lst
      refine ⟨_, _, _, rfl, c.nx k hlt, same_put e3 hgl0, by rw [upd_ne (Ne.symm hne)]; exact upd_same, upd_same, ?_⟩
      rw [List.take_add_one, List.getElem?_eq_getElem hlt]
      show TvAll _ _ (List.map _ (_ ++ [_]))
      rw [List.map_append]
      exact tvs_snoc (hx.stab (st.trans st2)) (tv_tI (st2 _ _ hd trivial))
    · have hkL : k = rs.length := by omega
      subst hkL
      rw [Nat.mod_self, if_pos (by omega)]
      refine ⟨_, rfl, iteF ?_⟩
      refine ⟨_, rfl, _, rfl, sd, _, rfl, .inl ⟨_, .inl ((0 : Nat) : Int), .inl hs, rfl, by rw [rngK_val, if_pos l0]⟩, ?_⟩
      refine ⟨by show 1 ≤ sizeLine; decide, fun z hz => ?_⟩
      have e3 := e.trans (same_new (o := HO.tup [.int 0]) hz)
      refine ⟨_, rfl, pa, _, dx, _, _, rfl, e3 _ _ h1, T.c_Part, T.n_Part_outs, pf_outs _ _ _, rep_zero o1 o6 upd_same fun g H4 e4 hgv => ⟨_, _, rfl, ?_⟩⟩
      have st4 := (same_new (o := HO.tup [.int 0]) hz).trans e4
      refine ⟨_, rfl, _, rfl, _, rfl, gl, xs, rfl, SqL.of (st4 _ _ hg), fun q1 hq1 => ?_⟩
      rw [show cutV xs (some ((0 : Nat) : Int)) none = xs from cut_all xs]
      have e5 := (e3.trans e4).trans (same_new (o := HO.lst xs) hq1)
      have hx5 := ((hx.stab (.same st4)).stab (.same (same_new (o := HO.lst xs) hq1)))
      have hg5 := hgv.same (same_new (o := HO.lst xs) hq1)
      refine ⟨q1, rfl, ⟨_, SqL.of upd_same⟩, for_list (K := K) (a := q1) (xs := xs) (fun i σ H6 => ∃ g d, σ = [some (.ref pa), some (.int 0), some (.int 0), some (.ref sd), some (.ref gl), some (.int 0), d, some (.int 0), some g] ∧ Same (upd H4 q1 (.lst xs)) H6 ∧ Tv H6 g (tI (sumG rs o i))) ⟨g, mo, rfl, Same.refl _, ?_⟩ (fun i σ H6 _ ⟨_, _, _, e, _⟩ => SqL.of (e _ _ upd_same)) ?_ ?_⟩
      · simpa [sumG] using hg5
      · rintro i y σ H6 hi ⟨g, d, rfl, e6, hg⟩
        have hil : i < rs.length := by
          have := (List.getElem?_eq_some_iff.mp hi).1
          omega
        obtain ⟨dd, hd1, hd2⟩ := tvs_get hx5 hi
        rw [List.take_length, List.getElem?_map, List.getElem?_eq_getElem hil] at hd1
        cases hd1
        refine ⟨_, rfl, _, rfl, g, y, _, _, rfl, hg, hd2.same e6, ?_, ?_, fun H' t s z => ⟨_, _, rfl, e6.trans s, ?_⟩⟩
        · rw [sumG_len c i (by omega), c.outs i hil]
        · rw [sumG_len c i (by omega)]
          omega
        · rw [sumG_succ hil]
          exact z
      · rintro σ H6 ⟨g, d, rfl, e6, hg⟩
        rw [hxl] at hg
        refine ⟨_, rfl, _, rfl, gl, xs, rfl, .inl (SqL.of (e6 _ _ ((same_new (o := HO.lst xs) hq1) _ _ (st4 _ _ hg0)))), _, rfl, _, _, rfl, rfl, _, rfl, by show 3 ≤ sizeLine; decide, fun t ht => q _ _ (e5.trans (e6.trans (same_new ht))) ?_⟩
        rw [hxl]
        have e0 : ((rs.length : Nat) : Int) - 0 = (rs.length : Nat) := Int.sub_zero _
        show Tv (upd H6 t (HO.tup [V.int 0, V.int (((rs.length : Nat) : Int) - 0), g])) _ _
        rw [e0]
        exact .tup upd_same (.cons (.int _) (.cons (.int _) (.cons (hg.same (same_new ht)) .nil)))
/-! many_gone: whole rounds -/
theorem lg_le {n : Nat} {k m : Nat} (hk : 0 < k) (h : n < 2 ^ k) (hm : k ≤ m) : n.log2 < m := by
  refine Nat.lt_of_lt_of_le ?_ hm
  by_cases z : n = 0
  · subst z
    exact hk
  · exact (Nat.log2_lt z).2 h
abbrev N_many_gone : List Str := ["part", "position", "door", "many", "threshold", "round_of", "lap", "laps", "at", "given", "one", "more"]
theorem sc_many_gone : FnScope N_many_gone ["part", "position", "door", "many"] (defScope s_many_gone) := ⟨rfl, rfl, rfl, by decide +kernel, rfl, by decide +kernel, by decide +kernel⟩
def sp_many_gone : Sp := fun vs H Q _ => ∃ (v : V) (m : Int) (o : Nat) (q : Nat) (rs : List Row), vs = [v, .int 0, .int 0, .int m] ∧ m = rs.length * q ∧ PartAt A H v o rs ∧ Cyc rs o ∧ 1 ≤ q ∧ q < 2 ^ 900 ∧ (∀ g ∈ sumG rs o rs.length, 0 ≤ g ∧ g < 1000) ∧
  ∀ H' t, Same H H' → Tv H' t (.tuple [.int 0, tI ((sumG rs o rs.length).map fun g => q * g)]) → Q t H'
theorem G_many_gone (T : Txt K mg A) : FnOk P w K mg base CX0 3 A.f_many_gone A.d_many_gone ["part", "position", "door", "many"] (sp_many_gone (A := A)) := by
  refine T.F_many_gone.ok sc_many_gone (fun vs H Q E h => ?_) (fun cdv A' outer s H vs Q E hr h => ?_)
  · obtain ⟨v, m, o, q, rs, rfl, _⟩ := h
    rfl
  · obtain ⟨v, m, o, q, rs, rfl, rfl, p, c, hq, hq2, hsm, qq⟩ := h
    have nd := sc_many_gone.nd
    obtain ⟨pa, dx, rv, rfl, h1, h2⟩ := id p
    have o6 : o ≤ 6 := c.ok.2.2.1
    have l4 : rs.length ≤ 400 := c.ok.2.1
    have l0 : 0 < rs.length := c.pos
    refine ⟨_, (pss_cons (ps_if (pt_cmpR op_le (pv 3) (pe_fldK (K := K) rfl (pv 0) rfl) (nomark _)) (pss_one (ps_ret (pe_call (G_gone T) (hr.mono (by decide)) rfl T.g_gone T.F_gone.kp T.B_gone .nil pass0 (pa_cons (pv 0) (pa_cons (pv 1) (pa_cons (pe_op op_rep (pe_lst (pa_cons (pv 2) pa_nil)) (pv 3)) pa_nil)))))) pss_nil)
      (pss_cons (ps_asg (pe_call (G_pace_of T) (hr.mono (by decide)) rfl T.g_pace_of T.F_pace_of.kp T.B_pace_of .nil pass0 (pa_cons (pv 0) (pa_cons (pv 1) (pa_cons (pv 2) pa_nil)))) (pgt (K := K) (n := 3) rfl rfl (pgs_cons (pg_name (i := 4) nd rfl (Or.inl rfl)) (pgs_cons (pg_name (i := 5) nd rfl (Or.inl rfl)) (pgs_cons (pg_name (i := 6) nd rfl (Or.inl rfl)) pgs_nil)))))
      (pss_cons (ps_set (i := 7) nd rfl (Or.inr rfl) (pe_op op_fdivW (pe_op op_sub (pv 3) (pv 4)) (pv 5)))
      (pss_cons (ps_asg (pe_call (G_gone T) (hr.mono (by decide)) rfl T.g_gone T.F_gone.kp T.B_gone .nil pass0 (pa_cons (pv 0) (pa_cons (pv 1) (pa_cons (pe_op op_rep (pe_lst (pa_cons (pv 2) pa_nil)) (pe_op op_sub (pv 3) (pe_op op_mulW (pv 7) (pv 5)))) pa_nil)))) (pgt (K := K) (n := 2) rfl rfl (pgs_cons (pg_name (i := 8) nd rfl (Or.inl rfl)) (pgs_cons (pg_name (i := 9) nd rfl (Or.inl rfl)) pgs_nil))))
      (pss_one (ps_ret (pe_tup (pa_cons (pv 8) (pa_cons (pe_callTy (c_tup (K := K) rfl) (by rfl) T.b_tuple (by decide +kernel) (pa_cons (pe_lc (own := [("one", 10), ("more", 11)]) (by rfl) nd (pi_zipK (K := K) rfl rfl T.b_zip (pa_cons (pv 9) (pa_cons (pv 6) pa_nil))) (blkOk_by (own := [("one", 10), ("more", 11)]) (N := N_many_gone) (sc := defScope s_many_gone) (by decide +kernel)) (fun _ _ _ _ _ => (pgt (K := K) (n := 2) rfl rfl (pgs_cons (pg_name (i := 10) nd rfl (Or.inl rfl)) (pgs_cons (pg_name (i := 11) nd rfl (Or.inl rfl)) pgs_nil)))) (fun _ _ _ _ _ => pts_nil) (fun _ _ _ _ _ => (pe_op op_add (pv 10) (pe_op op_mulW (pv 7) (pv 11))))) pa_nil)) pa_nil))))))))), ?_⟩
    refine ⟨_, rfl, _, rfl, pa, _, dx, _, _, rfl, h1, T.c_Part, T.n_Part_many, pf_many _ _ _, _, _, rfl, rfl, _, rfl, ?_⟩
    by_cases h1q : q = 1
    · subst h1q
      rw [decide_eq_true (show (rs.length : Int) * ((1 : Nat) : Int) ≤ rs.length by omega)]
      refine iteT ?_
      refine ⟨_, rfl, _, rfl, _, rfl, by show 1 ≤ sizeLine; decide, fun l hl => ?_⟩
      have s1 := same_new (o := HO.lst [.int 0]) hl
      refine ⟨_, rfl, l, _, _, rfl, rfl, upd_same, by omega, by omega, ?_, fun l2 hl2 => ?_⟩
      · rw [sizeLine_eq]
        simp
        omega
      rw [flat_one]
      have s2 := s1.trans (same_new (o := HO.lst (List.replicate ((rs.length : Int) * ((1 : Nat) : Int)).toNat (V.int 0))) hl2)
      have e1 : ((rs.length : Int) * ((1 : Nat) : Int)).toNat = rs.length := by omega
      refine ⟨.ref pa, l2, rs.length, o, rs, rfl, p.same s2, c, ?_, Nat.le_refl _, fun H' t s3 tv => qq _ _ (s2.trans s3) ?_⟩
      · rw [upd_same, e1]
      · rw [Nat.mod_self] at tv
        have e2 : ((sumG rs o rs.length).map fun g => ((1 : Nat) : Int) * g) = sumG rs o rs.length := by
          conv => rhs; rw [← List.map_id (sumG rs o rs.length)]
          exact List.map_congr_left fun g _ => by simp
        rw [e2]
        exact tv
    · have hq3 : 2 ≤ q := by omega
      have hmul : (rs.length : Int) * 2 ≤ rs.length * q := Int.mul_le_mul_of_nonneg_left (by omega) (by omega)
      rw [decide_eq_false (show ¬ (rs.length : Int) * q ≤ rs.length by omega)]
      refine iteF ?_
      refine ⟨_, rfl, _, rfl, _, rfl, .ref pa, o, rs, rfl, p, c, fun H1 t e1 tv => ?_⟩
      obtain ⟨ta, txs, rfl, hta, hts⟩ := tvt tv
      cases hts with
      | cons t1 t2 =>
      cases t2 with
      | cons t2 t3 =>
      cases t3 with
      | cons t3 t4 =>
      cases t4
      cases t1
      cases t2
      obtain ⟨lp, rfl, hlp⟩ := tI_tv t3
      refine ⟨ta, _, rfl, SqT.of hta, rfl, _, _, rfl, _, _, rfl, _, _, rfl, rfl, ?_⟩
      refine ⟨_, rfl, _, rfl, _, _, rfl, rfl, _, rfl, _, _, rfl, rfl, ⟨by omega, lg_le (k := 10) (by decide) (by omega) (by decide)⟩, ?_⟩
      have ed : ((rs.length : Int) * q - ((0 : Int))) / rs.length = q := by
        rw [Int.sub_zero, Int.mul_ediv_cancel_left _ (by omega)]
      dsimp only
      rw [ed]
      have s1 := e1
      refine ⟨_, rfl, _, rfl, _, rfl, by show 1 ≤ sizeLine; decide, fun l hl => ?_⟩
      have s2 := s1.trans (same_new (o := HO.lst [.int 0]) hl)
      have g1 : Int.natAbs q < 2 ^ 900 := by omega
      refine ⟨_, rfl, _, rfl, _, rfl, _, _, rfl, rfl, Nat.lt_of_lt_of_le (Nat.add_lt_add (lg_le (m := 900) (by decide) g1 (Nat.le_refl _)) (lg_le (k := 10) (m := 10) (by decide) (by omega) (by decide))) (by decide), _, _, rfl, rfl, ?_⟩
      dsimp only
      rw [show (rs.length : Int) * q - q * rs.length = 0 by rw [Int.mul_comm]; omega]
      refine ⟨l, _, _, rfl, rfl, upd_same, by omega, by omega, ?_, fun l2 hl2 => ?_⟩
      · rw [sizeLine_eq]
        simp
      have s3 := s2.trans (same_new (o := HO.lst (List.replicate (0 : Int).toNat [V.int 0]).flatten) hl2)
      refine ⟨.ref pa, l2, 0, o, rs, rfl, p.same s3, c, upd_same, Nat.zero_le _, fun H' t s4 tv2 => ?_⟩
      have s5 := s3.trans s4
      rw [Nat.zero_mod] at tv2
      obtain ⟨tb, lp2, rfl, htb, hlp2⟩ := tv2.pair
      have hlp' := ((same_new (o := HO.lst [.int 0]) hl).trans ((same_new (o := HO.lst (List.replicate (0 : Int).toNat [V.int 0]).flatten) hl2).trans s4)) _ _ hlp
      refine ⟨tb, _, rfl, SqT.of htb, rfl, _, _, rfl, _, _, rfl, rfl, ?_⟩
      have sl : (sumG rs o rs.length).length = o := sumG_len c _ (Nat.le_refl _)
      have e0 : sumG rs o 0 = List.replicate o 0 := by simp [sumG]
      refine ⟨_, rfl, _, rfl, _, rfl, lp2, lp, _, _, rfl, .inr ⟨SqT.of hlp2, SqT.of hlp', fun D hD => lc_pure (walk_zipT (K := K) (a := lp2) (b := lp) (xs := (sumG rs o 0).map V.int) (ys := (sumG rs o rs.length).map V.int) (n := o) (by rw [List.length_map, List.length_map, sl, e0, List.length_replicate]; omega)) (fun i y _ => y = V.int (((sumG rs o rs.length).map fun g => (q : Int) * g).getD i 0)) hD (fun H e => ⟨SqT.of (e _ _ hlp2), SqT.of (e _ _ hlp')⟩) (fun _ _ _ _ r _ => r) (by rw [sizeLine_eq]; omega) (fun i x H2 H3 hi e y Q2 q2 => ?_) (fun ys H2 e hy hl' hys => ?_)⟩⟩
      · obtain ⟨t, x1, x2, rfl, ht, rfl, h3, h4⟩ := y
        dsimp only at h3 h4
        rw [List.getElem?_map] at h3 h4
        obtain ⟨n, hn, rfl⟩ := Option.map_eq_some_iff.mp h3
        obtain ⟨m, hm, rfl⟩ := Option.map_eq_some_iff.mp h4
        have hmb := hsm m (List.mem_of_getElem? hm)
        refine ⟨t, _, rfl, SqT.of upd_same, rfl, _, _, rfl, _, _, rfl, rfl, rfl, ?_⟩
        refine ⟨_, rfl, _, rfl, _, rfl, _, _, rfl, rfl, Nat.lt_of_lt_of_le (Nat.add_lt_add (lg_le (m := 900) (by decide) g1 (Nat.le_refl _)) (lg_le (k := 10) (m := 10) (by decide) (by omega) (by decide))) (by decide), _, _, rfl, rfl, q2 _ _ (same_new ht) ?_⟩
        rw [e0] at hn
        have hn0 : n = 0 := by
          exact List.eq_of_mem_replicate (List.mem_of_getElem? hn)
        subst hn0
        rw [List.getD_eq_getElem?_getD, List.getElem?_map, hm]
        show V.int (0 + _) = _
        rw [Int.zero_add]
        rfl
      · have e2 := ints_of hl' hys
        have e3 : (List.range o).map (fun i => ((sumG rs o rs.length).map fun g => (q : Int) * g).getD i 0) = (sumG rs o rs.length).map fun g => (q : Int) * g := by
          apply List.ext_getElem
          · simp [sl]
          · intro i h1 h2
            simp at h1 h2
            simp [h2]
        rw [e3] at e2
        refine ⟨D, _, rfl, .inl ⟨SqL.of hy, fun t ht => ?_⟩⟩
        have s6 := s5.trans e
        refine ⟨by show 2 ≤ sizeLine; decide, fun t2 ht2 => qq _ _ (s6.trans ((same_new ht).trans (same_new ht2))) (pairTv upd_same ((same_new ht2) _ _ ?_))⟩
        rw [upd_same, e2]
end
end K91
end
section
set_option Elab.async false
set_option linter.all false
set_option maxRecDepth 100000
set_option maxHeartbeats 4000000
namespace K91
open PySem PySem.Spec PyProof.Rows L2 KB M1
theorem addI_zero {o : Nat} {l : List Int} (h : l.length = o) : addI (List.replicate o 0) l = l := by
  apply List.ext_getElem
  · simp [addI, h]
  · intro i h1 h2
    simp [addI]
section
variable {P : Program} {w : World} {K : PySem.W.Frag} {mg : Str → Option Value} {base : Heap} {A : Ad}
/-! fell_counts -/
abbrev N_fell_counts : List Str := ["part", "position", "counts", "given", "door", "many", "more"]
theorem sc_fell_counts : FnScope N_fell_counts ["part", "position", "counts"] (defScope s_fell_counts) := ⟨rfl, rfl, rfl, by decide +kernel, rfl, by decide +kernel, by decide +kernel⟩
def sp_fell_counts : Sp := fun vs H Q _ => ∃ (v : V) (a : Addr) (m : Int) (o : Nat) (q : Nat) (rs : List Row), vs = [v, .int 0, .ref a] ∧ H a = some (.lst [.int m]) ∧ m = rs.length * q ∧ PartAt A H v o rs ∧ Cyc rs o ∧ 1 ≤ q ∧ q < 2 ^ 900 ∧ (∀ g ∈ sumG rs o rs.length, 0 ≤ g ∧ g < 1000) ∧
  ∀ H' t, Same H H' → Tv H' t (.tuple [.int 0, tI ((sumG rs o rs.length).map fun g => (q : Int) * g)]) → Q t H'
theorem G_fell_counts (T : Txt K mg A) : FnOk P w K mg base CX0 5 A.f_fell_counts A.d_fell_counts ["part", "position", "counts"] (sp_fell_counts (A := A)) := by
  refine T.F_fell_counts.ok sc_fell_counts (fun vs H Q E h => ?_) (fun cdv A' outer s H vs Q E hr h => ?_)
  · obtain ⟨v, a, m, o, q, rs, rfl, _⟩ := h
    rfl
  · obtain ⟨v, a, m, o, q, rs, rfl, ha, hm, p, c, hq, hq2, hsm, qq⟩ := h
    have nd := sc_fell_counts.nd
    obtain ⟨pa, dx, rv, rfl, h1, h2⟩ := id p
    have o6 : o ≤ 6 := c.ok.2.2.1
    have o1 : 1 ≤ o := c.ok.2.2.2.1
    have l4 : rs.length ≤ 400 := c.ok.2.1
    have sl : (sumG rs o rs.length).length = o := sumG_len c _ (Nat.le_refl _)
    have hm0 : 0 ≤ m := by
      rw [hm]
      exact Int.mul_nonneg (by omega) (by omega)
    refine ⟨_, (pss_cons (ps_expr (pe_call (G_need_closing T) (hr.mono (by decide)) rfl T.g_need_closing T.F_need_closing.kp T.B_need_closing .nil pass0 (pa_cons pe_str (pa_cons (pv 0) pa_nil))))
      (pss_cons (ps_expr (pe_call (G_need_position T) (hr.mono (by decide)) rfl T.g_need_position T.F_need_position.kp T.B_need_position .nil pass0 (pa_cons (pv 0) (pa_cons (pv 1) pa_nil))))
      (pss_cons (ps_set (i := 3) nd rfl (Or.inl rfl) (pe_op (o_repA (K := K) rfl) (pe_tup (pa_cons pe_int pa_nil)) (pe_fldK (K := K) rfl (pv 0) rfl)))
      (pss_cons (ps_for PassesOwn.never rfl (pi_enT (K := K) rfl rfl T.b_enumerate (pa_cons (pe_call (G_need_counts T) (hr.mono (by decide)) rfl T.g_need_counts T.F_need_counts.kp T.B_need_counts .nil pass0 (pa_cons pe_str (pa_cons (pv 2) (pa_cons (pe_fldK (K := K) rfl (pv 0) rfl) pa_nil)))) pa_nil)) (pgt (K := K) (n := 2) rfl rfl (pgs_cons (pg_name (i := 4) nd rfl (Or.inl rfl)) (pgs_cons (pg_name (i := 5) nd rfl (Or.inl rfl)) pgs_nil)))
      (pss_cons (ps_asg (pe_call (G_many_gone T) (hr.mono (by decide)) rfl T.g_many_gone T.F_many_gone.kp T.B_many_gone .nil pass0 (pa_cons (pv 0) (pa_cons (pv 1) (pa_cons (pv 4) (pa_cons (pv 5) pa_nil))))) (pgt (K := K) (n := 2) rfl rfl (pgs_cons (pg_name (i := 1) nd rfl (Or.inl rfl)) (pgs_cons (pg_name (i := 6) nd rfl (Or.inl rfl)) pgs_nil))))
      (pss_one (ps_set (i := 3) nd rfl (Or.inl rfl) (pe_call (G_sum_of T) (hr.mono (by decide)) rfl T.g_sum_of T.F_sum_of.kp T.B_sum_of .nil pass0 (pa_cons (pv 3) (pa_cons (pv 6) pa_nil)))))))
      (pss_one (ps_ret (pe_tup (pa_cons (pv 1) (pa_cons (pv 3) pa_nil))))))))), ?_⟩
    refine ⟨_, rfl, _, _, o, rs, rfl, p, l4, fun H1 e1 => ?_⟩
    refine ⟨_, rfl, _, rfl, _, o, rs, rfl, p.same e1, c.pos, ?_⟩
    refine ⟨by show 1 ≤ sizeLine; decide, fun z hz => ?_⟩
    have e2 := e1.trans (same_new (o := HO.tup [.int 0]) hz)
    refine ⟨_, rfl, pa, _, dx, _, _, rfl, e2 _ _ h1, T.c_Part, T.n_Part_outs, pf_outs _ _ _, rep_zero o1 o6 upd_same fun g H3 e3 hg => ?_⟩
    have e4 := e2.trans e3
    refine ⟨_, rfl, _, rfl, pa, _, dx, _, _, rfl, e4 _ _ h1, T.c_Part, T.n_Part_doors, pf_doors _ _ _, _, a, [m], 1, rfl, e4 _ _ ha, by show 1 ≤ sizeLine; decide, rfl, fun n hn => ?_, fun H4 t e5 ht => ?_⟩
    · rw [List.mem_singleton.mp hn]
      exact hm0
    have e6 := e4.trans e5
    refine ⟨t, _, rfl, SqT.of ht, for_it (walk_enT (K := K) (a := t) (xs := [V.int m])) (fun i σ H6 => ∃ g d u w2, σ = [some (.ref pa), some (.int 0), some (.ref a), some g, d, u, w2] ∧ Same H4 H6 ∧ Tv H6 g (if i = 0 then tI (List.replicate o 0) else tI ((sumG rs o rs.length).map fun g => (q : Int) * g))) ⟨g, none, none, none, rfl, Same.refl _, hg.same e5⟩ (fun i σ H6 _ ⟨_, _, _, _, _, e, _⟩ => SqT.of (e _ _ ht)) ?_ ?_⟩
    · rintro i x σ H6 H7 hi ⟨g, d, u, w2, rfl, e7, hg⟩ y
      obtain ⟨t2, x1, x2, rfl, ht2, rfl, h3, h4⟩ := y
      have hi0 : i = 0 := by simpa using hi
      subst hi0
      cases h3
      cases h4
      have e8 := e7.trans (same_new (o := HO.tup [.int ((0 : Nat) : Int), .int m]) ht2)
      have e9 := e6.trans e8
      refine ⟨t2, _, rfl, SqT.of upd_same, rfl, _, _, rfl, _, _, rfl, rfl, ?_⟩
      refine ⟨_, rfl, _, rfl, _, rfl, _, rfl, _, m, o, q, rs, rfl, hm, p.same e9, c, hq, hq2, hsm, fun H8 t8 e10 tv => ?_⟩
      obtain ⟨tb, lp2, rfl, htb, hlp2⟩ := tv.pair
      refine ⟨tb, _, rfl, SqT.of htb, rfl, _, _, rfl, _, _, rfl, rfl, ?_⟩
      refine ⟨_, rfl, _, rfl, g, .ref lp2, _, _, rfl, (hg.same (same_new ht2)).same e10, tv_tI hlp2, by simp [sl], by simp; omega, fun H9 t9 e11 tv9 => ⟨_, _, _, _, rfl, e8.trans (e10.trans e11), ?_⟩⟩
      rw [addI_zero (by simp [sl])] at tv9
      exact tv9
    · rintro σ H6 ⟨g, d, u, w2, rfl, e7, hg⟩
      exact ⟨_, rfl, _, rfl, by show 2 ≤ sizeLine; decide, fun t2 ht2 => qq _ _ (e6.trans (e7.trans (same_new ht2))) (.tup upd_same (.cons (.int _) (.cons (hg.same (same_new ht2)) .nil)))⟩
end
end K91
end
section
set_option Elab.async false
set_option linter.all false
set_option maxRecDepth 100000
set_option maxHeartbeats 4000000
namespace K91
open PySem PySem.Spec PyProof.Rows L2 KB M1
/-- everything but what stands at a stays -/
def Off (a : Addr) (H H' : Hp) : Prop := ∀ b u, b ≠ a → H b = some u → H' b = some u
theorem Off.refl {a : Addr} {H : Hp} : Off a H H := fun _ _ _ h => h
theorem Off.trans {a : Addr} {H H1 H2 : Hp} (x : Off a H H1) (y : Off a H1 H2) : Off a H H2 := fun b u n h => y b u n (x b u n h)
theorem Off.same {a : Addr} {H H' : Hp} (e : Same H H') : Off a H H' := fun b u _ h => e b u h
theorem Off.put {a : Addr} {H : Hp} {o : HO} : Off a H (upd H a o) := fun b u n h => by
  rw [upd_ne n]
  exact h
def Tups (H H' : Hp) : Prop := ∀ b xs, H b = some (.tup xs) → H' b = some (.tup xs)
theorem Off.tups {a C dx : Addr} {fs : List (Str × V)} {H H' : Hp} (e : Off a H H') (h : H a = some (.ins C dx fs)) : Tups H H' := fun b xs q => e b _ (fun z => by
  subst z
  rw [h] at q
  cases q) q
mutual
theorem tv_tups {H H' : Hp} (e : Tups H H') : ∀ (d : PyData) (v : V), Tv H v d → Tv H' v d
  | .none, _, h => by cases h; exact .non
  | .bool b, _, h => by cases h; exact .bl b
  | .int i, _, h => by cases h; exact .int i
  | .str x, _, h => by cases h; exact .str x
  | .list ds, _, h => nomatch h
  | .tuple ds, _, h => by cases h with | tup hs ha => exact .tup (e _ _ hs) (tvs_tups e ds _ ha)
  | .dict ds, _, h => nomatch h
theorem tvs_tups {H H' : Hp} (e : Tups H H') : ∀ (ds : List PyData) (vs : List V), TvAll H vs ds → TvAll H' vs ds
  | [], _, h => by cases h; exact .nil
  | d :: ds, _, h => by cases h with | cons h1 h2 => exact .cons (tv_tups e d _ h1) (tvs_tups e ds _ h2)
end
theorem RowsIn.off {a C dx : Addr} {fs : List (Str × V)} {H H' : Hp} {v : V} {rs : List Row} (r : RowsIn H v rs) (e : Off a H H') (h : H a = some (.ins C dx fs)) : RowsIn H' v rs := by
  have lst : ∀ b xs, H b = some (.lst xs) → H' b = some (.lst xs) := fun b xs q => e b _ (fun z => by
    subst z
    rw [h] at q
    cases q) q
  obtain ⟨b, xs, hv, hb, hl, hx⟩ := r
  refine ⟨b, xs, hv, lst _ _ hb, hl, fun i x r h1 h2 => ?_⟩
  obtain ⟨c, y, hx', hc, hy⟩ := hx i x r h1 h2
  exact ⟨c, y, hx', lst _ _ hc, tv_tups (e.tups h) _ _ hy⟩
theorem putF_ne {f g : Str} {v x : V} {r : List (Str × V)} (h : g ≠ f) : putF f v ((g, x) :: r) = (g, x) :: putF f v r := by
  show (if g = f then _ else _) = _
  rw [if_neg h]
theorem pf_put (o : Int) (rv : V) (n : Int) : putF "many" (.int n) (putF "rows" rv (putF "outs" (.int o) (putF "doors" (.int 1) []))) = pf o rv n := by
  show putF "many" (.int n) (putF "rows" rv (putF "outs" (.int o) [("doors", .int 1)])) = _
  rw [putF_ne (f := ("outs" : Str)) (by decide +kernel)]
  show putF "many" (.int n) (putF "rows" rv [("doors", .int 1), ("outs", .int o)]) = _
  rw [putF_ne (f := ("rows" : Str)) (by decide +kernel), putF_ne (f := ("rows" : Str)) (by decide +kernel)]
  show putF "many" (.int n) [("doors", .int 1), ("outs", .int o), ("rows", rv)] = _
  rw [putF_ne (f := ("many" : Str)) (by decide +kernel), putF_ne (f := ("many" : Str)) (by decide +kernel), putF_ne (f := ("many" : Str)) (by decide +kernel)]
  rfl
theorem putF_len (f : Str) (v : V) : ∀ l : List (Str × V), (putF f v l).length ≤ l.length + 1
  | [] => by simp [putF]
  | (g, x) :: r => by
    show (if g = f then (g, v) :: r else (g, x) :: putF f v r).length ≤ _
    have := putF_len f v r
    split <;> simp <;> omega
theorem len0 : ([] : List (Str × V)).length = 0 := rfl
theorem lt2 (f g : Str) (x y : V) : (putF f x (putF g y [])).length < 1000 := by
  have := putF_len f x (putF g y [])
  have := putF_len g y []
  rw [len0] at this
  omega
theorem lt3 (f g h : Str) (x y z : V) : (putF h z (putF f x (putF g y []))).length < 1000 := by
  have := putF_len h z (putF f x (putF g y []))
  have := putF_len f x (putF g y [])
  have := putF_len g y []
  rw [len0] at this
  omega
theorem lk_rows (v : V) (l : List (Str × V)) : (putF "rows" v l).lookup ("rows" : Str) = some v := by
  rw [lookup_putF, if_pos rfl]
section
variable {P : Program} {w : World} {K : PySem.W.Frag} {mg : Str → Option Value} {base : Heap} {A : Ad}
/-! Part(1, outs, rows) -/
abbrev N_Part_init : List Str := ["self", "doors", "outs", "rows"]
theorem sc_Part_init : FnScope N_Part_init ["self", "doors", "outs", "rows"] (defScope s_Part_init) := ⟨rfl, rfl, rfl, by decide +kernel, rfl, by decide +kernel, by decide +kernel⟩
def sp_Part_init : Sp := fun vs H Q _ => ∃ (a dx : Addr) (v : V) (o : Nat) (rs : List Row), vs = [.ref a, .int 1, .int o, v] ∧ H a = some (.ins A.C_Part dx []) ∧ RowsIn H v rs ∧ RowsOk rs o ∧
  (∀ (H' : Hp) (rv : V), (∀ b u, b ≠ a → H b = some u → H' b = some u) → H' a = some (.ins A.C_Part dx (pf o rv rs.length)) → Tv H' rv (rowsD rs) → Q .non H')
theorem G_Part_init (T : Txt K mg A) : FnOk P w K mg base CX0 6 A.f_Part_init A.d_Part_init ["self", "doors", "outs", "rows"] (sp_Part_init (A := A)) := by
  refine T.F_Part_init.ok sc_Part_init (fun vs H Q E h => ?_) (fun cdv A' outer s H vs Q E hr h => ?_)
  · obtain ⟨a, dx, v, o, rs, rfl, _⟩ := h
    rfl
  · obtain ⟨a, dx, v, o, rs, rfl, ha, hr', hok, q⟩ := h
    have nd := sc_Part_init.nd
    have o6 : o ≤ 6 := hok.2.2.1
    refine ⟨_, (pss_cons (ps_fld (pv 0) (pe_call (G_need_integer T) (hr.mono (by decide)) rfl T.g_need_integer T.F_need_integer.kp T.B_need_integer .nil pass0 (pa_cons pe_str (pa_cons (pv 1) (pa_cons pe_int (pa_cons (pe_glob (v := .int 4) rfl T.c_MOST_DOORS ⟨_, rfl⟩) pa_nil))))) rfl)
      (pss_cons (ps_fld (pv 0) (pe_call (G_need_integer T) (hr.mono (by decide)) rfl T.g_need_integer T.F_need_integer.kp T.B_need_integer .nil pass0 (pa_cons pe_str (pa_cons (pv 2) (pa_cons pe_int (pa_cons (pe_glob (v := .int 6) rfl T.c_MOST_OUTS ⟨_, rfl⟩) pa_nil))))) rfl)
      (pss_cons (ps_fld (pv 0) (pe_call (G_need_rows T) (hr.mono (by decide)) rfl T.g_need_rows T.F_need_rows.kp T.B_need_rows .nil pass0 (pa_cons (pv 3) (pa_cons (pv 1) (pa_cons (pv 2) pa_nil)))) rfl)
      (pss_one (ps_fld (pv 0) (pe_callB (c_len (K := K) rfl) (by rfl) T.b_len (by decide +kernel) (pa_cons (pe_fldK (K := K) rfl (pv 0) rfl) pa_nil)) rfl))))), ?_⟩
    refine ⟨_, rfl, _, _, _, _, rfl, by omega, by omega, ?_⟩
    refine ⟨_, rfl, a, _, dx, _, rfl, ha, T.c_Part, T.n_Part_doors, by decide, ?_⟩
    refine ⟨_, rfl, _, _, _, _, rfl, by omega, by omega, ?_⟩
    refine ⟨_, rfl, a, _, dx, _, rfl, upd_same, T.c_Part, T.n_Part_outs, by decide, ?_⟩
    refine ⟨_, rfl, _, rfl, _, rfl, v, rs, o, rfl, ?_, hok, fun H3 t e3 tv => ?_⟩
    · exact hr'.off (Off.put.trans Off.put) ha
    have ea : (upd (upd H a (.ins A.C_Part dx (putF "doors" (.int 1) []))) a (.ins A.C_Part dx (putF "outs" (.int o) (putF "doors" (.int 1) [])))) a = _ := upd_same
    have ea3 := e3 _ _ ea
    refine ⟨_, rfl, a, _, dx, _, rfl, ea3, T.c_Part, T.n_Part_rows, lt2 _ _ _ _, ?_⟩
    have of3 : Off a H (upd H3 a (.ins A.C_Part dx (putF "rows" t (putF "outs" (.int o) (putF "doors" (.int 1) []))))) := (Off.put.trans Off.put).trans ((Off.same e3).trans Off.put)
    have tv3 : Tv (upd H3 a (.ins A.C_Part dx (putF "rows" t (putF "outs" (.int o) (putF "doors" (.int 1) []))))) t (rowsD rs) := tv_tups (Off.put.tups ea3) _ _ tv
    obtain ⟨ta, xs, rfl, hta, hts⟩ := tvt tv3
    refine ⟨_, rfl, a, _, dx, _, _, rfl, upd_same, T.c_Part, T.n_Part_rows, lk_rows _ _, ta, _, rfl, .inr (SqT.of hta), _, rfl, a, _, dx, _, rfl, upd_same, T.c_Part, T.n_Part_many, lt3 _ _ _ _ _ _, ?_⟩
    · refine q _ (.ref ta) (of3.trans Off.put) ?_ (tv_tups (Off.put.tups upd_same) _ _ tv3)
      rw [upd_same, pf_put, tvs_len hts, List.length_map]
/-! == of parts -/
abbrev N_Part_eq : List Str := ["self", "other"]
theorem sc_Part_eq : FnScope N_Part_eq ["self", "other"] (defScope s_Part_eq) := ⟨rfl, rfl, rfl, by decide +kernel, rfl, by decide +kernel, by decide +kernel⟩
/-- two parts of the same rows -/
def SameParts (A : Ad) (a b : Addr) (H : Hp) : Prop := ∃ (o : Nat) (rs : List Row), PartAt A H (.ref a) o rs ∧ PartAt A H (.ref b) o rs
theorem PartAt.ext {A : Ad} {H H' : Hp} {v : V} {o : Nat} {rs : List Row} (h : PartAt A H v o rs) (e : Ext H H') : PartAt A H' v o rs := h.same e
theorem shp_rows : ∀ (rs : List Row), PyData.canLayAll0 (rs.map rowD) = true
  | [] => by simp [PyData.canLayAll0]
  | r :: rs => by simp [PyData.canLayAll0, PyData.canLay0, rowD, tI, canI, shp_rows rs]
theorem dep_rows : ∀ (rs : List Row), PyData.depthAll (rs.map rowD) ≤ 5
  | [] => by simp [PyData.depthAll]
  | r :: rs => by
    have := dep_rows rs
    simp [PyData.depthAll, PyData.depth, rowD, tI, depI]
    omega
theorem shp_rowsD (rs : List Row) : SeqAt.shaped (rowsD rs) = true := by
  unfold SeqAt.shaped rowsD
  have := dep_rows rs
  simp [PyData.canLay0, shp_rows, PyData.depth]
  omega
theorem G_Part_eq (T : Txt K mg A) : FnOk P w K mg base CX0 1 A.f_Part_eq A.d_Part_eq ["self", "other"] (spEq (SameParts A)) := by
  refine T.F_Part_eq.ok sc_Part_eq (fun vs H Q E h => ?_) (fun cdv A' outer s H vs Q E hr h => ?_)
  · obtain ⟨a, b, rfl, _⟩ := h
    rfl
  · obtain ⟨a, b, rfl, ⟨o, rs, ⟨_, dx, rv, e1, h1, h2⟩, ⟨_, dy, ru, e2, h3, h4⟩⟩, q⟩ := h
    cases e1
    cases e2
    have nd := sc_Part_eq.nd
    refine ⟨_, (pss_cons (ps_if (pt_not (pt_val (pe_callB (C8.call_isC T.o_Part) (by rfl) T.b_isinstance (by decide +kernel) (pa_cons (pv 1) (pa_cons (pe_glob (v := .ref A.C_Part) rfl T.g_Part rfl) pa_nil))))) (pss_one (ps_ret pe_bl)) pss_nil)
      (pss_one (ps_ret (pe_and (pe_cmpR op_eq (pe_fldK (K := K) rfl (pv 0) rfl) (pe_fldK (K := K) rfl (pv 1) rfl) (nomark _)) (pe_and (pe_cmpR op_eq (pe_fldK (K := K) rfl (pv 0) rfl) (pe_fldK (K := K) rfl (pv 1) rfl) (nomark _)) (pe_one (pe_cmpR (o_eqD (K := K) rfl hr.units) (pe_fldK (K := K) rfl (pv 0) rfl) (pe_fldK (K := K) rfl (pv 1) rfl) (nomark _)))))))), ?_⟩
    refine ⟨_, rfl, b, dy, _, rfl, h3, _, rfl, iteF ?_⟩
    refine ⟨_, rfl, a, _, dx, _, _, rfl, h1, T.c_Part, T.n_Part_doors, pf_doors _ _ _, _, rfl, b, _, dy, _, _, rfl, h3, T.c_Part, T.n_Part_doors, pf_doors _ _ _, rfl, _, rfl, ?_⟩
    rw [decide_eq_true (rfl : V.int 1 = V.int 1)]
    refine iteT ?_
    refine ⟨_, rfl, a, _, dx, _, _, rfl, h1, T.c_Part, T.n_Part_outs, pf_outs _ _ _, _, rfl, b, _, dy, _, _, rfl, h3, T.c_Part, T.n_Part_outs, pf_outs _ _ _, rfl, _, rfl, ?_⟩
    rw [decide_eq_true (rfl : V.int o = V.int o)]
    refine iteT ?_
    refine ⟨_, rfl, a, _, dx, _, _, rfl, h1, T.c_Part, T.n_Part_rows, pf_rows _ _ _, _, rfl, b, _, dy, _, _, rfl, h3, T.c_Part, T.n_Part_rows, pf_rows _ _ _, rowsD rs, rowsD rs, h2.dp, h4.dp, shp_rowsD _, shp_rowsD _, ?_⟩
    rw [eqv_self (shp_rowsD rs)]
    exact q _ Ext.rfl'
end
end K91
end
section
set_option Elab.async false
set_option linter.all false
set_option maxRecDepth 100000
set_option maxHeartbeats 4000000
namespace K91
open PySem PySem.Spec PyProof.Rows L2 KB M1
section
variable {P : Program} {w : World} {K : PySem.W.Frag} {mg : Str → Option Value} {base : Heap} {A : Ad}
/-! reached -/
abbrev N_reached : List Str := ["part", "start", "known", "line", "later", "_"]
theorem sc_reached : FnScope N_reached ["part", "start"] (defScope s_reached) := ⟨rfl, rfl, rfl, by decide +kernel, rfl, by decide +kernel, by decide +kernel⟩
def sp_reached : Sp := fun vs H Q _ => ∃ (v : V) (o : Nat) (rs : List Row), vs = [v, .int 0] ∧ PartAt A H v o rs ∧ Cyc rs o ∧ ∀ H' t, Same H H' → Q t H'
theorem G_reached (T : Txt K mg A) : FnOk P w K mg base CX0 3 A.f_reached A.d_reached ["part", "start"] (sp_reached (A := A)) := by
  refine T.F_reached.ok sc_reached (fun vs H Q E h => ?_) (fun cdv A' outer s H vs Q E hr h => ?_)
  · obtain ⟨v, o, rs, rfl, _⟩ := h
    rfl
  · obtain ⟨v, o, rs, rfl, p, c, q⟩ := h
    have nd := sc_reached.nd
    have hu := Nat.lt_of_le_of_lt (Nat.add_le_add_left (show 1 ≤ 64 by decide) _) hr.units
    obtain ⟨pa, dx, rv, rfl, h1, h2⟩ := id p
    have l4 : rs.length ≤ 400 := c.ok.2.1
    have l0 : 0 < rs.length := c.pos
    refine ⟨_, (pss_cons (ps_expr (pe_call (G_need_part T) (hr.mono (by decide)) rfl T.g_need_part T.F_need_part.kp T.B_need_part .nil pass0 (pa_cons pe_str (pa_cons (pv 0) pa_nil))))
      (pss_cons (ps_expr (pe_call (G_need_integer T) (hr.mono (by decide)) rfl T.g_need_integer T.F_need_integer.kp T.B_need_integer .nil pass0 (pa_cons pe_str (pa_cons (pv 1) (pa_cons pe_int (pa_cons (pe_op op_sub (pe_fldK (K := K) rfl (pv 0) rfl) pe_int) pa_nil))))))
      (pss_cons (ps_par (i := 2) (j := 3) (by rfl) nd rfl rfl (by decide) rfl rfl (pa_cons (pe_disp (pps_cons (pv 1) pe_bl pps_nil) (by rfl) (by rfl) (fun z => by cases z) (by decide)) (pa_cons (pe_lst (pa_cons (pv 1) pa_nil)) pa_nil)) (by rfl))
      (pss_cons (ps_while PassesOwn.never (pt_cmpR (o_neD (K := K) rfl hr.units) (pv 3) (pe_lst pa_nil) (nomark _)) (pss_one (ps_for PassesOwn.never rfl (pit (K := K) rfl (pe_ix (ixt (K := K) rfl) (pe_fldK (K := K) rfl (pv 0) rfl) (pe_bm0 PySem.F.plainAttrs_list PySem.F.slot_list_pop PySem.F.type_list_pop mt_pop (pv 3)) (fun _ _ => rfl))) (pgt (K := K) (n := 2) rfl rfl (pgs_cons (pg_name (i := 4) nd rfl (Or.inl rfl)) (pgs_cons (pg_name (i := 5) nd rfl (Or.inl rfl)) pgs_nil)))
      (pss_one (ps_if (pt_cmp (pc_dnotin hu (pv 4) (pv 2))) (pss_cons (ps_dput hu (pv 2) (pv 4) pe_bl rfl)
      (pss_one (ps_expr (pe_bm PySem.F.plainAttrs_list PySem.F.slot_list_append PySem.F.type_list_append mt_append (pv 3) (pa_cons (pv 4) pa_nil))))) pss_nil)))))
      (pss_one (ps_ret (pe_callTy (c_tup (K := K) rfl) (by rfl) T.b_tuple (by decide +kernel) (pa_cons (pe_callB cr_sortedI (by rfl) T.b_sorted (by decide +kernel) (pa_cons (pe_callTy (call_list_dK rfl) (by rfl) T.b_list (by decide +kernel) (pa_cons (pv 2) pa_nil)) pa_nil)) pa_nil)))))))), ?_⟩
    refine ⟨_, rfl, _, _, o, rs, rfl, p, ?_⟩
    refine ⟨_, rfl, _, rfl, pa, _, dx, _, _, rfl, h1, T.c_Part, T.n_Part_many, pf_many _ _ _, _, _, rfl, rfl, _, 0, 0, _, rfl, by omega, by omega, ?_⟩
    intro sd hsd
    refine ⟨_, rfl, upd_same, [(.inl 0, .bl true)], rfl, by decide, ?_⟩
    refine ⟨_, rfl, by show 1 ≤ sizeLine; decide, fun l hl => ⟨_, _, rfl, ?_⟩⟩
    have hne : l ≠ sd := fun z => by
      subst z
      rw [upd_same] at hl
      cases hl
    have hl0 : H l = none := by
      rw [upd_ne hne, upd_ne hne] at hl
      exact hl
    have rl : rngK (fun _ => V.bl true) 1 = mergeK [] [(Sum.inl (0 : Int), V.bl true)] := rfl
    refine ⟨fun m σ H2 => ∃ (k : Nat) (x y : Option V), σ = [some (.ref pa), some (.int 0), some (.ref sd), some (.ref l), x, y] ∧ k ≤ rs.length ∧ m = rs.length - k ∧ Same H H2 ∧
      H2 sd = some (.dK (rngK (fun _ => V.bl true) (min (k + 1) rs.length))) ∧ H2 l = some (.lst (if k < rs.length then [V.int k] else [])), ⟨_, 0, none, none, rfl, Nat.zero_le _, rfl, ?_, ?_, ?_⟩, ?_⟩
    · exact same_put (same_put (same_new hsd) hsd) hl0
    · rw [upd_ne (Ne.symm hne), upd_same, Nat.min_eq_left (by omega), ← rl]
    · rw [upd_same, if_pos l0]
      rfl
    rintro m σ H2 ⟨k, x, y, rfl, hk, rfl, e, hs, hl2⟩
    refine ⟨_, rfl, by show 0 ≤ sizeLine; decide, fun z hz => ?_⟩
    have nz := same_new (o := HO.lst []) hz
    have e2 := e.trans nz
    refine ⟨lI (if k < rs.length then [(k : Int)] else []), lI [], ?_, dp_lI (SqL.of upd_same), shp_lI _, shp_lI _, _, rfl, ?_⟩
    · refine dp_lI (SqL.of ?_)
      rw [nz _ _ hl2]
      split <;> rfl
    rw [eqv_lI]
    by_cases hlt : k < rs.length
    · rw [if_pos hlt] at hl2 ⊢
      rw [decide_eq_false (by simp)]
      refine iteT ⟨fun σ' H' => ∃ (x y : Option V), σ' = [some (.ref pa), some (.int 0), some (.ref sd), some (.ref l), x, y] ∧ Same H H' ∧
        H' sd = some (.dK (rngK (fun _ => V.bl true) (min (k + 1 + 1) rs.length))) ∧ H' l = some (.lst (if k + 1 < rs.length then [V.int ((k + 1 : Nat) : Int)] else [])), ?_, ?_⟩
      · rintro σ' H' ⟨x, y, h3, h4, h5, h6⟩
        exact ⟨rs.length - (k + 1), by omega, k + 1, x, y, h3, hlt, rfl, h4, h5, h6⟩
      obtain ⟨ra, rxs, rfl, hra, hrl, hrx⟩ := rows_at h2
      obtain ⟨b, c', d', q1, q2, q3, q4⟩ := hrx k hlt
      refine ⟨_, rfl, pa, _, dx, _, _, rfl, e2 _ _ h1, T.c_Part, T.n_Part_rows, pf_rows _ _ _, _, rfl, .inl ⟨rfl, _, SqL.of (nz _ _ hl2)⟩, l, [V.int k], _, rfl, rfl, nz _ _ hl2, rfl, ?_⟩
      have e3 : Same H (upd (upd H2 z (.lst [])) l (.lst [V.int k].dropLast)) := same_put e2 hl0
      refine ⟨ra, rxs, _, _, rfl, rfl, SqT.of (e3 _ _ hra), atI_nat q1, ?_⟩
      have nz2 : ∀ a u, a ≠ l → H2 a = some u → (upd (upd H2 z (.lst [])) l (.lst [V.int k].dropLast)) a = some u := fun a u hn h => by
        rw [upd_ne hn]
        exact nz _ _ h
      have hsd3 := nz2 _ _ (Ne.symm hne) hs
      refine ⟨b, rfl, ⟨_, SqT.of (e3 _ _ q2)⟩, for_tup (K := K) (a := b) (xs := [V.ref c']) (fun i σ H6 => ∃ x y, σ = [some (.ref pa), some (.int 0), some (.ref sd), some (.ref l), x, y] ∧ Same H H6 ∧
        H6 sd = some (.dK (rngK (fun _ => V.bl true) (min (k + i + 1) rs.length))) ∧ H6 l = some (.lst (if i = 0 then [] else if k + 1 < rs.length then [V.int ((k + 1 : Nat) : Int)] else []))) ⟨x, y, rfl, e3, hsd3, upd_same⟩ (fun i σ H6 _ ⟨_, _, _, e, _⟩ => SqT.of (e _ _ q2)) ?_ ?_⟩
      · rintro i v σ H6 hi ⟨x, y, rfl, e6, hs6, hl6⟩
        obtain ⟨rfl, rfl⟩ : i = 0 ∧ v = V.ref c' := by
          cases i with
          | zero => simpa using hi.symm
          | succ i => simp at hi
        refine ⟨c', _, rfl, SqT.of (e6 _ _ q3), rfl, _, _, rfl, _, _, rfl, rfl, ?_⟩
        rw [c.nx k hlt]
        by_cases hl1 : k + 1 < rs.length
        · rw [Nat.add_zero, Nat.min_eq_left (by omega)] at hs6
          have hv : none = valV (rngK (fun _ => V.bl true) (k + 1)) (Sum.inl (((k + 1) % rs.length : Nat) : Int)) := by
            rw [rngK_val, Nat.mod_eq_of_lt hl1, if_neg (by omega)]
          refine ⟨_, rfl, _, rfl, sd, _, rfl, .inl ⟨_, .inl (((k + 1) % rs.length : Nat) : Int), .inl hs6, rfl, hv⟩, ?_⟩
          rw [Nat.mod_eq_of_lt hl1]
          refine ⟨_, rfl, ?_⟩
          refine iteT ?_
          refine ⟨_, rfl, _, rfl, sd, _, rfl, .inl ⟨_, .inl ((k + 1 : Nat) : Int), hs6, rfl, by rw [rngK_len, sizeLine_eq]; omega, rfl⟩, ?_⟩
          rw [rngK_put (fun _ => V.bl true) (k + 1)]
          have hl7 : (upd H6 sd (.dK (rngK (fun _ => V.bl true) (k + 1 + 1)))) l = some (.lst []) := by
            rw [upd_ne hne]
            exact hl6
          refine ⟨_, rfl, .inl ⟨rfl, _, SqL.of hl7⟩, _, rfl, l, _, _, rfl, rfl, hl7, by decide, ?_⟩
          refine ⟨_, _, rfl, same_put (same_put e6 hsd) hl0, ?_, ?_⟩
          · rw [upd_ne (Ne.symm hne), upd_same, Nat.min_eq_left (by omega)]
          · rw [upd_same, if_neg (by decide), if_pos hl1]
            rfl
        · have hk1 : k + 1 = rs.length := by omega
          have hv : some (V.bl true) = valV (rngK (fun _ => V.bl true) (min (k + 0 + 1) rs.length)) (Sum.inl (((k + 1) % rs.length : Nat) : Int)) := by
            rw [rngK_val, hk1, Nat.mod_self, if_pos (by omega)]
          refine ⟨_, rfl, _, rfl, sd, _, rfl, .inl ⟨_, .inl (((k + 1) % rs.length : Nat) : Int), .inl hs6, rfl, hv⟩, ?_⟩
          refine ⟨_, rfl, ?_⟩
          refine iteF ⟨_, _, rfl, e6, ?_, ?_⟩
          · rw [hs6, Nat.min_eq_right (by omega), Nat.min_eq_right (by omega)]
          · rw [hl6, if_pos rfl, if_neg (by decide), if_neg (by omega)]
      · rintro σ H6 ⟨x, y, rfl, e6, hs6, hl6⟩
        exact ⟨_, _, rfl, e6, hs6, hl6⟩
    · rw [if_neg hlt]
      rw [decide_eq_true rfl]
      refine iteF ?_
      have hkL : k = rs.length := by omega
      have hs2 := nz _ _ hs
      refine ⟨_, rfl, sd, _, rfl, hs2, fun q1 hq1 => ?_⟩
      have e3 := e2.trans (same_new (o := HO.lst ((rngK (fun _ => V.bl true) (min (k + 1) rs.length)).map fun kv => kV kv.1)) hq1)
      refine ⟨q1, (List.range (min (k + 1) rs.length)).map fun i => ((i : Nat) : Int), rfl, SqL.of ?_, fun ns' t _ _ ht => ?_⟩
      · rw [upd_same, rngK, List.map_map, List.map_map]
        rfl
      refine ⟨t, _, rfl, .inl ⟨SqL.of upd_same, fun t2 ht2 => q _ _ (e3.trans ((same_new ht).trans (same_new ht2)))⟩⟩
end
end K91
end
section
set_option Elab.async false
set_option linter.all false
set_option maxRecDepth 100000
set_option maxHeartbeats 4000000
namespace K91
open PySem PySem.Spec PyProof.Rows L2 KB M1 M2
/-- a list of ints by a function -/
def vI (f : Nat → Int) (n : Nat) : List V := (List.range n).map fun (i : Nat) => V.int (f i)
theorem vI_len (f : Nat → Int) (n : Nat) : (vI f n).length = n := by simp [vI]
theorem vI_at {f : Nat → Int} {n i : Nat} (h : i < n) : (vI f n)[i]? = some (V.int (f i)) := by simp [vI, h]
theorem vI_set {f : Nat → Int} {n j : Nat} {x : Int} : (vI f n).set j (V.int x) = vI (fun i => if i = j then x else f i) n := by
  apply List.ext_getElem?
  intro i
  rw [List.getElem?_set]
  by_cases h : i < n
  · have e1 : (vI (fun i => if i = j then x else f i) n)[i]? = some (V.int (if i = j then x else f i)) := vI_at h
    rw [vI_at (f := f) h, e1]
    by_cases e : j = i
    · subst e
      rw [if_pos rfl, if_pos rfl, vI_len, if_pos h]
    · rw [if_neg e, if_neg (fun z => e z.symm)]
  · have e1 : (vI f n)[i]? = none := List.getElem?_eq_none (by rw [vI_len]; omega)
    have e2 : (vI (fun i => if i = j then x else f i) n)[i]? = none := List.getElem?_eq_none (by rw [vI_len]; omega)
    rw [e1, e2]
    split
    · rw [vI_len, if_neg (by omega)]
    · rfl
theorem vI_bump {g : Nat → Int} {n j : Nat} : (vI g n).set j (V.int (g j + 1)) = vI (M2.bump g j) n := by
  rw [vI_set]
  unfold vI M2.bump
  refine List.map_congr_left fun i _ => ?_
  dsimp only
  by_cases e : i = j
  · rw [if_pos e, if_pos e, e]
  · rw [if_neg e, if_neg e]
theorem vI_zero (n : Nat) : vI (fun _ => 0) n = List.replicate n (V.int 0) := by
  refine List.eq_replicate_iff.mpr ⟨vI_len _ _, fun b hb => ?_⟩
  obtain ⟨i, _, e⟩ := List.mem_map.mp hb
  exact e.symm
theorem vI_succ (f : Nat → Int) (n : Nat) : vI f (n + 1) = vI f n ++ [V.int (f n)] := by
  unfold vI
  rw [List.range_succ, List.map_append]
  rfl
/-- best of spread_row -/
def BestV (H : Hp) (b : V) : Option (Int × Nat) → Prop
  | none => b = .non
  | some (d, o) => ∃ p, b = .ref p ∧ H p = some (.tup [.int d, .int o])
theorem BestV.same {H H' : Hp} {b : V} {q : Option (Int × Nat)} (h : BestV H b q) (e : Same H H') : BestV H' b q := by
  cases q with
  | none => exact h
  | some q =>
    obtain ⟨p, h1, h2⟩ := h
    exact ⟨p, h1, e _ _ h2⟩
section
variable {P : Program} {w : World} {K : PySem.W.Frag} {mg : Str → Option Value} {base : Heap} {A : Ad}
/-! spread_row -/
abbrev N_spread_row : List Str := ["parts", "whole", "given", "found", "turn", "best", "out", "share", "latest"]
theorem sc_spread_row : FnScope N_spread_row ["parts", "whole"] (defScope s_spread_row) := ⟨rfl, rfl, rfl, by decide +kernel, rfl, by decide +kernel, by decide +kernel⟩
def sp_spread_row : Sp := fun vs H Q _ => ∃ (a : Addr) (N n : Nat) (s : Nat → Int), vs = [.ref a, .int N] ∧ H a = some (.lst (vI s n)) ∧ 0 < N ∧ N ≤ 1000 ∧ n ≤ 6 ∧ S n s = N ∧ (∀ i, i < n → 0 < s i) ∧
  ∀ H' l, Same H H' → H' l = some (.lst (vI (fun t => (pk N s n t : Int)) N)) → Q (.ref l) H'
theorem G_spread_row (T : Txt K mg A) : FnOk P w K mg base CX0 1 A.f_spread_row A.d_spread_row ["parts", "whole"] (sp_spread_row) := by
  refine T.F_spread_row.ok sc_spread_row (fun vs H Q E h => ?_) (fun cdv A' outer s H vs Q E hr h => ?_)
  · obtain ⟨a, N, n, s, rfl, _⟩ := h
    rfl
  · obtain ⟨a, N, n, s, rfl, ha, hN, hN2, hn, hsum, hs, q⟩ := h
    have nd := sc_spread_row.nd
    refine ⟨_, (pss_cons (ps_par (i := 2) (j := 3) (by rfl) nd rfl rfl (by decide) rfl rfl (pa_cons (pe_op op_rep (pe_lst (pa_cons pe_int pa_nil)) (pe_callB (c_len (K := K) rfl) (by rfl) T.b_len (by decide +kernel) (pa_cons (pv 0) pa_nil))) (pa_cons (pe_lst pa_nil) pa_nil)) (by rfl))
      (pss_cons (ps_for PassesOwn.never rfl (pi_range1 rfl T.b_range (pa_cons (pv 1) pa_nil)) (pg_name (i := 4) nd rfl (Or.inl rfl))
      (pss_cons (ps_set (i := 5) nd rfl (Or.inl rfl) pe_non)
      (pss_cons (ps_for PassesOwn.never rfl (pi_enL (K := K) rfl rfl T.b_enumerate (pa_cons (pv 0) pa_nil)) (pgt (K := K) (n := 2) rfl rfl (pgs_cons (pg_name (i := 6) nd rfl (Or.inl rfl)) (pgs_cons (pg_name (i := 7) nd rfl (Or.inl rfl)) pgs_nil)))
      (pss_one (ps_if (PW.pt (pw_and (pt_cmpR op_lt (pe_ix (ixl (K := K) rfl) (pv 2) (pv 6) (fun _ _ => rfl)) (pv 7) (nomark _)) (pw_and1 (pt_cmpR op_le (pe_op op_fdivW (pe_op op_mul (pe_ix (ixl (K := K) rfl) (pv 2) (pv 6) (fun _ _ => rfl)) (pv 1)) (pv 7)) (pv 4) (nomark _))))) (pss_cons (ps_set (i := 8) nd rfl (Or.inl rfl) (pe_un un_neg (pe_op op_fdivW (pe_op op_mul (pe_un un_neg (pe_op op_add (pe_ix (ixl (K := K) rfl) (pv 2) (pv 6) (fun _ _ => rfl)) pe_int)) (pv 1)) (pv 7))))
      (pss_one (ps_if (PW.pt (pw_or (pt_cmpR op_isN (pv 5) pe_non (nomark _)) (pw_or1 (pt_cmpR op_lt (pv 8) (pe_ix (ixt (K := K) rfl) (pv 5) pe_int (fun _ _ => rfl)) (nomark _))))) (pss_one (ps_set (i := 5) nd rfl (Or.inl rfl) (pe_tup (pa_cons (pv 8) (pa_cons (pv 6) pa_nil))))) pss_nil))) pss_nil)))
      (pss_cons (ps_expr (pe_bm PySem.F.plainAttrs_list PySem.F.slot_list_append PySem.F.type_list_append mt_append (pv 3) (pa_cons (pe_ix (ixt (K := K) rfl) (pv 5) pe_int (fun _ _ => rfl)) pa_nil)))
      (pss_one (ps_asg (pe_op op_add (pe_ix (ixl (K := K) rfl) (pv 2) (pe_ix (ixt (K := K) rfl) (pv 5) pe_int (fun _ _ => rfl)) (fun _ _ => rfl)) pe_int) (pg_sub (pv 2) (pe_ix (ixt (K := K) rfl) (pv 5) pe_int (fun _ _ => rfl)) set_list)))))))
      (pss_one (ps_ret (pv 3))))), ?_⟩
    refine ⟨by show 1 ≤ sizeLine; decide, fun l0 hl0 => ?_⟩
    have e0 := same_new (o := HO.lst [.int 0]) hl0
    refine ⟨_, rfl, a, _, rfl, .inl (SqL.of (e0 _ _ ha)), l0, _, _, rfl, rfl, upd_same, by omega, by rw [vI_len]; omega, ?_, fun g hg => ?_⟩
    · rw [vI_len, sizeLine_eq]
      simp
      omega
    have e1 := e0.trans (same_new (o := HO.lst (List.replicate (((vI s n).length : Nat) : Int).toNat [V.int 0]).flatten) hg)
    refine ⟨by show 0 ≤ sizeLine; decide, fun f hf => ⟨_, _, rfl, ?_⟩⟩
    have e2 := e1.trans (same_new (o := HO.lst []) hf)
    have hfg : g ≠ f := fun z => by
      subst z
      rw [upd_same] at hf
      cases hf
    have hg0 : H g = none := by
      cases hh : H g with
      | none => rfl
      | some u =>
        rw [e0 _ _ hh] at hg
        cases hg
    have hf0 : H f = none := by
      cases hh : H f with
      | none => rfl
      | some u =>
        rw [e1 _ _ hh] at hf
        cases hf
    have inj : ((vI s n).length : Int).toNat = n := by rw [vI_len]; omega
    refine ⟨_, rfl, _, rfl, by omega, by omega, for_range (lo := 0) (n := ((N : Nat) : Int).toNat) (fun t σ H2 => ∃ x4 x5 x6 x7 x8, σ = [some (.ref a), some (.int N), some (.ref g), some (.ref f), x4, x5, x6, x7, x8] ∧ Same H H2 ∧
      H2 g = some (.lst (vI (gv N s n t) n)) ∧ H2 f = some (.lst (vI (fun t => (pk N s n t : Int)) t))) ⟨none, none, none, none, none, rfl, e2, ?_, upd_same⟩ ?_ ?_⟩
    · rw [upd_ne hfg, upd_same, inj, flat_one, ← vI_zero]
      rfl
    · rintro t σ H2 ht ⟨x4, x5, x6, x7, x8, rfl, e3, hg2, hf2⟩
      have htN : t < N := by omega
      obtain ⟨d, hp, hpn⟩ := pick_at hN hsum hs htN
      have G := good_at hN hsum hs t (by omega)
      rw [Int.zero_add]
      refine ⟨_, rfl, a, _, rfl, SqL.of (e3 _ _ ha), for_it (walk_enum (K := K) (a := a) (xs := vI s n)) (fun k σ H3 => ∃ b x6 x7 x8, σ = [some (.ref a), some (.int N), some (.ref g), some (.ref f), some (.int t), some b, x6, x7, x8] ∧ Same H2 H3 ∧ BestV H3 b (pickTo N s (gv N s n t) t k)) ⟨.non, x6, x7, x8, rfl, Same.refl _, rfl⟩ (fun k σ H3 _ ⟨_, _, _, _, _, e, _⟩ => SqL.of (e _ _ (e3 _ _ ha))) ?_ ?_⟩
      · rintro k x σ H3 H4 hk ⟨b, x6, x7, x8, rfl, e4, hb⟩ y
        obtain ⟨t2, y1, y2, rfl, ht2, rfl, h3, h4⟩ := y
        rw [vI_len] at hk
        cases h3
        dsimp only at h4
        rw [vI_at hk] at h4
        cases h4
        have sk := hs k hk
        have gl := G.lo k hk
        have gh := G.hi k hk
        have sN : s k ≤ N := by
          rw [← hsum]
          exact S_one hk fun i hi => Int.le_of_lt (hs i hi)
        have e5 := e4.trans (same_new (o := HO.tup [.int (k : Nat), .int (s k)]) ht2)
        have hgk := e5 _ _ hg2
        refine ⟨t2, _, rfl, SqT.of upd_same, rfl, _, _, rfl, _, _, rfl, rfl, ?_⟩
        refine ⟨_, rfl, _, rfl, g, _, _, _, rfl, rfl, SqL.of hgk, atI_nat (vI_at hk), _, rfl, _, _, rfl, rfl, _, rfl, ?_⟩
        have mg : (gv N s n t k).natAbs < 2 ^ 64 := by omega
        have dv : CDivW (gv N s n t k * N) (s k) := divW (b := 0) sk (by omega)
        by_cases c1 : gv N s n t k < s k
        · rw [decide_eq_true c1]
          refine iteT ⟨_, rfl, _, rfl, g, _, _, _, rfl, rfl, SqL.of hgk, atI_nat (vI_at hk), _, rfl, _, _, rfl, rfl, mulOk mg, _, rfl, _, _, rfl, rfl, dv, _, rfl, _, _, rfl, rfl, _, rfl, ?_⟩
          by_cases c2 : rl N s (gv N s n t) k ≤ t
          · have el : elig N s (gv N s n t) t k = true := elig_iff.mpr ⟨c1, c2⟩
            unfold rl at c2
            rw [decide_eq_true c2]
            refine iteT ?_
            have mg2 : (-(gv N s n t k + 1)).natAbs < 2 ^ 64 := by omega
            have dv2 : CDivW (-(gv N s n t k + 1) * N) (s k) := divW (b := 0) sk (by omega)
            refine ⟨_, rfl, _, rfl, g, _, _, _, rfl, rfl, SqL.of hgk, atI_nat (vI_at hk), _, _, rfl, rfl, _, rfl, _, rfl, _, _, rfl, rfl, mulOk mg2, _, rfl, _, _, rfl, rfl, dv2, _, rfl, ?_⟩
            have hb5 := hb.same (same_new (o := HO.tup [.int (k : Nat), .int (s k)]) ht2)
            cases hbp : pickTo N s (gv N s n t) t k with
            | none =>
              rw [hbp] at hb5
              cases hb5
              refine ⟨_, rfl, rfl, _, rfl, ?_⟩
              rw [decide_eq_true (rfl : V.non = V.non)]
              refine iteT ?_
              refine ⟨_, rfl, _, rfl, by show 2 ≤ sizeLine; decide, fun np hnp => ⟨_, _, _, _, rfl, e5.trans (same_new hnp), ?_⟩⟩
              unfold pickTo
              rw [if_pos el, hbp]
              exact ⟨np, rfl, upd_same⟩
            | some q2 =>
              obtain ⟨d2, o2⟩ := q2
              rw [hbp] at hb5
              obtain ⟨bp, rfl, hbp2⟩ := hb5
              refine ⟨_, rfl, rfl, _, rfl, ?_⟩
              rw [decide_eq_false (show ¬ V.ref bp = V.non by intro z; cases z)]
              refine iteF ⟨_, rfl, _, rfl, bp, _, _, _, rfl, rfl, SqT.of hbp2, rfl, _, _, rfl, rfl, _, rfl, ?_⟩
              by_cases c3 : M2.dl N s (gv N s n t) k < d2
              · have c4 : -(-(gv N s n t k + 1) * N / s k) < d2 := c3
                rw [decide_eq_true c4]
                refine iteT ?_
                refine ⟨_, rfl, _, rfl, by show 2 ≤ sizeLine; decide, fun np hnp => ⟨_, _, _, _, rfl, e5.trans (same_new hnp), ?_⟩⟩
                unfold pickTo
                rw [if_pos el, hbp]
                unfold better
                dsimp only
                rw [if_pos c3]
                exact ⟨np, rfl, upd_same⟩
              · have c4 : ¬ -(-(gv N s n t k + 1) * N / s k) < d2 := c3
                rw [decide_eq_false c4]
                refine iteF ⟨_, _, _, _, rfl, e5, ?_⟩
                unfold pickTo
                rw [if_pos el, hbp]
                unfold better
                dsimp only
                rw [if_neg c3]
                exact ⟨bp, rfl, hbp2⟩
          · have el : ¬ elig N s (gv N s n t) t k = true := fun z => c2 (elig_iff.mp z).2
            unfold rl at c2
            rw [decide_eq_false c2]
            refine iteF ⟨_, _, _, _, rfl, e5, ?_⟩
            unfold pickTo
            rw [if_neg el]
            exact hb.same (same_new ht2)
        · have el : ¬ elig N s (gv N s n t) t k = true := fun z => c1 (elig_iff.mp z).1
          rw [decide_eq_false c1]
          refine iteF ⟨_, _, _, _, rfl, e5, ?_⟩
          unfold pickTo
          rw [if_neg el]
          exact hb.same (same_new ht2)
      · rintro σ H3 ⟨b, x6, x7, x8, rfl, e4, hb⟩
        rw [vI_len, hp] at hb
        obtain ⟨p, rfl, hpp⟩ := hb
        have e6 := e3.trans e4
        have hf3 := e4 _ _ hf2
        have hg3 := e4 _ _ hg2
        refine ⟨_, rfl, .inl ⟨rfl, _, SqL.of hf3⟩, _, rfl, p, _, _, _, rfl, rfl, SqT.of hpp, rfl, f, _, _, rfl, rfl, hf3, by rw [vI_len, sizeLine_eq]; omega, ?_⟩
        rw [← vI_succ (fun t => (pk N s n t : Int)) t]
        have e7 : Same H (upd H3 f (.lst (vI (fun t => (pk N s n t : Int)) (t + 1)))) := same_put e6 hf0
        have hg4 : (upd H3 f (.lst (vI (fun t => (pk N s n t : Int)) (t + 1)))) g = some (.lst (vI (gv N s n t) n)) := by
          rw [upd_ne hfg]
          exact hg3
        have hp4 : (upd H3 f (.lst (vI (fun t => (pk N s n t : Int)) (t + 1)))) p = some (.tup [.int d, .int (pk N s n t)]) := by
          rw [upd_ne (fun z => by subst z; rw [hf3] at hpp; cases hpp)]
          exact hpp
        have hf4 : (upd H3 f (.lst (vI (fun t => (pk N s n t : Int)) (t + 1)))) f = some (.lst (vI (fun t => (pk N s n t : Int)) (t + 1))) := upd_same
        generalize upd H3 f (.lst (vI (fun t => (pk N s n t : Int)) (t + 1))) = H5 at e7 hg4 hp4 hf4 ⊢
        refine ⟨_, rfl, _, rfl, p, _, _, _, rfl, rfl, SqT.of hp4, rfl, g, _, _, _, rfl, rfl, SqL.of hg4, atI_nat (vI_at hpn), _, _, rfl, rfl, ?_⟩
        refine ⟨_, rfl, _, rfl, p, _, _, _, rfl, rfl, SqT.of hp4, rfl, g, _, _, _, rfl, rfl, hg4, Evl.ixN_nat (by rw [vI_len]; exact hpn), ?_⟩
        have e8 : Same H (upd H5 g (.lst ((vI (gv N s n t) n).set (pk N s n t) (V.int (gv N s n t (pk N s n t) + 1))))) := same_put e7 hg0
        refine ⟨_, _, _, _, _, rfl, e8, ?_, ?_⟩
        · rw [upd_same, vI_bump, ← gv_succ]
        · rw [upd_ne (Ne.symm hfg)]
          exact hf4
    · rintro σ H2 ⟨x4, x5, x6, x7, x8, rfl, e3, hg2, hf2⟩
      exact ⟨_, rfl, q _ f e3 hf2⟩
end
end K91
end
section
set_option Elab.async false
set_option linter.all false
set_option maxRecDepth 100000
set_option maxHeartbeats 4000000
namespace K91
open PySem PySem.Spec PyProof.Rows L2 KB M1 M2
def unit (n o : Nat) : List Int := (List.range n).map fun spot => if spot = o then 1 else 0
/-- the rows of a part that spreads s of N -/
def evRow (N n : Nat) (s : Nat → Int) (t : Nat) : Row := ((((t + 1) % N : Nat) : Int), unit n (pk N s n t))
def evRows (N n : Nat) (s : Nat → Int) : List Row := (List.range N).map (evRow N n s)
theorem evRows_len (N n : Nat) (s : Nat → Int) : (evRows N n s).length = N := by simp [evRows]
theorem evRows_at {N n : Nat} {s : Nat → Int} {t : Nat} (h : t < (evRows N n s).length) : (evRows N n s)[t] = evRow N n s t := by simp [evRows]
theorem unit_len (n o : Nat) : (unit n o).length = n := by simp [unit]
theorem ev_cyc {N n : Nat} {s : Nat → Int} (hN : 0 < N) (hN4 : N ≤ 400) (hn : n ≤ 6) (hn1 : 1 ≤ n) : Cyc (evRows N n s) n := by
  refine ⟨⟨by rw [evRows_len]; exact hN, by rw [evRows_len]; exact hN4, hn, hn1, fun r hr => ?_⟩, fun k hk => ?_⟩
  · obtain ⟨t, ht, rfl⟩ := List.mem_map.mp hr
    rw [evRows_len]
    have := Nat.mod_lt (t + 1) hN
    refine ⟨Int.natCast_nonneg _, by show (((t + 1) % N : Nat) : Int) < N; omega, unit_len _ _, fun g hg => ?_⟩
    obtain ⟨i, _, rfl⟩ := List.mem_map.mp hg
    split <;> omega
  · rw [evRows_at, evRows_len]
    rfl
theorem ev_sum {N n : Nat} {s : Nat → Int} (hN : 0 < N) : ∀ t, t ≤ N → sumG (evRows N n s) n t = (List.range n).map (gv N s n t)
  | 0, _ => by
    show List.replicate n 0 = (List.range n).map fun _ => 0
    rw [List.map_const', List.length_range]
  | t + 1, h => by
    have hl : t < (evRows N n s).length := by rw [evRows_len]; omega
    rw [sumG_succ hl, ev_sum hN t (by omega), evRows_at, gv_succ]
    show addI _ (unit n (pk N s n t)) = _
    unfold addI unit M2.bump
    apply List.ext_getElem
    · simp
    · intro i h1 h2
      simp
      split <;> omega
theorem ev_end {N n : Nat} {s : Nat → Int} (hN : 0 < N) (hsum : S n s = N) (hs : ∀ i, i < n → 0 < s i) : sumG (evRows N n s) n (evRows N n s).length = (List.range n).map s := by
  rw [evRows_len, ev_sum hN N (Nat.le_refl _)]
  exact List.map_congr_left fun i hi => gv_end hN hsum hs (List.mem_range.mp hi)
/-- one row as it is laid -/
def RowAt (H : Hp) (r : Addr) (x : V) (row : Row) : Prop := ∃ b y, x = .ref b ∧ b ≠ r ∧ H b = some (.lst [y]) ∧ Tv H y (.tuple [.int row.1, tI row.2])
theorem RowAt.same {H H' : Hp} {r : Addr} {x : V} {row : Row} (h : RowAt H r x row) (e : Same H H') : RowAt H' r x row := by
  obtain ⟨b, y, h1, h2, h3, h4⟩ := h
  exact ⟨b, y, h1, h2, e _ _ h3, h4.same e⟩
theorem RowAt.put {H : Hp} {r : Addr} {x : V} {row : Row} {xs ys : List V} (h : RowAt H r x row) (hr : H r = some (.lst xs)) : RowAt (upd H r (.lst ys)) r x row := by
  obtain ⟨b, y, h1, h2, h3, h4⟩ := h
  refine ⟨b, y, h1, h2, ?_, h4.stab (Stab.put hr imm_lst)⟩
  rw [upd_ne h2]
  exact h3
section
variable {P : Program} {w : World} {K : PySem.W.Frag} {mg : Str → Option Value} {base : Heap} {A : Ad}
/-! spread_part -/
abbrev N_spread_part : List Str := ["parts", "whole", "row", "rows", "at", "out", "spot"]
theorem sc_spread_part : FnScope N_spread_part ["parts"] (defScope s_spread_part) := ⟨rfl, rfl, rfl, by decide +kernel, rfl, by decide +kernel, by decide +kernel⟩
def sp_spread_part : Sp := fun vs H Q _ => ∃ (a : Addr) (N n : Nat) (s : Nat → Int), vs = [.ref a] ∧ H a = some (.lst (vI s n)) ∧ 0 < N ∧ N ≤ 400 ∧ n ≤ 6 ∧ 1 ≤ n ∧ S n s = N ∧ (∀ i, i < n → 0 < s i) ∧
  ∀ H' v, Same H H' → PartAt A H' v n (evRows N n s) → Q v H'
theorem G_spread_part (T : Txt K mg A) : FnOk P w K mg base CX0 8 A.f_spread_part A.d_spread_part ["parts"] (sp_spread_part (A := A)) := by
  refine T.F_spread_part.ok sc_spread_part (fun vs H Q E h => ?_) (fun cdv A' outer s H vs Q E hr h => ?_)
  · obtain ⟨a, N, n, s, rfl, _⟩ := h
    rfl
  · obtain ⟨a, N, n, s, rfl, ha, hN, hN2, hn, hn1, hsum, hs, q⟩ := h
    have nd := sc_spread_part.nd
    refine ⟨_, (pss_cons (ps_set (i := 1) nd rfl (Or.inl rfl) (pe_callB (c_sum (K := K) rfl rfl) (by rfl) T.b_sum (by decide +kernel) (pa_cons (pv 0) pa_nil)))
      (pss_cons (ps_set (i := 2) nd rfl (Or.inl rfl) (pe_call (G_spread_row T) (hr.mono (by decide)) rfl T.g_spread_row T.F_spread_row.kp T.B_spread_row .nil pass0 (pa_cons (pv 0) (pa_cons (pv 1) pa_nil))))
      (pss_cons (ps_set (i := 3) nd rfl (Or.inl rfl) (pe_lst pa_nil))
      (pss_cons (ps_for PassesOwn.never rfl (pi_enL (K := K) rfl rfl T.b_enumerate (pa_cons (pv 2) pa_nil)) (pgt (K := K) (n := 2) rfl rfl (pgs_cons (pg_name (i := 4) nd rfl (Or.inl rfl)) (pgs_cons (pg_name (i := 5) nd rfl (Or.inr rfl)) pgs_nil)))
      (pss_one (ps_expr (pe_bm PySem.F.plainAttrs_list PySem.F.slot_list_append PySem.F.type_list_append mt_append (pv 3) (pa_cons (pe_lst (pa_cons (pe_tup (pa_cons (pe_op op_mod (pe_op op_add (pv 4) pe_int) (pv 1)) (pa_cons (pe_callTy (c_tup (K := K) rfl) (by rfl) T.b_tuple (by decide +kernel) (pa_cons (pe_lc (own := [("spot", 6)]) (by rfl) nd (pi_range1 rfl T.b_range (pa_cons (pe_callB (c_len (K := K) rfl) (by rfl) T.b_len (by decide +kernel) (pa_cons (pv 0) pa_nil)) pa_nil)) (blkOk_by (own := [("spot", 6)]) (N := N_spread_part) (sc := defScope s_spread_part) (by decide +kernel)) (fun _ _ _ _ _ => (pg_name (i := 6) nd rfl (Or.inl rfl))) (fun _ _ _ _ _ => pts_nil) (fun _ _ _ _ _ => (pe_callTy call_int1 (by rfl) T.b_int (by decide +kernel) (pa_cons (pe_cmpR op_eq (pv 6) (pv 5) (nomark _)) pa_nil)))) pa_nil)) pa_nil))) pa_nil)) pa_nil)))))
      (pss_one (ps_ret (pe_make T.m_Part (G_Part_init T) (hr.mono (by decide)) rfl T.g_Part T.B_Part_init .nil pass0 (pa_cons pe_int (pa_cons (pe_callB (c_len (K := K) rfl) (by rfl) T.b_len (by decide +kernel) (pa_cons (pv 0) pa_nil)) (pa_cons (pv 3) pa_nil)))))))))), ?_⟩
    refine ⟨_, rfl, a, (List.range n).map s, rfl, SqL.of (by rw [ha, vI, List.map_map]; rfl), ?_⟩
    rw [show ((List.range n).map s).sum = (N : Int) from hsum]
    refine ⟨_, rfl, _, rfl, a, N, n, s, rfl, ha, hN, by omega, hn, hsum, hs, fun H1 l1 e1 hl1 => ?_⟩
    refine ⟨by show 0 ≤ sizeLine; decide, fun r hr => ?_⟩
    have hr0 : H r = none := by
      cases hh : H r with
      | none => rfl
      | some u =>
        rw [e1 _ _ hh] at hr
        cases hr
    have e2 := e1.trans (same_new (o := HO.lst []) hr)
    have hl1r : l1 ≠ r := fun z => by
      subst z
      rw [hl1] at hr
      cases hr
    refine ⟨_, rfl, l1, _, rfl, SqL.of ((same_new hr) _ _ hl1), for_it (walk_enum (K := K) (a := l1) (xs := vI (fun t => (pk N s n t : Int)) N)) (fun t σ H3 => ∃ xs x4 x5, σ = [some (.ref a), some (.int N), some (.ref l1), some (.ref r), x4, x5, none] ∧ Same H H3 ∧ H3 l1 = some (.lst (vI (fun t => (pk N s n t : Int)) N)) ∧
      H3 r = some (.lst xs) ∧ xs.length = t ∧ ∀ (i : Nat) (x : V), xs[i]? = some x → RowAt H3 r x (evRow N n s i)) ⟨[], none, none, rfl, e2, (same_new hr) _ _ hl1, upd_same, rfl, fun i x h => by simp at h⟩ (fun t σ H3 _ ⟨_, _, _, _, _, h, _⟩ => SqL.of h) ?_ ?_⟩
    · rintro t x σ H3 H4 ht ⟨xs, x4, x5, rfl, e3, hl3, hr3, hlen, hrows⟩ y
      obtain ⟨t2, y1, y2, rfl, ht2, rfl, h3, h4⟩ := y
      rw [vI_len] at ht
      cases h3
      dsimp only at h4
      rw [vI_at ht] at h4
      cases h4
      have ez := same_new (o := HO.tup [.int (t : Nat), .int ((pk N s n t : Nat) : Int)]) ht2
      have e4 := e3.trans ez
      refine ⟨t2, _, rfl, SqT.of upd_same, rfl, _, _, rfl, _, _, rfl, rfl, ?_⟩
      refine ⟨_, rfl, .inl ⟨rfl, _, SqL.of (ez _ _ hr3)⟩, ?_⟩
      refine ⟨_, rfl, _, _, rfl, rfl, _, rfl, _, _, rfl, rfl, by show (0 : Int) < N; omega, ?_⟩
      have ha4 := e4 _ _ ha
      refine ⟨_, rfl, a, _, rfl, .inl (SqL.of ha4), _, rfl, by rw [vI_len]; omega, by rw [vI_len]; omega, fun D hD => lc_pure (walk_range (lo := 0) (n := (((vI s n).length : Nat) : Int).toNat)) (fun i y _ => y = V.int (if i = pk N s n t then 1 else 0)) hD (fun _ _ => trivial) (fun _ _ _ _ r _ => r) (by rw [vI_len, sizeLine_eq]; omega) (fun i x H5 H6 hi e y Q2 q2 => ?_) (fun ys H5 e5 hy hl' hys => ?_)⟩
      · obtain ⟨rfl, rfl⟩ := y
        refine ⟨rfl, _, rfl, _, rfl, rfl, .inr ⟨_, rfl, q2 _ _ (Same.refl _) ?_⟩⟩
        by_cases hio : i = pk N s n t
        · rw [if_pos hio]
          show V.int (if decide (V.int (0 + (i : Int)) = V.int _) = true then 1 else 0) = _
          rw [decide_eq_true (show V.int (0 + (i : Int)) = V.int (pk N s n t : Nat) by rw [hio, Int.zero_add])]
          rfl
        · rw [if_neg hio]
          show V.int (if decide (V.int (0 + (i : Int)) = V.int _) = true then 1 else 0) = _
          rw [decide_eq_false (show ¬ V.int (0 + (i : Int)) = V.int (pk N s n t : Nat) by intro z; injection z; omega)]
          rfl
      · have e6 := ints_of hl' hys
        rw [vI_len] at e6
        have en : ((n : Nat) : Int).toNat = n := by omega
        rw [en] at e6
        refine ⟨D, _, rfl, .inl ⟨SqL.of hy, fun t3 ht3 => ?_⟩⟩
        have n3 := same_new (o := HO.tup ys) ht3
        refine ⟨by show 2 ≤ sizeLine; decide, fun t4 ht4 => ?_⟩
        have n4 := same_new (o := HO.tup [V.int ((((t : Nat) : Int) + 1) % N), .ref t3]) ht4
        refine ⟨by show 1 ≤ sizeLine; decide, fun b hb => ?_⟩
        have n5 := same_new (o := HO.lst [.ref t4]) hb
        have all := (ez.trans e5).trans ((n3.trans n4).trans n5)
        have hr6 := all _ _ hr3
        have hbr : b ≠ r := fun z => by
          subst z
          have := ((ez.trans e5).trans (n3.trans n4)) _ _ hr3
          rw [this] at hb
          cases hb
        refine ⟨r, xs, _, rfl, rfl, hr6, by rw [hlen, sizeLine_eq]; omega, xs ++ [.ref b], _, _, rfl, same_put (e3.trans all) hr0, ?_, upd_same, by simp [hlen], fun i x hx => ?_⟩
        · rw [upd_ne hl1r]
          exact all _ _ hl3
        · by_cases hi : i < xs.length
          · rw [List.getElem?_append_left hi] at hx
            exact ((hrows i x hx).same all).put hr6
          · rw [List.getElem?_append_right (by omega)] at hx
            have e0 : i - xs.length = 0 := by
              by_cases z : i - xs.length = 0
              · exact z
              · rw [List.getElem?_eq_none (by simp; omega)] at hx
                cases hx
            rw [e0] at hx
            obtain rfl : V.ref b = x := by simpa using hx
            have ei : i = t := by omega
            subst ei
            have eN : ((i : Int) + 1) % (N : Int) = (((i + 1) % N : Nat) : Int) := by
              rw [Int.natCast_emod, Int.natCast_add]
              rfl
            refine RowAt.put (xs := xs) ⟨b, .ref t4, rfl, hbr, upd_same, Tv.same (pairTv (b := t3) ?_ ?_) n5⟩ hr6
            · rw [upd_same]
              show some (HO.tup [V.int (((i : Int) + 1) % (N : Int)), V.ref t3]) = some (HO.tup [V.int (((i + 1) % N : Nat) : Int), V.ref t3])
              rw [eN]
            · rw [n4 _ _ upd_same, e6]
              rfl
    · rintro σ H3 ⟨xs, x4, x5, rfl, e3, hl3, hr3, hlen, hrows⟩
      rw [vI_len] at hlen
      have cyc := ev_cyc (N := N) (n := n) (s := s) hN hN2 hn hn1
      refine ⟨_, rfl, a, _, rfl, .inl (SqL.of (e3 _ _ ha)), _, rfl, fun x dx hx hdx hne => ?_⟩
      have n1 := same_new (o := HO.own x) hdx
      have hx2 : (upd H3 dx (.own x)) x = none := by
        rw [upd_ne (Ne.symm hne)]
        exact hx
      have n2 := n1.trans (same_new (o := HO.ins A.C_Part dx []) hx2)
      refine ⟨x, dx, .ref r, n, evRows N n s, by rw [vI_len]; rfl, upd_same, ⟨r, xs, rfl, n2 _ _ hr3, by rw [evRows_len, hlen], fun i y row hy hrow => ?_⟩, cyc.ok, fun H' rv off hH' tv => ⟨rfl, q H' _ (fun b u h => ?_) ⟨x, dx, rv, rfl, hH', tv⟩⟩⟩
      · obtain ⟨b, z, h1, _, h2, h3⟩ := (hrows i y hy).same n2
        have hiN : i < N := by
          have := (List.getElem?_eq_some_iff.mp hy).1
          omega
        have : row = evRow N n s i := by
          rw [evRows, List.getElem?_map, List.getElem?_range hiN] at hrow
          exact (Option.some.inj hrow).symm
        subst this
        exact ⟨b, z, h1, h2, h3⟩
      · have h4 := n2 _ _ (e3 _ _ h)
        refine off b u (fun z => ?_) h4
        subst z
        rw [e3 _ _ h] at hx
        cases hx
end
end K91
end
section
set_option Elab.async false
set_option linter.all false
set_option maxRecDepth 100000
set_option maxHeartbeats 4000000
namespace K91
open PySem PySem.Spec PyProof.Rows L2 KB M1 M2
section
variable {P : Program} {w : World} {K : PySem.W.Frag} {mg : Str → Option Value} {base : Heap} {A : Ad}
/-! errors made -/
def sp_err1 (K : PySem.W.Frag) (C : Addr) (f : Str) : Sp := fun vs H Q _ => ∃ (a : Addr) (y : V), vs = [.ref a, y] ∧ H a = some (exo a C none) ∧ ∀ dx, H dx = none → dx ≠ a → Q .non (upd (upd H dx (exd dx [(f, y)])) a (exo a C (some dx)))
abbrev N_BadValue_init : List Str := ["self", "part"]
theorem sc_BadValue_init : FnScope N_BadValue_init ["self", "part"] (defScope s_BadValue_init) := ⟨rfl, rfl, rfl, by decide +kernel, rfl, by decide +kernel, by decide +kernel⟩
theorem G_BadValue_init (T : Txt K mg A) : FnOk P w K mg base CX0 1 A.f_BadValue_init A.d_BadValue_init ["self", "part"] (sp_err1 K A.C_BadValue "part") := by
  refine T.F_BadValue_init.ok sc_BadValue_init (fun vs H Q E h => ?_) (fun cdv A' outer s H vs Q E hr h => ?_)
  · obtain ⟨a, y, rfl, _⟩ := h
    rfl
  · obtain ⟨a, y, rfl, ha, q⟩ := h
    have nd := sc_BadValue_init.nd
    refine ⟨_, (pss_one (ps_ost (pv 0) (pv 1))), ?_⟩
    exact ⟨_, rfl, _, rfl, a, _, rfl, T.x_BadValue, T.n_BadValue_part, .inl ⟨ha, fun dx h n => q dx h n⟩⟩
abbrev N_Misfit_init : List Str := ["self", "part"]
theorem sc_Misfit_init : FnScope N_Misfit_init ["self", "part"] (defScope s_Misfit_init) := ⟨rfl, rfl, rfl, by decide +kernel, rfl, by decide +kernel, by decide +kernel⟩
theorem G_Misfit_init (T : Txt K mg A) : FnOk P w K mg base CX0 1 A.f_Misfit_init A.d_Misfit_init ["self", "part"] (sp_err1 K A.C_Misfit "part") := by
  refine T.F_Misfit_init.ok sc_Misfit_init (fun vs H Q E h => ?_) (fun cdv A' outer s H vs Q E hr h => ?_)
  · obtain ⟨a, y, rfl, _⟩ := h
    rfl
  · obtain ⟨a, y, rfl, ha, q⟩ := h
    have nd := sc_Misfit_init.nd
    refine ⟨_, (pss_one (ps_ost (pv 0) (pv 1))), ?_⟩
    exact ⟨_, rfl, _, rfl, a, _, rfl, T.x_Misfit, T.n_Misfit_part, .inl ⟨ha, fun dx h n => q dx h n⟩⟩
abbrev N_TooMany_init : List Str := ["self", "what", "most"]
theorem sc_TooMany_init : FnScope N_TooMany_init ["self", "what", "most"] (defScope s_TooMany_init) := ⟨rfl, rfl, rfl, by decide +kernel, rfl, by decide +kernel, by decide +kernel⟩
def sp_err2 (K : PySem.W.Frag) (C : Addr) (f g : Str) : Sp := fun vs H Q _ => ∃ (a : Addr) (y z : V), vs = [.ref a, y, z] ∧ H a = some (exo a C none) ∧
  ∀ dx H', H dx = none → dx ≠ a → H' a = some (exo a C (some dx)) → H' dx = some (exd dx [(g, z), (f, y)]) → (∀ b, b ≠ a → b ≠ dx → H' b = H b) → Q .non H'
theorem G_TooMany_init (T : Txt K mg A) : FnOk P w K mg base CX0 1 A.f_TooMany_init A.d_TooMany_init ["self", "what", "most"] (sp_err2 K A.C_TooMany "what" "most") := by
  refine T.F_TooMany_init.ok sc_TooMany_init (fun vs H Q E h => ?_) (fun cdv A' outer s H vs Q E hr h => ?_)
  · obtain ⟨a, y, z, rfl, _⟩ := h
    rfl
  · obtain ⟨a, y, z, rfl, ha, q⟩ := h
    have nd := sc_TooMany_init.nd
    refine ⟨_, (pss_cons (ps_ost (pv 0) (pv 1))
      (pss_one (ps_ost (pv 0) (pv 2)))), ?_⟩
    refine ⟨_, rfl, _, rfl, a, _, rfl, T.x_TooMany, T.n_TooMany_what, .inl ⟨ha, fun dx h n => ?_⟩⟩
    refine ⟨_, rfl, _, rfl, a, _, rfl, T.x_TooMany, T.n_TooMany_most, .inr ⟨dx, _, upd_same, by rw [upd_ne n]; exact upd_same, by show 1 ≤ 900; decide, ?_⟩⟩
    refine q dx _ h n ?_ upd_same fun b h1 h2 => ?_
    · rw [upd_ne (Ne.symm n)]
      exact upd_same
    · rw [upd_ne h2, upd_ne h1, upd_ne h2]
/-- an error of the class at C with these fields went out -/
def Out (H : Hp) (E : XK) (C : Addr) (fs : List (Str × V)) : Prop := ∀ d H', Same H H' → H' d = some (.xd fs) → E (.ref C) (some d) H'
theorem Out.same {H H' : Hp} {E : XK} {C : Addr} {fs : List (Str × V)} (h : Out H E C fs) (e : Same H H') : Out H' E C fs := fun d H2 e2 => h d H2 (e.trans e2)
theorem raise1 {C : Addr} {f : Str} {y : V} {σ : L2.St} {H : Hp} {E : XK} (q : Out H E C [(f, y)]) : tMkO C (sp_err1 K C f) [] (tCons (tC y) tNil) σ H E := by
  refine ⟨by show 1 ≤ 1000; decide, fun a ha => ⟨a, y, rfl, upd_same, fun dx hdx hne => ⟨rfl, dx, [(f, y)], upd_same, ?_, ?_, q dx _ (fun b u h => ?_) upd_same⟩⟩⟩
  · rw [upd_ne hne]
    exact upd_same
  · rw [upd_ne hne] at hdx
    exact hdx
  · rw [upd_ne hne] at hdx
    rw [upd_ne (ne_of_none h hdx), del_ne (ne_of_none h ha), upd_ne (ne_of_none h ha), upd_ne (ne_of_none h hdx), upd_ne (ne_of_none h ha)]
    exact h
theorem raise2 {C : Addr} {f g : Str} {y z : V} {σ : L2.St} {H : Hp} {E : XK} (q : Out H E C [(g, z), (f, y)]) : tMkO C (sp_err2 K C f g) [] (tCons (tC y) (tCons (tC z) tNil)) σ H E := by
  refine ⟨by show 2 ≤ 1000; decide, fun a ha => ⟨a, y, z, rfl, upd_same, fun dx H' hdx hne ea ed hoff => ⟨rfl, dx, _, ea, ed, ?_, q dx _ (fun b u h => ?_) upd_same⟩⟩⟩
  · rw [upd_ne hne] at hdx
    exact hdx
  · rw [upd_ne hne] at hdx
    have n1 := ne_of_none h hdx
    have n2 := ne_of_none h ha
    rw [upd_ne n1, del_ne n2, hoff b n2 n1, upd_ne n2]
    exact h
/-! need_shares -/
theorem sq_ix {H : Hp} {x v : V} {xs : List V} {i : Int} {Q : VK} (h : Sq H x xs) (e : atI xs i = some v) (q : Q v H) : rIx K x (.int i) H Q := by
  obtain ⟨a, rfl, h⟩ := h
  rcases h with h | h
  · exact .inr (.inl ⟨a, _, i, v, rfl, rfl, SqT.of h, e, q⟩)
  · exact .inl ⟨a, _, i, v, rfl, rfl, SqL.of h, e, q⟩
abbrev N_need_shares : List Str := ["value", "most", "found", "one"]
theorem sc_need_shares : FnScope N_need_shares ["value", "most"] (defScope s_need_shares) := ⟨rfl, rfl, rfl, by decide +kernel, rfl, by decide +kernel, by decide +kernel⟩
/-- a pair of ints, the lower above 0, that is the part m of W -/
def ShIn (H : Hp) (x : V) (m W : Int) : Prop := ∃ p q : Int, Sq H x [.int p, .int q] ∧ 0 < p ∧ 0 < q ∧ q < 2 ^ 30 ∧ rd p q = rd m W
theorem ShIn.same {H H' : Hp} {x : V} {m W : Int} (h : ShIn H x m W) (e : Same H H') : ShIn H' x m W := by
  obtain ⟨p, q, h1, h2⟩ := h
  exact ⟨p, q, h1.same e, h2⟩
/-- shares that are well written -/
def ShL (H : Hp) (xs : List V) (W : Int) (ms : List Int) : Prop := xs.length = ms.length ∧ 1 ≤ xs.length ∧ xs.length ≤ 6 ∧ 0 < W ∧ W < 2 ^ 30 ∧ (∀ m ∈ ms, m.natAbs < 2 ^ 30) ∧ ∀ (i : Nat) (x : V), xs[i]? = some x → ShIn H x (ms.getD i 0) W
def sp_need_shares_l (A : Ad) : Sp := fun vs H Q E => ∃ (a : Addr) (xs : List V) (W : Int) (ms : List Int), vs = [.ref a, .int 6] ∧ H a = some (.lst xs) ∧ ShL H xs W ms ∧
  (ms.sum = W → ∀ H' l ys, Same H H' → H' l = some (.lst ys) → FrL H' ys W ms → Q (.ref l) H') ∧ (ms.sum ≠ W → Out H E A.C_Misfit [("part", .str "shares")])
theorem G_need_shares_l (T : Txt K mg A) : FnOk P w K mg base (L2.CX P w) 4 A.f_need_shares A.d_need_shares ["value", "most"] (sp_need_shares_l A) := by
  refine T.F_need_shares.okX sc_need_shares (fun vs H Q E h => ?_) (fun cdv A' outer s H vs Q E hr h => ?_)
  · obtain ⟨a, xs, W, ms, rfl, _⟩ := h
    rfl
  · obtain ⟨a, xs, W, ms, rfl, ha, ⟨hl, x1, x6, hW, hW2, hm, hx⟩, q1, q2⟩ := h
    have nd := sc_need_shares.nd
    refine ⟨_, (pss_cons (ps_if (PW.pt (pw_or (pt_not (pt_val (pe_callB (c_isiT (K := K) rfl) (by rfl) T.b_isinstance (by decide +kernel) (pa_cons (pv 0) (pa_cons (pe_tup (pa_cons (pe_ty_list (by rfl) T.b_list) (pa_cons (pe_ty_tuple (by rfl) T.b_tuple) pa_nil))) pa_nil))))) (pw_or1 (pt_not (pt_chain op_le op_le pe_int (pe_callB (c_len (K := K) rfl) (by rfl) T.b_len (by decide +kernel) (pa_cons (pv 0) pa_nil)) (pv 1)))))) (pss_one (ps_raise rfl (takes_of rfl rfl rfl rfl) (pmk_oex T.x_BadValue T.i_BadValue T.y_BadValue (G_BadValue_init T) (hr.mono (by decide)) T.B_BadValue_init .nil pass0 rfl T.g_BadValue (pa_cons pe_str pa_nil)))) pss_nil)
      (pss_cons (ps_if (pt_not (pt_val (pe_callB (c_all (K := K) rfl rfl) (by rfl) T.b_all (by decide +kernel) (pa_cons (pe_lc (own := [("one", 3)]) (by rfl) nd (pil (K := K) rfl (pv 0)) (blkOk_by (own := [("one", 3)]) (N := N_need_shares) (sc := defScope s_need_shares) (by decide +kernel)) (fun _ _ _ _ _ => (pg_name (i := 3) nd rfl (Or.inl rfl))) (fun _ _ _ _ _ => pts_nil) (fun _ _ _ _ _ => (pe_and (pe_call (G_is_fraction T) (hr.mono (by decide)) rfl T.g_is_fraction T.F_is_fraction.kp T.B_is_fraction .nil pass0 (pa_cons (pv 3) pa_nil)) (pe_one (pe_cmpR op_gt (pe_ix (ixs (K := K) rfl) (pv 3) pe_int (fun _ _ => rfl)) pe_int (nomark _)))))) pa_nil)))) (pss_one (ps_raise rfl (takes_of rfl rfl rfl rfl) (pmk_oex T.x_BadValue T.i_BadValue T.y_BadValue (G_BadValue_init T) (hr.mono (by decide)) T.B_BadValue_init .nil pass0 rfl T.g_BadValue (pa_cons pe_str pa_nil)))) pss_nil)
      (pss_cons (ps_setLc (i := 2) (own := [("one", 3)]) (by rfl) nd rfl rfl (sw_true rfl rfl rfl (by decide +kernel)) (pil (K := K) rfl (pv 0)) (blkOk_by (own := [("one", 3)]) (N := N_need_shares) (sc := defScope s_need_shares) (by decide +kernel)) (fun _ _ _ _ _ => (pg_name (i := 3) nd rfl (Or.inl rfl))) (fun _ _ _ _ _ => pts_nil) (fun _ _ _ _ _ => (pe_call (G_reduced T) (hr.mono (by decide)) rfl T.g_reduced T.F_reduced.kp T.B_reduced .nil pass0 (pa_cons (pe_ix (ixs (K := K) rfl) (pv 3) pe_int (fun _ _ => rfl)) (pa_cons (pe_ix (ixs (K := K) rfl) (pv 3) pe_int (fun _ _ => rfl)) pa_nil)))))
      (pss_cons (ps_if (pt_cmpR (o_neD (K := K) rfl hr.units) (pe_call (G_total T) (hr.mono (by decide)) rfl T.g_total T.F_total.kp T.B_total .nil pass0 (pa_cons (pv 2) pa_nil)) (pe_tup (pa_cons pe_int (pa_cons pe_int pa_nil))) (nomark _)) (pss_one (ps_raise rfl (takes_of rfl rfl rfl rfl) (pmk_oex T.x_Misfit T.i_Misfit T.y_Misfit (G_Misfit_init T) (hr.mono (by decide)) T.B_Misfit_init .nil pass0 rfl T.g_Misfit (pa_cons pe_str pa_nil)))) pss_nil)
      (pss_one (ps_ret (pv 2))))))), ?_⟩
    refine isi_lt rfl (fun H' e => tyx_l (e _ _ ha)) kit_ll fun p hp => ⟨_, rfl, iteF ?_⟩
    have s1 := same_new (o := HO.tup [.ty "list", .ty "tuple"]) hp
    refine ⟨_, rfl, a, _, rfl, .inl (SqL.of (s1 _ _ ha)), _, _, rfl, rfl, _, rfl, ?_⟩
    rw [decide_eq_true (show (1 : Int) ≤ (xs.length : Int) by omega)]
    refine iteT ⟨_, rfl, _, _, rfl, rfl, _, rfl, ?_⟩
    rw [decide_eq_true (show (xs.length : Int) ≤ 6 by omega)]
    refine iteF ?_
    have hz : xs.length ≤ sizeLine := by rw [sizeLine_eq]; omega
    refine ⟨_, rfl, a, rfl, ⟨_, SqL.of (s1 _ _ ha)⟩, fun D hD => lc_pure (walk_list (K := K) (a := a) (xs := xs)) (fun i y _ => y = V.bl true) hD (fun H e => SqL.of (e _ _ (s1 _ _ ha))) (fun _ _ _ _ r _ => r) hz (fun i x H2 H3 hi e y Q2 q2 => ?_) (fun ys H2 e2 hy hyl hys => ?_)⟩
    · obtain ⟨rfl, hxi⟩ := y
      obtain ⟨p, q, hs, hp0, hq0, _⟩ := (hx i x hxi).same (s1.trans e)
      refine ⟨rfl, _, rfl, x, true, rfl, .inl ⟨_, _, _, _, hs, rfl, rfl, (decide_eq_true hq0).symm⟩, fun H' e' => ⟨_, rfl, iteT ?_⟩⟩
      refine ⟨_, rfl, sq_ix (hs.same e') at0 ⟨_, _, rfl, rfl, q2 _ _ e' ?_⟩⟩
      show V.bl (decide (0 < p)) = _
      rw [decide_eq_true hp0]
    · have e3 := allB (f := fun _ => true) hyl hys
      refine ⟨D, _, rfl, SqL.of (by rw [hy, e3]), _, rfl, ?_⟩
      rw [all_true (fun _ _ => rfl)]
      refine iteF ?_
      have s2 := s1.trans e2
      refine ⟨_, rfl, a, rfl, ⟨_, SqL.of (s2 _ _ ha)⟩, fun D hD => lc_pure (walk_list (K := K) (a := a) (xs := xs)) (fun i y H' => Tv H' y (tI (rd (ms.getD i 0) W))) hD (fun H e => SqL.of (e _ _ (s2 _ _ ha))) (fun _ _ _ _ r st => r.stab st) hz (fun i x H3 H4 hi e4 y Q2 q3 => ?_) (fun ys H3 e4 hy hyl hys => ?_)⟩
      · obtain ⟨rfl, hxi⟩ := y
        obtain ⟨p, q, hs, hp0, hq0, hq1, hrd⟩ := (hx i x hxi).same (s2.trans e4)
        refine ⟨rfl, _, rfl, sq_ix hs at0 ⟨_, rfl, sq_ix hs at1 ⟨p, q, rfl, hq0, by omega, fun H' t e' tv => q3 _ _ e' ?_⟩⟩⟩
        rw [← hrd]
        exact tv
      · have s3 := s2.trans e4
        have fr : FrL H3 ys W ms := ⟨by rw [hyl, hl], hys⟩
        refine ⟨_, rfl, D, ys, ms, W, rfl, hy, fr, hW, hW2, by omega, hm, fun H4 r e5 tr => ?_⟩
        refine ⟨by show 2 ≤ sizeLine; decide, fun t ht => ?_⟩
        have n1 := same_new (o := HO.tup [.int 1, .int 1]) ht
        refine ⟨tI (rd ms.sum W), tI [1, 1], (tr.same n1).dp, dp_tI (SqT.of upd_same), shp_tI _, shp_tI _, _, rfl, ?_⟩
        rw [eqv_tI]
        by_cases hs : ms.sum = W
        · rw [decide_eq_true ((rd_one hW).mpr hs)]
          exact iteF ⟨_, rfl, q1 hs _ D ys (s3.trans (e5.trans n1)) ((e5.trans n1) _ _ hy) ((fr.same e5).same n1)⟩
        · rw [decide_eq_false (fun z => hs ((rd_one hW).mp z))]
          refine iteT ?_
          exact raise1 ((q2 hs).same (s3.trans (e5.trans n1)))
end
end K91
end
section
set_option Elab.async false
set_option linter.all false
set_option maxRecDepth 100000
set_option maxHeartbeats 4000000
namespace K91
open PySem PySem.Spec PyProof.Rows L2 KB M1 M2
section
variable {P : Program} {w : World} {K : PySem.W.Frag} {mg : Str → Option Value} {base : Heap} {A : Ad}
def sp_need_shares_t (A : Ad) : Sp := fun vs H Q E => ∃ (a : Addr) (xs : List V) (W : Int) (ms : List Int), vs = [.ref a, .int 6] ∧ H a = some (.tup xs) ∧ ShL H xs W ms ∧
  (ms.sum = W → ∀ H' l ys, Same H H' → H' l = some (.lst ys) → FrL H' ys W ms → Q (.ref l) H') ∧ (ms.sum ≠ W → Out H E A.C_Misfit [("part", .str "shares")])
theorem G_need_shares_t (T : Txt K mg A) : FnOk P w K mg base (L2.CX P w) 4 A.f_need_shares A.d_need_shares ["value", "most"] (sp_need_shares_t A) := by
  refine T.F_need_shares.okX sc_need_shares (fun vs H Q E h => ?_) (fun cdv A' outer s H vs Q E hr h => ?_)
  · obtain ⟨a, xs, W, ms, rfl, _⟩ := h
    rfl
  · obtain ⟨a, xs, W, ms, rfl, ha, ⟨hl, x1, x6, hW, hW2, hm, hx⟩, q1, q2⟩ := h
    have nd := sc_need_shares.nd
    refine ⟨_, (pss_cons (ps_if (PW.pt (pw_or (pt_not (pt_val (pe_callB (c_isiT (K := K) rfl) (by rfl) T.b_isinstance (by decide +kernel) (pa_cons (pv 0) (pa_cons (pe_tup (pa_cons (pe_ty_list (by rfl) T.b_list) (pa_cons (pe_ty_tuple (by rfl) T.b_tuple) pa_nil))) pa_nil))))) (pw_or1 (pt_not (pt_chain op_le op_le pe_int (pe_callB (c_len (K := K) rfl) (by rfl) T.b_len (by decide +kernel) (pa_cons (pv 0) pa_nil)) (pv 1)))))) (pss_one (ps_raise rfl (takes_of rfl rfl rfl rfl) (pmk_oex T.x_BadValue T.i_BadValue T.y_BadValue (G_BadValue_init T) (hr.mono (by decide)) T.B_BadValue_init .nil pass0 rfl T.g_BadValue (pa_cons pe_str pa_nil)))) pss_nil)
      (pss_cons (ps_if (pt_not (pt_val (pe_callB (c_all (K := K) rfl rfl) (by rfl) T.b_all (by decide +kernel) (pa_cons (pe_lc (own := [("one", 3)]) (by rfl) nd (pit (K := K) rfl (pv 0)) (blkOk_by (own := [("one", 3)]) (N := N_need_shares) (sc := defScope s_need_shares) (by decide +kernel)) (fun _ _ _ _ _ => (pg_name (i := 3) nd rfl (Or.inl rfl))) (fun _ _ _ _ _ => pts_nil) (fun _ _ _ _ _ => (pe_and (pe_call (G_is_fraction T) (hr.mono (by decide)) rfl T.g_is_fraction T.F_is_fraction.kp T.B_is_fraction .nil pass0 (pa_cons (pv 3) pa_nil)) (pe_one (pe_cmpR op_gt (pe_ix (ixs (K := K) rfl) (pv 3) pe_int (fun _ _ => rfl)) pe_int (nomark _)))))) pa_nil)))) (pss_one (ps_raise rfl (takes_of rfl rfl rfl rfl) (pmk_oex T.x_BadValue T.i_BadValue T.y_BadValue (G_BadValue_init T) (hr.mono (by decide)) T.B_BadValue_init .nil pass0 rfl T.g_BadValue (pa_cons pe_str pa_nil)))) pss_nil)
      (pss_cons (ps_setLc (i := 2) (own := [("one", 3)]) (by rfl) nd rfl rfl (sw_true rfl rfl rfl (by decide +kernel)) (pit (K := K) rfl (pv 0)) (blkOk_by (own := [("one", 3)]) (N := N_need_shares) (sc := defScope s_need_shares) (by decide +kernel)) (fun _ _ _ _ _ => (pg_name (i := 3) nd rfl (Or.inl rfl))) (fun _ _ _ _ _ => pts_nil) (fun _ _ _ _ _ => (pe_call (G_reduced T) (hr.mono (by decide)) rfl T.g_reduced T.F_reduced.kp T.B_reduced .nil pass0 (pa_cons (pe_ix (ixs (K := K) rfl) (pv 3) pe_int (fun _ _ => rfl)) (pa_cons (pe_ix (ixs (K := K) rfl) (pv 3) pe_int (fun _ _ => rfl)) pa_nil)))))
      (pss_cons (ps_if (pt_cmpR (o_neD (K := K) rfl hr.units) (pe_call (G_total T) (hr.mono (by decide)) rfl T.g_total T.F_total.kp T.B_total .nil pass0 (pa_cons (pv 2) pa_nil)) (pe_tup (pa_cons pe_int (pa_cons pe_int pa_nil))) (nomark _)) (pss_one (ps_raise rfl (takes_of rfl rfl rfl rfl) (pmk_oex T.x_Misfit T.i_Misfit T.y_Misfit (G_Misfit_init T) (hr.mono (by decide)) T.B_Misfit_init .nil pass0 rfl T.g_Misfit (pa_cons pe_str pa_nil)))) pss_nil)
      (pss_one (ps_ret (pv 2))))))), ?_⟩
    refine isi_lt rfl (fun H' e => tyx_t (e _ _ ha)) kit_tt fun p hp => ⟨_, rfl, iteF ?_⟩
    have s1 := same_new (o := HO.tup [.ty "list", .ty "tuple"]) hp
    refine ⟨_, rfl, a, _, rfl, .inr (SqT.of (s1 _ _ ha)), _, _, rfl, rfl, _, rfl, ?_⟩
    rw [decide_eq_true (show (1 : Int) ≤ (xs.length : Int) by omega)]
    refine iteT ⟨_, rfl, _, _, rfl, rfl, _, rfl, ?_⟩
    rw [decide_eq_true (show (xs.length : Int) ≤ 6 by omega)]
    refine iteF ?_
    have hz : xs.length ≤ sizeLine := by rw [sizeLine_eq]; omega
    refine ⟨_, rfl, a, rfl, ⟨_, SqT.of (s1 _ _ ha)⟩, fun D hD => lc_pure (walk_tup (K := K) (a := a) (xs := xs)) (fun i y _ => y = V.bl true) hD (fun H e => SqT.of (e _ _ (s1 _ _ ha))) (fun _ _ _ _ r _ => r) hz (fun i x H2 H3 hi e y Q2 q2 => ?_) (fun ys H2 e2 hy hyl hys => ?_)⟩
    · obtain ⟨rfl, hxi⟩ := y
      obtain ⟨p, q, hs, hp0, hq0, _⟩ := (hx i x hxi).same (s1.trans e)
      refine ⟨rfl, _, rfl, x, true, rfl, .inl ⟨_, _, _, _, hs, rfl, rfl, (decide_eq_true hq0).symm⟩, fun H' e' => ⟨_, rfl, iteT ?_⟩⟩
      refine ⟨_, rfl, sq_ix (hs.same e') at0 ⟨_, _, rfl, rfl, q2 _ _ e' ?_⟩⟩
      show V.bl (decide (0 < p)) = _
      rw [decide_eq_true hp0]
    · have e3 := allB (f := fun _ => true) hyl hys
      refine ⟨D, _, rfl, SqL.of (by rw [hy, e3]), _, rfl, ?_⟩
      rw [all_true (fun _ _ => rfl)]
      refine iteF ?_
      have s2 := s1.trans e2
      refine ⟨_, rfl, a, rfl, ⟨_, SqT.of (s2 _ _ ha)⟩, fun D hD => lc_pure (walk_tup (K := K) (a := a) (xs := xs)) (fun i y H' => Tv H' y (tI (rd (ms.getD i 0) W))) hD (fun H e => SqT.of (e _ _ (s2 _ _ ha))) (fun _ _ _ _ r st => r.stab st) hz (fun i x H3 H4 hi e4 y Q2 q3 => ?_) (fun ys H3 e4 hy hyl hys => ?_)⟩
      · obtain ⟨rfl, hxi⟩ := y
        obtain ⟨p, q, hs, hp0, hq0, hq1, hrd⟩ := (hx i x hxi).same (s2.trans e4)
        refine ⟨rfl, _, rfl, sq_ix hs at0 ⟨_, rfl, sq_ix hs at1 ⟨p, q, rfl, hq0, by omega, fun H' t e' tv => q3 _ _ e' ?_⟩⟩⟩
        rw [← hrd]
        exact tv
      · have s3 := s2.trans e4
        have fr : FrL H3 ys W ms := ⟨by rw [hyl, hl], hys⟩
        refine ⟨_, rfl, D, ys, ms, W, rfl, hy, fr, hW, hW2, by omega, hm, fun H4 r e5 tr => ?_⟩
        refine ⟨by show 2 ≤ sizeLine; decide, fun t ht => ?_⟩
        have n1 := same_new (o := HO.tup [.int 1, .int 1]) ht
        refine ⟨tI (rd ms.sum W), tI [1, 1], (tr.same n1).dp, dp_tI (SqT.of upd_same), shp_tI _, shp_tI _, _, rfl, ?_⟩
        rw [eqv_tI]
        by_cases hs : ms.sum = W
        · rw [decide_eq_true ((rd_one hW).mpr hs)]
          exact iteF ⟨_, rfl, q1 hs _ D ys (s3.trans (e5.trans n1)) ((e5.trans n1) _ _ hy) ((fr.same e5).same n1)⟩
        · rw [decide_eq_false (fun z => hs ((rd_one hW).mp z))]
          refine iteT ?_
          exact raise1 ((q2 hs).same (s3.trans (e5.trans n1)))
/-! shares that are not well written -/
/-- one that is looked at, and whether it is a share -/
def Look (H : Hp) (x : V) (r : Bool) : Prop := (∃ p q : Int, Sq H x [.int p, .int q] ∧ r = (decide (0 < q) && decide (0 < p))) ∨
  (r = false ∧ ((∃ v0 v1 b0 b1, Sq H x [v0, v1] ∧ isI v0 = some b0 ∧ isI v1 = some b1 ∧ fr2 v0 v1 = false) ∨ (∃ xs, Sq H x xs ∧ xs.length ≠ 2) ∨ x = .non ∨ ∃ s, x = .str s))
theorem Look.same {H H' : Hp} {x : V} {r : Bool} (h : Look H x r) (e : Same H H') : Look H' x r := by
  rcases h with ⟨p, q, h1, h2⟩ | ⟨h1, ⟨v0, v1, b0, b1, h2, h3⟩ | ⟨xs, h2, h3⟩ | h2 | h2⟩
  · exact .inl ⟨p, q, h1.same e, h2⟩
  · exact .inr ⟨h1, .inl ⟨v0, v1, b0, b1, h2.same e, h3⟩⟩
  · exact .inr ⟨h1, .inr (.inl ⟨xs, h2.same e, h3⟩)⟩
  · exact .inr ⟨h1, .inr (.inr (.inl h2))⟩
  · exact .inr ⟨h1, .inr (.inr (.inr h2))⟩
/-- no list -/
def NoL (H : Hp) (v : V) : Prop := v = .non ∨ (∃ i, v = .int i) ∨ (∃ s, v = .str s) ∨ ∃ d kvs, v = .ref d ∧ H d = some (.dK kvs)
def BadSh (H : Hp) (v : V) : Prop := NoL H v ∨ ∃ (a : Addr) (xs : List V), v = .ref a ∧ H a = some (.lst xs) ∧ ((xs.length = 0 ∨ (6 < xs.length ∧ xs.length ≤ 100)) ∨ (xs.length ≤ 6 ∧ ∃ f : Nat → Bool, (∀ (i : Nat) (x : V), xs[i]? = some x → Look H x (f i)) ∧ ∃ i, i < xs.length ∧ f i = false))
def sp_need_shares_b (A : Ad) : Sp := fun vs H Q E => ∃ v, vs = [v, .int 6] ∧ BadSh H v ∧ Out H E A.C_BadValue [("part", .str "shares")]
theorem all_no {n i : Nat} {f : Nat → Bool} (hi : i < n) (h : f i = false) : ((List.range n).map f).all id = false := by
  cases z : ((List.range n).map f).all id with
  | false => rfl
  | true =>
    simp only [List.all_eq_true, List.mem_map, List.mem_range] at z
    have := z _ ⟨i, hi, rfl⟩
    simp [h] at this
theorem G_need_shares_b (T : Txt K mg A) : FnOk P w K mg base (L2.CX P w) 4 A.f_need_shares A.d_need_shares ["value", "most"] (sp_need_shares_b A) := by
  refine T.F_need_shares.okX sc_need_shares (fun vs H Q E h => ?_) (fun cdv A' outer s H vs Q E hr h => ?_)
  · obtain ⟨v, rfl, _⟩ := h
    rfl
  · obtain ⟨v, rfl, hb, q⟩ := h
    have nd := sc_need_shares.nd
    refine ⟨_, (pss_cons (ps_if (PW.pt (pw_or (pt_not (pt_val (pe_callB (c_isiT (K := K) rfl) (by rfl) T.b_isinstance (by decide +kernel) (pa_cons (pv 0) (pa_cons (pe_tup (pa_cons (pe_ty_list (by rfl) T.b_list) (pa_cons (pe_ty_tuple (by rfl) T.b_tuple) pa_nil))) pa_nil))))) (pw_or1 (pt_not (pt_chain op_le op_le pe_int (pe_callB (c_len (K := K) rfl) (by rfl) T.b_len (by decide +kernel) (pa_cons (pv 0) pa_nil)) (pv 1)))))) (pss_one (ps_raise rfl (takes_of rfl rfl rfl rfl) (pmk_oex T.x_BadValue T.i_BadValue T.y_BadValue (G_BadValue_init T) (hr.mono (by decide)) T.B_BadValue_init .nil pass0 rfl T.g_BadValue (pa_cons pe_str pa_nil)))) pss_nil)
      (pss_cons (ps_if (pt_not (pt_val (pe_callB (c_all (K := K) rfl rfl) (by rfl) T.b_all (by decide +kernel) (pa_cons (pe_lc (own := [("one", 3)]) (by rfl) nd (pil (K := K) rfl (pv 0)) (blkOk_by (own := [("one", 3)]) (N := N_need_shares) (sc := defScope s_need_shares) (by decide +kernel)) (fun _ _ _ _ _ => (pg_name (i := 3) nd rfl (Or.inl rfl))) (fun _ _ _ _ _ => pts_nil) (fun _ _ _ _ _ => (pe_and (pe_call (G_is_fraction T) (hr.mono (by decide)) rfl T.g_is_fraction T.F_is_fraction.kp T.B_is_fraction .nil pass0 (pa_cons (pv 3) pa_nil)) (pe_one (pe_cmpR op_gt (pe_ix (ixs (K := K) rfl) (pv 3) pe_int (fun _ _ => rfl)) pe_int (nomark _)))))) pa_nil)))) (pss_one (ps_raise rfl (takes_of rfl rfl rfl rfl) (pmk_oex T.x_BadValue T.i_BadValue T.y_BadValue (G_BadValue_init T) (hr.mono (by decide)) T.B_BadValue_init .nil pass0 rfl T.g_BadValue (pa_cons pe_str pa_nil)))) pss_nil)
      (pss_cons (ps_setLc (i := 2) (own := [("one", 3)]) (by rfl) nd rfl rfl (sw_true rfl rfl rfl (by decide +kernel)) (pil (K := K) rfl (pv 0)) (blkOk_by (own := [("one", 3)]) (N := N_need_shares) (sc := defScope s_need_shares) (by decide +kernel)) (fun _ _ _ _ _ => (pg_name (i := 3) nd rfl (Or.inl rfl))) (fun _ _ _ _ _ => pts_nil) (fun _ _ _ _ _ => (pe_call (G_reduced T) (hr.mono (by decide)) rfl T.g_reduced T.F_reduced.kp T.B_reduced .nil pass0 (pa_cons (pe_ix (ixs (K := K) rfl) (pv 3) pe_int (fun _ _ => rfl)) (pa_cons (pe_ix (ixs (K := K) rfl) (pv 3) pe_int (fun _ _ => rfl)) pa_nil)))))
      (pss_cons (ps_if (pt_cmpR (o_neD (K := K) rfl hr.units) (pe_call (G_total T) (hr.mono (by decide)) rfl T.g_total T.F_total.kp T.B_total .nil pass0 (pa_cons (pv 2) pa_nil)) (pe_tup (pa_cons pe_int (pa_cons pe_int pa_nil))) (nomark _)) (pss_one (ps_raise rfl (takes_of rfl rfl rfl rfl) (pmk_oex T.x_Misfit T.i_Misfit T.y_Misfit (G_Misfit_init T) (hr.mono (by decide)) T.B_Misfit_init .nil pass0 rfl T.g_Misfit (pa_cons pe_str pa_nil)))) pss_nil)
      (pss_one (ps_ret (pv 2))))))), ?_⟩
    rcases hb with hb | ⟨a, xs, rfl, ha, hb⟩
    · have no : ∃ t : Value, (∀ H', Same H H' → TyX K H' v t) ∧ PySem.W.kitAny K t [.type "list", .type "tuple"] = some false := by
        rcases hb with rfl | ⟨i, rfl⟩ | ⟨s, rfl⟩ | ⟨d, kvs, rfl, hd⟩
        · exact ⟨_, fun H' e => .base .non, kit_nn⟩
        · exact ⟨_, fun H' e => .base (.int i), kit_ii⟩
        · exact ⟨_, fun H' e => .base (.str s), kit_ss⟩
        · exact ⟨_, fun H' e => .base (.dK (e _ _ hd)), kit_dd⟩
      obtain ⟨t, ty, hk⟩ := no
      refine isi_lt rfl ty hk fun p hp => ⟨_, rfl, iteT (iteT ?_)⟩
      exact raise1 (q.same (same_new hp))
    · refine isi_lt rfl (fun H' e => tyx_l (e _ _ ha)) kit_ll fun p hp => ⟨_, rfl, iteF ?_⟩
      have s1 := same_new (o := HO.tup [.ty "list", .ty "tuple"]) hp
      refine ⟨_, rfl, a, _, rfl, .inl (SqL.of (s1 _ _ ha)), _, _, rfl, rfl, _, rfl, ?_⟩
      rcases hb with (hb | hb) | ⟨x6, f, hx, i0, hi0, hf0⟩
      · rw [decide_eq_false (show ¬ (1 : Int) ≤ (xs.length : Int) by omega)]
        refine iteF ⟨_, rfl, iteT ?_⟩
        exact raise1 (q.same s1)
      · rw [decide_eq_true (show (1 : Int) ≤ (xs.length : Int) by omega)]
        refine iteT ⟨_, rfl, _, _, rfl, rfl, _, rfl, ?_⟩
        rw [decide_eq_false (show ¬ (xs.length : Int) ≤ 6 by omega)]
        refine iteT ?_
        exact raise1 (q.same s1)
      · rw [decide_eq_true (show (1 : Int) ≤ (xs.length : Int) by omega)]
        refine iteT ⟨_, rfl, _, _, rfl, rfl, _, rfl, ?_⟩
        rw [decide_eq_true (show (xs.length : Int) ≤ 6 by omega)]
        refine iteF ?_
        have hz : xs.length ≤ sizeLine := by rw [sizeLine_eq]; omega
        refine ⟨_, rfl, a, rfl, ⟨_, SqL.of (s1 _ _ ha)⟩, fun D hD => lc_pure (walk_list (K := K) (a := a) (xs := xs)) (fun i y _ => y = V.bl (f i)) hD (fun H e => SqL.of (e _ _ (s1 _ _ ha))) (fun _ _ _ _ r _ => r) hz (fun i x H2 H3 hi e y Q2 q2 => ?_) (fun ys H2 e2 hy hyl hys => ?_)⟩
        · obtain ⟨rfl, hxi⟩ := y
          rcases (hx i x hxi).same (s1.trans e) with ⟨p, r, hs, hfi⟩ | ⟨hfi, hr⟩
          · refine ⟨rfl, _, rfl, x, decide (0 < r), rfl, .inl ⟨_, _, _, _, hs, rfl, rfl, rfl⟩, fun H' e' => ⟨_, rfl, ?_⟩⟩
            by_cases hr0 : 0 < r
            · rw [decide_eq_true hr0] at hfi ⊢
              refine iteT ⟨_, rfl, sq_ix (hs.same e') at0 ⟨_, _, rfl, rfl, q2 _ _ e' ?_⟩⟩
              rw [hfi]
              rfl
            · rw [decide_eq_false hr0] at hfi ⊢
              refine iteF (q2 _ _ e' ?_)
              rw [hfi]
              rfl
          · refine ⟨rfl, _, rfl, x, false, rfl, ?_, fun H' e' => ⟨_, rfl, iteF (q2 _ _ e' (by rw [hfi]))⟩⟩
            rcases hr with ⟨v0, v1, b0, b1, h2, h3, h4, h5⟩ | ⟨xs, h2, h3⟩ | h2 | h2
            · exact .inl ⟨v0, v1, b0, b1, h2, h3, h4, h5.symm⟩
            · exact .inr (.inl ⟨xs, h2, h3, rfl⟩)
            · exact .inr (.inr (.inl ⟨h2, rfl⟩))
            · exact .inr (.inr (.inr ⟨h2, rfl⟩))
        · have e3 := allB hyl hys
          refine ⟨D, _, rfl, SqL.of (by rw [hy, e3]), _, rfl, ?_⟩
          rw [all_no hi0 hf0]
          refine iteT ?_
          exact raise1 (q.same (s1.trans e2))
theorem fnOr {CX : CXT} {k : Nat} {f : Addr} {fd : FuncData} {ps : List Str} {sp sp' : Sp} (F : FnOk P w K mg base CX k f fd ps sp) (F' : FnOk P w K mg base CX k f fd ps sp') : FnOk P w K mg base CX k f fd ps (fun vs H Q E => sp vs H Q E ∨ sp' vs H Q E) :=
  ⟨fun vs H Q E q => q.elim (F.len vs H Q E) (F'.len vs H Q E), fun A outer s H args us vs Q E hr he hb hv hs => hs.elim (F.run A outer s H args us vs Q E hr he hb hv) (F'.run A outer s H args us vs Q E hr he hb hv)⟩
def sp_need_shares (A : Ad) : Sp := fun vs H Q E => sp_need_shares_l A vs H Q E ∨ sp_need_shares_t A vs H Q E ∨ sp_need_shares_b A vs H Q E
theorem G_need_shares (T : Txt K mg A) : FnOk P w K mg base (L2.CX P w) 4 A.f_need_shares A.d_need_shares ["value", "most"] (sp_need_shares A) := fnOr (G_need_shares_l T) (fnOr (G_need_shares_t T) (G_need_shares_b T))
end
end K91
end
section
set_option Elab.async false
set_option linter.all false
set_option maxRecDepth 100000
set_option maxHeartbeats 4000000
namespace K91
open PySem PySem.Spec PyProof.Rows L2 KB M1 M2
theorem rd_back {m W : Int} (hW : 0 < W) : m / (Int.gcd m W : Int) * (W / (W / (Int.gcd m W : Int))) = m := by
  obtain ⟨a, b, hm, hb', hb, _, e1, e2⟩ := split (p := m) hW
  rw [e1, e2]
  have : W / b = (Int.gcd m W : Int) := by
    conv => lhs; lhs; rw [hb']
    exact Int.mul_ediv_cancel _ (by omega)
  rw [this, Int.mul_comm]
  exact hm.symm
theorem S_list (ms : List Int) : S ms.length (fun i => ms.getD i 0) = ms.sum := by
  unfold S
  congr 1
  apply List.ext_getElem
  · simp
  · intro i h1 h2
    simp [h2]
section
variable {P : Program} {w : World} {K : PySem.W.Frag} {mg : Str → Option Value} {base : Heap} {A : Ad}
abbrev N_evenly : List Str := ["shares", "found", "whole", "one"]
theorem sc_evenly : FnScope N_evenly ["shares"] (defScope s_evenly) := ⟨rfl, rfl, rfl, by decide +kernel, rfl, by decide +kernel, by decide +kernel⟩
/-- shares that make a part of W rows -/
structure Fine (H : Hp) (v : V) (W : Int) (ms : List Int) : Prop where
  at_ : ∃ (a : Addr) (xs : List V), v = .ref a ∧ (H a = some (.lst xs) ∨ H a = some (.tup xs)) ∧ ShL H xs W ms
  sum : ms.sum = W
  pos : ∀ m ∈ ms, 0 < m
  whole : lcmAll (ms.map fun m => W / (Int.gcd m W : Int)) = W
def sp_evenly (A : Ad) : Sp := fun vs H Q E => ∃ v, vs = [v] ∧
  ((∃ W ms, Fine H v W ms ∧ ((W ≤ 400 ∧ ∀ H' u, Same H H' → PartAt A H' u ms.length (evRows W.toNat ms.length fun i => ms.getD i 0) → Q u H') ∨ (400 < W ∧ Out H E A.C_TooMany [("most", .int 400), ("what", .str "positions")]))) ∨
  (∃ a xs W ms, v = .ref a ∧ H a = some (.lst xs) ∧ ShL H xs W ms ∧ ms.sum ≠ W ∧ Out H E A.C_Misfit [("part", .str "shares")]) ∨
  (BadSh H v ∧ Out H E A.C_BadValue [("part", .str "shares")]))
theorem shares_fine {H : Hp} {a : Addr} {xs : List V} {W : Int} {ms : List Int} {Q : VK} {E : XK} (ha : H a = some (.lst xs) ∨ H a = some (.tup xs)) (sh : ShL H xs W ms) (hsum : ms.sum = W)
    (k : ∀ H' l ys, Same H H' → H' l = some (.lst ys) → FrL H' ys W ms → Q (.ref l) H') : sp_need_shares A [.ref a, .int 6] H Q E := by
  rcases ha with ha | ha
  · exact .inl ⟨a, xs, W, ms, rfl, ha, sh, fun _ => k, fun z => absurd hsum z⟩
  · exact .inr (.inl ⟨a, xs, W, ms, rfl, ha, sh, fun _ => k, fun z => absurd hsum z⟩)
theorem G_evenly (T : Txt K mg A) : FnOk P w K mg base (L2.CX P w) 9 A.f_evenly A.d_evenly ["shares"] (sp_evenly A) := by
  refine T.F_evenly.okX sc_evenly (fun vs H Q E h => ?_) (fun cdv A' outer s H vs Q E hr h => ?_)
  · obtain ⟨v, rfl, _⟩ := h
    rfl
  · obtain ⟨v, rfl, h⟩ := h
    have nd := sc_evenly.nd
    refine ⟨_, (pss_cons (ps_set (i := 1) nd rfl (Or.inl rfl) (pe_call (G_need_shares T) (hr.mono (by decide)) rfl T.g_need_shares T.F_need_shares.kp T.B_need_shares .nil (passes_call (takes_of rfl rfl rfl rfl) (fun _ _ _ _ h => h)) (pa_cons (pv 0) (pa_cons (pe_glob (v := .int 6) rfl T.c_MOST_OUTS ⟨_, rfl⟩) pa_nil))))
      (pss_cons (ps_set (i := 2) nd rfl (Or.inr rfl) (pe_call (G_common_of T) (hr.mono (by decide)) rfl T.g_common_of T.F_common_of.kp T.B_common_of .nil pass0 (pa_cons (pv 1) pa_nil)))
      (pss_cons (ps_if (pt_cmpR op_gt (pv 2) (pe_glob (v := .int 400) rfl T.c_MOST_POSITIONS ⟨_, rfl⟩) (nomark _)) (pss_one (ps_raise rfl (takes_of rfl rfl rfl rfl) (pmk_oex T.x_TooMany T.i_TooMany T.y_TooMany (G_TooMany_init T) (hr.mono (by decide)) T.B_TooMany_init .nil pass0 rfl T.g_TooMany (pa_cons pe_str (pa_cons (pe_glob (v := .int 400) rfl T.c_MOST_POSITIONS ⟨_, rfl⟩) pa_nil))))) pss_nil)
      (pss_one (ps_ret (pe_call (G_spread_part T) (hr.mono (by decide)) rfl T.g_spread_part T.F_spread_part.kp T.B_spread_part .nil pass0 (pa_cons (pe_lc (own := [("one", 3)]) (by rfl) nd (pil (K := K) rfl (pv 1)) (blkOk_by (own := [("one", 3)]) (N := N_evenly) (sc := defScope s_evenly) (by decide +kernel)) (fun _ _ _ _ _ => (pg_name (i := 3) nd rfl (Or.inl rfl))) (fun _ _ _ _ _ => pts_nil) (fun _ _ _ _ _ => (pe_op op_mul (pe_ix (ixt (K := K) rfl) (pv 3) pe_int (fun _ _ => rfl)) (pe_op op_fdivW (pv 2) (pe_ix (ixt (K := K) rfl) (pv 3) pe_int (fun _ _ => rfl)))))) pa_nil))))))), ?_⟩
    rcases h with ⟨W, ms, ⟨⟨a, xs, rfl, ha, sh⟩, hsum, hpos, hwh⟩, q⟩ | ⟨a, xs, W, ms, rfl, ha, sh, hne, q⟩ | ⟨hb, q⟩
    · obtain ⟨hl, x1, x6, hW, hW2, hm, hx⟩ := id sh
      refine ⟨_, rfl, shares_fine ha sh hsum fun H1 l ys e1 hl1 fr => ?_⟩
      refine ⟨_, rfl, l, ys, ms, W, rfl, hl1, fr, hW, hW2, fun H2 e2 => ?_⟩
      rw [hwh]
      refine ⟨_, rfl, _, _, rfl, rfl, _, rfl, ?_⟩
      rcases q with ⟨h4, q⟩ | ⟨h4, q⟩
      · rw [decide_eq_false (show ¬ 400 < W by omega)]
        refine iteF ?_
        have hl2 := e2 _ _ hl1
        have fr2 := fr.same e2
        refine ⟨_, rfl, l, rfl, ⟨_, SqL.of hl2⟩, fun D hD => lc_pure (walk_list (K := K) (a := l) (xs := ys)) (fun i y _ => y = V.int (ms.getD i 0)) hD (fun H e => SqL.of (e _ _ hl2)) (fun _ _ _ _ r _ => r) (by rw [fr.1, ← hl, sizeLine_eq]; omega) (fun i x H3 H4 hi e y Q2 q2 => ?_) (fun zs H3 e3 hy hyl hys => ?_)⟩
        · obtain ⟨rfl, hxi⟩ := y
          obtain ⟨b, rfl, hb⟩ := tI_tv ((fr2.2 i x hxi).same e)
          have d1 := rd_den (m := ms.getD i 0) hW
          have nb := natAbs_ediv_le (ms.getD i 0) (Int.gcd (ms.getD i 0) W)
          have him : i < ms.length := by rw [← fr.1]; exact (List.getElem?_eq_some_iff.mp hxi).1
          have hmi := hm (ms.getD i 0) (by simp [him])
          refine ⟨rfl, _, rfl, b, _, _, _, rfl, rfl, SqT.of hb, rfl, _, rfl, _, rfl, b, _, _, _, rfl, rfl, SqT.of hb, rfl, _, _, rfl, rfl, divW (b := 0) d1.1 (by omega), _, _, rfl, rfl, mulOk (by omega), q2 _ _ (Same.refl _) ?_⟩
          show V.int (_ * (W / (W / _))) = _
          rw [rd_back hW]
        · have ez := ints_of hyl hys
          rw [fr.1] at ez
          have hn : W.toNat ≤ 400 := by omega
          have eW : ((W.toNat : Nat) : Int) = W := Int.toNat_of_nonneg (by omega)
          refine ⟨D, W.toNat, ms.length, fun i => ms.getD i 0, rfl, ?_, by omega, hn, by omega, by omega, ?_, fun i hi => ?_, fun H' u e4 pt => q H' u (e1.trans (e2.trans (e3.trans e4))) pt⟩
          · rw [hy, ez, List.map_map]
            rfl
          · rw [S_list, hsum, eW]
          · exact hpos _ (by simp [hi])
      · rw [decide_eq_true h4]
        refine iteT ?_
        exact raise2 (q.same (e1.trans e2))
    · exact ⟨_, rfl, .inl ⟨a, xs, W, ms, rfl, ha, sh, fun z => absurd z hne, fun _ => q⟩⟩
    · exact ⟨_, rfl, .inr (.inr ⟨v, rfl, hb, q⟩)⟩
end
end K91
end
section
set_option Elab.async false
set_option linter.all false
set_option maxRecDepth 100000
set_option maxHeartbeats 4000000
namespace K91
open PySem PySem.Spec PyProof.Rows L2 KB M1 M2
section
variable {P : Program} {w : World} {K : PySem.W.Frag} {mg : Str → Option Value} {base : Heap} {A : Ad}
/-! begun -/
abbrev N_begun : List Str := ["part", "position", "_", "door"]
theorem sc_begun : FnScope N_begun ["part", "position"] (defScope s_begun) := ⟨rfl, rfl, rfl, by decide +kernel, rfl, by decide +kernel, by decide +kernel⟩
def sp_begun : Sp := fun vs H Q _ => ∃ (v : V) (o : Nat) (rs : List Row), vs = [v, .int 0] ∧ PartAt A H v o rs ∧ Cyc rs o ∧ Q (.int 0) H
theorem G_begun (T : Txt K mg A) : FnOk P w K mg base CX0 1 A.f_begun A.d_begun ["part", "position"] (sp_begun (A := A)) := by
  refine T.F_begun.ok sc_begun (fun vs H Q E h => ?_) (fun cdv A' outer s H vs Q E hr h => ?_)
  · obtain ⟨v, o, rs, rfl, _⟩ := h
    rfl
  · obtain ⟨v, o, rs, rfl, p, c, q⟩ := h
    have nd := sc_begun.nd
    obtain ⟨pa, dx, rv, rfl, h1, h2⟩ := id p
    have l4 : rs.length ≤ 400 := c.ok.2.1
    have l0 : 0 < rs.length := c.pos
    refine ⟨_, (pss_cons (ps_for PassesOwn.never rfl (pi_range1 rfl T.b_range (pa_cons (pe_fldK (K := K) rfl (pv 0) rfl) pa_nil)) (pg_name (i := 2) nd rfl (Or.inl rfl))
      (pss_one (ps_for PassesOwn.never rfl (pi_range1 rfl T.b_range (pa_cons (pe_fldK (K := K) rfl (pv 0) rfl) pa_nil)) (pg_name (i := 3) nd rfl (Or.inl rfl))
      (pss_one (ps_set (i := 1) nd rfl (Or.inl rfl) (pe_ix (ixt (K := K) rfl) (pe_ix (ixt (K := K) rfl) (pe_ix (ixt (K := K) rfl) (pe_fldK (K := K) rfl (pv 0) rfl) (pv 1) (fun _ _ => rfl)) (pv 3) (fun _ _ => rfl)) pe_int (fun _ _ => rfl)))))))
      (pss_one (ps_ret (pv 1)))), ?_⟩
    refine ⟨_, rfl, pa, _, dx, _, _, rfl, h1, T.c_Part, T.n_Part_many, pf_many _ _ _, _, rfl, by omega, by omega, for_range (lo := 0) (n := ((rs.length : Nat) : Int).toNat) (fun i σ H2 => ∃ k x y, σ = [some (.ref pa), some (.int k), x, y] ∧ H2 = H ∧ k = ((i % rs.length : Nat) : Int)) ⟨0, none, none, rfl, rfl, by rw [Nat.zero_mod]; rfl⟩ ?_ ?_⟩
    · rintro i σ H2 hi ⟨k, x, y, rfl, rfl, rfl⟩
      have hil : i < rs.length := by omega
      refine ⟨_, rfl, pa, _, dx, _, _, rfl, h1, T.c_Part, T.n_Part_doors, pf_doors _ _ _, _, rfl, by decide, by decide, for_range (lo := 0) (n := (1 : Int).toNat) (fun j σ H2' => ∃ k x y, σ = [some (.ref pa), some (.int k), x, y] ∧ H2' = H2 ∧ k = (if j = 0 then ((i % rs.length : Nat) : Int) else (((i + 1) % rs.length : Nat) : Int))) ⟨_, _, _, rfl, rfl, rfl⟩ ?_ ?_⟩
      · rintro j σ H3 hj ⟨k, x, y, rfl, rfl, hk⟩
        have hj0 : j = 0 := by
          have : (1 : Int).toNat = 1 := rfl
          omega
        subst hj0
        rw [if_pos rfl, Nat.mod_eq_of_lt hil] at hk
        subst hk
        refine row_read T rfl p rfl rfl hil fun c' d' hc hd => ?_
        exact ⟨c', _, _, _, rfl, rfl, SqT.of hc, rfl, _, _, _, rfl, rfl, by rw [if_neg (by decide)]; exact c.nx i hil⟩
      · rintro σ H3 ⟨k, x, y, rfl, rfl, rfl⟩
        exact ⟨_, _, _, rfl, rfl, by rw [if_neg (by decide)]⟩
    · rintro σ H2 ⟨k, x, y, rfl, rfl, hk⟩
      have : ((rs.length : Nat) : Int).toNat = rs.length := by omega
      rw [this, Nat.mod_self] at hk
      subst hk
      exact ⟨_, rfl, q⟩
/-! ring_of -/
abbrev N_ring_of : List Str := ["part", "position", "door", "found"]
theorem sc_ring_of : FnScope N_ring_of ["part", "position", "door"] (defScope s_ring_of) := ⟨rfl, rfl, rfl, by decide +kernel, rfl, by decide +kernel, by decide +kernel⟩
def sp_ring_of : Sp := fun vs H Q _ => ∃ (v : V) (o : Nat) (rs : List Row), vs = [v, .int 0, .int 0] ∧ PartAt A H v o rs ∧ Cyc rs o ∧ ∀ H' l, Same H H' → H' l = some (.lst (vI (fun i => (i : Int)) rs.length)) → Q (.ref l) H'
theorem G_ring_of (T : Txt K mg A) : FnOk P w K mg base CX0 1 A.f_ring_of A.d_ring_of ["part", "position", "door"] (sp_ring_of (A := A)) := by
  refine T.F_ring_of.ok sc_ring_of (fun vs H Q E h => ?_) (fun cdv A' outer s H vs Q E hr h => ?_)
  · obtain ⟨v, o, rs, rfl, _⟩ := h
    rfl
  · obtain ⟨v, o, rs, rfl, p, c, q⟩ := h
    have nd := sc_ring_of.nd
    obtain ⟨pa, dx, rv, rfl, h1, h2⟩ := id p
    have l4 : rs.length ≤ 400 := c.ok.2.1
    have l0 : 0 < rs.length := c.pos
    refine ⟨_, (pss_cons (ps_set (i := 3) nd rfl (Or.inl rfl) (pe_lst (pa_cons (pv 1) pa_nil)))
      (pss_cons (ps_while PassesOwn.never (pt_cmpR op_ne (pe_ix (ixt (K := K) rfl) (pe_ix (ixt (K := K) rfl) (pe_ix (ixt (K := K) rfl) (pe_fldK (K := K) rfl (pv 0) rfl) (pe_ix (ixl (K := K) rfl) (pv 3) (pe_un un_neg pe_int) (fun _ _ => rfl)) (fun _ _ => rfl)) (pv 2) (fun _ _ => rfl)) pe_int (fun _ _ => rfl)) (pv 1) (nomark _)) (pss_one (ps_expr (pe_bm PySem.F.plainAttrs_list PySem.F.slot_list_append PySem.F.type_list_append mt_append (pv 3) (pa_cons (pe_ix (ixt (K := K) rfl) (pe_ix (ixt (K := K) rfl) (pe_ix (ixt (K := K) rfl) (pe_fldK (K := K) rfl (pv 0) rfl) (pe_ix (ixl (K := K) rfl) (pv 3) (pe_un un_neg pe_int) (fun _ _ => rfl)) (fun _ _ => rfl)) (pv 2) (fun _ _ => rfl)) pe_int (fun _ _ => rfl)) pa_nil)))))
      (pss_one (ps_ret (pv 3))))), ?_⟩
    refine ⟨_, rfl, by show 1 ≤ sizeLine; decide, fun l hl => ?_⟩
    refine ⟨fun m σ H2 => ∃ k : Nat, σ = [some (.ref pa), some (.int 0), some (.int 0), some (.ref l)] ∧ k < rs.length ∧ m = rs.length - k ∧ Same H H2 ∧ H2 l = some (.lst (vI (fun i => (i : Int)) (k + 1))), ⟨_, 0, rfl, l0, rfl, same_new hl, upd_same⟩, ?_⟩
    rintro m σ H2 ⟨k, rfl, hk, rfl, e, hl2⟩
    have p2 := p.same e
    obtain ⟨ra, rxs, rfl, hra, hrl, hrx⟩ := rows_at (h2.same e)
    obtain ⟨b, c', d', q1, q2, q3, q4⟩ := hrx k hk
    have last : atI (vI (fun i => (i : Int)) (k + 1)) (-1) = some (V.int k) := by
      rw [vI_succ]
      exact atI_last _ _
    refine ⟨_, rfl, pa, _, dx, _, _, rfl, e _ _ h1, T.c_Part, T.n_Part_rows, pf_rows _ _ _, _, rfl, _, rfl, l, _, _, _, rfl, rfl, SqL.of hl2, last, ra, rxs, _, _, rfl, rfl, SqT.of hra, atI_nat q1, _, rfl, b, _, _, _, rfl, rfl, SqT.of q2, rfl, c', _, _, _, rfl, rfl, SqT.of q3, rfl, _, rfl, rfl, _, rfl, ?_⟩
    rw [neI, c.nx k hk]
    by_cases hlt : k + 1 < rs.length
    · rw [Nat.mod_eq_of_lt hlt, decide_eq_false (by omega)]
      refine iteT ⟨fun σ' H' => σ' = [some (.ref pa), some (.int 0), some (.int 0), some (.ref l)] ∧ Same H H' ∧ H' l = some (.lst (vI (fun i => (i : Int)) (k + 1 + 1))), ?_, ?_⟩
      · rintro σ' H' ⟨h3, h4, h5⟩
        exact ⟨rs.length - (k + 1), by omega, k + 1, h3, hlt, rfl, h4, h5⟩
      refine ⟨_, rfl, .inl ⟨rfl, _, SqL.of hl2⟩, ?_⟩
      refine ⟨_, rfl, pa, _, dx, _, _, rfl, e _ _ h1, T.c_Part, T.n_Part_rows, pf_rows _ _ _, _, rfl, _, rfl, l, _, _, _, rfl, rfl, SqL.of hl2, last, ra, rxs, _, _, rfl, rfl, SqT.of hra, atI_nat q1, _, rfl, b, _, _, _, rfl, rfl, SqT.of q2, rfl, c', _, _, _, rfl, rfl, SqT.of q3, rfl, ?_⟩
      refine ⟨l, _, _, rfl, rfl, hl2, by rw [vI_len, sizeLine_eq]; omega, rfl, same_put e hl, ?_⟩
      rw [upd_same, vI_succ _ (k + 1), c.nx k hk, Nat.mod_eq_of_lt hlt]
    · have hk1 : k + 1 = rs.length := by omega
      rw [hk1, Nat.mod_self, decide_eq_true (show (((0 : Nat)) : Int) = 0 from rfl)]
      refine iteF ⟨_, rfl, q _ l e ?_⟩
      rw [hl2, hk1]
/-! rest_in -/
abbrev N_rest_in : List Str := ["rows", "row", "begin", "found", "times", "at"]
theorem sc_rest_in : FnScope N_rest_in ["rows", "row", "begin"] (defScope s_rest_in) := ⟨rfl, rfl, rfl, by decide +kernel, rfl, by decide +kernel, by decide +kernel⟩
def sp_rest_in : Sp := fun vs H Q _ => ∃ (a b : Addr) (x : V) (m : Int), vs = [.ref a, .ref b, .int 1] ∧ H a = some (.lst [x]) ∧ H b = some (.lst [.int m]) ∧ ∀ H' t, Same H H' → Tv H' t (.tuple [tI [m], tI [0]]) → Q t H'
theorem G_rest_in (T : Txt K mg A) : FnOk P w K mg base CX0 1 A.f_rest_in A.d_rest_in ["rows", "row", "begin"] (sp_rest_in) := by
  refine T.F_rest_in.ok sc_rest_in (fun vs H Q E h => ?_) (fun cdv A' outer s H vs Q E hr h => ?_)
  · obtain ⟨a, b, x, m, rfl, _⟩ := h
    rfl
  · obtain ⟨a, b, x, m, rfl, ha, hb, q⟩ := h
    have nd := sc_rest_in.nd
    refine ⟨_, (pss_cons (ps_par (i := 3) (j := 4) (by rfl) nd rfl rfl (by decide) rfl rfl (pa_cons (pe_lst (pa_starK (K := K) rfl (pv 1) pa_nil)) (pa_cons (pe_op op_rep (pe_lst (pa_cons pe_int pa_nil)) (pe_callB (c_len (K := K) rfl) (by rfl) T.b_len (by decide +kernel) (pa_cons (pv 0) pa_nil))) pa_nil)) (by rfl))
      (pss_cons (ps_for PassesOwn.never rfl (pi_range2 rfl T.b_range (pa_cons (pv 2) (pa_cons (pe_callB (c_len (K := K) rfl) (by rfl) T.b_len (by decide +kernel) (pa_cons (pv 0) pa_nil)) pa_nil))) (pg_name (i := 5) nd rfl (Or.inl rfl))
      (pss_cons (ps_asg (pe_op op_fdivW (pe_ix (ixl (K := K) rfl) (pv 3) (pv 5) (fun _ _ => rfl)) (pe_ix (ixt (K := K) rfl) (pe_ix (ixl (K := K) rfl) (pv 0) (pv 5) (fun _ _ => rfl)) (pv 5) (fun _ _ => rfl))) (pg_sub (pv 4) (pv 5) set_list))
      (pss_one ps_never)))
      (pss_one (ps_ret (pe_tup (pa_cons (pe_callTy (c_tup (K := K) rfl) (by rfl) T.b_tuple (by decide +kernel) (pa_cons (pv 3) pa_nil)) (pa_cons (pe_callTy (c_tup (K := K) rfl) (by rfl) T.b_tuple (by decide +kernel) (pa_cons (pv 4) pa_nil)) pa_nil))))))), ?_⟩
    refine ⟨_, rfl, b, _, rfl, .inr (SqL.of hb), by show 1 ≤ sizeLine; decide, fun f hf => ?_⟩
    have s1 := same_new (o := HO.lst [.int m]) hf
    refine ⟨by show 1 ≤ sizeLine; decide, fun z hz => ?_⟩
    have s2 := s1.trans (same_new (o := HO.lst [.int 0]) hz)
    refine ⟨_, rfl, a, _, rfl, .inl (SqL.of (s2 _ _ ha)), z, ((1 : Nat) : Int), _, rfl, rfl, upd_same, by decide, by decide, by decide, fun t ht => ⟨_, _, rfl, ?_⟩⟩
    have s3 := s2.trans (same_new (o := HO.lst (List.replicate ((1 : Nat) : Int).toNat [V.int 0]).flatten) ht)
    have hf3 := ((same_new (o := HO.lst [.int 0]) hz).trans (same_new (o := HO.lst (List.replicate ((1 : Nat) : Int).toNat [V.int 0]).flatten) ht)) _ _ (upd_same (H := H) (a := f) (o := HO.lst [V.int m]))
    refine ⟨_, rfl, _, rfl, a, _, rfl, .inl (SqL.of (s3 _ _ ha)), _, ((1 : Nat) : Int), rfl, by decide, for_range (lo := 1) (n := (((1 : Nat) : Int) - 1).toNat) (fun i σ H2 => ∃ x, σ = [some (.ref a), some (.ref b), some (.int 1), some (.ref f), some (.ref t), x] ∧ Same H H2 ∧ H2 f = some (.lst [.int m]) ∧ H2 t = some (.lst [.int 0])) ⟨none, rfl, s3, hf3, upd_same⟩ ?_ ?_⟩
    · intro i σ H2 hi
      exact absurd hi (by simp)
    · rintro σ H2 ⟨x, rfl, e, h1, h2⟩
      refine ⟨_, rfl, f, _, rfl, .inl ⟨SqL.of h1, fun u hu => ?_⟩⟩
      have n1 := same_new (o := HO.tup [.int m]) hu
      refine ⟨_, rfl, t, _, rfl, .inl ⟨SqL.of (n1 _ _ h2), fun v hv => ?_⟩⟩
      have n2 := same_new (o := HO.tup [.int 0]) hv
      refine ⟨by show 2 ≤ sizeLine; decide, fun y hy => q _ _ (e.trans (n1.trans (n2.trans (same_new hy)))) ?_⟩
      exact .tup upd_same (.cons (tv_tI (ns := [m]) ((same_new hy) _ _ (n2 _ _ upd_same))) (.cons (tv_tI (ns := [0]) ((same_new hy) _ _ upd_same)) .nil))
/-! widened -/
abbrev N_widened : List Str := ["part", "known", "door", "many", "found", "line", "times", "position", "row"]
theorem sc_widened : FnScope N_widened ["part", "known", "door", "many"] (defScope s_widened) := ⟨rfl, rfl, rfl, by decide +kernel, rfl, by decide +kernel, by decide +kernel⟩
def sp_widened : Sp := fun vs H Q _ => ∃ (v : V) (o : Nat) (rs : List Row) (d z : Addr), vs = [v, .ref d, .int 0, .int rs.length] ∧ PartAt A H v o rs ∧ Cyc rs o ∧ H d = some (.dK [(.inl 0, .ref z)]) ∧ H z = some (.tup [.int 0]) ∧ ∀ H' f, Same H H' → Q (.ref f) H'
theorem G_widened (T : Txt K mg A) : FnOk P w K mg base CX0 1 A.f_widened A.d_widened ["part", "known", "door", "many"] (sp_widened (A := A)) := by
  refine T.F_widened.ok sc_widened (fun vs H Q E h => ?_) (fun cdv A' outer s H vs Q E hr h => ?_)
  · obtain ⟨v, o, rs, d, z, rfl, _⟩ := h
    rfl
  · obtain ⟨v, o, rs, d, z, rfl, p, c, hd, hz, q⟩ := h
    have nd := sc_widened.nd
    have hu := Nat.lt_of_le_of_lt (Nat.add_le_add_left (show 1 ≤ 64 by decide) _) hr.units
    obtain ⟨pa, dx, rv, rfl, h1, h2⟩ := id p
    have l4 : rs.length ≤ 400 := c.ok.2.1
    have l0 : 0 < rs.length := c.pos
    refine ⟨_, (pss_cons (ps_par (i := 4) (j := 5) (by rfl) nd rfl rfl (by decide) rfl rfl (pa_cons pe_dnewK (pa_cons (pe_lst (pa_starIt rfl (pv 1) pa_nil)) pa_nil)) (by rfl))
      (pss_cons (ps_for PassesOwn.never rfl (pi_range1 rfl T.b_range (pa_cons (pv 3) pa_nil)) (pg_name (i := 6) nd rfl (Or.inl rfl))
      (pss_cons (ps_for PassesOwn.never rfl (pil (K := K) rfl (pv 5)) (pgt (K := K) (n := 2) rfl rfl (pgs_cons (pg_name (i := 7) nd rfl (Or.inl rfl)) (pgs_cons (pg_name (i := 8) nd rfl (Or.inl rfl)) pgs_nil)))
      (pss_one (ps_dput hu (pv 4) (pv 7) (pe_tup (pa_starK (K := K) rfl (pe_slice (slt (K := K) rfl) (pv 8) po_none (po_some (pv 2))) (pa_cons (pv 6) (pa_starK (K := K) rfl (pe_slice (slt (K := K) rfl) (pv 8) (po_some (pe_op op_add (pv 2) pe_int)) po_none) pa_nil)))) rfl)))
      (pss_one (ps_setLc (i := 5) (own := [("position", 7), ("row", 8)]) (by rfl) nd rfl rfl (sw_true rfl rfl rfl (by decide +kernel)) (pil (K := K) rfl (pv 5)) (blkOk_by (own := [("position", 7), ("row", 8)]) (N := N_widened) (sc := defScope s_widened) (by decide +kernel)) (fun _ _ _ _ _ => (pgt (K := K) (n := 2) rfl rfl (pgs_cons (pg_name (i := 7) nd rfl (Or.inl rfl)) (pgs_cons (pg_name (i := 8) nd rfl (Or.inl rfl)) pgs_nil)))) (fun _ _ _ _ _ => pts_nil) (fun _ _ _ _ _ => (pe_tup (pa_cons (pe_ix (ixt (K := K) rfl) (pe_ix (ixt (K := K) rfl) (pe_ix (ixt (K := K) rfl) (pe_fldK (K := K) rfl (pv 0) rfl) (pv 7) (fun _ _ => rfl)) (pv 2) (fun _ _ => rfl)) pe_int (fun _ _ => rfl)) (pa_cons (pv 8) pa_nil))))))))
      (pss_one (ps_ret (pv 4))))), ?_⟩
    intro f hf
    have s1 := same_new (o := HO.dK []) hf
    refine ⟨_, rfl, d, _, rfl, s1 _ _ hd, fun H2 ts e2 fr pr => ?_⟩
    cases pr with
    | @cons pk _ ts2 _ hpk pr2 =>
    cases pr2
    have s2 := s1.trans e2
    refine ⟨by show 1 ≤ sizeLine; decide, fun l hl => ⟨_, _, rfl, ?_⟩⟩
    have n3 := same_new (o := HO.lst ([pk].map V.ref ++ [])) hl
    have s3 := s2.trans n3
    have hff : H2 f = some (.dK []) := e2 _ _ upd_same
    refine ⟨_, rfl, _, rfl, by omega, by omega, for_range (lo := 0) (n := ((rs.length : Nat) : Int).toNat) (fun k σ H3 => ∃ (lk pk : Addr) (x6 x7 x8 : Option V) (kvs : List (L2.Key × V)), σ = [some (.ref pa), some (.ref d), some (.int 0), some (.int rs.length), some (.ref f), some (.ref lk), x6, x7, x8] ∧ Same H H3 ∧ H3 f = some (.dK kvs) ∧ kvs.length ≤ k ∧
      H3 lk = some (.lst [.ref pk]) ∧ H3 pk = some (.tup [.int ((k % rs.length : Nat) : Int), .ref z])) ⟨l, pk, none, none, none, [], rfl, s3, n3 _ _ hff, Nat.le_refl _, upd_same, ?_⟩ ?_ ?_⟩
    · rw [n3 _ _ hpk, Nat.zero_mod]
      rfl
    · rintro k σ H3 hk ⟨lk, pk, x6, x7, x8, kvs, rfl, e3, hf3, hlen, hlk, hpk⟩
      have hkl : k < rs.length := by omega
      rw [Nat.mod_eq_of_lt hkl] at hpk
      refine ⟨_, rfl, lk, rfl, ⟨_, SqL.of hlk⟩, for_list (K := K) (a := lk) (xs := [.ref pk]) (fun i σ H4 => ∃ (x7 x8 : Option V) (kvs : List (L2.Key × V)), σ = [some (.ref pa), some (.ref d), some (.int 0), some (.int rs.length), some (.ref f), some (.ref lk), some (.int (0 + (k : Int))), x7, x8] ∧ Same H H4 ∧ H4 f = some (.dK kvs) ∧ kvs.length ≤ k + i ∧
        H4 lk = some (.lst [.ref pk]) ∧ H4 pk = some (.tup [.int k, .ref z])) ⟨x7, x8, kvs, rfl, e3, hf3, hlen, hlk, hpk⟩ (fun i σ H4 _ ⟨_, _, _, _, _, _, _, h, _⟩ => SqL.of h) ?_ ?_⟩
      · rintro i x σ H4 hi ⟨x7, x8, kvs, rfl, e4, hf4, hlen, hlk4, hpk4⟩
        obtain ⟨rfl, rfl⟩ : i = 0 ∧ x = V.ref pk := by
          cases i with
          | zero => simpa using hi.symm
          | succ i => simp at hi
        have hz4 := e4 _ _ hz
        refine ⟨pk, _, rfl, SqT.of hpk4, rfl, _, _, rfl, _, _, rfl, rfl, ?_⟩
        refine ⟨_, rfl, _, rfl, _, rfl, z, [.int 0], rfl, SqT.of hz4, fun h => absurd h (by decide), fun _ p1 hp1 => ?_⟩
        have m1 := same_new (o := HO.tup (cutV [V.int 0] none (some 0))) hp1
        refine ⟨p1, _, rfl, .inl (SqT.of upd_same), _, rfl, _, rfl, _, rfl, _, _, rfl, rfl, _, rfl, z, [.int 0], rfl, SqT.of (m1 _ _ hz4), fun h => absurd h (by decide), fun _ p2 hp2 => ?_⟩
        have m2 := m1.trans (same_new (o := HO.tup (cutV [V.int 0] (some (0 + 1)) none)) hp2)
        refine ⟨p2, _, rfl, .inl (SqT.of upd_same), by show 1 ≤ sizeLine; decide, fun p3 hp3 => ?_⟩
        have m3 := m2.trans (same_new (o := HO.tup (cutV [V.int 0] none (some 0) ++ V.int (0 + (k : Int)) :: (cutV [V.int 0] (some (0 + 1)) none ++ []))) hp3)
        have hf5 := m3 _ _ hf4
        refine ⟨_, rfl, _, rfl, f, _, rfl, .inl ⟨_, .inl ((k : Nat) : Int), hf5, rfl, by rw [sizeLine_eq]; omega, rfl⟩, ?_⟩
        have st : ∀ b u, b ≠ f → H4 b = some u → _ := fun b u hb h => (upd_ne (H := _) (o := HO.dK (putK kvs (.inl ((k : Nat) : Int)) (.ref p3))) hb).trans (m3 b u h)
        refine ⟨_, _, _, rfl, same_put (e4.trans m3) hf, upd_same, by have := length_putK kvs (.inl ((k : Nat) : Int)) (V.ref p3); omega, st _ _ (fun z => ?_) hlk4, st _ _ (fun z => ?_) hpk4⟩
        · rw [z, hf4] at hlk4
          cases hlk4
        · rw [z, hf4] at hpk4
          cases hpk4
      · rintro σ H4 ⟨x7, x8, kvs, rfl, e4, hf4, hlen, hlk4, hpk4⟩
        refine ⟨_, rfl, lk, rfl, ⟨_, SqL.of hlk4⟩, fun D hD => lc_pure (walk_list (K := K) (a := lk) (xs := [V.ref pk])) (fun i y H' => ∃ b, y = V.ref b ∧ H' b = some (.tup [.int (((k + 1) % rs.length : Nat) : Int), .ref z])) hD (fun H e => SqL.of (e _ _ hlk4)) (fun _ _ _ _ r st => ?_) (by show 1 ≤ sizeLine; decide) (fun j x H5 H6 hj e5 y Q2 q2 => ?_) (fun ys H5 e5 hy hyl hys => ?_)⟩
        · obtain ⟨b, h1, h2⟩ := r
          exact ⟨b, h1, st _ _ h2 trivial⟩
        · obtain ⟨rfl, hxj⟩ := y
          have ex : x = V.ref pk := by
            have : j = 0 := by simp at hj; omega
            subst this
            simpa using hxj.symm
          subst ex
          have p5 := p.same (e4.trans e5)
          refine ⟨pk, _, rfl, SqT.of (e5 _ _ hpk4), rfl, _, _, rfl, _, _, rfl, rfl, rfl, ?_⟩
          refine row_read T rfl p5 rfl rfl hkl fun c' d' hc hd => ?_
          refine ⟨c', _, _, _, rfl, rfl, SqT.of hc, rfl, _, rfl, by show 2 ≤ sizeLine; decide, fun b hb => q2 _ _ (same_new hb) ⟨b, rfl, ?_⟩⟩
          rw [upd_same, c.nx k hkl]
        · obtain ⟨y, rfl⟩ : ∃ y, ys = [y] := by
            match ys, hyl with
            | [y], _ => exact ⟨y, rfl⟩
          obtain ⟨b, rfl, hb⟩ := hys 0 y rfl
          refine ⟨D, b, _, _, _, kvs, rfl, e4.trans e5, e5 _ _ hf4, ?_, hy, hb⟩
          have : ([V.ref pk] : List V).length = 1 := rfl
          omega
    · rintro σ H3 ⟨lk, pk, x6, x7, x8, kvs, rfl, e3, hf3, hlen, hlk, hpk⟩
      exact ⟨_, rfl, q _ f e3⟩
end
end K91
end
section
set_option Elab.async false
set_option linter.all false
set_option maxRecDepth 100000
set_option maxHeartbeats 4000000
namespace K91
open PySem PySem.Spec PyProof.Rows L2 KB M1 M2
section
variable {P : Program} {w : World} {K : PySem.W.Frag} {mg : Str → Option Value} {base : Heap} {A : Ad}
/-! triangle_in -/
abbrev N_triangle_in : List Str := ["part", "begin", "rows", "known", "door", "ring", "many", "back", "row", "one"]
theorem sc_triangle_in : FnScope N_triangle_in ["part", "begin"] (defScope s_triangle_in) := ⟨rfl, rfl, rfl, by decide +kernel, rfl, by decide +kernel, by decide +kernel⟩
def sp_triangle_in : Sp := fun vs H Q _ => ∃ (v : V) (o : Nat) (rs : List Row), vs = [v, .int 0] ∧ PartAt A H v o rs ∧ Cyc rs o ∧ ∀ H' t, Same H H' → Tv H' t (.tuple [tI [(rs.length : Int)]]) → Q t H'
theorem G_triangle_in (T : Txt K mg A) : FnOk P w K mg base CX0 2 A.f_triangle_in A.d_triangle_in ["part", "begin"] (sp_triangle_in (A := A)) := by
  refine T.F_triangle_in.ok sc_triangle_in (fun vs H Q E h => ?_) (fun cdv A' outer s H vs Q E hr h => ?_)
  · obtain ⟨v, o, rs, rfl, _⟩ := h
    rfl
  · obtain ⟨v, o, rs, rfl, p, c, q⟩ := h
    have nd := sc_triangle_in.nd
    have hu := Nat.lt_of_le_of_lt (Nat.add_le_add_left (show 1 ≤ 64 by decide) _) hr.units
    obtain ⟨pa, dx, rv, rfl, h1, h2⟩ := id p
    have l4 : rs.length ≤ 400 := c.ok.2.1
    have l0 : 0 < rs.length := c.pos
    refine ⟨_, (pss_cons (ps_par (i := 2) (j := 3) (by rfl) nd rfl rfl (by decide) rfl rfl (pa_cons (pe_op op_rep (pe_lst (pa_cons pe_non pa_nil)) (pe_fldK (K := K) rfl (pv 0) rfl)) (pa_cons (pe_disp (pps_cons (pv 1) (pe_op (o_repA (K := K) rfl) (pe_tup (pa_cons pe_int pa_nil)) (pe_fldK (K := K) rfl (pv 0) rfl)) pps_nil) (by rfl) (by rfl) (fun z => by cases z) (by decide)) pa_nil)) (by rfl))
      (pss_cons (ps_for PassesOwn.never rfl (pi_range3 rfl T.b_range (pa_cons (pe_op op_sub (pe_fldK (K := K) rfl (pv 0) rfl) pe_int) (pa_cons (pe_un un_neg pe_int) (pa_cons (pe_un un_neg pe_int) pa_nil)))) (pg_name (i := 4) nd rfl (Or.inl rfl))
      (pss_cons (ps_par (i := 5) (j := 6) (by rfl) nd rfl rfl (by decide) rfl rfl (pa_cons (pe_call (G_ring_of T) (hr.mono (by decide)) rfl T.g_ring_of T.F_ring_of.kp T.B_ring_of .nil pass0 (pa_cons (pv 0) (pa_cons (pv 1) (pa_cons (pv 4) pa_nil)))) (pa_cons pe_int pa_nil)) (by rfl))
      (pss_cons (ps_while PassesOwn.never (PW.pt (pw_and (pt_cmpR op_lt (pv 6) (pe_callB (c_len (K := K) rfl) (by rfl) T.b_len (by decide +kernel) (pa_cons (pv 5) pa_nil)) (nomark _)) (pw_and1 (pt_cmp (pc_dnotin hu (pe_ix (ixl (K := K) rfl) (pv 5) (pv 6) (fun _ _ => rfl)) (pv 3)))))) (pss_one (ps_set (i := 6) nd rfl (Or.inl rfl) (pe_op op_add (pv 6) pe_int))))
      (pss_cons (ps_set (i := 7) nd rfl (Or.inl rfl) (pe_ifExp (pt_cmpR op_lt (pv 6) (pe_callB (c_len (K := K) rfl) (by rfl) T.b_len (by decide +kernel) (pa_cons (pv 5) pa_nil)) (nomark _)) (pe_dget hu (pv 3) (pe_ix (ixl (K := K) rfl) (pv 5) (pv 6) (fun _ _ => rfl)) (fun _ _ => rfl)) (pe_op (o_repA (K := K) rfl) (pe_tup (pa_cons pe_int pa_nil)) (pe_fldK (K := K) rfl (pv 0) rfl))))
      (pss_cons (ps_setLc (i := 8) (own := [("one", 9)]) (by rfl) nd rfl rfl (sw_true rfl rfl rfl (by decide +kernel)) (pit (K := K) rfl (pv 7)) (blkOk_by (own := [("one", 9)]) (N := N_triangle_in) (sc := defScope s_triangle_in) (by decide +kernel)) (fun _ _ _ _ _ => (pg_name (i := 9) nd rfl (Or.inl rfl))) (fun _ _ _ _ _ => pts_nil) (fun _ _ _ _ _ => (pe_op op_sub pe_int (pv 9))))
      (pss_cons (ps_asg (pv 6) (pg_sub (pv 8) (pv 4) set_list))
      (pss_cons (ps_asg (pe_ix (ixt (K := K) rfl) (pe_call (G_rest_in T) (hr.mono (by decide)) rfl T.g_rest_in T.F_rest_in.kp T.B_rest_in .nil pass0 (pa_cons (pv 2) (pa_cons (pv 8) (pa_cons (pe_op op_add (pv 4) pe_int) pa_nil)))) pe_int (fun _ _ => rfl)) (pg_sub (pv 2) (pv 4) set_list))
      (pss_one (ps_set (i := 3) nd rfl (Or.inl rfl) (pe_call (G_widened T) (hr.mono (by decide)) rfl T.g_widened T.F_widened.kp T.B_widened .nil pass0 (pa_cons (pv 0) (pa_cons (pv 3) (pa_cons (pv 4) (pa_cons (pv 6) pa_nil))))))))))))))
      (pss_one (ps_ret (pe_callTy (c_tup (K := K) rfl) (by rfl) T.b_tuple (by decide +kernel) (pa_cons (pv 2) pa_nil)))))), ?_⟩
    refine ⟨by show 1 ≤ sizeLine; decide, fun z hz => ?_⟩
    have s1 := same_new (o := HO.lst [.non]) hz
    refine ⟨_, rfl, pa, _, dx, _, _, rfl, s1 _ _ h1, T.c_Part, T.n_Part_doors, pf_doors _ _ _, z, _, _, rfl, rfl, upd_same, by decide, by decide, by decide, fun r hr0 => ?_⟩
    have n2 := same_new (o := HO.lst (List.replicate (1 : Int).toNat [V.non]).flatten) hr0
    have s2 := s1.trans n2
    intro d hd
    have n3 := same_new (o := HO.dK []) hd
    have s3 := s2.trans n3
    refine ⟨_, rfl, by show 1 ≤ sizeLine; decide, fun y hy => ?_⟩
    have n4 := same_new (o := HO.tup [.int 0]) hy
    have s4 := s3.trans n4
    refine ⟨_, rfl, pa, _, dx, _, _, rfl, s4 _ _ h1, T.c_Part, T.n_Part_doors, pf_doors _ _ _, y, _, _, rfl, rfl, SqT.of upd_same, by decide, by decide, fun _ => ?_, fun e => absurd e (by decide)⟩
    show _ ∧ _
    refine ⟨n4 _ _ upd_same, [(.inl 0, .ref y)], rfl, by show 1 ≤ 15; decide, ⟨_, _, rfl, ?_⟩⟩
    have er : (List.replicate (1 : Int).toNat [V.non]).flatten = [V.non] := rfl
    have em : mergeK [] [((Sum.inl 0 : L2.Key), V.ref y)] = [(Sum.inl 0, V.ref y)] := rfl
    rw [em]
    have hrd : r ≠ d := fun z => by
      subst z
      rw [upd_same] at hd
      cases hd
    have hyd : y ≠ d := fun z => by
      subst z
      rw [upd_same] at hy
      cases hy
    have hd0 : H d = none := by
      cases hh : H d with
      | none => rfl
      | some u =>
        rw [s2 _ _ hh] at hd
        cases hd
    have hr00 : H r = none := by
      cases hh : H r with
      | none => rfl
      | some u =>
        rw [s1 _ _ hh] at hr0
        cases hr0
    have S5 := same_put (o := HO.dK [(Sum.inl 0, V.ref y)]) s4 hd0
    have fr : (upd (upd (upd (upd (upd H z (.lst [.non])) r (.lst (List.replicate (1 : Int).toNat [V.non]).flatten)) d (.dK [])) y (.tup [.int 0])) d (.dK [(Sum.inl 0, V.ref y)])) r = some (.lst [.non]) := by
      rw [upd_ne hrd]
      exact n4 _ _ (n3 _ _ upd_same)
    have fy : (upd (upd (upd (upd (upd H z (.lst [.non])) r (.lst (List.replicate (1 : Int).toNat [V.non]).flatten)) d (.dK [])) y (.tup [.int 0])) d (.dK [(Sum.inl 0, V.ref y)])) y = some (.tup [.int 0]) := by
      rw [upd_ne hyd]
      exact upd_same
    have fd : (upd (upd (upd (upd (upd H z (.lst [.non])) r (.lst (List.replicate (1 : Int).toNat [V.non]).flatten)) d (.dK [])) y (.tup [.int 0])) d (.dK [(Sum.inl 0, V.ref y)])) d = some (.dK [(Sum.inl 0, V.ref y)]) := upd_same
    generalize upd (upd (upd (upd (upd H z (.lst [.non])) r (.lst (List.replicate (1 : Int).toNat [V.non]).flatten)) d (.dK [])) y (.tup [.int 0])) d (.dK [(Sum.inl 0, V.ref y)]) = H5 at S5 fr fy fd ⊢
    refine ⟨_, rfl, pa, _, dx, _, _, rfl, S5 _ _ h1, T.c_Part, T.n_Part_doors, pf_doors _ _ _, _, _, rfl, rfl, _, rfl, _, rfl, 0, -1, -1, 1, rfl, RgC.neg (i := 0) (j := -1) (by decide) (by decide) (by decide) (by decide), for_rangeC (lo := 0) (c := -1) (n := 1) (fun i σ H6 => ∃ (x3 x4 x5 x6 x7 x8 : Option V), σ = [some (.ref pa), some (.int 0), some (.ref r), x3, x4, x5, x6, x7, x8, none] ∧ Same H H6 ∧ if i = 0 then (x3 = some (.ref d) ∧ H6 r = some (.lst [.non]) ∧ H6 d = some (.dK [(Sum.inl 0, V.ref y)]) ∧ H6 y = some (.tup [.int 0])) else ∃ t, H6 r = some (.lst [.ref t]) ∧ H6 t = some (.tup [.int rs.length]))
      ⟨_, _, _, _, _, _, rfl, S5, by rw [if_pos rfl]; exact ⟨rfl, fr, fd, fy⟩⟩ ?_ ?_⟩
    · rintro i σ H6 hi ⟨x3, x4, x5, x6, x7, x8, rfl, S6, hx⟩
      have hi0 : i = 0 := by omega
      subst hi0
      rw [if_pos rfl] at hx
      obtain ⟨rfl, fr6, fd6, fy6⟩ := hx
      refine ⟨_, rfl, _, rfl, _, rfl, .ref pa, o, rs, rfl, p.same S6, c, fun H7 l e7 hl => ⟨_, _, rfl, ?_⟩⟩
      refine ⟨fun m σ H8 => ∃ k : Nat, σ = [some (.ref pa), some (.int 0), some (.ref r), some (.ref d), some (.int 0), some (.ref l), some (.int k), x7, x8, none] ∧ H8 = H7 ∧ 1 ≤ k ∧ k ≤ rs.length ∧ m = rs.length - k, ⟨_, 1, rfl, rfl, Nat.le_refl _, l0, rfl⟩, ?_⟩
      rintro m σ H8 ⟨k, rfl, rfl, hk1, hk2, rfl⟩
      have ll := vI_len (fun i => (i : Int)) rs.length
      have fd7 := e7 _ _ fd6
      have fr7 := e7 _ _ fr6
      have fy7 := e7 _ _ fy6
      have S7 := S6.trans e7
      refine ⟨_, rfl, _, rfl, l, _, rfl, .inl (SqL.of hl), _, _, rfl, rfl, _, rfl, ?_⟩
      rw [ll]
      by_cases hlt : k < rs.length
      · rw [decide_eq_true (show (k : Int) < rs.length by omega)]
        have hv : none = valV [((Sum.inl 0 : L2.Key), V.ref y)] (Sum.inl (k : Int)) := by
          unfold valV
          rw [List.find?_cons, show decide (((Sum.inl 0 : L2.Key), V.ref y).1 = Sum.inl (k : Int)) = false from decide_eq_false (by intro z; injection z; omega)]
          rfl
        refine iteT ⟨_, rfl, _, rfl, l, _, _, _, rfl, rfl, SqL.of hl, atI_nat (vI_at hlt), _, rfl, d, _, rfl, .inl ⟨_, .inl (k : Int), .inl fd7, rfl, hv⟩, ?_⟩
        refine ⟨_, rfl, ?_⟩
        refine iteT ⟨fun σ' H' => σ' = [some (.ref pa), some (.int 0), some (.ref r), some (.ref d), some (.int 0), some (.ref l), some (.int ((k + 1 : Nat) : Int)), x7, x8, none] ∧ H' = H8, ?_, ?_⟩
        · rintro σ' H' ⟨h3, h4⟩
          exact ⟨rs.length - (k + 1), by omega, k + 1, h3, h4, by omega, hlt, rfl⟩
        exact ⟨_, rfl, _, _, rfl, rfl, rfl, rfl⟩
      · rw [decide_eq_false (show ¬ (k : Int) < rs.length by omega)]
        have hkL : k = rs.length := by omega
        subst hkL
        refine iteF ?_
        refine ⟨_, rfl, _, rfl, l, _, rfl, .inl (SqL.of hl), _, _, rfl, rfl, _, rfl, ?_⟩
        rw [ll, decide_eq_false (show ¬ (rs.length : Int) < rs.length by omega)]
        refine iteF ⟨by show 1 ≤ sizeLine; decide, fun g hg => ?_⟩
        have m1 := same_new (o := HO.tup [.int 0]) hg
        have T1 := S7.trans m1
        refine ⟨_, rfl, pa, _, dx, _, _, rfl, T1 _ _ h1, T.c_Part, T.n_Part_doors, pf_doors _ _ _, g, _, _, rfl, rfl, SqT.of upd_same, by decide, by decide, fun _ => ?_, fun e => absurd e (by decide)⟩
        refine ⟨_, rfl, g, rfl, ⟨_, SqT.of upd_same⟩, fun D hD => lc_pure (walk_tup (K := K) (a := g) (xs := [V.int 0])) (fun i y _ => y = V.int 0) hD (fun H e => SqT.of (e _ _ upd_same)) (fun _ _ _ _ r _ => r) (by show 1 ≤ sizeLine; decide) (fun j x H9 H10 hj e5 yy Q2 q2 => ?_) (fun ys H9 e9 hy hyl hys => ?_)⟩
        · obtain ⟨rfl, hxj⟩ := yy
          have ex : x = V.int 0 := by
            have : j = 0 := by simp at hj; omega
            subst this
            simpa using hxj.symm
          subst ex
          exact ⟨rfl, _, rfl, _, _, rfl, rfl, q2 _ _ (Same.refl _) rfl⟩
        · obtain ⟨u, rfl⟩ : ∃ y, ys = [y] := by
            match ys, hyl with
            | [y], _ => exact ⟨y, rfl⟩
          obtain rfl := hys 0 u rfl
          have T2 := T1.trans e9
          have fd9 := e9 _ _ (m1 _ _ fd7)
          have fr9 := e9 _ _ (m1 _ _ fr7)
          have fy9 := e9 _ _ (m1 _ _ fy7)
          have D0 : H D = none := by
            cases hh : H D with
            | none => rfl
            | some u =>
              rw [T1 _ _ hh] at hD
              cases hD
          refine ⟨_, rfl, _, rfl, _, rfl, D, _, _, 0, rfl, rfl, hy, rfl, ?_⟩
          have hDr : r ≠ D := fun z => by
            rw [z, hy] at fr9
            cases fr9
          have hDd : d ≠ D := fun z => by
            rw [z, hy] at fd9
            cases fd9
          have hDy : y ≠ D := fun z => by
            rw [z, hy] at fy9
            cases fy9
          have T3 := same_put (o := HO.lst [V.int rs.length]) T2 D0
          have fr10 : (upd H9 D (.lst [V.int rs.length])) r = some (.lst [.non]) := (upd_ne hDr).trans fr9
          have fd10 : (upd H9 D (.lst [V.int rs.length])) d = some (.dK [(Sum.inl 0, V.ref y)]) := (upd_ne hDd).trans fd9
          have fy10 : (upd H9 D (.lst [V.int rs.length])) y = some (.tup [.int 0]) := (upd_ne hDy).trans fy9
          refine ⟨_, rfl, _, rfl, _, rfl, _, _, rfl, rfl, r, D, .non, rs.length, rfl, fr10, upd_same, fun H11 t e11 tv => ?_⟩
          obtain ⟨ta, xs, rfl, hta, hts⟩ := tvt tv
          cases hts with
          | cons t1 t2 =>
          cases t2 with
          | cons t2 t3 =>
          cases t3
          obtain ⟨t0, rfl, ht0⟩ := tI_tv t1
          refine ⟨ta, _, 0, _, rfl, rfl, SqT.of hta, rfl, ?_⟩
          have fr11 := e11 _ _ fr10
          have fd11 := e11 _ _ fd10
          have fy11 := e11 _ _ fy10
          have T4 := T3.trans e11
          refine ⟨_, rfl, _, rfl, r, _, _, 0, rfl, rfl, fr11, rfl, ?_⟩
          have hrd' : d ≠ r := Ne.symm hrd
          have hry : y ≠ r := fun z => by
            rw [z, fr11] at fy11
            cases fy11
          have htr : t0 ≠ r := fun z => by
            rw [z, fr11] at ht0
            cases ht0
          have T5 := same_put (o := HO.lst [V.ref t0]) T4 hr00
          have fr12 : (upd H11 r (.lst [V.ref t0])) r = some (.lst [.ref t0]) := upd_same
          have fd12 : (upd H11 r (.lst [V.ref t0])) d = some (.dK [(Sum.inl 0, V.ref y)]) := (upd_ne hrd').trans fd11
          have fy12 : (upd H11 r (.lst [V.ref t0])) y = some (.tup [.int 0]) := (upd_ne hry).trans fy11
          have ft12 : (upd H11 r (.lst [V.ref t0])) t0 = some (.tup [.int rs.length]) := (upd_ne htr).trans ht0
          refine ⟨_, rfl, _, rfl, _, rfl, _, rfl, .ref pa, o, rs, d, y, rfl, p.same T5, c, fd12, fy12, fun H13 f e13 => ⟨_, _, _, _, _, _, rfl, T5.trans e13, ?_⟩⟩
          rw [if_neg (by decide)]
          exact ⟨t0, e13 _ _ fr12, e13 _ _ ft12⟩
    · rintro σ H6 ⟨x3, x4, x5, x6, x7, x8, rfl, S6, hx⟩
      rw [if_neg (by decide)] at hx
      obtain ⟨t, h6, h7⟩ := hx
      refine ⟨_, rfl, r, _, rfl, .inl ⟨SqL.of h6, fun u hu => q _ _ (S6.trans (same_new hu)) ?_⟩⟩
      exact .tup upd_same (.cons (tv_tI (ns := [_]) ((same_new hu) _ _ h7)) .nil)
end
end K91
end
section
set_option Elab.async false
set_option linter.all false
set_option maxRecDepth 100000
set_option maxHeartbeats 4000000
namespace K91
open PySem PySem.Spec PyProof.Rows L2 KB M1 M2
/-- what each round gives is small -/
def Small (rs : List Row) (o : Nat) : Prop := ∀ g ∈ sumG rs o rs.length, 0 ≤ g ∧ g < 1000
theorem PartAt.off {A : Ad} {H H' : Hp} {v : V} {o : Nat} {rs : List Row} {a C dx : Addr} (h : PartAt A H v o rs) (e : Off a H H') (ha : H a = some (.ins C dx [])) : PartAt A H' v o rs := by
  obtain ⟨p, dx', rv, h1, h2, h3⟩ := h
  refine ⟨p, dx', rv, h1, e _ _ (fun z => ?_) h2, tv_tups (e.tups ha) _ _ h3⟩
  subst z
  rw [ha] at h2
  cases h2
section
variable {P : Program} {w : World} {K : PySem.W.Frag} {mg : Str → Option Value} {base : Heap} {A : Ad}
/-! given_by -/
abbrev N_given_by : List Str := ["part", "begin", "row", "position", "given", "door", "many", "more"]
theorem sc_given_by : FnScope N_given_by ["part", "begin", "row"] (defScope s_given_by) := ⟨rfl, rfl, rfl, by decide +kernel, rfl, by decide +kernel, by decide +kernel⟩
def sp_given_by : Sp := fun vs H Q _ => ∃ (v u : V) (o : Nat) (rs : List Row), vs = [v, .int 0, u] ∧ PartAt A H v o rs ∧ Cyc rs o ∧ Small rs o ∧ Tv H u (tI [(rs.length : Int)]) ∧ ∀ H' t, Same H H' → Q t H'
theorem G_given_by (T : Txt K mg A) : FnOk P w K mg base CX0 4 A.f_given_by A.d_given_by ["part", "begin", "row"] (sp_given_by (A := A)) := by
  refine T.F_given_by.ok sc_given_by (fun vs H Q E h => ?_) (fun cdv A' outer s H vs Q E hr h => ?_)
  · obtain ⟨v, u, o, rs, rfl, _⟩ := h
    rfl
  · obtain ⟨v, u, o, rs, rfl, p, c, hsm, tu, qq⟩ := h
    have nd := sc_given_by.nd
    obtain ⟨pa, dx, rv, rfl, h1, h2⟩ := id p
    obtain ⟨ua, rfl, hua⟩ := tI_tv tu
    have o6 : o ≤ 6 := c.ok.2.2.1
    have o1 : 1 ≤ o := c.ok.2.2.2.1
    have l4 : rs.length ≤ 400 := c.ok.2.1
    have sl : (sumG rs o rs.length).length = o := sumG_len c _ (Nat.le_refl _)
    refine ⟨_, (pss_cons (ps_par (i := 3) (j := 4) (by rfl) nd rfl rfl (by decide) rfl rfl (pa_cons (pv 1) (pa_cons (pe_op (o_repA (K := K) rfl) (pe_tup (pa_cons pe_int pa_nil)) (pe_fldK (K := K) rfl (pv 0) rfl)) pa_nil)) (by rfl))
      (pss_cons (ps_for PassesOwn.never rfl (pi_enT (K := K) rfl rfl T.b_enumerate (pa_cons (pv 2) pa_nil)) (pgt (K := K) (n := 2) rfl rfl (pgs_cons (pg_name (i := 5) nd rfl (Or.inl rfl)) (pgs_cons (pg_name (i := 6) nd rfl (Or.inl rfl)) pgs_nil)))
      (pss_cons (ps_asg (pe_call (G_many_gone T) (hr.mono (by decide)) rfl T.g_many_gone T.F_many_gone.kp T.B_many_gone .nil pass0 (pa_cons (pv 0) (pa_cons (pv 3) (pa_cons (pv 5) (pa_cons (pv 6) pa_nil))))) (pgt (K := K) (n := 2) rfl rfl (pgs_cons (pg_name (i := 3) nd rfl (Or.inl rfl)) (pgs_cons (pg_name (i := 7) nd rfl (Or.inl rfl)) pgs_nil))))
      (pss_one (ps_set (i := 4) nd rfl (Or.inl rfl) (pe_call (G_sum_of T) (hr.mono (by decide)) rfl T.g_sum_of T.F_sum_of.kp T.B_sum_of .nil pass0 (pa_cons (pv 4) (pa_cons (pv 7) pa_nil)))))))
      (pss_one (ps_ret (pv 4))))), ?_⟩
    refine ⟨_, rfl, by show 1 ≤ sizeLine; decide, fun z hz => ?_⟩
    have e2 := same_new (o := HO.tup [.int 0]) hz
    refine ⟨_, rfl, pa, _, dx, _, _, rfl, e2 _ _ h1, T.c_Part, T.n_Part_outs, pf_outs _ _ _, rep_zero o1 o6 upd_same fun g H3 e3 hg => ⟨_, _, rfl, ?_⟩⟩
    have e4 := e2.trans e3
    refine ⟨_, rfl, ua, _, rfl, SqT.of (e4 _ _ hua), for_it (walk_enT (K := K) (a := ua) (xs := [V.int rs.length])) (fun i σ H6 => ∃ g d u w2, σ = [some (.ref pa), some (.int 0), some (.ref ua), some (.int 0), some g, d, u, w2] ∧ Same H H6 ∧ Tv H6 g (if i = 0 then tI (List.replicate o 0) else tI (sumG rs o rs.length))) ⟨g, none, none, none, rfl, e4, hg⟩ (fun i σ H6 _ ⟨_, _, _, _, _, e, _⟩ => SqT.of (e _ _ hua)) ?_ ?_⟩
    · rintro i x σ H6 H7 hi ⟨g, d, u, w2, rfl, e7, hg⟩ y
      obtain ⟨t2, x1, x2, rfl, ht2, rfl, h3, h4⟩ := y
      have hi0 : i = 0 := by simpa using hi
      subst hi0
      cases h3
      cases h4
      have n8 := same_new (o := HO.tup [.int ((0 : Nat) : Int), .int rs.length]) ht2
      have e9 := e7.trans n8
      refine ⟨t2, _, rfl, SqT.of upd_same, rfl, _, _, rfl, _, _, rfl, rfl, ?_⟩
      refine ⟨_, rfl, _, rfl, _, rfl, _, rfl, _, _, o, 1, rs, rfl, by omega, p.same e9, c, by omega, Nat.lt_of_lt_of_le (show 1 < 2 ^ 1 by decide) (Nat.pow_le_pow_right (by decide) (by decide)), hsm, fun H8 t8 e10 tv => ?_⟩
      obtain ⟨tb, lp2, rfl, htb, hlp2⟩ := tv.pair
      refine ⟨tb, _, rfl, SqT.of htb, rfl, _, _, rfl, _, _, rfl, rfl, ?_⟩
      refine ⟨_, rfl, _, rfl, g, .ref lp2, _, _, rfl, (hg.same n8).same e10, tv_tI hlp2, by simp [sl], by simp; omega, fun H9 t9 e11 tv9 => ⟨_, _, _, _, rfl, e9.trans (e10.trans e11), ?_⟩⟩
      rw [addI_zero (by simp [sl])] at tv9
      have ei : ((sumG rs o rs.length).map fun g => ((1 : Nat) : Int) * g) = sumG rs o rs.length := by
        conv => rhs; rw [← List.map_id (sumG rs o rs.length)]
        exact List.map_congr_left fun g _ => by simp
      rw [ei] at tv9
      exact tv9
    · rintro σ H6 ⟨g, d, u, w2, rfl, e7, hg⟩
      exact ⟨_, rfl, qq _ _ e7⟩
/-! a round -/
def rf (v sv lv gv : V) : List (Str × V) := [("part", v), ("begin", .int 0), ("spots", sv), ("laps", lv), ("gifts", gv)]
theorem rf_put (v sv lv gv : V) : putF "gifts" gv (putF "laps" lv (putF "spots" sv (putF "begin" (.int 0) (putF "part" v [])))) = rf v sv lv gv := by
  show putF "gifts" gv (putF "laps" lv (putF "spots" sv (putF "begin" (.int 0) [("part", v)]))) = _
  rw [putF_ne (f := ("begin" : Str)) (by decide +kernel)]
  show putF "gifts" gv (putF "laps" lv (putF "spots" sv [("part", v), ("begin", .int 0)])) = _
  rw [putF_ne (f := ("spots" : Str)) (by decide +kernel), putF_ne (f := ("spots" : Str)) (by decide +kernel)]
  show putF "gifts" gv (putF "laps" lv [("part", v), ("begin", .int 0), ("spots", sv)]) = _
  rw [putF_ne (f := ("laps" : Str)) (by decide +kernel), putF_ne (f := ("laps" : Str)) (by decide +kernel), putF_ne (f := ("laps" : Str)) (by decide +kernel)]
  show putF "gifts" gv [("part", v), ("begin", .int 0), ("spots", sv), ("laps", lv)] = _
  rw [putF_ne (f := ("gifts" : Str)) (by decide +kernel), putF_ne (f := ("gifts" : Str)) (by decide +kernel), putF_ne (f := ("gifts" : Str)) (by decide +kernel), putF_ne (f := ("gifts" : Str)) (by decide +kernel)]
  rfl
theorem rf_part (v sv lv gv : V) : (rf v sv lv gv).lookup ("part" : Str) = some v := look_eq
theorem rf_begin (v sv lv gv : V) : (rf v sv lv gv).lookup ("begin" : Str) = some (V.int 0) := (look_ne (k := ("begin" : Str)) (x := ("part" : Str)) (by decide +kernel)).trans look_eq
theorem rf_laps (v sv lv gv : V) : (rf v sv lv gv).lookup ("laps" : Str) = some lv := (look_ne (k := ("laps" : Str)) (x := ("part" : Str)) (by decide +kernel)).trans ((look_ne (k := ("laps" : Str)) (x := ("begin" : Str)) (by decide +kernel)).trans ((look_ne (k := ("laps" : Str)) (x := ("spots" : Str)) (by decide +kernel)).trans look_eq))
def RoundAt (A : Ad) (H : Hp) (v : V) (o : Nat) (rs : List Row) : Prop := ∃ p dx pv sv lv gv, v = .ref p ∧ H p = some (.ins A.C_Round dx (rf pv sv lv gv)) ∧ PartAt A H pv o rs ∧ Tv H lv (.tuple [tI [(rs.length : Int)]])
abbrev N_Round_init : List Str := ["self", "part", "position", "row"]
theorem sc_Round_init : FnScope N_Round_init ["self", "part", "position"] (defScope s_Round_init) := ⟨rfl, rfl, rfl, by decide +kernel, rfl, by decide +kernel, by decide +kernel⟩
def sp_Round_init : Sp := fun vs H Q _ => ∃ (a dx : Addr) (v : V) (o : Nat) (rs : List Row), vs = [.ref a, v, .int 0] ∧ H a = some (.ins A.C_Round dx []) ∧ PartAt A H v o rs ∧ Cyc rs o ∧ Small rs o ∧
  (∀ (H' : Hp) (sv lv gv : V), Off a H H' → H' a = some (.ins A.C_Round dx (rf v sv lv gv)) → Tv H' lv (.tuple [tI [(rs.length : Int)]]) → Q .non H')
theorem G_Round_init (T : Txt K mg A) : FnOk P w K mg base CX0 5 A.f_Round_init A.d_Round_init ["self", "part", "position"] (sp_Round_init (A := A)) := by
  refine T.F_Round_init.ok sc_Round_init (fun vs H Q E h => ?_) (fun cdv A' outer s H vs Q E hr h => ?_)
  · obtain ⟨a, dx, v, o, rs, rfl, _⟩ := h
    rfl
  · obtain ⟨a, dx, v, o, rs, rfl, ha, p, c, hsm, q⟩ := h
    have nd := sc_Round_init.nd
    refine ⟨_, (pss_cons (ps_fld (pv 0) (pv 1) rfl)
      (pss_cons (ps_fld (pv 0) (pe_call (G_begun T) (hr.mono (by decide)) rfl T.g_begun T.F_begun.kp T.B_begun .nil pass0 (pa_cons (pv 1) (pa_cons (pv 2) pa_nil))) rfl)
      (pss_cons (ps_fld (pv 0) (pe_call (G_reached T) (hr.mono (by decide)) rfl T.g_reached T.F_reached.kp T.B_reached .nil pass0 (pa_cons (pv 1) (pa_cons (pe_fldK (K := K) rfl (pv 0) rfl) pa_nil))) rfl)
      (pss_cons (ps_fld (pv 0) (pe_call (G_triangle_in T) (hr.mono (by decide)) rfl T.g_triangle_in T.F_triangle_in.kp T.B_triangle_in .nil pass0 (pa_cons (pv 1) (pa_cons (pe_fldK (K := K) rfl (pv 0) rfl) pa_nil))) rfl)
      (pss_one (ps_fld (pv 0) (pe_callTy (c_tup (K := K) rfl) (by rfl) T.b_tuple (by decide +kernel) (pa_cons (pe_lc (own := [("row", 3)]) (by rfl) nd (pit (K := K) rfl (pe_fldK (K := K) rfl (pv 0) rfl)) (blkOk_by (own := [("row", 3)]) (N := N_Round_init) (sc := defScope s_Round_init) (by decide +kernel)) (fun _ _ _ _ _ => (pg_name (i := 3) nd rfl (Or.inl rfl))) (fun _ _ _ _ _ => pts_nil) (fun _ _ _ _ _ => (pe_call (G_given_by T) (hr.mono (by decide)) rfl T.g_given_by T.F_given_by.kp T.B_given_by .nil pass0 (pa_cons (pv 1) (pa_cons (pe_fldK (K := K) rfl (pv 0) rfl) (pa_cons (pv 3) pa_nil)))))) pa_nil)) rfl)))))), ?_⟩
    refine ⟨_, rfl, _, rfl, a, _, dx, _, rfl, ha, T.c_Round, T.n_Round_part, by decide, ?_⟩
    have f1 : Off a H (upd H a (.ins A.C_Round dx (putF "part" v []))) := Off.put
    refine ⟨_, rfl, _, rfl, v, o, rs, rfl, p.off f1 ha, c, ?_⟩
    refine ⟨_, rfl, a, _, dx, _, rfl, upd_same, T.c_Round, T.n_Round_begin, by have := putF_len "part" v []; rw [len0] at this; omega, ?_⟩
    have f2 : Off a H (upd (upd H a (.ins A.C_Round dx (putF "part" v []))) a (.ins A.C_Round dx (putF "begin" (.int 0) (putF "part" v [])))) := f1.trans Off.put
    refine ⟨_, rfl, _, rfl, a, _, dx, _, _, rfl, upd_same, T.c_Round, T.n_Round_begin, by rw [lookup_putF, if_pos rfl], v, o, rs, rfl, p.off f2 ha, c, fun H3 sv e3 => ?_⟩
    have a3 := e3 _ _ (upd_same (H := upd H a (.ins A.C_Round dx (putF "part" v []))) (a := a) (o := HO.ins A.C_Round dx (putF "begin" (.int 0) (putF "part" v []))))
    have f3 : Off a H (upd H3 a (.ins A.C_Round dx (putF "spots" sv (putF "begin" (.int 0) (putF "part" v []))))) := (f2.trans (Off.same e3)).trans Off.put
    refine ⟨_, rfl, a, _, dx, _, rfl, a3, T.c_Round, T.n_Round_spots, lt2 _ _ _ _, ?_⟩
    refine ⟨_, rfl, _, rfl, a, _, dx, _, _, rfl, upd_same, T.c_Round, T.n_Round_begin, ?_, v, o, rs, rfl, p.off f3 ha, c, fun H4 lv e4 tl => ?_⟩
    · rw [lookup_putF, if_neg (by decide +kernel), lookup_putF, if_pos rfl]
    have a4 := e4 _ _ (upd_same (H := H3) (a := a) (o := HO.ins A.C_Round dx (putF "spots" sv (putF "begin" (.int 0) (putF "part" v [])))))
    have f4 := (f3.trans (Off.same e4)).trans (Off.put (a := a) (H := H4) (o := HO.ins A.C_Round dx (putF "laps" lv (putF "spots" sv (putF "begin" (.int 0) (putF "part" v []))))))
    refine ⟨_, rfl, a, _, dx, _, rfl, a4, T.c_Round, T.n_Round_laps, lt3 _ _ _ _ _ _, ?_⟩
    have tl5 := tv_tups ((Off.put (a := a) (H := H4) (o := HO.ins A.C_Round dx (putF "laps" lv (putF "spots" sv (putF "begin" (.int 0) (putF "part" v [])))))).tups a4) _ _ tl
    have a5 : (upd H4 a (.ins A.C_Round dx (putF "laps" lv (putF "spots" sv (putF "begin" (.int 0) (putF "part" v [])))))) a = _ := upd_same
    have p5 := p.off f4 ha
    generalize upd H4 a (.ins A.C_Round dx (putF "laps" lv (putF "spots" sv (putF "begin" (.int 0) (putF "part" v []))))) = H5 at f4 tl5 a5 p5 ⊢
    obtain ⟨la, lxs, rfl, hla, hls⟩ := tvt tl5
    cases hls with
    | @cons lx _ _ _ hlx hls =>
    cases hls
    refine ⟨_, rfl, a, _, dx, _, _, rfl, a5, T.c_Round, T.n_Round_laps, by rw [lookup_putF, if_pos rfl], la, rfl, ⟨_, SqT.of hla⟩, fun D hD => lc_pure (walk_tup (K := K) (a := la) (xs := [lx])) (fun i y _ => True) hD (fun H e => SqT.of (e _ _ hla)) (fun _ _ _ _ r _ => r) (by show 1 ≤ sizeLine; decide) (fun j x H9 H10 hj e5 yy Q2 q2 => ?_) (fun ys H9 e9 hy hyl hys => ?_)⟩
    · obtain ⟨rfl, hxj⟩ := yy
      have ex : x = lx := by
        have : j = 0 := by simp at hj; omega
        subst this
        simpa using hxj.symm
      subst ex
      refine ⟨rfl, _, rfl, _, rfl, a, _, dx, _, _, rfl, e5 _ _ a5, T.c_Round, T.n_Round_begin, ?_, _, rfl, v, x, o, rs, rfl, p5.same e5, c, hsm, hlx.same e5, fun H' t s' => q2 _ _ s' trivial⟩
      rw [lookup_putF, if_neg (by decide +kernel), lookup_putF, if_neg (by decide +kernel), lookup_putF, if_pos rfl]
    · refine ⟨D, _, rfl, .inl ⟨SqL.of hy, fun t ht => ?_⟩⟩
      have n6 := e9.trans (same_new (o := HO.tup ys) ht)
      have a6 := n6 _ _ a5
      refine ⟨_, rfl, a, _, dx, _, rfl, a6, T.c_Round, T.n_Round_gifts, ?_, q _ sv (.ref la) (.ref t) ((f4.trans (Off.same n6)).trans Off.put) ?_ ?_⟩
      · have := putF_len "laps" (.ref la) (putF "spots" sv (putF "begin" (.int 0) (putF "part" v [])))
        have := lt3 "spots" "begin" "part" (.int 0) v sv
        have := putF_len "spots" sv (putF "begin" (.int 0) (putF "part" v []))
        have := putF_len "begin" (.int 0) (putF "part" v [])
        have := putF_len "part" v []
        rw [len0] at this
        omega
      · rw [upd_same, rf_put]
      · exact tv_tups ((Off.put (a := a)).tups a6) _ _ ((Tv.tup hla (.cons hlx .nil)).same n6)
/-! fair of a round -/
abbrev N_Round_fair : List Str := ["self", "found", "door", "_", "turn", "given", "one"]
theorem sc_Round_fair : FnScope N_Round_fair ["self"] (defScope s_Round_fair) := ⟨rfl, rfl, rfl, by decide +kernel, rfl, by decide +kernel, by decide +kernel⟩
def fairD (rs : List Row) (o : Nat) : PyData := .tuple [.tuple ((sumG rs o rs.length).map fun g => tI (rd g rs.length))]
def sp_Round_fair : Sp := fun vs H Q _ => ∃ (v : V) (o : Nat) (rs : List Row), vs = [v] ∧ RoundAt A H v o rs ∧ Cyc rs o ∧ Small rs o ∧ ∀ H' t, Same H H' → Tv H' t (fairD rs o) → Q t H'
theorem G_Round_fair (T : Txt K mg A) : FnOk P w K mg base CX0 3 A.f_Round_fair A.d_Round_fair ["self"] (sp_Round_fair (A := A)) := by
  refine T.F_Round_fair.ok sc_Round_fair (fun vs H Q E h => ?_) (fun cdv A' outer s H vs Q E hr h => ?_)
  · obtain ⟨v, o, rs, rfl, _⟩ := h
    rfl
  · obtain ⟨v, o, rs, rfl, ⟨ra, rdx, pv, sv, lv, gv, rfl, hra, p, tl⟩, c, hsm, q⟩ := h
    have nd := sc_Round_fair.nd
    obtain ⟨pa, dx, rv, rfl, h1, h2⟩ := id p
    have o6 : o ≤ 6 := c.ok.2.2.1
    have l4 : rs.length ≤ 400 := c.ok.2.1
    have l0 : 0 < rs.length := c.pos
    have sl : (sumG rs o rs.length).length = o := sumG_len c _ (Nat.le_refl _)
    refine ⟨_, (pss_cons (ps_set (i := 1) nd rfl (Or.inl rfl) (pe_lst pa_nil))
      (pss_cons (ps_for PassesOwn.never rfl (pi_range1 rfl T.b_range (pa_cons (pe_fldK (K := K) rfl (pe_fldK (K := K) rfl (pv 0) rfl) rfl) pa_nil)) (pg_name (i := 2) nd rfl (Or.inl rfl))
      (pss_cons (ps_asg (pe_call (G_pace_of T) (hr.mono (by decide)) rfl T.g_pace_of T.F_pace_of.kp T.B_pace_of .nil pass0 (pa_cons (pe_fldK (K := K) rfl (pv 0) rfl) (pa_cons (pe_fldK (K := K) rfl (pv 0) rfl) (pa_cons (pv 2) pa_nil)))) (pgt (K := K) (n := 3) rfl rfl (pgs_cons (pg_name (i := 3) nd rfl (Or.inl rfl)) (pgs_cons (pg_name (i := 4) nd rfl (Or.inr rfl)) (pgs_cons (pg_name (i := 5) nd rfl (Or.inl rfl)) pgs_nil)))))
      (pss_one (ps_expr (pe_bm PySem.F.plainAttrs_list PySem.F.slot_list_append PySem.F.type_list_append mt_append (pv 1) (pa_cons (pe_callTy (c_tup (K := K) rfl) (by rfl) T.b_tuple (by decide +kernel) (pa_cons (pe_lc (own := [("one", 6)]) (by rfl) nd (pit (K := K) rfl (pv 5)) (blkOk_by (own := [("one", 6)]) (N := N_Round_fair) (sc := defScope s_Round_fair) (by decide +kernel)) (fun _ _ _ _ _ => (pg_name (i := 6) nd rfl (Or.inl rfl))) (fun _ _ _ _ _ => pts_nil) (fun _ _ _ _ _ => (pe_call (G_reduced T) (hr.mono (by decide)) rfl T.g_reduced T.F_reduced.kp T.B_reduced .nil pass0 (pa_cons (pv 6) (pa_cons (pv 4) pa_nil))))) pa_nil)) pa_nil))))))
      (pss_one (ps_ret (pe_callTy (c_tup (K := K) rfl) (by rfl) T.b_tuple (by decide +kernel) (pa_cons (pv 1) pa_nil)))))), ?_⟩
    refine ⟨by show 0 ≤ sizeLine; decide, fun f hf => ?_⟩
    have s1 := same_new (o := HO.lst []) hf
    refine ⟨_, rfl, ra, _, rdx, _, _, rfl, s1 _ _ hra, T.c_Round, T.n_Round_part, rf_part _ _ _ _, pa, _, dx, _, _, rfl, s1 _ _ h1, T.c_Part, T.n_Part_doors, pf_doors _ _ _, _, rfl, by decide, by decide, for_range (lo := 0) (n := (1 : Int).toNat) (fun i σ H2 => ∃ x2 x3 x4 x5, σ = [some (.ref ra), some (.ref f), x2, x3, x4, x5, none] ∧ Same H H2 ∧ if i = 0 then H2 f = some (.lst []) else ∃ t, H2 f = some (.lst [t]) ∧ Tv H2 t (.tuple ((sumG rs o rs.length).map fun g => tI (rd g rs.length)))) ⟨_, _, _, _, rfl, s1, by rw [if_pos rfl]; exact upd_same⟩ ?_ ?_⟩
    · rintro i σ H2 hi ⟨x2, x3, x4, x5, rfl, e2, hx⟩
      have hi0 : i = 0 := by
        have : (1 : Int).toNat = 1 := rfl
        omega
      subst hi0
      rw [if_pos rfl] at hx
      refine ⟨_, rfl, ra, _, rdx, _, _, rfl, e2 _ _ hra, T.c_Round, T.n_Round_part, rf_part _ _ _ _, _, rfl, ra, _, rdx, _, _, rfl, e2 _ _ hra, T.c_Round, T.n_Round_begin, rf_begin _ _ _ _, _, rfl, .ref pa, o, rs, rfl, p.same e2, c, fun H3 t e3 tv => ?_⟩
      obtain ⟨ta, txs, rfl, hta, hts⟩ := tvt tv
      cases hts with
      | cons t1 t2 =>
      cases t2 with
      | cons t2 t3 =>
      cases t3 with
      | cons t3 t4 =>
      cases t4
      cases t1
      cases t2
      obtain ⟨lp, rfl, hlp⟩ := tI_tv t3
      refine ⟨ta, _, rfl, SqT.of hta, rfl, _, _, rfl, _, _, rfl, _, _, rfl, rfl, ?_⟩
      refine ⟨_, rfl, .inl ⟨rfl, _, SqL.of (e3 _ _ hx)⟩, _, rfl, lp, rfl, ⟨_, SqT.of hlp⟩, fun D hD => lc_pure (walk_tup (K := K) (a := lp) (xs := (sumG rs o rs.length).map V.int)) (fun i y H' => Tv H' y (tI (rd ((sumG rs o rs.length).getD i 0) rs.length))) hD (fun H e => SqT.of (e _ _ hlp)) (fun _ _ _ _ r st => r.stab st) (by rw [List.length_map, sl, sizeLine_eq]; omega) (fun j x H9 H10 hj e5 yy Q2 q2 => ?_) (fun ys H9 e9 hy hyl hys => ?_)⟩
      · obtain ⟨rfl, hxj⟩ := yy
        rw [List.getElem?_map] at hxj
        obtain ⟨g, hg, rfl⟩ := Option.map_eq_some_iff.mp hxj
        refine ⟨rfl, _, rfl, _, rfl, g, _, rfl, by omega, by omega, fun H' t s z => q2 _ _ s ?_⟩
        rw [← some_getD hg]
        exact z
      · refine ⟨D, _, rfl, .inl ⟨SqL.of hy, fun t ht => ?_⟩⟩
        have n6 := e9.trans (same_new (o := HO.tup ys) ht)
        have hx6 := n6 _ _ (e3 _ _ hx)
        refine ⟨f, [], _, rfl, rfl, hx6, by decide, _, _, _, _, rfl, same_put ((e2.trans e3).trans n6) hf, ?_⟩
        rw [if_neg (by decide)]
        refine ⟨.ref t, upd_same, Tv.stab ?_ (Stab.put hx6 imm_lst)⟩
        refine .tup upd_same (tvs_mk (by rw [hyl, List.length_map, List.length_map]) fun i v d hv hd => ?_)
        rw [List.getElem?_map] at hd
        obtain ⟨g, hg, rfl⟩ := Option.map_eq_some_iff.mp hd
        have := hys i v hv
        rw [← some_getD hg] at this
        exact this.same (same_new ht)
    · rintro σ H2 ⟨x2, x3, x4, x5, rfl, e2, hx⟩
      rw [if_neg (by decide)] at hx
      obtain ⟨t, hx1, hx2⟩ := hx
      refine ⟨_, rfl, f, _, rfl, .inl ⟨SqL.of hx1, fun u hu => q _ _ (e2.trans (same_new hu)) ?_⟩⟩
      exact .tup upd_same (.cons (hx2.same (same_new hu)) .nil)
end
end K91
end
section
set_option Elab.async false
set_option linter.all false
set_option maxRecDepth 100000
set_option maxHeartbeats 4000000
namespace K91
open PySem PySem.Spec PyProof.Rows L2 KB M1 M2
section
variable {P : Program} {w : World} {K : PySem.W.Frag} {mg : Str → Option Value} {base : Heap} {A : Ad}
abbrev N_need_round : List Str := ["part", "position"]
theorem sc_need_round : FnScope N_need_round ["part", "position"] (defScope s_need_round) := ⟨rfl, rfl, rfl, by decide +kernel, rfl, by decide +kernel, by decide +kernel⟩
def sp_need_round : Sp := fun vs H Q _ => ∃ (v : V) (o : Nat) (rs : List Row), vs = [v, .int 0] ∧ PartAt A H v o rs ∧ Cyc rs o ∧ Small rs o ∧ ∀ H' r, Same H H' → RoundAt A H' r o rs → Q r H'
theorem G_need_round (T : Txt K mg A) : FnOk P w K mg base CX0 7 A.f_need_round A.d_need_round ["part", "position"] (sp_need_round (A := A)) := by
  refine T.F_need_round.ok sc_need_round (fun vs H Q E h => ?_) (fun cdv A' outer s H vs Q E hr h => ?_)
  · obtain ⟨v, o, rs, rfl, _⟩ := h
    rfl
  · obtain ⟨v, o, rs, rfl, p, c, hsm, q⟩ := h
    have nd := sc_need_round.nd
    refine ⟨_, (pss_cons (ps_expr (pe_call (G_need_closing T) (hr.mono (by decide)) rfl T.g_need_closing T.F_need_closing.kp T.B_need_closing .nil pass0 (pa_cons pe_str (pa_cons (pv 0) pa_nil))))
      (pss_cons (ps_expr (pe_call (G_need_position T) (hr.mono (by decide)) rfl T.g_need_position T.F_need_position.kp T.B_need_position .nil pass0 (pa_cons (pv 0) (pa_cons (pv 1) pa_nil))))
      (pss_one (ps_ret (pe_make T.m_Round (G_Round_init T) (hr.mono (by decide)) rfl T.g_Round T.B_Round_init .nil pass0 (pa_cons (pv 0) (pa_cons (pv 1) pa_nil))))))), ?_⟩
    refine ⟨_, rfl, _, v, o, rs, rfl, p, c.ok.2.1, fun H1 e1 => ?_⟩
    refine ⟨_, rfl, _, rfl, v, o, rs, rfl, p.same e1, c.pos, ?_⟩
    refine ⟨_, rfl, _, rfl, fun x dx hx hdx hne => ?_⟩
    have n1 := same_new (o := HO.own x) hdx
    have hx2 : (upd H1 dx (.own x)) x = none := by
      rw [upd_ne (Ne.symm hne)]
      exact hx
    have n2 := n1.trans (same_new (o := HO.ins A.C_Round dx []) hx2)
    refine ⟨x, dx, v, o, rs, rfl, upd_same, p.same (e1.trans n2), c, hsm, fun H' sv lv gv off hH' tl => ⟨rfl, ?_⟩⟩
    have sm : Same H H' := fun b u h => by
      refine off b u (fun z => ?_) ((e1.trans n2) _ _ h)
      subst z
      rw [e1 _ _ h] at hx
      cases hx
    exact q H' _ sm ⟨x, dx, v, sv, lv, gv, rfl, hH', p.same sm, tl⟩
abbrev N_laps : List Str := ["part", "position"]
theorem sc_laps : FnScope N_laps ["part", "position"] (defScope s_laps) := ⟨rfl, rfl, rfl, by decide +kernel, rfl, by decide +kernel, by decide +kernel⟩
def sp_laps : Sp := fun vs H Q _ => ∃ (v : V) (o : Nat) (rs : List Row), vs = [v, .int 0] ∧ PartAt A H v o rs ∧ Cyc rs o ∧ Small rs o ∧ ∀ H' t, Same H H' → Tv H' t (.tuple [tI [(rs.length : Int)]]) → Q t H'
theorem G_laps (T : Txt K mg A) : FnOk P w K mg base CX0 8 A.f_laps A.d_laps ["part", "position"] (sp_laps (A := A)) := by
  refine T.F_laps.ok sc_laps (fun vs H Q E h => ?_) (fun cdv A' outer s H vs Q E hr h => ?_)
  · obtain ⟨v, o, rs, rfl, _⟩ := h
    rfl
  · obtain ⟨v, o, rs, rfl, p, c, hsm, q⟩ := h
    have nd := sc_laps.nd
    refine ⟨_, (pss_one (ps_ret (pe_fldK (K := K) rfl (pe_call (G_need_round T) (hr.mono (by decide)) rfl T.g_need_round T.F_need_round.kp T.B_need_round .nil pass0 (pa_cons (pv 0) (pa_cons (pv 1) pa_nil))) rfl))), ?_⟩
    refine ⟨_, rfl, _, rfl, v, o, rs, rfl, p, c, hsm, fun H' r e ⟨ra, rdx, pv, sv, lv, gv, er, hra, p2, tl⟩ => ?_⟩
    subst er
    exact ⟨ra, _, rdx, _, _, rfl, hra, T.c_Round, T.n_Round_laps, rf_laps _ _ _ _, q _ _ e tl⟩
theorem rf_fair (v sv lv gv : V) : (rf v sv lv gv).lookup ("fair" : Str) = none := by
  unfold rf
  rw [look_ne (k := ("fair" : Str)) (x := ("part" : Str)) (by decide +kernel), look_ne (k := ("fair" : Str)) (x := ("begin" : Str)) (by decide +kernel), look_ne (k := ("fair" : Str)) (x := ("spots" : Str)) (by decide +kernel), look_ne (k := ("fair" : Str)) (x := ("laps" : Str)) (by decide +kernel), look_ne (k := ("fair" : Str)) (x := ("gifts" : Str)) (by decide +kernel)]
  rfl
abbrev N_fair : List Str := ["part", "position"]
theorem sc_fair : FnScope N_fair ["part", "position"] (defScope s_fair) := ⟨rfl, rfl, rfl, by decide +kernel, rfl, by decide +kernel, by decide +kernel⟩
def sp_fair : Sp := fun vs H Q _ => ∃ (v : V) (o : Nat) (rs : List Row), vs = [v, .int 0] ∧ PartAt A H v o rs ∧ Cyc rs o ∧ Small rs o ∧ ∀ H' t, Same H H' → Tv H' t (fairD rs o) → Q t H'
theorem G_fair (T : Txt K mg A) : FnOk P w K mg base CX0 8 A.f_fair A.d_fair ["part", "position"] (sp_fair (A := A)) := by
  refine T.F_fair.ok sc_fair (fun vs H Q E h => ?_) (fun cdv A' outer s H vs Q E hr h => ?_)
  · obtain ⟨v, o, rs, rfl, _⟩ := h
    rfl
  · obtain ⟨v, o, rs, rfl, p, c, hsm, q⟩ := h
    have nd := sc_fair.nd
    refine ⟨_, (pss_one (ps_ret (pe_meth0 (pe_call (G_need_round T) (hr.mono (by decide)) rfl T.g_need_round T.F_need_round.kp T.B_need_round .nil pass0 (pa_cons (pv 0) (pa_cons (pv 1) pa_nil))) T.c_Round T.h_Round_fair (G_Round_fair T) (hr.mono (by decide)) T.B_Round_fair .nil pass0))), ?_⟩
    refine ⟨_, rfl, _, rfl, v, o, rs, rfl, p, c, hsm, fun H' r e rd => ?_⟩
    obtain ⟨ra, rdx, pv, sv, lv, gv, er, hra, p2, tl⟩ := id rd
    subst er
    exact ⟨ra, rdx, _, rfl, hra, rf_fair _ _ _ _, .ref ra, o, rs, rfl, rd, c, hsm, fun H2 t e2 tv => q _ _ (e.trans e2) tv⟩
end
end K91
end
section
set_option Elab.async false
set_option linter.all false
set_option maxRecDepth 100000
set_option maxHeartbeats 4000000
namespace K91
open PySem PySem.Spec PyProof.Rows L2 KB M1 M2
/-- the deck: its cells, the turn, what is left of a great cell -/
def DeckAt (H : Hp) (a c : Addr) (k : Nat) : Prop := ∃ (cs : List Int) (turn rest : Int), H a = some (.lst [.ref c, .int turn, .int rest]) ∧ H c = some (.lst (cs.map V.int)) ∧ cs.length ≤ 60 ∧ 0 ≤ turn ∧ turn ≤ k
theorem DeckAt.mono {H : Hp} {a c : Addr} {k j : Nat} (h : DeckAt H a c k) (e : k ≤ j) : DeckAt H a c j := by
  obtain ⟨cs, t, r, h1, h2, h3, h4, h5⟩ := h
  exact ⟨cs, t, r, h1, h2, h3, h4, by omega⟩
theorem DeckAt.same {H H' : Hp} {a c : Addr} {k : Nat} (h : DeckAt H a c k) (e : Same H H') : DeckAt H' a c k := by
  obtain ⟨cs, t, r, h1, h2, h3, h4, h5⟩ := h
  exact ⟨cs, t, r, e _ _ h1, e _ _ h2, h3, h4, h5⟩
theorem deck_ne {cs : List Int} {c : Addr} {t r : V} : (HO.lst (cs.map V.int)) ≠ .lst [.ref c, t, r] := fun z => by
  injection z with z
  match cs, z with
  | x :: _, z => simp at z
section
variable {P : Program} {w : World} {K : PySem.W.Frag} {mg : Str → Option Value} {base : Heap} {A : Ad}
/-! deck -/
abbrev N_law_deck : List Str := ["script", "cell"]
theorem sc_law_deck : FnScope N_law_deck ["script"] (defScope s_law_deck) := ⟨rfl, rfl, rfl, by decide +kernel, rfl, by decide +kernel, by decide +kernel⟩
def sp_law_deck : Sp := fun vs H Q _ => ∃ (a : Addr) (ns : List Int), vs = [.ref a] ∧ SqL K H a (ns.map V.int) ∧ ∀ H' d c, Same H H' → DeckAt H' d c 0 → Q (.ref d) H'
theorem G_law_deck (T : Txt K mg A) : FnOk P w K mg base CX0 1 A.f_law_deck A.d_law_deck ["script"] (sp_law_deck (K := K)) := by
  refine T.F_law_deck.ok sc_law_deck (fun vs H Q E h => ?_) (fun cdv A' outer s H vs Q E hr h => ?_)
  · obtain ⟨a, ns, rfl, _⟩ := h
    rfl
  · obtain ⟨a, ns, rfl, ha, q⟩ := h
    have nd := sc_law_deck.nd
    refine ⟨_, (pss_one (ps_ret (pe_lst (pa_cons (pe_lc (own := [("cell", 1)]) (by rfl) nd (pil (K := K) rfl (pe_slice (sll (K := K) rfl) (pv 0) po_none (po_some pe_int))) (blkOk_by (own := [("cell", 1)]) (N := N_law_deck) (sc := defScope s_law_deck) (by decide +kernel)) (fun _ _ _ _ _ => (pg_name (i := 1) nd rfl (Or.inl rfl))) (fun _ _ _ _ _ => pts_nil) (fun _ _ _ _ _ => (pe_callTy call_int1 (by rfl) T.b_int (by decide +kernel) (pa_cons (pv 1) pa_nil)))) (pa_cons pe_int (pa_cons pe_int pa_nil)))))), ?_⟩
    refine ⟨_, rfl, _, rfl, a, _, rfl, ha, fun c hc => ?_⟩
    have s1 := same_new (o := HO.lst (cutV (ns.map V.int) none (some 60))) hc
    have ec : cutV (ns.map V.int) none (some 60) = (ns.take 60).map V.int := by
      unfold cutV
      rw [HT.sIx_none, List.drop_zero, Nat.sub_zero, ← List.map_take]
      show ((ns.take (min (60 : Int).toNat (ns.map V.int).length)).map V.int) = _
      rw [List.length_map]
      congr 1
      show ns.take (min 60 ns.length) = _
      rw [List.take_eq_take_iff]
      omega
    rw [ec] at s1 ⊢
    refine ⟨c, rfl, ⟨_, SqL.of upd_same⟩, fun D hD => lc_pure (walk_list (K := K) (a := c) (xs := (ns.take 60).map V.int)) (fun i y _ => y = V.int ((ns.take 60).getD i 0)) hD (fun H e => SqL.of (e _ _ upd_same)) (fun _ _ _ _ r _ => r) (by rw [List.length_map, List.length_take, sizeLine_eq]; omega) (fun i x H2 H3 hi e y Q2 q2 => ?_) (fun ys H2 e2 hy hyl hys => ?_)⟩
    · obtain ⟨rfl, hxi⟩ := y
      rw [List.getElem?_map] at hxi
      obtain ⟨g, hg, rfl⟩ := Option.map_eq_some_iff.mp hxi
      exact ⟨rfl, _, rfl, .inl ⟨_, rfl, q2 _ _ (Same.refl _) (by rw [← some_getD hg])⟩⟩
    · have e3 := ints_of hyl hys
      refine ⟨by show 3 ≤ sizeLine; decide, fun d hd => q _ d D (s1.trans (e2.trans (same_new hd))) ⟨(List.range ((ns.take 60).map V.int).length).map fun i => (ns.take 60).getD i 0, 0, 0, upd_same, ?_, ?_, Int.le_refl _, Int.le_refl _⟩⟩
      · rw [(same_new hd) _ _ hy, e3]
      · rw [List.length_map, List.length_range, List.length_map, List.length_take]
        omega
/-! draw -/
abbrev N_law_draw : List Str := ["deck", "many", "rest", "turn", "cell", "mixed"]
theorem sc_law_draw : FnScope N_law_draw ["deck", "many"] (defScope s_law_draw) := ⟨rfl, rfl, rfl, by decide +kernel, rfl, by decide +kernel, by decide +kernel⟩
def sp_law_draw : Sp := fun vs H Q _ => ∃ (a c : Addr) (k : Nat) (m : Int), vs = [.ref a, .int m] ∧ DeckAt H a c k ∧ k ≤ 1000000 ∧ 0 < m ∧ m < 2 ^ 62 ∧ ∀ H' r, Off a H H' → DeckAt H' a c (k + 1) → 0 ≤ r → r < m → Q (.int r) H'
theorem G_law_draw (T : Txt K mg A) : FnOk P w K mg base CX0 1 A.f_law_draw A.d_law_draw ["deck", "many"] (sp_law_draw) := by
  refine T.F_law_draw.ok sc_law_draw (fun vs H Q E h => ?_) (fun cdv A' outer s H vs Q E hr h => ?_)
  · obtain ⟨a, c, k, m, rfl, _⟩ := h
    rfl
  · obtain ⟨a, c, k, m, rfl, ⟨cs, turn, rest, ha, hc, h60, ht0, htk⟩, hk, hm, hm2, q⟩ := h
    have nd := sc_law_draw.nd
    have hca : c ≠ a := fun z => by
      rw [z, ha] at hc
      exact deck_ne (Option.some.inj hc).symm
    have dv : ∀ i : Int, CDivW i m := fun i => divW (b := 0) hm (by omega)
    refine ⟨_, (pss_cons (ps_if (pt_cmpR op_gt (pe_ix (ixl (K := K) rfl) (pv 0) pe_int (fun _ _ => rfl)) pe_int (nomark _)) (pss_cons (ps_set (i := 2) nd rfl (Or.inl rfl) (pe_callTy call_int1 (by rfl) T.b_int (by decide +kernel) (pa_cons (pe_ix (ixl (K := K) rfl) (pv 0) pe_int (fun _ _ => rfl)) pa_nil)))
      (pss_cons (ps_asg (pe_op op_fdivW (pv 2) (pv 1)) (pg_sub (pv 0) pe_int set_list))
      (pss_one (ps_ret (pe_op op_mod (pe_callTy call_int1 (by rfl) T.b_int (by decide +kernel) (pa_cons (pv 2) pa_nil)) (pv 1)))))) pss_nil)
      (pss_cons (ps_set (i := 3) nd rfl (Or.inl rfl) (pe_ix (ixl (K := K) rfl) (pv 0) pe_int (fun _ _ => rfl)))
      (pss_cons (ps_asg (pe_op op_add (pv 3) pe_int) (pg_sub (pv 0) pe_int set_list))
      (pss_cons (ps_set (i := 4) nd rfl (Or.inl rfl) (pe_op op_add (pe_op op_mul pe_int (pv 3)) pe_int))
      (pss_cons (ps_if (pt_cmpR (o_neD (K := K) rfl hr.units) (pe_ix (ixl (K := K) rfl) (pv 0) pe_int (fun _ _ => rfl)) (pe_lst pa_nil) (nomark _)) (pss_one (ps_set (i := 4) nd rfl (Or.inl rfl) (pe_ix (ixl (K := K) rfl) (pe_ix (ixl (K := K) rfl) (pv 0) pe_int (fun _ _ => rfl)) (pe_op op_mod (pe_callTy call_int1 (by rfl) T.b_int (by decide +kernel) (pa_cons (pv 3) pa_nil)) (pe_callB (c_len (K := K) rfl) (by rfl) T.b_len (by decide +kernel) (pa_cons (pe_ix (ixl (K := K) rfl) (pv 0) pe_int (fun _ _ => rfl)) pa_nil))) (fun _ _ => rfl)))) pss_nil)
      (pss_cons (ps_if (PW.pt (pw_and (pt_cmpR op_lt (pv 3) (pe_callB (c_len (K := K) rfl) (by rfl) T.b_len (by decide +kernel) (pa_cons (pe_ix (ixl (K := K) rfl) (pv 0) pe_int (fun _ _ => rfl)) pa_nil)) (nomark _)) (pw_and1 (pt_cmpR op_ge (pe_callB call_abs (by rfl) T.b_abs (by decide +kernel) (pa_cons (pv 4) pa_nil)) (pe_op op_pow pe_int pe_int) (nomark _))))) (pss_cons (ps_set (i := 2) nd rfl (Or.inl rfl) (pe_op op_add (pe_op op_mul pe_int (pe_op op_sub (pe_callB call_abs (by rfl) T.b_abs (by decide +kernel) (pa_cons (pv 4) pa_nil)) (pe_op op_pow pe_int pe_int))) (pe_callTy call_int1 (by rfl) T.b_int (by decide +kernel) (pa_cons (pe_cmpR op_lt (pv 4) pe_int (nomark _)) pa_nil))))
      (pss_cons (ps_asg (pe_op op_fdivW (pv 2) (pv 1)) (pg_sub (pv 0) pe_int set_list))
      (pss_one (ps_ret (pe_op op_mod (pe_callTy call_int1 (by rfl) T.b_int (by decide +kernel) (pa_cons (pv 2) pa_nil)) (pv 1)))))) pss_nil)
      (pss_cons (ps_set (i := 5) nd rfl (Or.inl rfl) (pe_op op_mod (pe_callTy call_int1 (by rfl) T.b_int (by decide +kernel) (pa_cons (pe_op op_pow (pe_op op_add (pe_op op_add (pe_op op_mod (pe_callTy call_int1 (by rfl) T.b_int (by decide +kernel) (pa_cons (pv 4) pa_nil)) pe_int) (pe_op op_mul pe_int (pv 3))) pe_int) pe_int) pa_nil)) pe_int))
      (pss_cons (ps_set (i := 5) nd rfl (Or.inl rfl) (pe_op op_mod (pe_callTy call_int1 (by rfl) T.b_int (by decide +kernel) (pa_cons (pe_op op_pow (pe_op op_add (pe_op op_add (pe_op op_mul (pv 5) (pe_op op_add (pe_op op_mul pe_int (pv 3)) pe_int)) (pe_op op_mul (pe_op op_mul pe_int (pv 3)) (pv 3))) pe_int) pe_int) pa_nil)) pe_int))
      (pss_one (ps_ret (pe_op op_mod (pe_callTy call_int1 (by rfl) T.b_int (by decide +kernel) (pa_cons (pe_op op_fdivW (pv 5) pe_int) pa_nil)) (pv 1)))))))))))), ?_⟩
    refine ⟨_, rfl, a, _, 2, _, rfl, rfl, SqL.of ha, rfl, _, _, rfl, rfl, _, rfl, ?_⟩
    by_cases hr0 : 0 < rest
    · rw [decide_eq_true hr0]
      refine iteT ?_
      refine ⟨_, rfl, a, _, 2, _, rfl, rfl, SqL.of ha, rfl, .inl ⟨_, rfl, ?_⟩⟩
      refine ⟨_, rfl, _, rfl, _, _, rfl, rfl, dv _, _, rfl, a, _, 2, _, rfl, rfl, ha, rfl, ?_⟩
      refine ⟨_, rfl, .inl ⟨_, rfl, _, rfl, _, _, rfl, rfl, hm, q _ _ Off.put ⟨cs, turn, _, upd_same, by rw [upd_ne hca]; exact hc, h60, ht0, by omega⟩ (Int.emod_nonneg _ (by omega)) (Int.emod_lt_of_pos _ hm)⟩⟩
    · rw [decide_eq_false hr0]
      refine iteF ?_
      refine ⟨_, rfl, a, _, 1, _, rfl, rfl, SqL.of ha, rfl, ?_⟩
      refine ⟨_, rfl, _, _, rfl, rfl, _, rfl, a, _, 1, _, rfl, rfl, ha, rfl, ?_⟩
      show tSeq _ _ _ _ (upd H a (.lst [.ref c, .int (turn + 1), .int rest]))
      have o1 : Off a H (upd H a (.lst [.ref c, .int (turn + 1), .int rest])) := Off.put
      have hc1 := o1 _ _ hca hc
      have ha1 : (upd H a (.lst [.ref c, .int (turn + 1), .int rest])) a = _ := upd_same
      generalize upd H a (.lst [.ref c, .int (turn + 1), .int rest]) = H1 at o1 hc1 ha1 ⊢
      have tb : turn.natAbs < 2 ^ 64 := by omega
      refine ⟨_, rfl, _, _, rfl, rfl, mulOk (by decide), _, _, rfl, rfl, ?_⟩
      refine ⟨_, rfl, a, _, 0, _, rfl, rfl, SqL.of ha1, rfl, by show 0 ≤ sizeLine; decide, fun z hz => ?_⟩
      have e2 := same_new (o := HO.lst []) hz
      refine ⟨lI cs, lI [], dp_lI (SqL.of (e2 _ _ hc1)), dp_lI (SqL.of upd_same), shp_lI _, shp_lI _, _, rfl, ?_⟩
      rw [eqv_lI]
      have ha2 := e2 _ _ ha1
      have hc2 := e2 _ _ hc1
      have o2 := o1.trans (Off.same e2)
      generalize upd H1 z (.lst []) = H2 at ha2 hc2 o2 ⊢
      by_cases hcs : cs = []
      case' pos =>
        rw [decide_eq_true hcs]
        refine iteF ?_
        show tSeq _ _ _ [_, _, _, _, some (V.int (60161 * turn + 5167)), _] _
        generalize 60161 * turn + 5167 = cell
      case' neg =>
        rw [decide_eq_false hcs]
        refine iteT ?_
        have hl0 : 0 < cs.length := List.length_pos_iff.mpr hcs
        have hlt : (turn % (cs.length : Int)).toNat < cs.length := by
          have := Int.emod_lt_of_pos turn (show (0 : Int) < cs.length by omega)
          have := Int.emod_nonneg turn (show (cs.length : Int) ≠ 0 by omega)
          omega
        have hat : atI (cs.map V.int) (turn % (cs.length : Int)) = some (V.int (cs.getD (turn % (cs.length : Int)).toNat 0)) := by
          have e : (((turn % (cs.length : Int)).toNat : Nat) : Int) = turn % (cs.length : Int) := Int.toNat_of_nonneg (Int.emod_nonneg _ (by omega))
          rw [← e]
          refine atI_nat ?_
          rw [e, List.getElem?_map, List.getElem?_eq_getElem hlt]
          simp [hlt]
        refine ⟨_, rfl, a, _, 0, _, rfl, rfl, SqL.of ha2, rfl, _, rfl, .inl ⟨_, rfl, _, rfl, a, _, 0, _, rfl, rfl, SqL.of ha2, rfl, c, _, rfl, .inl (SqL.of hc2), _, _, rfl, rfl, by show (0 : Int) < _; rw [List.length_map]; omega, c, _, _, _, rfl, rfl, SqL.of hc2, by rw [List.length_map]; exact hat, ?_⟩⟩
        generalize cs.getD (turn % (cs.length : Int)).toNat 0 = cell
        show tSeq _ _ _ [_, _, _, _, some (V.int cell), _] _
      all_goals
        refine ⟨_, rfl, _, rfl, a, _, 0, _, rfl, rfl, SqL.of ha2, rfl, c, _, rfl, .inl (SqL.of hc2), _, _, rfl, rfl, _, rfl, ?_⟩
        by_cases ht : turn < (((cs.map V.int).length : Nat) : Int)
        case' pos =>
          rw [decide_eq_true ht]
          refine iteT ⟨_, rfl, _, rfl, _, _, rfl, rfl, ⟨by decide, by decide, by decide⟩, _, _, rfl, rfl, _, rfl, ?_⟩
          by_cases hb : (10 : Int) ^ (18 : Int).toNat ≤ if cell < 0 then -cell else cell
          case pos =>
            rw [decide_eq_true hb]
            refine iteT ⟨_, rfl, _, rfl, _, _, rfl, rfl, ⟨by decide, by decide, by decide⟩, _, _, rfl, rfl, _, _, rfl, rfl, mulOk (by decide), _, rfl, _, _, rfl, rfl, .inr ⟨_, rfl, _, _, rfl, rfl, ?_⟩⟩
            refine ⟨_, rfl, _, rfl, _, _, rfl, rfl, dv _, _, rfl, a, _, 2, _, rfl, rfl, ha2, rfl, ?_⟩
            exact ⟨_, rfl, .inl ⟨_, rfl, _, rfl, _, _, rfl, rfl, hm, q _ _ (o2.trans Off.put) ⟨cs, turn + 1, _, upd_same, by rw [upd_ne hca]; exact hc2, h60, by omega, by omega⟩ (Int.emod_nonneg _ (by omega)) (Int.emod_lt_of_pos _ hm)⟩⟩
          case' neg =>
            rw [decide_eq_false hb]
            refine iteF ?_
        case' neg =>
          rw [decide_eq_false ht]
          refine iteF ?_
      all_goals
        refine ⟨_, rfl, .inl ⟨_, rfl, _, _, rfl, rfl, (show (0 : Int) < 2147483549 by decide), _, rfl, _, _, rfl, rfl, mulOk (by decide), _, _, rfl, rfl, _, _, rfl, rfl, _, _, rfl, rfl, ⟨by decide, by decide, ?_⟩, .inl ⟨_, rfl, _, _, rfl, rfl, (show (0 : Int) < 2147483587 by decide), ?_⟩⟩⟩
        case refine_1 =>
          show (cell % 2147483549 + 31159 * turn + 5167).natAbs < 2 ^ 64
          omega
        case refine_2 =>
          generalize (cell % 2147483549 + 31159 * turn + 5167) ^ (5 : Int).toNat = y
          have y1 : 0 ≤ y % 2147483587 ∧ y % 2147483587 < 2147483587 := by omega
          show tSeq _ _ _ [_, _, _, _, _, some (V.int (y % 2147483587))] _
          generalize y % 2147483587 = z at y1 ⊢
          have p0 : 0 ≤ z * (2 * turn + 4153) := Int.mul_nonneg y1.1 (by omega)
          have p1 : z * (2 * turn + 4153) ≤ 2147483587 * 2004155 := Int.mul_le_mul (by omega) (by omega) (by omega) (by omega)
          have p2 : 0 ≤ 60161 * turn * turn := Int.mul_nonneg (by omega) ht0
          have p3 : 60161 * turn * turn ≤ 60161000000 * 1000000 := Int.mul_le_mul (by omega) (by omega) ht0 (by omega)
          refine ⟨_, rfl, _, rfl, _, _, rfl, rfl, mulOk (by decide), _, _, rfl, rfl, _, _, rfl, rfl, mulOk (by omega), _, rfl, _, _, rfl, rfl, mulOk (by decide), _, rfl, _, _, rfl, rfl, mulOk (by omega), _, _, rfl, rfl, _, _, rfl, rfl, _, _, rfl, rfl, ⟨by decide, by decide, ?_⟩, .inl ⟨_, rfl, _, _, rfl, rfl, (show (0 : Int) < 2147483629 by decide), ?_⟩⟩
          case refine_1 =>
            show (z * (2 * turn + 4153) + 60161 * turn * turn + 31159).natAbs < 2 ^ 64
            omega
          case refine_2 =>
            refine ⟨_, rfl, _, _, rfl, rfl, divW (b := 0) (by decide) (by decide), .inl ⟨_, rfl, _, rfl, _, _, rfl, rfl, hm, q _ _ o2 ⟨cs, turn + 1, _, ha2, hc2, h60, by omega, by omega⟩ (Int.emod_nonneg _ (by omega)) (Int.emod_lt_of_pos _ hm)⟩⟩
end
end K91
end
section
set_option Elab.async false
set_option linter.all false
set_option maxRecDepth 100000
set_option maxHeartbeats 4000000
namespace K91
open PySem PySem.Spec PyProof.Rows L2 KB M1 M2
section
variable {P : Program} {w : World} {K : PySem.W.Frag} {mg : Str → Option Value} {base : Heap} {A : Ad}
/-! pick -/
abbrev N_law_pick : List Str := ["deck", "some"]
theorem sc_law_pick : FnScope N_law_pick ["deck", "some"] (defScope s_law_pick) := ⟨rfl, rfl, rfl, by decide +kernel, rfl, by decide +kernel, by decide +kernel⟩
def sp_law_pick : Sp := fun vs H Q _ => ∃ (a c l : Addr) (xs : List V) (k : Nat), vs = [.ref a, .ref l] ∧ DeckAt H a c k ∧ k ≤ 1000000 ∧ H l = some (.lst xs) ∧ l ≠ a ∧ 0 < xs.length ∧ xs.length ≤ 1000 ∧ ∀ (H' : Hp) (x : V) (i : Nat), Off a H H' → DeckAt H' a c (k + 1) → xs[i]? = some x → Q x H'
theorem G_law_pick (T : Txt K mg A) : FnOk P w K mg base CX0 2 A.f_law_pick A.d_law_pick ["deck", "some"] (sp_law_pick) := by
  refine T.F_law_pick.ok sc_law_pick (fun vs H Q E h => ?_) (fun cdv A' outer s H vs Q E hr h => ?_)
  · obtain ⟨a, c, l, xs, k, rfl, _⟩ := h
    rfl
  · obtain ⟨a, c, l, xs, k, rfl, hd, hk, hl, hla, h0, h1, q⟩ := h
    have nd := sc_law_pick.nd
    refine ⟨_, (pss_one (ps_ret (pe_ix (ixl (K := K) rfl) (pv 1) (pe_call (G_law_draw T) (hr.mono (by decide)) rfl T.g_law_draw T.F_law_draw.kp T.B_law_draw .nil pass0 (pa_cons (pv 0) (pa_cons (pe_callB (c_len (K := K) rfl) (by rfl) T.b_len (by decide +kernel) (pa_cons (pv 1) pa_nil)) pa_nil))) (fun _ _ => rfl)))), ?_⟩
    refine ⟨_, rfl, _, rfl, _, rfl, l, _, rfl, .inl (SqL.of hl), a, c, k, _, rfl, hd, hk, by omega, by omega, fun H' r o d r0 r1 => ?_⟩
    obtain ⟨j, rfl⟩ : ∃ j : Nat, r = (j : Int) := ⟨r.toNat, by omega⟩
    have hj : j < xs.length := by omega
    exact ⟨l, xs, _, xs[j], rfl, rfl, SqL.of (o _ _ hla hl), atI_nat (by simp [hj]), q _ _ j o d (by simp [hj])⟩
/-! low -/
abbrev N_law_low : List Str := ["p", "q", "one", "other"]
theorem sc_law_low : FnScope N_law_low ["p", "q"] (defScope s_law_low) := ⟨rfl, rfl, rfl, by decide +kernel, rfl, by decide +kernel, by decide +kernel⟩
def sp_law_low : Sp := fun vs H Q _ => ∃ (p q : Int), vs = [.int p, .int q] ∧ 0 < p ∧ 0 < q ∧ q < 2 ^ 62 ∧ ∀ H' t, Same H H' → Tv H' t (tI (rd p q)) → Q t H'
theorem gcd_step {x y : Int} (hx : 0 ≤ x) (hy : 0 < y) : Int.gcd y (x % y) = Int.gcd x y := by
  obtain ⟨a, rfl⟩ : ∃ a : Nat, x = (a : Int) := ⟨x.toNat, by omega⟩
  obtain ⟨b, rfl⟩ : ∃ b : Nat, y = (b : Int) := ⟨y.toNat, by omega⟩
  show Nat.gcd (b : Int).natAbs ((a : Int) % (b : Int)).natAbs = Nat.gcd (a : Int).natAbs (b : Int).natAbs
  rw [← Int.natCast_emod, Int.natAbs_natCast, Int.natAbs_natCast, Int.natAbs_natCast, Nat.gcd_comm b, ← Nat.gcd_rec, Nat.gcd_comm]
theorem G_law_low (T : Txt K mg A) : FnOk P w K mg base CX0 1 A.f_law_low A.d_law_low ["p", "q"] (sp_law_low) := by
  refine T.F_law_low.ok sc_law_low (fun vs H Q E h => ?_) (fun cdv A' outer s H vs Q E hr h => ?_)
  · obtain ⟨p, q, rfl, _⟩ := h
    rfl
  · obtain ⟨p, q, rfl, hp, hq, hq2, k⟩ := h
    have nd := sc_law_low.nd
    refine ⟨_, (pss_cons (ps_par (i := 2) (j := 3) (by rfl) nd rfl rfl (by decide) rfl rfl (pa_cons (pe_callB call_abs (by rfl) T.b_abs (by decide +kernel) (pa_cons (pv 0) pa_nil)) (pa_cons (pv 1) pa_nil)) (by rfl))
      (pss_cons (ps_while PassesOwn.never (pt_cmpR op_gt (pv 3) pe_int (nomark _)) (pss_one (ps_par (i := 2) (j := 3) (by rfl) nd rfl rfl (by decide) rfl rfl (pa_cons (pv 3) (pa_cons (pe_op op_mod (pe_callTy call_int1 (by rfl) T.b_int (by decide +kernel) (pa_cons (pv 2) pa_nil)) (pv 3)) pa_nil)) (by rfl))))
      (pss_one (ps_ret (pe_tup (pa_cons (pe_op op_fdivW (pe_callTy call_int1 (by rfl) T.b_int (by decide +kernel) (pa_cons (pv 0) pa_nil)) (pe_callB (call_max2 rfl) (by rfl) T.b_max (by decide +kernel) (pa_cons (pv 2) (pa_cons pe_int pa_nil)))) (pa_cons (pe_op op_fdivW (pv 1) (pe_callB (call_max2 rfl) (by rfl) T.b_max (by decide +kernel) (pa_cons (pv 2) (pa_cons pe_int pa_nil)))) pa_nil))))))), ?_⟩
    refine ⟨_, rfl, _, rfl, _, rfl, _, _, rfl, ?_⟩
    refine ⟨fun m σ H2 => ∃ x y : Int, σ = [some (.int p), some (.int q), some (.int x), some (.int y)] ∧ H2 = H ∧ 0 ≤ x ∧ 0 ≤ y ∧ Int.gcd x y = Int.gcd p q ∧ m = y.toNat, ⟨_, _, _, rfl, rfl, by rw [if_neg (by omega)]; omega, by omega, by rw [if_neg (by omega)], rfl⟩, ?_⟩
    rintro m σ H2 ⟨x, y, rfl, rfl, hx, hy, hg, rfl⟩
    refine ⟨_, rfl, _, _, rfl, rfl, _, rfl, ?_⟩
    by_cases h0 : 0 < y
    · rw [decide_eq_true h0]
      have l1 := Int.emod_nonneg x (show y ≠ 0 by omega)
      have l2 := Int.emod_lt_of_pos x h0
      refine iteT ⟨fun σ' H' => σ' = [some (.int p), some (.int q), some (.int y), some (.int (x % y))] ∧ H' = H2, ?_, ?_⟩
      · rintro σ' H' ⟨h3, h4⟩
        exact ⟨(x % y).toNat, by omega, y, x % y, h3, h4, by omega, l1, by rw [gcd_step hx h0, hg], rfl⟩
      exact ⟨_, rfl, _, rfl, .inl ⟨_, rfl, _, rfl, _, _, rfl, rfl, h0, _, _, rfl, rfl, rfl⟩⟩
    · rw [decide_eq_false h0]
      have y0 : y = 0 := by omega
      subst y0
      have hx2 : x = (Int.gcd p q : Int) := by
        rw [← hg, Int.gcd_zero_right]
        omega
      have gp := gcd_pos (p := p) hq
      have gl : (Int.gcd p q : Int) ≤ q := Int.le_of_dvd hq (Int.gcd_dvd_right p q)
      refine iteF ?_
      have mx : (if (1 : Int) > x then 1 else x) = (Int.gcd p q : Int) := by
        rw [hx2]
        split <;> omega
      refine ⟨_, rfl, .inl ⟨_, rfl, _, rfl, _, _, rfl, _, _, rfl, rfl, by rw [mx]; exact divW (b := 0) gp (by omega), _, rfl, _, rfl, _, _, rfl, _, _, rfl, rfl, by rw [mx]; exact divW (b := 0) gp (by omega), by show 2 ≤ sizeLine; decide, fun t ht => k _ _ (same_new ht) ?_⟩⟩
      rw [mx]
      exact tv_tI upd_same
/-! shares -/
theorem _root_.KB.lc_mapI {J : It} {n : Nat} {G : Hp → Prop} {Y : Nat → Hp → V → Hp → Prop} (W' : Walk J n G Y) {g : TG} {te : TE} {vs : List Nat} {σ : L2.St} {H1 : Hp} {D : Addr} {Qd : Hp → Prop}
    (Z : Nat → Hp → Prop) (R : Nat → V → Hp → Prop) (h0 : Z 0 (upd H1 D (.lst []))) (hG : ∀ i H, Z i H → G H) (hR : ∀ i y H H', R i y H → Stab H H' → R i y H')
    (hZ : ∀ i H xs ys, Z i H → H D = some (.lst xs) → Z i (upd H D (.lst ys))) (hn : n ≤ sizeLine)
    (hs : ∀ i x H H' ys, i < n → Z i H → H D = some (.lst ys) → ys.length = i → Y i H x H' → ∀ Q : VK, (∀ y H4, Z (i + 1) H4 → H4 D = some (.lst ys) → Stab H H4 → R i y H4 → Q y H4) →
      g x (wipe σ vs) H' fun σ2 H2 => wipe σ2 vs = wipe σ vs ∧ te σ2 H2 Q)
    (hd : ∀ ys H, Z n H → H D = some (.lst ys) → ys.length = n → (∀ i y, ys[i]? = some y → R i y H) → Qd H) :
    ∃ W : Nat → Nat → Hp → Prop, (∃ m, W 0 m (upd H1 D (.lst []))) ∧ ∀ i m H, W i m H →
      (J.stop i H ∧ Qd H) ∨ (J.go i H ∧ ∃ Nx : Hp → Prop, (∀ H', Nx H' → ∃ m', m' < m ∧ W (i + 1) m' H') ∧ ∀ x H', J.yld i H x H' → g x (wipe σ vs) H' fun σ2 H2 => wipe σ2 vs = wipe σ vs ∧ tYes σ2 H2 fun b H3 =>
        if b = true then te σ2 H3 fun y H4 => ∃ acc, H4 D = some (.lst acc) ∧ acc.length < sizeLine ∧ Nx (upd H4 D (.lst (acc ++ [y]))) else Nx H3) := by
  refine lc_it W' (tt := tYes) (fun i H => Z i H ∧ ∃ ys, H D = some (.lst ys) ∧ ys.length = i ∧ ∀ j y, ys[j]? = some y → R j y H) ⟨h0, [], upd_same, rfl, fun j y e => by simp at e⟩ (fun i H _ h => hG i H h.1) ?_ (fun H h => ?_)
  · rintro i x H H' hi ⟨hz, ys, hy, hl, hr⟩ y
    refine hs i x H H' ys hi hz hy hl y _ (fun v H4 z4 d4 st rv => ⟨ys, d4, Nat.lt_of_lt_of_le (by omega) hn, hZ _ _ _ _ z4 d4, ys ++ [v], upd_same, by simp [hl], fun j w e => ?_⟩)
    have st2 : Stab H4 (upd H4 D (.lst (ys ++ [v]))) := Stab.put d4 imm_lst
    by_cases hj : j < ys.length
    · rw [List.getElem?_append_left hj] at e
      exact hR _ _ _ _ (hR _ _ _ _ (hr j w e) st) st2
    · rw [List.getElem?_append_right (by omega)] at e
      have e0 : j - ys.length = 0 := by
        by_cases z : j - ys.length = 0
        · exact z
        · rw [List.getElem?_eq_none (by simp; omega)] at e
          cases e
      rw [e0] at e
      obtain rfl : v = w := by simpa using e
      have ej : j = i := by omega
      rw [ej]
      exact hR _ _ _ _ rv st2
  · obtain ⟨hz, ys, hy, hl, hr⟩ := h
    exact hd ys H hz hy hl hr
/-- off a mutable thing nothing that never changes is lost -/
theorem Off.stab {a : Addr} {o : HO} {H H' : Hp} (e : Off a H H') (h : H a = some o) (n : ¬ Imm o) : Stab H H' := fun b u hb i => e b u (fun z => by
  subst z
  rw [h] at hb
  cases hb
  exact n i) hb
theorem DeckAt.stab {H H' : Hp} {a c : Addr} {k : Nat} (h : DeckAt H a c k) (e : Off a H H') : Stab H H' := by
  obtain ⟨cs, t, r, h1, _⟩ := h
  exact e.stab h1 imm_lst
theorem DeckAt.put {H : Hp} {a c D : Addr} {k : Nat} {o : HO} (h : DeckAt H a c k) (hD : D ≠ a) (hc : D ≠ c) : DeckAt (upd H D o) a c k := by
  obtain ⟨cs, t, r, h1, h2, h3⟩ := h
  exact ⟨cs, t, r, by rw [upd_ne (Ne.symm hD)]; exact h1, by rw [upd_ne (Ne.symm hc)]; exact h2, h3⟩
theorem DeckAt.fresh {H : Hp} {a c D : Addr} {k : Nat} (h : DeckAt H a c k) (n : H D = none) : D ≠ a ∧ D ≠ c := by
  obtain ⟨cs, t, r, h1, h2, h3⟩ := h
  constructor <;> (intro z; subst z; simp_all)
theorem DeckAt.ne {H : Hp} {a c D : Addr} {k : Nat} (h : DeckAt H a c k) {o : HO} (n : H D = some o) (hn : ∀ xs, o ≠ .lst xs) : D ≠ a := fun z => by
  obtain ⟨cs, t, r, h1, _⟩ := h
  subst z
  rw [h1] at n
  exact hn _ (Option.some.inj n).symm
theorem ints_ex {p : Int → Prop} : ∀ {ys : List V}, (∀ (i : Nat) (y : V), ys[i]? = some y → ∃ r, y = V.int r ∧ p r) → ∃ ns : List Int, ys = ns.map V.int ∧ ∀ n ∈ ns, p n
  | [], _ => ⟨[], rfl, fun _ h => by simp at h⟩
  | y :: ys, h => by
    obtain ⟨r, rfl, hr⟩ := h 0 y rfl
    obtain ⟨ns, e, hn⟩ := ints_ex (ys := ys) fun i y hi => h (i + 1) y (by simpa using hi)
    refine ⟨r :: ns, by rw [e]; rfl, fun n hm => ?_⟩
    rcases List.mem_cons.mp hm with e | hm
    · rw [e]
      exact hr
    · exact hn n hm
abbrev N_law_shares : List Str := ["deck", "many", "top", "found", "spot"]
theorem sc_law_shares : FnScope N_law_shares ["deck", "many", "top"] (defScope s_law_shares) := ⟨rfl, rfl, rfl, by decide +kernel, rfl, by decide +kernel, by decide +kernel⟩
/-- what is drawn: ints from 1 to m -/
def Drawn (ns : List Int) (m : Int) : Prop := ∀ n ∈ ns, 1 ≤ n ∧ n ≤ m
def sp_law_shares : Sp := fun vs H Q _ => ∃ (a c : Addr) (k n : Nat) (top : Int), vs = [.ref a, .int n, .int top] ∧ DeckAt H a c k ∧ k ≤ 900000 ∧ n ≤ 100 ∧ 4 ≤ top ∧ top ≤ 90 ∧
  ∀ H' t l ns, Off a H H' → DeckAt H' a c (k + 2 * n) → H' t = some (.tup [.ref l, .int ns.sum]) → H' l = some (.lst (ns.map V.int)) → l ≠ a → H l = none → ns.length = n → Drawn ns top → Q (.ref t) H'
theorem G_law_shares (T : Txt K mg A) : FnOk P w K mg base CX0 3 A.f_law_shares A.d_law_shares ["deck", "many", "top"] (sp_law_shares) := by
  refine T.F_law_shares.ok sc_law_shares (fun vs H Q E h => ?_) (fun cdv A' outer s H vs Q E hr h => ?_)
  · obtain ⟨a, c, k, n, top, rfl, _⟩ := h
    rfl
  · obtain ⟨a, c, k, n, top, rfl, hd, hk, hn, t4, t90, q⟩ := h
    have nd := sc_law_shares.nd
    refine ⟨_, (pss_cons (ps_setLc (i := 3) (own := [("spot", 4)]) (by rfl) nd rfl rfl (sw_true rfl rfl rfl (by decide +kernel)) (pi_range1 rfl T.b_range (pa_cons (pv 1) pa_nil)) (blkOk_by (own := [("spot", 4)]) (N := N_law_shares) (sc := defScope s_law_shares) (by decide +kernel)) (fun _ _ _ _ _ => (pg_name (i := 4) nd rfl (Or.inl rfl))) (fun _ _ _ _ _ => pts_nil) (fun _ _ _ _ _ => (pe_op op_add pe_int (pe_call (G_law_draw T) (hr.mono (by decide)) rfl T.g_law_draw T.F_law_draw.kp T.B_law_draw .nil pass0 (pa_cons (pv 0) (pa_cons (pe_call (G_law_pick T) (hr.mono (by decide)) rfl T.g_law_pick T.F_law_pick.kp T.B_law_pick .nil pass0 (pa_cons (pv 0) (pa_cons (pe_lst (pa_cons pe_int (pa_cons pe_int (pa_cons pe_int (pa_cons (pv 2) pa_nil))))) pa_nil))) pa_nil))))))
      (pss_one (ps_ret (pe_tup (pa_cons (pv 3) (pa_cons (pe_callB (c_sum (K := K) rfl rfl) (by rfl) T.b_sum (by decide +kernel) (pa_cons (pv 3) pa_nil)) pa_nil)))))), ?_⟩
    refine ⟨_, rfl, _, rfl, by omega, by omega, fun D hD => lc_mapI (walk_range (lo := 0) (n := ((n : Nat) : Int).toNat)) (fun i H' => Off a H H' ∧ DeckAt H' a c (k + 2 * i)) (fun i y _ => ∃ r : Int, y = V.int r ∧ 1 ≤ r ∧ r ≤ top) ⟨Off.same (same_new hD), hd.same (same_new hD)⟩ (fun _ _ _ => trivial) (fun _ _ _ _ r _ => r) (fun i H' xs ys z e => ?_) (by rw [sizeLine_eq]; omega) (fun i x H2 H3 ys hi z hy hyl y Q2 q2 => ?_) (fun ys H2 z hy hyl hys => ?_)⟩
    · have fr := hd.fresh hD
      refine ⟨fun b u hb h => ?_, z.2.put fr.1 fr.2⟩
      rw [upd_ne (ne_of_none h hD)]
      exact z.1 b u hb h
    · obtain ⟨rfl, rfl⟩ := y
      refine ⟨rfl, _, rfl, _, rfl, _, rfl, by show 4 ≤ sizeLine; decide, fun l hl => ?_⟩
      have n1 := same_new (o := HO.lst [.int 1, .int 2, .int 3, .int top]) hl
      have fl := z.2.fresh hl
      refine ⟨a, c, l, _, _, rfl, z.2.same n1, by omega, upd_same, fl.1, by show 0 < 4; decide, by show 4 ≤ 1000; decide, fun H5 x j o5 d5 hx => ?_⟩
      obtain ⟨m, rfl, m1, m2⟩ : ∃ m : Int, x = V.int m ∧ 1 ≤ m ∧ m ≤ top := by
        match j, hx with
        | 0, hx => exact ⟨1, (Option.some.inj hx).symm, by omega, by omega⟩
        | 1, hx => exact ⟨2, (Option.some.inj hx).symm, by omega, by omega⟩
        | 2, hx => exact ⟨3, (Option.some.inj hx).symm, by omega, by omega⟩
        | 3, hx => exact ⟨top, (Option.some.inj hx).symm, by omega, by omega⟩
        | j + 4, hx => simp at hx
      refine ⟨a, c, _, m, rfl, d5, by omega, by omega, by omega, fun H6 r o6 d6 r0 r1 => ?_⟩
      refine ⟨_, _, rfl, rfl, q2 _ _ ⟨?_, ?_⟩ ?_ ?_ ⟨1 + r, rfl, by omega, by omega⟩⟩
      · exact z.1.trans ((Off.same n1).trans (o5.trans o6))
      · exact d6.mono (by omega)
      · have fr := hd.fresh hD
        exact o6 _ _ fr.1 (o5 _ _ fr.1 (n1 _ _ hy))
      · exact (Stab.same n1).trans ((z.2.same n1).stab (o5.trans o6))
    · obtain ⟨ns, rfl, hns⟩ := ints_ex hys
      have en : ((n : Nat) : Int).toNat = n := by omega
      rw [en] at z hyl
      rw [List.length_map] at hyl
      have fr := hd.fresh hD
      refine ⟨_, rfl, _, rfl, D, ns, rfl, SqL.of hy, by show 2 ≤ sizeLine; decide, fun t ht => ?_⟩
      have n1 := same_new (o := HO.tup [.ref D, .int ns.sum]) ht
      exact q _ t D ns (z.1.trans (Off.same n1)) (z.2.same n1) upd_same (n1 _ _ hy) fr.1 hD hyl hns
end
end K91
end
section
set_option Elab.async false
set_option linter.all false
set_option maxRecDepth 100000
set_option maxHeartbeats 4000000
namespace K91
open PySem PySem.Spec PyProof.Rows L2 KB M1 M2
section
variable {P : Program} {w : World} {K : PySem.W.Frag} {mg : Str → Option Value} {base : Heap} {A : Ad}
/-- a share that is neither the deck nor the list -/
def ShAt (H : Hp) (a f : Addr) (x : V) (m W : Int) : Prop := ∃ (b : Addr) (p q : Int), x = .ref b ∧ b ≠ a ∧ b ≠ f ∧ (H b = some (.tup [.int p, .int q]) ∨ H b = some (.lst [.int p, .int q])) ∧ 0 < p ∧ 0 < q ∧ q < 2 ^ 30 ∧ p < 2 ^ 30 ∧ rd p q = rd m W
theorem ShAt.off {H H' : Hp} {a f : Addr} {x : V} {m W : Int} (h : ShAt H a f x m W) (e : Off a H H') : ShAt H' a f x m W := by
  obtain ⟨b, p, q, h1, h2, h3, h4, h5⟩ := h
  exact ⟨b, p, q, h1, h2, h3, h4.imp (e _ _ h2) (e _ _ h2), h5⟩
theorem ShAt.put {H : Hp} {a f : Addr} {x : V} {m W : Int} {o : HO} (h : ShAt H a f x m W) : ShAt (upd H f o) a f x m W := by
  obtain ⟨b, p, q, h1, h2, h3, h4, h5⟩ := h
  exact ⟨b, p, q, h1, h2, h3, by rw [upd_ne h3]; exact h4, h5⟩
theorem ShAt.sh {H : Hp} {a f : Addr} {x : V} {m W : Int} (h : ShAt H a f x m W) : ShIn H x m W := by
  obtain ⟨b, p, q, h1, _, _, h4, h5, h6, h7, _, h8⟩ := h
  exact ⟨p, q, ⟨b, h1, h4⟩, h5, h6, h7, h8⟩
/-- lowest terms of a share are a share -/
theorem rd_parts {m W : Int} (hm : 0 < m) (hW : 0 < W) : 0 < m / (Int.gcd m W : Int) ∧ 0 < W / (Int.gcd m W : Int) ∧ W / (Int.gcd m W : Int) ≤ W ∧ rd (m / (Int.gcd m W : Int)) (W / (Int.gcd m W : Int)) = rd m W := by
  obtain ⟨a, b, h1, h2, hb, hab, e1, e2⟩ := split (p := m) hW
  have g := gcd_pos (p := m) hW
  have d := rd_den (m := m) hW
  rw [e1, e2] at *
  refine ⟨?_, hb, d.2, rd_eq hb hW ?_⟩
  · rcases Int.lt_or_le 0 a with z | z
    · exact z
    · have := Int.mul_nonpos_of_nonneg_of_nonpos (a := (Int.gcd m W : Int)) (b := a) (by omega) z
      omega
  · conv => lhs; rhs; rw [h2]
    conv => rhs; lhs; rw [h1]
    ac_rfl
abbrev N_law_fractions : List Str := ["deck", "parts", "whole", "found", "one", "times", "pair"]
theorem sc_law_fractions : FnScope N_law_fractions ["deck", "parts", "whole"] (defScope s_law_fractions) := ⟨rfl, rfl, rfl, by decide +kernel, rfl, by decide +kernel, by decide +kernel⟩
def sp_law_fractions : Sp := fun vs H Q _ => ∃ (a c l : Addr) (k : Nat) (ns : List Int) (W : Int), vs = [.ref a, .ref l, .int W] ∧ DeckAt H a c k ∧ k ≤ 900000 ∧ H l = some (.lst (ns.map V.int)) ∧ l ≠ a ∧ ns.length ≤ 10 ∧ (∀ n ∈ ns, 0 < n ∧ n ≤ 1000) ∧ 0 < W ∧ W ≤ 1000 ∧
  ∀ H' f xs, Off a H H' → DeckAt H' a c (k + 2 * ns.length) → H' f = some (.lst xs) → f ≠ a → xs.length = ns.length → (∀ (i : Nat) (x : V), xs[i]? = some x → ShAt H' a f x (ns.getD i 0) W) → Q (.ref f) H'
theorem G_law_fractions (T : Txt K mg A) : FnOk P w K mg base CX0 3 A.f_law_fractions A.d_law_fractions ["deck", "parts", "whole"] (sp_law_fractions) := by
  refine T.F_law_fractions.ok sc_law_fractions (fun vs H Q E h => ?_) (fun cdv A' outer s H vs Q E hr h => ?_)
  · obtain ⟨a, c, l, k, ns, W, rfl, _⟩ := h
    rfl
  · obtain ⟨a, c, l, k, ns, W, rfl, hd, hk, hl, hla, hn, hns, hW, hW2, q⟩ := h
    have nd := sc_law_fractions.nd
    refine ⟨_, (pss_cons (ps_set (i := 3) nd rfl (Or.inl rfl) (pe_lst pa_nil))
      (pss_cons (ps_for PassesOwn.never rfl (pil (K := K) rfl (pv 1)) (pg_name (i := 4) nd rfl (Or.inl rfl))
      (pss_cons (ps_set (i := 5) nd rfl (Or.inl rfl) (pe_call (G_law_pick T) (hr.mono (by decide)) rfl T.g_law_pick T.F_law_pick.kp T.B_law_pick .nil pass0 (pa_cons (pv 0) (pa_cons (pe_lst (pa_cons pe_int (pa_cons pe_int (pa_cons pe_int (pa_cons pe_int pa_nil))))) pa_nil))))
      (pss_cons (ps_set (i := 6) nd rfl (Or.inl rfl) (pe_ifExp (pt_cmpR op_gt (pv 5) pe_int (nomark _)) (pe_tup (pa_cons (pe_op op_mul (pv 4) (pv 5)) (pa_cons (pe_op op_mul (pv 2) (pv 5)) pa_nil))) (pe_call (G_law_low T) (hr.mono (by decide)) rfl T.g_law_low T.F_law_low.kp T.B_law_low .nil pass0 (pa_cons (pv 4) (pa_cons (pv 2) pa_nil)))))
      (pss_one (ps_expr (pe_bm PySem.F.plainAttrs_list PySem.F.slot_list_append PySem.F.type_list_append mt_append (pv 3) (pa_cons (pe_ifExp (pt_cmpR op_eq (pe_call (G_law_draw T) (hr.mono (by decide)) rfl T.g_law_draw T.F_law_draw.kp T.B_law_draw .nil pass0 (pa_cons (pv 0) (pa_cons pe_int pa_nil))) pe_int (nomark _)) (pe_callTy (c_lst (K := K) rfl) (by rfl) T.b_list (by decide +kernel) (pa_cons (pv 6) pa_nil)) (pv 6)) pa_nil)))))))
      (pss_one (ps_ret (pv 3))))), ?_⟩
    refine ⟨by show 0 ≤ sizeLine; decide, fun f hf => ?_⟩
    have ffr := hd.fresh hf
    have n0 := same_new (o := HO.lst []) hf
    have hlf : l ≠ f := ne_of_none hl hf
    refine ⟨_, rfl, l, rfl, ⟨_, SqL.of (n0 _ _ hl)⟩, for_list (K := K) (a := l) (xs := ns.map V.int) (fun i σ H2 => ∃ x4 x5 x6 xs, σ = [some (.ref a), some (.ref l), some (.int W), some (.ref f), x4, x5, x6] ∧ Off a H H2 ∧ DeckAt H2 a c (k + 2 * i) ∧ H2 f = some (.lst xs) ∧ xs.length = i ∧ ∀ (j : Nat) (x : V), xs[j]? = some x → ShAt H2 a f x (ns.getD j 0) W)
      ⟨none, none, none, [], rfl, Off.same n0, hd.same n0, upd_same, rfl, fun j x h => by simp at h⟩ (fun i σ H2 _ ⟨_, _, _, _, _, o, _⟩ => SqL.of (o _ _ hla hl)) ?_ ?_⟩
    · rintro i y σ H2 hi ⟨x4, x5, x6, xs, rfl, o2, d2, hf2, hlen, hsh⟩
      rw [List.getElem?_map] at hi
      obtain ⟨m, hm, rfl⟩ := Option.map_eq_some_iff.mp hi
      have hil : i < ns.length := (List.getElem?_eq_some_iff.mp hm).1
      have hmb := hns m (List.mem_of_getElem? hm)
      refine ⟨_, rfl, by show 4 ≤ sizeLine; decide, fun z hz => ?_⟩
      have n1 := same_new (o := HO.lst [.int 1, .int 1, .int 2, .int 7]) hz
      have fz := d2.fresh hz
      refine ⟨a, c, z, _, _, rfl, d2.same n1, by omega, upd_same, fz.1, by show 0 < 4; decide, by show 4 ≤ 1000; decide, fun H5 x j o5 d5 hx => ?_⟩
      obtain ⟨t, rfl, t1, t2⟩ : ∃ t : Int, x = V.int t ∧ 1 ≤ t ∧ t ≤ 7 := by
        match j, hx with
        | 0, hx => exact ⟨1, (Option.some.inj hx).symm, by omega, by omega⟩
        | 1, hx => exact ⟨1, (Option.some.inj hx).symm, by omega, by omega⟩
        | 2, hx => exact ⟨2, (Option.some.inj hx).symm, by omega, by omega⟩
        | 3, hx => exact ⟨7, (Option.some.inj hx).symm, by omega, by omega⟩
        | j + 4, hx => simp at hx
      have O5 := o2.trans ((Off.same n1).trans o5)
      have sh5 : ∀ (j : Nat) (x : V), xs[j]? = some x → ShAt H5 a f x (ns.getD j 0) W := fun j x h => (hsh j x h).off ((Off.same n1).trans o5)
      have hf5 := o5 _ _ ffr.1 (n1 _ _ hf2)
      -- the pair
      refine ⟨_, rfl, _, _, rfl, rfl, _, rfl, ?_⟩
      by_cases ht : 1 < t
      case' pos =>
        rw [decide_eq_true ht]
        refine iteT ⟨_, rfl, _, rfl, _, _, rfl, rfl, mulOk (by omega), _, rfl, _, rfl, _, _, rfl, rfl, mulOk (by omega), by show 2 ≤ sizeLine; decide, fun p6 hp6 => ?_⟩
        have e6 := same_new (o := HO.tup [.int (m * t), .int (W * t)]) hp6
        have h6 : (upd H5 p6 (.tup [.int (m * t), .int (W * t)])) p6 = some (.tup [.int (m * t), .int (W * t)]) := upd_same
        have hp : 0 < m * t := Int.mul_pos hmb.1 (by omega)
        have hq : 0 < W * t := Int.mul_pos hW (by omega)
        have hq2 : W * t < 2 ^ 30 := by
          have : W * t ≤ 1000 * 7 := Int.mul_le_mul hW2 t2 (by omega) (by omega)
          omega
        have hp2 : m * t < 2 ^ 30 := by
          have : m * t ≤ 1000 * 7 := Int.mul_le_mul hmb.2 t2 (by omega) (by omega)
          omega
        have hrd : rd (m * t) (W * t) = rd m W := rd_mul hW (by omega)
        generalize upd H5 p6 (.tup [.int (m * t), .int (W * t)]) = H6 at e6 h6 ⊢
        generalize m * t = p at *
        generalize W * t = q' at *
      case' neg =>
        rw [decide_eq_false ht]
        refine iteF ⟨_, rfl, _, rfl, m, W, rfl, hmb.1, hW, by omega, fun H6 t6 e6 tv => ?_⟩
        obtain ⟨hp, hq, hq1, hrd⟩ := rd_parts hmb.1 hW
        have hq2 : W / (Int.gcd m W : Int) < 2 ^ 30 := by omega
        have hp2 : m / (Int.gcd m W : Int) < 2 ^ 30 := by
          have := Int.ediv_le_self (Int.gcd m W : Int) (Int.le_of_lt hmb.1)
          omega
        obtain ⟨p6, rfl, h6⟩ := tI_tv tv
        unfold rd at h6
        generalize m / (Int.gcd m W : Int) = p at *
        generalize W / (Int.gcd m W : Int) = q' at *
      all_goals
        have d6 := d5.same e6
        have hf6 := e6 _ _ hf5
        have hp6a : p6 ≠ a := d6.ne h6 fun xs z => by cases z
        have hp6f : p6 ≠ f := fun z => by
          rw [z, hf6] at h6
          cases h6
        have O6 := O5.trans (Off.same e6)
        have sh6 : ∀ (j : Nat) (x : V), xs[j]? = some x → ShAt H6 a f x (ns.getD j 0) W := fun j x h => (sh5 j x h).off (Off.same e6)
        refine ⟨_, rfl, .inl ⟨rfl, _, SqL.of hf6⟩, ?_⟩
        refine ⟨_, rfl, a, c, _, 3, rfl, d6, by omega, by decide, by decide, fun H7 r o7 d7 r0 r1 => ?_⟩
        have hf7 := o7 _ _ ffr.1 hf6
        have h67 := o7 _ _ hp6a h6
        have O7 := O6.trans o7
        have sh7 : ∀ (j : Nat) (x : V), xs[j]? = some x → ShAt H7 a f x (ns.getD j 0) W := fun j x h => (sh6 j x h).off o7
        have fin : ∀ (H8 : Hp) (u : V), Same H7 H8 → ShAt H8 a f u m W → ∃ x4 x5 x6 xs', [some (V.ref a), some (V.ref l), some (V.int W), some (V.ref f), some (V.int m), some (V.int t), some (V.ref p6)] = [some (.ref a), some (.ref l), some (.int W), some (.ref f), x4, x5, x6] ∧ Off a H (upd H8 f (.lst (xs ++ [u]))) ∧ DeckAt (upd H8 f (.lst (xs ++ [u]))) a c (k + 2 * (i + 1)) ∧ (upd H8 f (.lst (xs ++ [u]))) f = some (.lst xs') ∧ xs'.length = i + 1 ∧ ∀ (j : Nat) (x : V), xs'[j]? = some x → ShAt (upd H8 f (.lst (xs ++ [u]))) a f x (ns.getD j 0) W := fun H8 u e8 sh => by
          refine ⟨_, _, _, _, rfl, ?_, ((d7.same e8).mono (by omega)).put ffr.1 ffr.2, upd_same, by simp [hlen], fun j x hx => ?_⟩
          · intro b v hb h
            rw [upd_ne (ne_of_none h hf)]
            exact e8 _ _ (O7 b v hb h)
          · by_cases hj : j < xs.length
            · rw [List.getElem?_append_left hj] at hx
              exact ((sh7 j x hx).off (Off.same e8)).put
            · rw [List.getElem?_append_right (by omega)] at hx
              have e0 : j - xs.length = 0 := by
                by_cases z : j - xs.length = 0
                · exact z
                · rw [List.getElem?_eq_none (by simp; omega)] at hx
                  cases hx
              rw [e0] at hx
              obtain rfl : u = x := by simpa using hx
              have ej : j = i := by omega
              subst ej
              rw [← some_getD hm]
              exact sh.put
        refine ⟨rfl, _, rfl, ?_⟩
        by_cases hr0 : r = 0
        · rw [decide_eq_true (show V.int r = V.int 0 by rw [hr0])]
          refine iteT ⟨_, rfl, p6, _, rfl, .inr (SqT.of h67), fun l2 hl2 => ?_⟩
          have e8 := same_new (o := HO.lst [.int p, .int q']) hl2
          have l2a : l2 ≠ a := (d7.fresh hl2).1
          have l2f : l2 ≠ f := fun z => by
            rw [z, hf7] at hl2
            cases hl2
          exact ⟨f, xs, _, rfl, rfl, e8 _ _ hf7, by rw [sizeLine_eq]; omega, fin _ (.ref l2) e8 ⟨l2, p, q', rfl, l2a, l2f, .inr upd_same, hp, hq, hq2, hp2, hrd⟩⟩
        · rw [decide_eq_false (show ¬ V.int r = V.int 0 by intro z; injection z; omega)]
          refine iteF ⟨_, rfl, f, xs, _, rfl, rfl, hf7, by rw [sizeLine_eq]; omega, fin _ (.ref p6) (Same.refl _) ⟨p6, p, q', rfl, hp6a, hp6f, .inl h67, hp, hq, hq2, hp2, hrd⟩⟩
    · rintro σ H2 ⟨x4, x5, x6, xs, rfl, o2, d2, hf2, hlen, hsh⟩
      rw [List.length_map] at d2 hlen
      exact ⟨_, rfl, q _ f xs o2 d2 hf2 ffr.1 hlen hsh⟩
end
end K91
end
section
set_option Elab.async false
set_option linter.all false
set_option maxRecDepth 100000
set_option maxHeartbeats 4000000
namespace K91
open PySem PySem.Spec PyProof.Rows L2 KB M1 M2
def triD (x : T3) : PyData := tI [x.1, x.2.1, x.2.2]
theorem jobs_succ (W : Int) (s : Nat → Int) (o m : Nat) : jobs W s o (m + 1) = jobs W s o m ++ [job W s o m] := by
  unfold jobs
  rw [List.range_succ, List.map_append]
  rfl
theorem allJobs_succ (W : Int) (s : Nat → Int) (m : Nat) : allJobs W s (m + 1) = allJobs W s m ++ jobs W s m (s m).toNat := by
  unfold allJobs
  rw [List.range_succ, List.flatMap_append]
  simp
theorem tvs_len2 {H : Hp} {ys : List V} {ls : List T3} (h : TvAll H ys (ls.map triD)) : ys.length = ls.length := by
  rw [tvs_len h, List.length_map]
theorem tri_at {H : Hp} {ys : List V} {ls : List T3} (h : TvAll H ys (ls.map triD)) {i : Nat} {y : V} (e : ys[i]? = some y) : ∃ x b, ls[i]? = some x ∧ y = V.ref b ∧ H b = some (.tup [.int x.1, .int x.2.1, .int x.2.2]) := by
  obtain ⟨d, hd, tv⟩ := tvs_get h e
  rw [List.getElem?_map] at hd
  obtain ⟨x, hx, rfl⟩ := Option.map_eq_some_iff.mp hd
  obtain ⟨b, rfl, hb⟩ := tI_tv tv
  exact ⟨x, b, hx, rfl, hb⟩
theorem tvs_erase {H : Hp} : ∀ {ys : List V} {ds : List PyData} {j : Nat}, TvAll H ys ds → TvAll H (ys.eraseIdx j) (ds.eraseIdx j)
  | [], _, j, h => by cases h; exact .nil
  | y :: ys, _, 0, h => by
    cases h with
    | cons h1 h2 => exact h2
  | y :: ys, _, j + 1, h => by
    cases h with
    | cons h1 h2 => exact .cons h1 (tvs_erase h2)
theorem map_erase (f : T3 → PyData) : ∀ (ls : List T3) (j : Nat), (ls.eraseIdx j).map f = (ls.map f).eraseIdx j
  | [], j => by simp
  | x :: ls, 0 => rfl
  | x :: ls, j + 1 => by
    show f x :: (ls.eraseIdx j).map f = f x :: (ls.map f).eraseIdx j
    rw [map_erase f ls j]
theorem shp_tris (ls : List T3) : SeqAt.shaped (.list (ls.map triD)) = true := by
  have c : ∀ ls : List T3, PyData.canLayAll0 (ls.map triD) = true := by
    intro ls
    induction ls with
    | nil => simp [PyData.canLayAll0]
    | cons x ls ih => simp [PyData.canLayAll0, PyData.canLay0, triD, tI, ih]
  have d : ∀ ls : List T3, PyData.depthAll (ls.map triD) ≤ 3 := by
    intro ls
    induction ls with
    | nil => simp [PyData.depthAll]
    | cons x ls ih =>
      simp [PyData.depthAll, PyData.depth, triD, tI]
      omega
  have := d ls
  unfold SeqAt.shaped
  simp [PyData.canLay0, c, PyData.depth]
  omega
/-- the numbers of a triple that stands at v -/
def k3 (H : Hp) (v : V) : T3 := match v with
  | .ref b => (match H b with
    | some (.tup [.int x, .int y, .int z]) => (x, y, z)
    | _ => (0, 0, 0))
  | _ => (0, 0, 0)
theorem k3_at {H : Hp} {b : Addr} {x : T3} (h : H b = some (.tup [.int x.1, .int x.2.1, .int x.2.2])) : k3 H (.ref b) = x := by
  unfold k3
  simp only [h]
theorem _root_.L2.Room.u65 {k : Nat} {A : Around} (r : Room k A) : A.units + 65 < cLine := by
  have := r.un
  omega
theorem take_filter {p : V → Bool} {ys : List V} {i : Nat} {y : V} (h : ys[i]? = some y) : (ys.take (i + 1)).filter p = (ys.take i).filter p ++ (if p y = true then [y] else []) := by
  rw [List.take_add_one, h]
  show (ys.take i ++ [y]).filter p = _
  rw [List.filter_append]
  congr 1
  by_cases z : p y = true
  · rw [if_pos z]
    simp [z]
  · rw [if_neg z]
    simp [z]
section
variable {P : Program} {w : World} {K : PySem.W.Frag} {mg : Str → Option Value} {base : Heap} {A : Ad}
abbrev N_law_row : List Str := ["parts", "whole", "left", "out", "share", "turn", "found", "pas", "open_ones", "one"]
theorem sc_law_row : FnScope N_law_row ["parts", "whole"] (defScope s_law_row) := ⟨rfl, rfl, rfl, by decide +kernel, rfl, by decide +kernel, by decide +kernel⟩
def sp_law_row : Sp := fun vs H Q _ => ∃ (a : Addr) (N n : Nat) (s : Nat → Int), vs = [.ref a, .int N] ∧ H a = some (.lst (vI s n)) ∧ 0 < N ∧ N ≤ 400 ∧ n ≤ 6 ∧ S n s = N ∧ (∀ i, i < n → 0 < s i) ∧
  ∀ H' l, Same H H' → H l = none → H' l = some (.lst (vI (fun t => (pk N s n t : Int)) N)) → Q (.ref l) H'
theorem G_law_row (T : Txt K mg A) : FnOk P w K mg base CX0 1 A.f_law_row A.d_law_row ["parts", "whole"] (sp_law_row) := by
  refine T.F_law_row.ok sc_law_row (fun vs H Q E h => ?_) (fun cdv A' outer s H vs Q E hr h => ?_)
  · obtain ⟨a, N, n, s, rfl, _⟩ := h
    rfl
  · obtain ⟨a, N, n, s, rfl, ha, hN, hN2, hn, hsum, hs, q⟩ := h
    have nd := sc_law_row.nd
    have hu65 := hr.u65
    refine ⟨_, (pss_cons (ps_set (i := 2) nd rfl (Or.inl rfl) (pe_lst pa_nil))
      (pss_cons (ps_for PassesOwn.never rfl (pi_enL (K := K) rfl rfl T.b_enumerate (pa_cons (pv 0) pa_nil)) (pgt (K := K) (n := 2) rfl rfl (pgs_cons (pg_name (i := 3) nd rfl (Or.inl rfl)) (pgs_cons (pg_name (i := 4) nd rfl (Or.inl rfl)) pgs_nil)))
      (pss_one (ps_for PassesOwn.never rfl (pi_range1 rfl T.b_range (pa_cons (pv 4) pa_nil)) (pg_name (i := 5) nd rfl (Or.inl rfl))
      (pss_one (ps_expr (pe_bm PySem.F.plainAttrs_list PySem.F.slot_list_append PySem.F.type_list_append mt_append (pv 2) (pa_cons (pe_tup (pa_cons (pe_op op_sub pe_int (pe_op op_fdivW (pe_op op_sub pe_int (pe_op op_mul (pe_op op_add (pv 5) pe_int) (pv 1))) (pv 4))) (pa_cons (pv 3) (pa_cons (pe_op op_fdivW (pe_op op_mul (pv 5) (pv 1)) (pv 4)) pa_nil)))) pa_nil)))))))
      (pss_cons (ps_set (i := 6) nd rfl (Or.inl rfl) (pe_lst pa_nil))
      (pss_cons (ps_for PassesOwn.never rfl (pi_range1 rfl T.b_range (pa_cons (pv 1) pa_nil)) (pg_name (i := 7) nd rfl (Or.inr rfl))
      (pss_cons (ps_set (i := 8) nd rfl (Or.inl rfl) (pe_callB (c_sorted3 (K := K) rfl) (by rfl) T.b_sorted (by decide +kernel) (pa_cons (pe_lc (own := [("one", 9)]) (by rfl) nd (pil (K := K) rfl (pv 2)) (blkOk_by (own := [("one", 9)]) (N := N_law_row) (sc := defScope s_law_row) (by decide +kernel)) (fun _ _ _ _ _ => (pg_name (i := 9) nd rfl (Or.inl rfl))) (fun _ _ _ _ _ => (pts_one (pt_cmpR op_le (pe_ix (ixt (K := K) rfl) (pv 9) pe_int (fun _ _ => rfl)) (pv 7) (nomark _)))) (fun _ _ _ _ _ => (pv 9))) pa_nil)))
      (pss_cons (ps_expr (pe_bm PySem.F.plainAttrs_list PySem.F.slot_list_append PySem.F.type_list_append mt_append (pv 6) (pa_cons (pe_ix (ixt (K := K) rfl) (pe_ix (ixl (K := K) rfl) (pv 8) pe_int (fun _ _ => rfl)) pe_int (fun _ _ => rfl)) pa_nil)))
      (pss_one (ps_expr (pe_bm PySem.F.plainAttrs_list PySem.F.slot_list_remove PySem.F.type_list_remove (m_removeD (K := K) rfl hu65) (pv 2) (pa_cons (pe_ix (ixl (K := K) rfl) (pv 8) pe_int (fun _ _ => rfl)) pa_nil)))))))
      (pss_one (ps_ret (pv 6))))))), ?_⟩
    have sle : ∀ i, i < n → s i ≤ N := fun i hi => by
      rw [← hsum]
      exact S_one hi fun j hj => Int.le_of_lt (hs j hj)
    refine ⟨by show 0 ≤ sizeLine; decide, fun l hl => ?_⟩
    have n0 := same_new (o := HO.lst []) hl
    have hla : a ≠ l := ne_of_none ha hl
    -- all jobs
    refine ⟨_, rfl, a, _, rfl, SqL.of (n0 _ _ ha), for_it (walk_enum (K := K) (a := a) (xs := vI s n)) (fun o σ H2 => ∃ x3 x4 x5 ys, σ = [some (.ref a), some (.int N), some (.ref l), x3, x4, x5, none, none, none, none] ∧ Same H H2 ∧ H2 l = some (.lst ys) ∧ TvAll H2 ys ((allJobs N s o).map triD) ∧ ys.length ≤ 400 * o) ⟨none, none, none, [], rfl, n0, upd_same, .nil, Nat.zero_le _⟩ (fun o σ H2 _ ⟨_, _, _, _, _, e, _⟩ => SqL.of (e _ _ ha)) ?_ ?_⟩
    · rintro o x σ H2 H3 ho ⟨x3, x4, x5, ys, rfl, e2, hl2, hy, hlen⟩ y
      obtain ⟨t2, y1, y2, rfl, ht2, rfl, h3, h4⟩ := y
      rw [vI_len] at ho
      cases h3
      dsimp only at h4
      rw [vI_at ho] at h4
      cases h4
      have so := hs o ho
      have so2 := sle o ho
      have n2 := same_new (o := HO.tup [.int (o : Nat), .int (s o)]) ht2
      have e3 := e2.trans n2
      refine ⟨t2, _, rfl, SqT.of upd_same, rfl, _, _, rfl, _, _, rfl, rfl, ?_⟩
      refine ⟨_, rfl, _, rfl, by omega, by omega, for_range (lo := 0) (n := (s o).toNat) (fun j σ H4 => ∃ x5 ys, σ = [some (.ref a), some (.int N), some (.ref l), some (.int (o : Nat)), some (.int (s o)), x5, none, none, none, none] ∧ Same H H4 ∧ H4 l = some (.lst ys) ∧ TvAll H4 ys ((allJobs N s o ++ jobs N s o j).map triD) ∧ ys.length ≤ 400 * o + j) ⟨x5, ys, rfl, e3, n2 _ _ hl2, ?_, hlen⟩ ?_ ?_⟩
      · have : allJobs N s o ++ jobs N s o 0 = allJobs N s o := by simp [jobs]
        rw [this]
        exact hy.stab (.same n2)
      · rintro j σ H4 hj ⟨x5, ys, rfl, e4, hl4, hy4, hlen4⟩
        rw [Int.zero_add]
        have dv : ∀ i : Int, CDivW i (s o) := fun i => divW (b := 0) so (by omega)
        refine ⟨_, rfl, .inl ⟨rfl, _, SqL.of hl4⟩, ?_⟩
        refine ⟨_, rfl, _, _, rfl, rfl, _, rfl, _, _, rfl, rfl, mulOk (by omega), _, _, rfl, rfl, _, rfl, _, _, rfl, rfl, dv _, _, _, rfl, rfl, _, rfl, _, rfl, _, rfl, _, _, rfl, rfl, mulOk (by omega), _, rfl, _, _, rfl, rfl, dv _, by show 3 ≤ sizeLine; decide, fun b hb => ?_⟩
        have n5 := same_new (o := HO.tup [.int (job N s o j).1, .int (job N s o j).2.1, .int (job N s o j).2.2]) hb
        have hl5 := n5 _ _ hl4
        have st : Stab (upd H4 b (.tup [.int (job N s o j).1, .int (job N s o j).2.1, .int (job N s o j).2.2])) (upd (upd H4 b (.tup [.int (job N s o j).1, .int (job N s o j).2.1, .int (job N s o j).2.2])) l (.lst (ys ++ [.ref b]))) := Stab.put hl5 imm_lst
        refine ⟨l, ys, _, rfl, rfl, hl5, by rw [sizeLine_eq]; omega, _, ys ++ [.ref b], rfl, same_put (e4.trans n5) hl, upd_same, ?_, by simp; omega⟩
        rw [jobs_succ, ← List.append_assoc, List.map_append]
        exact tvs_snoc (hy4.stab ((Stab.same n5).trans st)) (tv_tI (ns := [_, _, _]) (st _ _ upd_same trivial))
      · rintro σ H4 ⟨x5, ys, rfl, e4, hl4, hy4, hlen4⟩
        refine ⟨_, _, _, ys, rfl, e4, hl4, ?_, by omega⟩
        rw [allJobs_succ]
        exact hy4
    · rintro σ H2 ⟨x3, x4, x5, ys, rfl, e2, hl2, hy, hlen⟩
      rw [vI_len] at hy hlen
      refine ⟨by show 0 ≤ sizeLine; decide, fun f hf => ?_⟩
      have n3 := same_new (o := HO.lst []) hf
      have hlf : l ≠ f := ne_of_none hl2 hf
      have hf0 : H f = none := by
        cases hh : H f with
        | none => rfl
        | some u =>
          rw [e2 _ _ hh] at hf
          cases hf
      refine ⟨_, rfl, _, rfl, by omega, by omega, for_range (lo := 0) (n := ((N : Nat) : Int).toNat) (fun t σ H4 => ∃ x3 x4 x5 x7 x8 ys ls, σ = [some (.ref a), some (.int N), some (.ref l), x3, x4, x5, some (.ref f), x7, x8, none] ∧ Same H H4 ∧ H4 l = some (.lst ys) ∧ H4 f = some (.lst (vI (fun t => (pk N s n t : Int)) t)) ∧ TvAll H4 ys (ls.map triD) ∧ Left N s n (gv N s n t) ls ∧ ys.length ≤ 2400)
        ⟨x3, x4, x5, none, none, ys, _, rfl, e2.trans n3, n3 _ _ hl2, upd_same, hy.stab (.same n3), left_all sle hs, by omega⟩ ?_ ?_⟩
      · rintro t σ H4 ht ⟨x3, x4, x5, x7, x8, ys, ls, rfl, e4, hl4, hf4, hy4, L, hlen⟩
        rw [Int.zero_add]
        obtain ⟨d, hp, hpn⟩ := pick_at hN hsum hs (show t < N by omega)
        have hlens := tvs_len2 hy4
        refine ⟨_, rfl, l, rfl, ⟨_, SqL.of hl4⟩, fun D hD => lc_it (walk_list (K := K) (a := l) (xs := ys)) (fun i H5 => Same H4 H5 ∧ H5 D = some (.lst ((ys.take i).filter fun v => decide ((k3 H4 v).2.2 ≤ t)))) ⟨same_new hD, upd_same⟩ (fun i H5 _ z => SqL.of (z.1 _ _ hl4)) (fun i x H5 H6 hi z y => ?_) (fun H5 z => ?_)⟩
        · obtain ⟨rfl, hx⟩ := y
          obtain ⟨e5, hD5⟩ := z
          obtain ⟨j3, b, hj, rfl, hb⟩ := tri_at hy4 hx
          refine ⟨rfl, _, rfl, b, _, 2, _, rfl, rfl, SqT.of (e5 _ _ hb), rfl, _, rfl, _, _, rfl, rfl, _, rfl, ?_⟩
          have hk := k3_at hb
          have tf := take_filter (p := fun v => decide ((k3 H4 v).2.2 ≤ t)) hx
          by_cases hc : j3.2.2 ≤ t
          · rw [decide_eq_true hc]
            rw [hk, decide_eq_true hc, if_pos rfl] at tf
            refine iteT ⟨_, rfl, _, hD5, ?_, same_put e5 hD, ?_⟩
            · have := List.length_filter_le (fun v => decide ((k3 H4 v).2.2 ≤ t)) (ys.take i)
              rw [List.length_take] at this
              rw [sizeLine_eq]
              omega
            · rw [upd_same, tf]
          · rw [decide_eq_false hc]
            rw [hk, decide_eq_false hc, if_neg (by decide), List.append_nil] at tf
            refine iteF ⟨e5, ?_⟩
            rw [hD5, tf]
        · obtain ⟨e5, hD5⟩ := z
          rw [List.take_length] at hD5
          refine ⟨D, _, k3 H4, rfl, SqL.of hD5, fun x hx => ?_, fun zs u pw perm hu => ?_⟩
          · obtain ⟨i, hi⟩ := List.getElem?_of_mem (List.mem_filter.mp hx).1
            obtain ⟨j3, b, hj, rfl, hb⟩ := tri_at hy4 hi
            exact ⟨b, rfl, by rw [k3_at hb]; exact e5 _ _ hb⟩
          · have n6 := same_new (o := HO.lst zs) hu
            have e6 := e5.trans n6
            obtain ⟨ho, el, hdl, hbest⟩ := pick_some hp
            obtain ⟨el1, el2⟩ := elig_iff.mp el
            have inF : ∀ (x : T3) (i : Nat), ls[i]? = some x → x.2.2 ≤ t → ∃ v, ys[i]? = some v ∧ k3 H4 v = x ∧ v ∈ zs := fun x i hx hxt => by
              have hil : i < ys.length := by
                rw [hlens]
                exact (List.getElem?_eq_some_iff.mp hx).1
              obtain ⟨x', b, hx', hv, hb⟩ := tri_at hy4 (List.getElem?_eq_getElem hil)
              rw [hx] at hx'
              obtain rfl := Option.some.inj hx'
              have hk : k3 H4 ys[i] = x := by rw [hv]; exact k3_at hb
              refine ⟨_, List.getElem?_eq_getElem hil, hk, perm.mem_iff.mpr (List.mem_filter.mpr ⟨List.getElem_mem hil, ?_⟩)⟩
              show decide _ = true
              rw [hk]
              exact decide_eq_true hxt
            obtain ⟨j0, hj0⟩ := List.getElem?_of_mem ((L.mem (job N s (pk N s n t) (gv N s n t (pk N s n t)))).mpr ⟨_, _, ho, Int.le_refl _, el1, rfl⟩)
            obtain ⟨v0, _, _, hv0⟩ := inF _ j0 hj0 el2
            match zs, hv0 with
            | h0 :: zs', _ =>
            obtain ⟨hm1, hm2⟩ := List.mem_filter.mp (perm.mem_iff.mp (List.mem_cons_self (a := h0) (l := zs')))
            obtain ⟨i0, hi0⟩ := List.getElem?_of_mem hm1
            obtain ⟨x0, bh, hx0, rfl, hbh⟩ := tri_at hy4 hi0
            have hk0 := k3_at hbh
            have hx0t : x0.2.2 ≤ t := by
              have := of_decide_eq_true hm2
              rw [hk0] at this
              exact this
            have hx0m : x0 ∈ ls := List.mem_of_getElem? hx0
            have hmin : ∀ x ∈ ls, x.2.2 ≤ t → ¬ lex3 x x0 := fun x hx hxt => by
              obtain ⟨i, hi⟩ := List.getElem?_of_mem hx
              obtain ⟨v, hv, hkv, hvz⟩ := inF x i hi hxt
              rcases List.mem_cons.mp hvz with e | hvz
              · rw [e, hk0] at hkv
                rw [hkv]
                unfold lex3
                omega
              · have := (List.pairwise_cons.mp pw).1 v hvz
                rw [hk0, hkv] at this
                exact lexC_no.mp this
            have hjob := head_is sle hs L hp hx0m hx0t hmin
            have hx02 : x0.2.1 = (pk N s n t : Int) := by rw [hjob]; rfl
            have hf6 := e6 _ _ hf4
            have huf : u ≠ f := fun z => by
              rw [z, e5 _ _ hf4] at hu
              cases hu
            have hul : u ≠ l := fun z => by
              rw [z, e5 _ _ hl4] at hu
              cases hu
            have hbh6 := e6 _ _ hbh
            have hu6 : (upd H5 u (.lst (.ref bh :: zs'))) u = some (.lst (.ref bh :: zs')) := upd_same
            have hl6 := e6 _ _ hl4
            have hy6 := hy4.stab (.same e6)
            have E6 := e4.trans e6
            have at00 : atI (V.ref bh :: zs') 0 = some (V.ref bh) := atI_nat (j := 0) rfl
            refine ⟨_, rfl, .inl ⟨rfl, _, SqL.of hf6⟩, _, rfl, u, _, 0, _, rfl, rfl, SqL.of hu6, at00, bh, _, 1, _, rfl, rfl, SqT.of hbh6, rfl, f, _, _, rfl, rfl, hf6, by rw [vI_len, sizeLine_eq]; omega, ?_⟩
            rw [hx02, ← vI_succ (fun t => (pk N s n t : Int)) t]
            have E7 := same_put (o := HO.lst (vI (fun t => (pk N s n t : Int)) (t + 1))) E6 hf0
            have hu7 := (upd_ne (H := upd H5 u (.lst (.ref bh :: zs'))) (o := HO.lst (vI (fun t => (pk N s n t : Int)) (t + 1))) huf).trans hu6
            have hl7 := (upd_ne (H := upd H5 u (.lst (.ref bh :: zs'))) (o := HO.lst (vI (fun t => (pk N s n t : Int)) (t + 1))) hlf).trans hl6
            have hy7 := hy6.stab (Stab.put (o := HO.lst (vI (fun t => (pk N s n t : Int)) (t + 1))) hf6 imm_lst)
            have hbh7 := (Stab.put (o := HO.lst (vI (fun t => (pk N s n t : Int)) (t + 1))) hf6 imm_lst) _ _ hbh6 trivial
            have hf7 : (upd (upd H5 u (.lst (.ref bh :: zs'))) f (.lst (vI (fun t => (pk N s n t : Int)) (t + 1)))) f = some (.lst (vI (fun t => (pk N s n t : Int)) (t + 1))) := upd_same
            generalize upd (upd H5 u (.lst (.ref bh :: zs'))) f (.lst (vI (fun t => (pk N s n t : Int)) (t + 1))) = H8 at E7 hu7 hl7 hy7 hbh7 hf7 ⊢
            refine ⟨_, rfl, .inl ⟨rfl, _, SqL.of hl7⟩, _, rfl, u, _, 0, _, rfl, rfl, SqL.of hu7, at00, l, .ref bh, ys, triD x0, ls.map triD, i0, triD x0, rfl, rfl, hl7, tvs_dp _ _ hy7, (tv_tI (ns := [_, _, _]) hbh7).dp, shp_tris _, shp_tI _, ?_, eqv_self (shp_tI _), fun m z' hm hz' => ?_, ?_⟩
            · rw [List.getElem?_map, hx0]
              rfl
            · rw [List.getElem?_map] at hz'
              obtain ⟨x, hx, rfl⟩ := Option.map_eq_some_iff.mp hz'
              unfold triD
              rw [eqv_tI]
              refine decide_eq_false fun z => ?_
              simp only [List.cons.injEq, and_true] at z
              have ex : x = x0 := Prod.ext z.1 (Prod.ext z.2.1 z.2.2)
              obtain ⟨q1, q2⟩ := List.getElem?_eq_some_iff.mp hx
              obtain ⟨q3, q4⟩ := List.getElem?_eq_some_iff.mp hx0
              have := (List.getElem_inj L.nd).mp (q2.trans (ex.trans q4.symm))
              omega
            · refine ⟨_, _, _, _, _, ys.eraseIdx i0, ls.eraseIdx i0, rfl, same_put E7 hl, upd_same, ?_, ?_, ?_, ?_⟩
              · rw [upd_ne (Ne.symm hlf)]
                exact hf7
              · rw [map_erase]
                exact (tvs_erase hy7).stab (Stab.put hl7 imm_lst)
              · rw [gv_succ]
                exact left_next sle hs L hpn (by rw [hx0, hjob])
              · have := List.length_eraseIdx_le ys i0
                omega
      · rintro σ H4 ⟨x3, x4, x5, x7, x8, ys, ls, rfl, e4, hl4, hf4, hy4, L, hlen⟩
        exact ⟨_, rfl, q _ f e4 hf0 hf4⟩
end
end K91
end
section
set_option Elab.async false
set_option linter.all false
set_option maxRecDepth 100000
set_option maxHeartbeats 4000000
namespace K91
open PySem PySem.Spec PyProof.Rows L2 KB M1 M2 LamX
abbrev N_law_heard : List Str := ["ask", "error"]
theorem sc_law_heard : FnScope N_law_heard ["ask"] (defScope s_law_heard) := ⟨rfl, rfl, rfl, by decide +kernel, rfl, by decide +kernel, by decide +kernel⟩
/-- what _law_heard answers to an error -/
def HeardX (A : Ad) (Q : VK) : XK := fun cls d H => ∃ dd, d = some dd ∧
  ((cls = .ref A.C_BadValue ∧ ∃ y, H dd = some (.xd [("part", y)]) ∧ ∀ H' t, Same H H' → H' t = some (.tup [.str "value", y]) → Q (.ref t) H') ∨
  (cls = .ref A.C_Misfit ∧ ∃ y, H dd = some (.xd [("part", y)]) ∧ ∀ H' t, Same H H' → H' t = some (.tup [.str "misfit", y]) → Q (.ref t) H') ∨
  (cls = .ref A.C_TooMany ∧ ∃ y z, H dd = some (.xd [("most", z), ("what", y)]) ∧ ∀ H' t, Same H H' → H' t = some (.tup [.str "many", y, z]) → Q (.ref t) H'))
/-- .. and to what is asked -/
def TTh (A : Ad) : (XK → Hp → VK → Prop) → Hp → VK → Prop := fun tl H Q => tl (HeardX A Q) H fun _ H' => Q .non H'
section
variable {K : PySem.W.Frag} {mg : Str → Option Value} {A : Ad}
theorem heard_gives {X : Cx} (T : Txt X.K X.mg A) {g : Addr} {cdg : Value} {q : Str} : GivesTo X N_law_heard "_law_heard" (defScope s_law_heard) g cdg (defBody s_law_heard) "ask" q (TTh A) := by
  intro f c' s H Q tl act hc h
  have nd := sc_law_heard.nd
  have su1 : ∀ (a : Addr) (oe : Obj) (cls : Value) (d : Option Addr) (pn : List (Addr × Obj)), True := fun _ _ _ _ _ => trivial
  refine ⟨_, pss_cons (ps_try_named (X := (cxOf C8.CX0 X.prog X.w X.K X.mg X.base N_law_heard "_law_heard" (defScope s_law_heard) g cdg X.A X.stack s H C8.E0).nox) (i := 1) (n := "error")
      (tb := fun W D σ H => ∃ Ech : XK, (∀ cls d σ' H', Ech cls d H' → W cls d σ' H') ∧ σ[0]? = some (some (.ref f)) ∧ H c' = some (CodeO c' q) ∧ tl Ech H (fun _ H' => D.nx σ H'))
      rfl rfl nd rfl (by rfl) (fun W pn xe tk _ => ?_)
      (NamedHs.cons (c := .ref A.C_BadValue) ⟨rfl, by decide, .inl T.g_BadValue⟩ (fun a oe cls d pn hz hf => pss_one (ps_ret (pe_tup (pa_cons pe_str (pa_cons (pe_xf T.z_BadValue T.n_BadValue_part hz hf (pv 1)) pa_nil)))))
      (NamedHs.cons (c := .ref A.C_Misfit) ⟨rfl, by decide, .inl T.g_Misfit⟩ (fun a oe cls d pn hz hf => pss_one (ps_ret (pe_tup (pa_cons pe_str (pa_cons (pe_xf T.z_Misfit T.n_Misfit_part hz hf (pv 1)) pa_nil)))))
      (NamedHs.cons (c := .ref A.C_TooMany) ⟨rfl, by decide, .inl T.g_TooMany⟩ (fun a oe cls d pn hz hf => pss_one (ps_ret (pe_tup (pa_cons pe_str (pa_cons (pe_xf T.z_TooMany T.n_TooMany_what hz hf (pv 1)) (pa_cons (pe_xf T.z_TooMany T.n_TooMany_most hz hf (pv 1)) pa_nil))))))
      NamedHs.stop)))) (pss_one (ps_ret pe_non)), ?_⟩
  · refine ⟨fun pins s' σ H' D I h' => ?_⟩
    obtain ⟨Ech, hW, h1, h2, h3⟩ := h'
    exact (pss_one (ps_expr (act W pn xe Ech _ _ tk hW))).run pins s' σ H' D I ⟨h1, h2, h3⟩
  · refine ⟨HeardX A Q, fun cls d σ' H' hx hlen => ?_, rfl, hc, h⟩
    have slot : ∀ a : Addr, (σ'.set 1 (some (V.ref a)))[1]? = some (some (V.ref a)) := fun a => by
      rw [List.getElem?_set_self hlen]
    obtain ⟨dd, rfl, ⟨rfl, y, hd, hq⟩ | ⟨rfl, y, hd, hq⟩ | ⟨rfl, y, z, hd, hq⟩⟩ := hx
    · refine ⟨true, T.xm_BadValue_BadValue, fun _ a ha => ?_, (fun z => nomatch z)⟩
      exact ⟨_, slot a, rfl, rfl, dd, _, _, rfl, hd, look_eq, by show 2 ≤ sizeLine; decide, fun t ht => hq _ t (same_new ht) upd_same⟩
    · refine ⟨false, T.xm_Misfit_BadValue, (fun z => nomatch z), fun _ => ⟨true, T.xm_Misfit_Misfit, fun _ a ha => ?_, (fun z => nomatch z)⟩⟩
      exact ⟨_, slot a, rfl, rfl, dd, _, _, rfl, hd, look_eq, by show 2 ≤ sizeLine; decide, fun t ht => hq _ t (same_new ht) upd_same⟩
    · refine ⟨false, T.xm_TooMany_BadValue, (fun z => nomatch z), fun _ => ⟨false, T.xm_TooMany_Misfit, (fun z => nomatch z), fun _ => ⟨true, T.xm_TooMany_TooMany, fun _ a ha => ?_, (fun z => nomatch z)⟩⟩⟩
      exact ⟨_, slot a, rfl, rfl, dd, _, _, rfl, hd, (look_ne (k := ("what" : Str)) (x := ("most" : Str)) (by decide +kernel)).trans look_eq, _, slot a, rfl, rfl, dd, _, _, rfl, hd, look_eq, by show 3 ≤ sizeLine; decide, fun t ht => hq _ t (same_new ht) upd_same⟩
end
end K91
end
section
set_option Elab.async false
set_option linter.all false
set_option maxRecDepth 100000
set_option maxHeartbeats 4000000
namespace K91
open PySem PySem.Spec PyProof.Rows L2 KB M1 M2 LamX
section
variable {A : Ad}
/-- _law_heard(lambda: evenly(e)) -/
theorem pe_heard {X : Cx} (T : Txt X.K X.mg A) (G : FnOk X.prog X.w X.K X.mg X.base (L2.CX X.prog X.w) 9 A.f_evenly A.d_evenly ["shares"] (sp_evenly A)) {Tb : List (Addr × Str)} {c P : Addr} {params : Arguments} {e : Expr} {scope : Scope} {ta : TA}
    {p p1 p2 lpos pos : Pos} (hgl : Gl X "_law_heard") (TB : TabB X.base X.mg c P) (hcode : X.env.code = .ref c) (hm : (P, X.env.qual ++ "<lambda>") ∈ Tb) (hu : ∀ p ∈ Tb, p.1 = P → p.2 = X.env.qual ++ "<lambda>") (hr : Room 14 X.A)
    (L : LamS X.env.scope scope) (hdef : defaultsOf params X.env = ([], []))
    (hbind : ∀ (q : Str) (cl : List (Str × Addr)) (pm cv ctv : Value), bindArgs (PySem.W.kla_fn "<lambda>" q params (.Call (.Name "evenly" p1) [e] [] p2) scope cl pm cv ctv) ⟨[], []⟩ = pure [])
    (hev : ∀ (A' : Around) (outer : List Env) (s : Shared) (H : Hp) (E : XK) (f c' : Addr), Gl (lamCx X A' outer s H E scope f c') "evenly")
    (ha : ∀ (A' : Around) (outer : List Env) (s : Shared) (H : Hp) (E : XK) (f c' : Addr), PA (lamCx X A' outer s H E scope f c') [e] ta)
    (hst : ∀ (A' : Around) (outer : List Env) (s : Shared) (H : Hp) (E : XK) (f c' : Addr), starEach [e] (lamCx X A' outer s H E scope f c').env = (false, eval e (lamCx X A' outer s H E scope f c').env) :: starEach [] (lamCx X A' outer s H E scope f c').env) :
    PE X (.Call (.Name "_law_heard" p) [.Lambda params (.Call (.Name "evenly" p1) [e] [] p2) scope lpos] [] pos) (tLam Tb (TTh A) fun E => tCall (sp_evenly A) [] E ta) := by
  obtain ⟨oc, od, dV, kV, doc, pm, an, cdv, ct, osl, efd, lk, hcd⟩ := T.F_law_heard.ex
  have hb := T.B_law_heard
  rw [efd] at hb lk
  exact pe_lamcall (k := 12) hgl T.g_law_heard T.F_law_heard.kp lk hcd hb sc_law_heard rfl (.inl rfl) (heard_gives T) TB hcode hm hu hr L hdef hbind
    (fun A' outer s H E f c' hr2 => pe_call G (hr2.mono (by decide)) (hev A' outer s H E f c') T.g_evenly T.F_evenly.kp T.B_evenly .nil (passes_call (takes_of rfl rfl rfl rfl) fun _ _ _ _ h => h) (ha A' outer s H E f c') (by decide) (hst A' outer s H E f c'))
end
end K91
end
section
set_option Elab.async false
set_option linter.all false
set_option maxRecDepth 100000
set_option maxHeartbeats 4000000
namespace K91
open PySem PySem.Spec PyProof.Rows L2 KB M1 M2 LamX
section
variable {A : Ad}
/-- _law_heard(lambda n=i: evenly(e)), nothing captured -/
theorem pe_heardD {X : Cx} (T : Txt X.K X.mg A) (G : FnOk X.prog X.w X.K X.mg X.base (L2.CX X.prog X.w) 9 A.f_evenly A.d_evenly ["shares"] (sp_evenly A)) {Tb : List (Addr × Str)} {c P : Addr} {params : Arguments} {e : Expr} {scope : Scope} {ta : TA} {n : Str} {i : Int} {j : Nat}
    {p p1 p2 p3 lpos pos : Pos} (hgl : Gl X "_law_heard") (TB : TabB X.base X.mg c P) (hcode : X.env.code = .ref c) (hm : (P, X.env.qual ++ "<lambda>") ∈ Tb) (hu : ∀ p ∈ Tb, p.1 = P → p.2 = X.env.qual ++ "<lambda>") (hr : Room 14 X.A)
    (S : FnScope [n] [n] scope) (hdf : params.defaults = [.Constant (.int i) j p3]) (hkw : params.kw_defaults = []) (hcl : closureFor scope X.env = pure [])
    (hbind : ∀ (s : Shared) (t0 : Addr) (v : Value) (q : Str) (doc pm cv ctv : Value), s.heap.get? t0 = some (PySem.W.kdv_tup [v]) → BindsTo s (PySem.W.kdv_fn "<lambda>" q params (.expr (.Call (.Name "evenly" p1) [e] [] p2)) scope [] (.ref t0) doc pm cv ctv) ⟨[], []⟩ [(n, v)])
    (hev : ∀ (q : Str) (f : Addr) (cv : Value) (A' : Around) (outer : List Env) (s : Shared) (H : Hp) (E : XK), Gl (cxOf (L2.CX X.prog X.w) X.prog X.w X.K X.mg X.base [n] q scope f cv A' outer s H E) "evenly")
    (ha : ∀ (q : Str) (f : Addr) (cv : Value) (A' : Around) (outer : List Env) (s : Shared) (H : Hp) (E : XK), PA (cxOf (L2.CX X.prog X.w) X.prog X.w X.K X.mg X.base [n] q scope f cv A' outer s H E) [e] ta)
    (hst : ∀ (q : Str) (f : Addr) (cv : Value) (A' : Around) (outer : List Env) (s : Shared) (H : Hp) (E : XK), starEach [e] (cxOf (L2.CX X.prog X.w) X.prog X.w X.K X.mg X.base [n] q scope f cv A' outer s H E).env = (false, eval e (cxOf (L2.CX X.prog X.w) X.prog X.w X.K X.mg X.base [n] q scope f cv A' outer s H E).env) :: starEach [] (cxOf (L2.CX X.prog X.w) X.prog X.w X.K X.mg X.base [n] q scope f cv A' outer s H E).env) :
    PE X (.Call (.Name "_law_heard" p) [.Lambda params (.Call (.Name "evenly" p1) [e] [] p2) scope lpos] [] pos) (fun σ H Q => Tabs Tb H ∧ ∀ H1, ExtN H H1 → Tabs Tb H1 → TTh A (fun E H' Q' => tCall (sp_evenly A) [] E ta (L2.start [n] [.int i]) H' Q') H1 Q) := by
  obtain ⟨oc, od, dV, kV, doc, pm, an, cdv, ct, osl, efd, lk, hcd⟩ := T.F_law_heard.ex
  have hb := T.B_law_heard
  rw [efd] at hb lk
  refine ⟨fun pins s σ H Q I h => ?_⟩
  obtain ⟨hT, h⟩ := h
  refine wpAny_Call_Name_kw (ld_glob I hgl T.g_law_heard ?_ (by decide))
  refine PySem.W.callWith_K (h₀ := X.base) I.ok.mod.kin T.F_law_heard.kp ?_ (by rfl) (by rfl)
  show wpAny _ _ (spliced ((false, eval (.Lambda params (.Call (.Name "evenly" p1) [e] [] p2) scope lpos) X.env) :: backTo pos (starEach [] X.env))) _ _ s
  refine Calls.spliced_cons (PySem.W.kdv_lam (by rw [hdf]; rfl) hkw ?_)
  rw [hdf]
  refine PySem.W.kdv_all1 (thn ((pe_int (X := X) (i := i) (j := j) (pos := p3)).run pins s σ H (fun v H' => v = .int i ∧ H' = H) I ⟨rfl, rfl⟩) fun u s1 hh => PySem.W.kdv_all0 ?_)
  obtain ⟨v, H1, I1, rv, ev, eH⟩ := hh
  subst ev
  rw [eH] at I1
  refine lam_makeD I1 TB hcode hm hu hT rfl hcl fun f t0 c' doc' pm' ctv H2 s2 I2 eN T2 hf ht hfn htn hfr htr hco => ?_
  refine Calls.spliced_nil ⟨I2.kIn, ?_⟩
  have rc : codeAny (model X.prog X.w) X.A (.call (.ref A.f_law_heard) ⟨[.ref f], []⟩) (CR C8.CX0 X.stack X.prog X.w H2 s2 Q C8.E0) s2 := by
    refine run_ofS (N := N_law_heard) (ps := ["ask"]) (us := [.ref f]) (vs := [.ref f]) lk hcd sc_law_heard (k := 13) hr I2.env0 (hb s2 [.ref f] I2.kIn rfl) (.cons rfl .nil) rfl fun hr' => ?_
    refine Exists.imp (fun t' ht' => ⟨ht'.1.nox, ht'.2⟩) (heard_gives (X := X) T (g := A.f_law_heard) (cdg := cdv) (q := X.env.qual ++ "<lambda>") f c' s2 H2 Q (fun E H' Q' => tCall (sp_evenly A) [] E ta (L2.start [n] [.int i]) H' Q') (fun W pn xe E q1 q2 tk hW => ?_) hco (h H2 eN T2))
    · refine ⟨fun pinsZ sZ σZ HZ QZ IZ hz => ?_⟩
      obtain ⟨hs, hc, hq⟩ := hz
      refine wpAny_Call_Name_kw (thn ((pe_var (pos := q1) (i := 0) (x := "ask") rfl (.inl rfl) (by decide) (by decide)).run pinsZ sZ σZ HZ (fun v H1 => v = .ref f ∧ H1 = HZ) IZ ⟨.ref f, hs, rfl, rfl⟩) fun u3 s3 ⟨v3, H3, I3, r3, e3, e4⟩ => ?_)
      subst e3
      subst e4
      obtain rfl : u3 = Value.ref f := r3
      have of3 := I3.base.keep f _ hf hfn hfr (fun z => nomatch (show f ∈ ([] : List Addr) from z))
      have ot3 := I3.base.keep t0 _ ht htn htr (fun z => nomatch (show t0 ∈ ([] : List Addr) from z))
      refine PySem.W.callWith_F0 ⟨_, _, _, _, of3⟩ ?_
      obtain ⟨⟨oc', vs', tq, hoc, hdc, hvc⟩, _, _⟩ := I3.hok c' _ hc
      have rl := run_lamD (CX := L2.CX X.prog X.w) (k := 12) (N := [n]) (ps := [n]) (us := [u]) (vs := [.int i]) (Q := QZ) (E := E) S of3 ⟨c', oc', vs', tq, rfl, hoc, hdc, hvc⟩ hr' I3.env0 (hbind s3 t0 u _ _ _ _ _ ot3) (.cons rv .nil) rfl (fun hr2 => ⟨_, pe_call G (hr2.mono (by decide)) (hev _ _ _ _ _ _ _ _) T.g_evenly T.F_evenly.kp T.B_evenly .nil (passes_call (takes_of rfl rfl rfl rfl) fun _ _ _ _ h => h) (ha _ _ _ _ _ _ _ _) (by decide) (hst _ _ _ _ _ _ _ _), hq⟩)
      have hx := passes_call (E := E) tk hW
      refine wpAny_call (codeAny_mono rl fun r s4 z => ?_)
      cases r with
      | error er => exact hx pinsZ σZ _ s3 er s4 I3 z
      | ok fl =>
        cases fl with
        | ret u4 => exact I3.after z
        | next => exact z.elim
        | brk => exact z.elim
        | cont => exact z.elim
  refine wpAny_call (codeAny_mono rc fun r s3 z => ?_)
  cases r with
  | error er => exact (show False from z).elim
  | ok fl =>
    cases fl with
    | ret u3 => exact I2.after z
    | next => exact z.elim
    | brk => exact z.elim
    | cont => exact z.elim
end
end K91
end
section
set_option Elab.async false
set_option linter.all false
set_option maxRecDepth 100000
set_option maxHeartbeats 4000000
namespace K91
open PySem PySem.Spec PyProof.Rows L2 KB M1 M2 LamX
/-- repr of lists and tuples; only where no other repr is on the way -/
def rRepr (K : PySem.W.Frag) : List V → Hp → VK → Prop := fun xs H Q => ∃ (a : Addr) (d : PyData), xs = [.ref a] ∧ Dp K H (.ref a) d ∧ d.showable = true ∧ d.hasDict = false ∧ d.depth ≤ 30 ∧ d.shown.length ≤ sizeLine ∧ Q (.str d.shown) H
theorem c_repr {X : Cx} {K : PySem.W.Frag} (hK : X.K = K) (hg : X.A.guards = some []) (hu : X.A.units + 64 < cLine) : CallR X (.builtin "repr") (rRepr K) := by
  subst hK
  intro pins s σ H xs us Q I r h
  obtain ⟨a, d, rfl, hd, hs, hn, h30, hz, q⟩ := h
  obtain rfl := Vals.ref1 r
  obtain ⟨as, hr⟩ := Dp.reads I d (.ref a) (.ref a) hd rfl
  exact repr_of_reads' hr hs (fun z => by rw [hn] at z; cases z) hg (by omega) (fun _ _ e => e) (fun h' u tk k => ⟨.str d.shown, H, I.kept k, ⟨_, rfl⟩, q⟩) hz
/-- f(k = v), one keyword, nothing else -/
def tCallKw (sp : Sp) (E : XK) (tk : TA) : TE := fun σ H Q => tk σ H fun zs H2 => sp zs H2 Q E
theorem pe_callKw {X : Cx} {CX : CXT} {k : Nat} {f : Addr} {fd : FuncData} {a : Str} {sp : Sp} {E : XK} {x : Str} {p pos : Pos} {kws : List Keyword} {tk : TA} (F : FnOk X.prog X.w X.K X.mg X.base CX k f fd [a] sp) (hr : Room k X.A) (hg : Gl X x) (hm : X.mg x = some (.ref f)) (hk : PySem.W.keepIn X.K (.ref f) = true)
    (hb : ∀ (s : Shared) (w : Value), BindsTo s fd ⟨[], [(a, w)]⟩ [(a, w)]) (hx : Passes CX X E) (hkw : PK X kws tk) (hall : (backToKw pos (keywordEach kws X.env)).all (·.1.isSome) = true := by rfl) (hks : (backToKw pos (keywordEach kws X.env)).filterMap (·.1) = [a] := by rfl)
    (hdb : (x == ("__debug__" : Str)) = false := by decide) (hpl : ((backTo pos (starEach [] X.env)).any (·.1) || (backToKw pos (keywordEach kws X.env)).any (·.1.isNone)) = false := by rfl) :
    PE X (.Call (.Name x p) [] kws pos) (tCallKw sp E tk) := by
  refine ⟨fun pins s σ H Q I h => wpAny_Call_Name_kw (ld_glob I hg hm ?_ hdb)⟩
  refine PySem.W.callWith_KW0 (h₀ := X.base) I.ok.mod.kin hk hall (thn (hkw.run pos pins s σ H _ I h) fun ws s2 ⟨zs, H2, I2, rz, q2⟩ => ⟨I2.kIn, ?_⟩) hpl
  rw [hks]
  have lz := F.len _ _ _ _ q2
  obtain ⟨w, rfl⟩ : ∃ w, ws = [w] := by
    have := rz.length
    rw [lz] at this
    match ws, this with
    | [w], _ => exact ⟨w, rfl⟩
  refine wpAny_call (codeAny_mono (F.run X.A X.stack s2 H2 ⟨[], [(a, w)]⟩ [w] zs Q E hr I2.env0 (hb s2 w) rz q2) fun r s' z => ?_)
  cases r with
  | error er => exact hx pins σ H2 s2 er s' I2 z
  | ok fl =>
    cases fl with
    | ret u => exact I2.after z
    | next => exact z.elim
    | brk => exact z.elim
    | cont => exact z.elim
/-- as FnOk, for a def whose promise wants that no repr is on the way; it raises nothing -/
structure FnG (P : Program) (w : World) (K : PySem.W.Frag) (mg : Str → Option Value) (base : Heap) (k : Nat) (f : Addr) (fd : FuncData) (ps : List Str) (sp : Sp) : Prop where
  len : ∀ vs H Q E, sp vs H Q E → vs.length = ps.length
  run : ∀ (A : Around) (outer : List Env) (s : Shared) (H : Hp) (args : Args) (us : List Value) (vs : List V) (Q : VK), Room k A → A.guards = some [] → Env0 P w K mg base A outer s H → BindsTo s fd args (ps.zip us) → Vals vs us → sp vs H Q E0 →
    codeAny (model P w) A (.call (.ref f) args) (CR CX0 outer P w H s Q E0) s
theorem pe_callG {X : Cx} {k : Nat} {f : Addr} {fd : FuncData} {ps : List Str} {sp : Sp} {x : Str} {p pos : Pos} {e : Expr} {es : List Expr} {t : TA} (F : FnG X.prog X.w X.K X.mg X.base k f fd ps sp) (hr : Room k X.A) (hgd : X.A.guards = some []) (hg : Gl X x) (hm : X.mg x = some (.ref f))
    (hk : PySem.W.keepIn X.K (.ref f) = true) (hb : Binds X.K fd ps []) (ha : PA X (e :: es) t) (hdb : (x == ("__debug__" : Str)) = false := by decide) (he : starEach (e :: es) X.env = (false, eval e X.env) :: starEach es X.env := by rfl)
    (hpl : (backTo pos (starEach es X.env)).any (·.1) = false := by rfl) : PE X (.Call (.Name x p) (e :: es) [] pos) (fun σ H Q => t σ H fun vs H1 => sp vs H1 Q E0) := by
  refine ⟨fun pins s σ H Q I h => wpAny_Call_Name_kw (ld_glob I hg hm ?_ hdb)⟩
  refine PySem.W.callWith_K (h₀ := X.base) I.ok.mod.kin hk (thn (ha.run pos pins s σ H _ I h) fun us s1 ⟨vs, H1, I1, r, q⟩ => ⟨I1.kIn, ?_⟩) he hpl
  have bt := hb s1 us I1.kIn (by rw [List.append_nil, ← r.length]; exact F.len _ _ _ _ q)
  rw [List.append_nil] at bt
  refine wpAny_call (codeAny_mono (F.run X.A X.stack s1 H1 ⟨us, []⟩ us vs Q hr hgd I1.env0 bt r q) fun r s' z => ?_)
  cases r with
  | error er => exact (show False from z).elim
  | ok fl =>
    cases fl with
    | ret u => exact I1.after z
    | next => exact z.elim
    | brk => exact z.elim
    | cont => exact z.elim
/-- a def's promise from its body -/
theorem FunA.okG {P : Program} {w : World} {K : PySem.W.Frag} {mg : Str → Option Value} {base : Heap} {x : Str} {st : Stmt} {f : Addr} {fd : FuncData} {N ps : List Str} {k : Nat} {sp : Sp} (F : FunA K x x st f fd) (S : FnScope N ps (defScope st)) (len : ∀ vs H Q E, sp vs H Q E → vs.length = ps.length)
    (hbody : ∀ (A' : Around) (outer : List Env) (s : Shared) (H : Hp) (vs : List V) (Q : VK), A'.guards = some [] → Room k (A'.deeper (envOfC x (defScope st) s.heap.objs.size f fd.code)) → sp vs H Q E0 →
      ∃ t, PSs (cxOf CX0 P w K mg base N x (defScope st) f fd.code A' outer s H E0).nox (defBody st) t ∧ t { nx := fun _ H' => Q .non H', rt := Q } (L2.start N vs) H) : FnG P w K mg base (k + 1) f fd ps sp := by
  obtain ⟨oc, od, dV, kV, doc, pm, an, cdv, ct, osl, rfl, lk, hcd⟩ := F.ex
  refine ⟨len, fun A' outer s H args us vs Q hr hg he hb hv hs => ?_⟩
  refine run_ofS (N := N) (ps := ps) lk hcd S hr he hb hv (len _ _ _ _ hs) fun hr' => ?_
  obtain ⟨t, ht, q⟩ := hbody A' outer s H vs Q hg hr' hs
  exact ⟨t, ht.nox, q⟩
end K91
end
section
set_option Elab.async false
set_option linter.all false
set_option maxRecDepth 100000
set_option maxHeartbeats 8000000
namespace K91
open PySem PySem.Spec PyProof.Rows L2 KB M1 M2 LamX
/-- all but the tables and the deck stays -/
def Kp (a : Addr) (H H' : Hp) : Prop := ∀ b o, b ≠ a → (∀ ps, o ≠ .tbl ps) → H b = some o → H' b = some o
theorem Kp.refl {a : Addr} {H : Hp} : Kp a H H := fun _ _ _ _ h => h
theorem Kp.trans {a : Addr} {H H1 H2 : Hp} (x : Kp a H H1) (y : Kp a H1 H2) : Kp a H H2 := fun b o n m h => y b o n m (x b o n m h)
theorem Kp.off {a : Addr} {H H' : Hp} (e : Off a H H') : Kp a H H' := fun b o n _ h => e b o n h
theorem Kp.same {a : Addr} {H H' : Hp} (e : Same H H') : Kp a H H' := fun b o _ _ h => e b o h
theorem Kp.ext {a : Addr} {H H' : Hp} (e : ExtN H H') : Kp a H H' := fun b o _ m h => e b o h m
theorem DeckAt.extN {H H' : Hp} {a c : Addr} {k : Nat} (h : DeckAt H a c k) (e : ExtN H H') : DeckAt H' a c k := by
  obtain ⟨cs, t, r, h1, h2, h3⟩ := h
  exact ⟨cs, t, r, e _ _ h1 (fun _ z => by cases z), e _ _ h2 (fun _ z => by cases z), h3⟩
theorem Tabs.off {Tb : List (Addr × Str)} {H H' : Hp} {a c : Addr} {k : Nat} (t : Tabs Tb H) (d : DeckAt H a c k) (e : Off a H H') : Tabs Tb H' := fun p hp => by
  obtain ⟨ps, h1, h2, h3⟩ := t p hp
  refine ⟨ps, e _ _ (d.ne h1 fun xs z => by cases z) h1, h2, fun pos cv hc => ?_⟩
  obtain ⟨c', e1, e2⟩ := h3 pos cv hc
  exact ⟨c', e1, e _ _ (d.ne e2 fun xs z => by unfold CodeO at z; cases z) e2⟩
theorem Tabs.same {Tb : List (Addr × Str)} {H H' : Hp} (t : Tabs Tb H) (e : Same H H') : Tabs Tb H' := t.ext e
theorem ShIn.extN {H H' : Hp} {x : V} {m W : Int} (h : ShIn H x m W) (e : ExtN H H') : ShIn H' x m W := by
  obtain ⟨p, q, ⟨a, r, h1⟩, h2⟩ := h
  exact ⟨p, q, ⟨a, r, h1.imp (fun h => e _ _ h fun _ z => by cases z) (fun h => e _ _ h fun _ z => by cases z)⟩, h2⟩
theorem ShL.extN {H H' : Hp} {xs : List V} {W : Int} {ms : List Int} (h : ShL H xs W ms) (e : ExtN H H') : ShL H' xs W ms := by
  obtain ⟨s1, s2, s3, s4, s5, s6, s7⟩ := h
  exact ⟨s1, s2, s3, s4, s5, s6, fun i x h => (s7 i x h).extN e⟩
theorem extN_lst {H H' : Hp} {a : Addr} {xs : List V} (e : ExtN H H') (h : H a = some (.lst xs)) : H' a = some (.lst xs) := e _ _ h fun _ z => by cases z
/-- the name of a lambda of _law_right -/
def lamR : Str := (envOfC "_law_right" (defScope s_law_right) 0 0 .none).qual ++ "<lambda>"
theorem list_vI (l : List Int) : l.map V.int = vI (fun i => l.getD i 0) l.length := by
  apply List.ext_getElem?
  intro i
  by_cases h : i < l.length
  · rw [vI_at h]
    simp [h]
  · rw [List.getElem?_eq_none (by simp; omega), List.getElem?_eq_none (by rw [vI_len]; omega)]
/-- the data of a share, and how long its text may be -/
def shD (p q : Int) (b : Bool) : PyData := if b = true then lI [p, q] else tI [p, q]
theorem int_len {p : Int} (h0 : 0 < p) (h : p < 2 ^ 30) : (PyData.shown (.int p)).length ≤ 31 := by
  show (Str.ofString (toString p)).length ≤ 31
  rw [PySem.ofString_length]
  exact int_text_length_le (a := p) (k := 30) (by decide) (lg_le (k := 30) (by decide) (by omega) (Nat.le_refl _))
theorem shD_len {p q : Int} {b : Bool} (hp : 0 < p) (hp2 : p < 2 ^ 30) (hq : 0 < q) (hq2 : q < 2 ^ 30) : (shD p q b).shown.length ≤ 100 := by
  have h1 := int_len hp hp2
  have h2 := int_len hq hq2
  unfold shD
  split
  · have := listText_len_le [(PyData.shown (.int p)), (PyData.shown (.int q))]
    show (listText [(PyData.shown (.int p)), (PyData.shown (.int q))]).length ≤ 100
    simp at this
    omega
  · have := tupleText_len_le [(PyData.shown (.int p)), (PyData.shown (.int q))]
    show (tupleText [(PyData.shown (.int p)), (PyData.shown (.int q))]).length ≤ 100
    simp at this
    omega
theorem sh_data {K : PySem.W.Frag} {H : Hp} {a f : Addr} {W : Int} : ∀ {xs : List V}, (∀ (i : Nat) (x : V), xs[i]? = some x → ∃ m, ShAt H a f x m W) → ∃ ds : List PyData, ds.length = xs.length ∧ (∀ d ∈ ds, ∃ p q b, d = shD p q b ∧ 0 < p ∧ p < 2 ^ 30 ∧ 0 < q ∧ q < 2 ^ 30) ∧ ∀ H', Same H H' → DpAll K H' xs ds
  | [], _ => ⟨[], rfl, fun _ h => by simp at h, fun _ _ => .nil⟩
  | x :: xs, h => by
    obtain ⟨ds, h1, h2, h3⟩ := sh_data (xs := xs) fun i y hi => h (i + 1) y (by simpa using hi)
    obtain ⟨m, b, p, q, rfl, _, _, hb, p0, q0, q2, p2, _⟩ := h 0 x rfl
    rcases hb with hb | hb
    · refine ⟨shD p q false :: ds, by simp [h1], fun d hd => ?_, fun H' e => .cons (dp_tI (SqT.of (e _ _ hb))) (h3 H' e)⟩
      rcases List.mem_cons.mp hd with e | hd
      · exact ⟨p, q, false, e, p0, p2, q0, q2⟩
      · exact h2 d hd
    · refine ⟨shD p q true :: ds, by simp [h1], fun d hd => ?_, fun H' e => .cons (dp_lI (SqL.of (e _ _ hb))) (h3 H' e)⟩
      rcases List.mem_cons.mp hd with e | hd
      · exact ⟨p, q, true, e, p0, p2, q0, q2⟩
      · exact h2 d hd
/-- the shares as data -/
def ShData (d : PyData) : Prop := ∃ p q b, d = shD p q b ∧ 0 < p ∧ p < 2 ^ 30 ∧ 0 < q ∧ q < 2 ^ 30
theorem shData_ok {ds : List PyData} (h : ∀ d ∈ ds, ShData d) (h6 : ds.length ≤ 100) : (PyData.list ds).showable = true ∧ (PyData.list ds).hasDict = false ∧ (PyData.list ds).depth ≤ 30 ∧ (PyData.list ds).shown.length ≤ sizeLine := by
  have key : PyData.showableAll ds = true ∧ PyData.hasDictAll ds = false ∧ PyData.depthAll ds ≤ 3 ∧ ((PyData.shownAll ds).map (·.length)).sum ≤ 100 * ds.length ∧ (PyData.shownAll ds).length = ds.length := by
    clear h6
    induction ds with
    | nil => simp [PyData.showableAll, PyData.hasDictAll, PyData.depthAll, PyData.shownAll]
    | cons d ds ih =>
      obtain ⟨i1, i2, i3, i4, i5⟩ := ih fun e he => h e (List.mem_cons_of_mem _ he)
      obtain ⟨p, q, b, rfl, hp, hp2, hq, hq2⟩ := h d List.mem_cons_self
      have hl := shD_len (b := b) hp hp2 hq hq2
      have s1 : decide (p.natAbs.log2 < 1920) = true := decide_eq_true (lg_le (k := 30) (by decide) (by omega) (by decide))
      have s2 : decide (q.natAbs.log2 < 1920) = true := decide_eq_true (lg_le (k := 30) (by decide) (by omega) (by decide))
      have a1 : (shD p q b).showable = true := by
        unfold shD
        split <;> simp [lI, tI, PyData.showable, PyData.showableAll, s1, s2]
      have a2 : (shD p q b).hasDict = false := by
        unfold shD
        split <;> simp [lI, tI, PyData.hasDict, PyData.hasDictAll]
      have a3 : (shD p q b).depth ≤ 2 := by
        unfold shD
        split <;> simp [lI, tI, PyData.depth, PyData.depthAll]
      refine ⟨by simp [PyData.showableAll, a1, i1], by simp [PyData.hasDictAll, a2, i2], ?_, ?_, by simp [PyData.shownAll, i5]⟩
      · simp only [PyData.depthAll]
        omega
      · simp only [PyData.shownAll, List.map_cons, List.sum_cons, List.length_cons]
        omega
  obtain ⟨k1, k2, k3, k4, k5⟩ := key
  refine ⟨by simpa [PyData.showable] using k1, by simpa [PyData.hasDict] using k2, by simp only [PyData.depth]; omega, ?_⟩
  have := listText_len_le (PyData.shownAll ds)
  show (listText (PyData.shownAll ds)).length ≤ sizeLine
  rw [sizeLine_eq]
  omega
theorem can1 (a : List Int) : PyData.canLay0 (tI a) = true := by simp [tI, PyData.canLay0, canI]
theorem dep1 (a : List Int) : PyData.depth (tI a) ≤ 1 := by simp [tI, PyData.depth, depI]
theorem can_tI (f : Int → List Int) : ∀ l : List Int, PyData.canLayAll0 (l.map fun m => tI (f m)) = true
  | [] => by simp [PyData.canLayAll0]
  | m :: l => by
    rw [List.map_cons, PyData.canLayAll0, can1, can_tI f l]
    rfl
theorem dep_tI (f : Int → List Int) : ∀ l : List Int, PyData.depthAll (l.map fun m => tI (f m)) ≤ 2
  | [] => by simp [PyData.depthAll]
  | m :: l => by
    have := dep_tI f l
    have := dep1 (f m)
    rw [List.map_cons, PyData.depthAll]
    omega
theorem shp_fair (f : Int → List Int) (l : List Int) : SeqAt.shaped (.tuple [.tuple (l.map fun m => tI (f m))]) = true := by
  have := dep_tI f l
  unfold SeqAt.shaped
  simp [PyData.canLay0, PyData.canLayAll0, can_tI, PyData.depth, PyData.depthAll]
  omega
theorem shp_in (l : List Int) : SeqAt.shaped (.tuple [tI l]) = true := by
  unfold SeqAt.shaped
  simp [PyData.canLay0, PyData.canLayAll0, tI, canI, PyData.depth, PyData.depthAll, depI]
theorem shp_pair (i : Int) (l : List Int) : SeqAt.shaped (.tuple [.int i, tI l]) = true := by
  unfold SeqAt.shaped
  simp [PyData.canLay0, PyData.canLayAll0, tI, canI, PyData.depth, PyData.depthAll, depI]
section
variable {P : Program} {w : World} {K : PySem.W.Frag} {mg : Str → Option Value} {base : Heap} {A : Ad}
/-- part.rows[k][0], the 0 written -/
theorem row_read0 {σ : L2.St} {H : Hp} {Q : VK} {ip ix : Nat} {v : V} {o : Nat} {rs : List Row} {k : Nat} (T : Txt K mg A) (hp : σ[ip]? = some (some v)) (p : PartAt A H v o rs) (hk : σ[ix]? = some (some (.int k))) (hlt : k < rs.length)
    (q : ∀ c d, H c = some (.tup [.int rs[k].1, .ref d]) → H d = some (.tup (rs[k].2.map V.int)) → Q (.ref c) H) : tOp (rIxT K) (tOp (rIxT K) (tFld K (tVar ip) "rows") (tVar ix)) (tC (.int 0)) σ H Q := by
  obtain ⟨p, dx, rv, rfl, h1, h2⟩ := p
  obtain ⟨a, xs, rfl, ha, hl, hx⟩ := rows_at h2
  obtain ⟨b, c, d, e1, e2, e3, e4⟩ := hx k hlt
  exact ⟨_, hp, p, _, dx, _, _, rfl, h1, T.c_Part, T.n_Part_rows, pf_rows _ _ _, _, hk, a, xs, _, _, rfl, rfl, SqT.of ha, atI_nat e1, b, _, 0, _, rfl, rfl, SqT.of e2, rfl, q c d e3 e4⟩
abbrev N_law_right : List Str := ["deck", "parts", "common", "one", "other", "whole", "shares", "kept", "part", "row", "at", "out", "later", "given", "spot", "many", "share"]
theorem sc_law_right : FnScope N_law_right ["deck", "parts"] (defScope s_law_right) := ⟨rfl, rfl, rfl, by decide +kernel, rfl, by decide +kernel, by decide +kernel⟩
def sp_law_right (Tb : List (Addr × Str)) : Sp := fun vs H Q _ => ∃ (a c l : Addr) (k : Nat) (ns : List Int), vs = [.ref a, .ref l] ∧ DeckAt H a c k ∧ k ≤ 800000 ∧ H l = some (.lst (ns.map V.int)) ∧ l ≠ a ∧ 1 ≤ ns.length ∧ ns.length ≤ 6 ∧ Drawn ns 90 ∧ Tabs Tb H ∧
  ∀ H', Kp a H H' → DeckAt H' a c (k + 12) → Tabs Tb H' → Q (.bl true) H'
theorem G_law_right (T : Txt K mg A) {Tb : List (Addr × Str)} {c0 P0 : Addr} (TB : TabB base mg c0 P0) (hcode : A.d_law_right.code = .ref c0) (hmT : (P0, lamR) ∈ Tb) (huT : ∀ p ∈ Tb, p.1 = P0 → p.2 = lamR) : FnG P w K mg base 16 A.f_law_right A.d_law_right ["deck", "parts"] (sp_law_right Tb) := by
  refine T.F_law_right.okG sc_law_right (fun vs H Q E h => ?_) (fun A' outer s H vs Q hgd hr h => ?_)
  · obtain ⟨a, c, l, k, ns, rfl, _⟩ := h
    rfl
  · obtain ⟨a, c, l, k, ns, rfl, hd, hk, hl, hla, n1, n6, hdr, hT, q⟩ := h
    have nd := sc_law_right.nd
    have ne : ns ≠ [] := fun z => by rw [z] at n1; simp at n1
    have hpos : ∀ p ∈ ns, 0 < p := fun p hp => by have := hdr p hp; omega
    refine ⟨_, (pss_cons (ps_set (i := 2) nd rfl (Or.inr rfl) pe_int)
      (pss_cons (ps_for PassesOwn.never rfl (pil (K := K) rfl (pv 1)) (pg_name (i := 3) nd rfl (Or.inl rfl))
      (pss_cons (ps_par (i := 3) (j := 4) (by rfl) nd rfl rfl (by decide) rfl rfl (pa_cons (pv 3) (pa_cons (pv 2) pa_nil)) (by rfl))
      (pss_cons (ps_while PassesOwn.never (pt_cmpR op_gt (pv 4) pe_int (nomark _)) (pss_one (ps_par (i := 3) (j := 4) (by rfl) nd rfl rfl (by decide) rfl rfl (pa_cons (pv 4) (pa_cons (pe_op op_mod (pe_callTy call_int1 (by rfl) T.b_int (by decide +kernel) (pa_cons (pv 3) pa_nil)) (pv 4)) pa_nil)) (by rfl))))
      (pss_one (ps_set (i := 2) nd rfl (Or.inr rfl) (pv 3))))))
      (pss_cons (ps_setLc (i := 1) (own := [("one", 3)]) (by rfl) nd rfl rfl (sw_true rfl rfl rfl (by decide +kernel)) (pil (K := K) rfl (pv 1)) (blkOk_by (own := [("one", 3)]) (N := N_law_right) (sc := defScope s_law_right) (by decide +kernel)) (fun _ _ _ _ _ => (pg_name (i := 3) nd rfl (Or.inl rfl))) (fun _ _ _ _ _ => pts_nil) (fun _ _ _ _ _ => (pe_op op_fdivW (pv 3) (pv 2))))
      (pss_cons (ps_set (i := 5) nd rfl (Or.inr rfl) (pe_callB (c_sum (K := K) rfl rfl) (by rfl) T.b_sum (by decide +kernel) (pa_cons (pv 1) pa_nil)))
      (pss_cons (ps_set (i := 6) nd rfl (Or.inr rfl) (pe_call (G_law_fractions T) (hr.mono (by decide)) rfl T.g_law_fractions T.F_law_fractions.kp T.B_law_fractions .nil pass0 (pa_cons (pv 0) (pa_cons (pv 1) (pa_cons (pv 5) pa_nil)))))
      (pss_cons (ps_set (i := 7) nd rfl (Or.inl rfl) (pe_callB (c_repr (K := K) rfl hgd hr.units) (by rfl) T.b_repr (by decide +kernel) (pa_cons (pv 6) pa_nil)))
      (pss_cons (ps_if (pt_cmpR op_gt (pv 5) pe_int (nomark _)) (pss_one (ps_ret (pe_cmpR (o_eqD (K := K) rfl hr.units) (pe_heard T (G_evenly T) rfl TB hcode hmT huT (hr.mono (by decide)) (lamS_by (sc := defScope s_law_right) (by decide +kernel)) rfl (fun _ _ _ _ _ => rfl) (fun _ _ _ _ _ _ _ => rfl) (fun _ _ _ _ _ _ _ => (pa_cons (pv 6) pa_nil)) (fun _ _ _ _ _ _ _ => rfl)) (pe_tup (pa_cons pe_str (pa_cons pe_str (pa_cons pe_int pa_nil)))) (nomark _)))) pss_nil)
      (pss_cons (ps_set (i := 8) nd rfl (Or.inl rfl) (pe_call (G_evenly T) (hr.mono (by decide)) rfl T.g_evenly T.F_evenly.kp T.B_evenly .nil passL (pa_cons (pv 6) pa_nil)))
      (pss_cons (ps_if (PW.pt (pw_or (pt_cmpR (o_neD (K := K) rfl hr.units) (pe_tup (pa_cons (pe_fldK (K := K) rfl (pv 8) rfl) (pa_cons (pe_fldK (K := K) rfl (pv 8) rfl) (pa_cons (pe_fldK (K := K) rfl (pv 8) rfl) pa_nil)))) (pe_tup (pa_cons pe_int (pa_cons (pe_callB (c_len (K := K) rfl) (by rfl) T.b_len (by decide +kernel) (pa_cons (pv 1) pa_nil)) (pa_cons (pv 5) pa_nil)))) (nomark _)) (pw_or (pt_cmpR (op_neIns (G_Part_eq T) T.en_Part T.eo_Part (hr.mono (by decide)) T.e_Part T.ef_Part T.B_Part_eq pass0) (pe_callKw (G_evenly T) (hr.mono (by decide)) rfl T.g_evenly T.F_evenly.kp T.K_evenly passL (pk_cons (pe_callTy (c_tup (K := K) rfl) (by rfl) T.b_tuple (by decide +kernel) (pa_cons (pv 6) pa_nil)) pk_nil)) (pv 8) (nomark _)) (pw_or1 (pt_cmpR op_ne (pe_callB (c_repr (K := K) rfl hgd hr.units) (by rfl) T.b_repr (by decide +kernel) (pa_cons (pv 6) pa_nil)) (pv 7) (nomark _)))))) (pss_one (ps_ret pe_bl)) pss_nil)
      (pss_cons (ps_set (i := 9) nd rfl (Or.inl rfl) (pe_op op_rep (pe_lst (pa_cons pe_int pa_nil)) (pe_callB (c_len (K := K) rfl) (by rfl) T.b_len (by decide +kernel) (pa_cons (pv 1) pa_nil))))
      (pss_cons (ps_for PassesOwn.never rfl (pi_enL (K := K) rfl rfl T.b_enumerate (pa_cons (pe_call (G_law_row T) (hr.mono (by decide)) rfl T.g_law_row T.F_law_row.kp T.B_law_row .nil pass0 (pa_cons (pv 1) (pa_cons (pv 5) pa_nil))) pa_nil)) (pgt (K := K) (n := 2) rfl rfl (pgs_cons (pg_name (i := 10) nd rfl (Or.inr rfl)) (pgs_cons (pg_name (i := 11) nd rfl (Or.inr rfl)) pgs_nil)))
      (pss_cons (ps_asg (pe_ix (ixt (K := K) rfl) (pe_ix (ixt (K := K) rfl) (pe_fldK (K := K) rfl (pv 8) rfl) (pv 10) (fun _ _ => rfl)) pe_int (fun _ _ => rfl)) (pgt (K := K) (n := 2) rfl rfl (pgs_cons (pg_name (i := 12) nd rfl (Or.inl rfl)) (pgs_cons (pg_name (i := 13) nd rfl (Or.inl rfl)) pgs_nil))))
      (pss_cons (ps_if (PW.pt (pw_or (pt_cmpR op_ne (pv 12) (pe_op op_mod (pe_callTy call_int1 (by rfl) T.b_int (by decide +kernel) (pa_cons (pe_op op_add (pv 10) pe_int) pa_nil)) (pv 5)) (nomark _)) (pw_or1 (pt_cmpR (o_neD (K := K) rfl hr.units) (pv 13) (pe_callTy (c_tup (K := K) rfl) (by rfl) T.b_tuple (by decide +kernel) (pa_cons (pe_lc (own := [("spot", 14)]) (by rfl) nd (pi_range1 rfl T.b_range (pa_cons (pe_callB (c_len (K := K) rfl) (by rfl) T.b_len (by decide +kernel) (pa_cons (pv 1) pa_nil)) pa_nil)) (blkOk_by (own := [("spot", 14)]) (N := N_law_right) (sc := defScope s_law_right) (by decide +kernel)) (fun _ _ _ _ _ => (pg_name (i := 14) nd rfl (Or.inl rfl))) (fun _ _ _ _ _ => pts_nil) (fun _ _ _ _ _ => (pe_callTy call_int1 (by rfl) T.b_int (by decide +kernel) (pa_cons (pe_cmpR op_eq (pv 14) (pv 11) (nomark _)) pa_nil)))) pa_nil)) (nomark _))))) (pss_one (ps_ret pe_bl)) pss_nil)
      (pss_cons (ps_asg (pe_op op_add (pe_ix (ixl (K := K) rfl) (pv 9) (pv 11) (fun _ _ => rfl)) pe_int) (pg_sub (pv 9) (pv 11) set_list))
      (pss_one (ps_if (pt_cmpR (o_neD (K := K) rfl hr.units) (pe_lc (own := [("many", 15), ("share", 16)]) (by rfl) nd (pi_zipK (K := K) rfl rfl T.b_zip (pa_cons (pv 9) (pa_cons (pv 1) pa_nil))) (blkOk_by (own := [("many", 15), ("share", 16)]) (N := N_law_right) (sc := defScope s_law_right) (by decide +kernel)) (fun _ _ _ _ _ => (pgt (K := K) (n := 2) rfl rfl (pgs_cons (pg_name (i := 15) nd rfl (Or.inl rfl)) (pgs_cons (pg_name (i := 16) nd rfl (Or.inl rfl)) pgs_nil)))) (fun _ _ _ _ _ => (pts_one (pt_not (pt_chain op_lt op_lt (pe_op op_sub pe_int (pv 5)) (pe_op op_sub (pe_op op_mul (pv 15) (pv 5)) (pe_op op_mul (pv 16) (pe_op op_add (pv 10) pe_int))) (pv 5))))) (fun _ _ _ _ _ => pe_int)) (pe_lst pa_nil) (nomark _)) (pss_one (ps_ret pe_bl)) pss_nil))))))
      (pss_cons (ps_if (PW.pt (pw_or (pt_cmpR (o_neD (K := K) rfl hr.units) (pv 9) (pv 1) (nomark _)) (pw_or (pt_cmpR (o_neD (K := K) rfl hr.units) (pe_call (G_fair T) (hr.mono (by decide)) rfl T.g_fair T.F_fair.kp T.B_fair .nil pass0 (pa_cons (pv 8) (pa_cons pe_int pa_nil))) (pe_tup (pa_cons (pe_callTy (c_tup (K := K) rfl) (by rfl) T.b_tuple (by decide +kernel) (pa_cons (pe_lc (own := [("one", 3)]) (by rfl) nd (pil (K := K) rfl (pv 1)) (blkOk_by (own := [("one", 3)]) (N := N_law_right) (sc := defScope s_law_right) (by decide +kernel)) (fun _ _ _ _ _ => (pg_name (i := 3) nd rfl (Or.inl rfl))) (fun _ _ _ _ _ => pts_nil) (fun _ _ _ _ _ => (pe_call (G_law_low T) (hr.mono (by decide)) rfl T.g_law_low T.F_law_low.kp T.B_law_low .nil pass0 (pa_cons (pv 3) (pa_cons (pv 5) pa_nil))))) pa_nil)) pa_nil)) (nomark _)) (pw_or1 (pt_cmpR (o_neD (K := K) rfl hr.units) (pe_call (G_laps T) (hr.mono (by decide)) rfl T.g_laps T.F_laps.kp T.B_laps .nil pass0 (pa_cons (pv 8) (pa_cons pe_int pa_nil))) (pe_tup (pa_cons (pe_tup (pa_cons (pv 5) pa_nil)) pa_nil)) (nomark _)))))) (pss_one (ps_ret pe_bl)) pss_nil)
      (pss_one (ps_ret (pe_cmpR (o_eqD (K := K) rfl hr.units) (pe_call (G_fell_counts T) (hr.mono (by decide)) rfl T.g_fell_counts T.F_fell_counts.kp T.B_fell_counts .nil pass0 (pa_cons (pv 8) (pa_cons pe_int (pa_cons (pe_lst (pa_cons (pe_op op_mul (pe_op op_pow pe_int pe_int) (pv 5)) pa_nil)) pa_nil)))) (pe_tup (pa_cons pe_int (pa_cons (pe_callTy (c_tup (K := K) rfl) (by rfl) T.b_tuple (by decide +kernel) (pa_cons (pe_lc (own := [("one", 3)]) (by rfl) nd (pil (K := K) rfl (pv 1)) (blkOk_by (own := [("one", 3)]) (N := N_law_right) (sc := defScope s_law_right) (by decide +kernel)) (fun _ _ _ _ _ => (pg_name (i := 3) nd rfl (Or.inl rfl))) (fun _ _ _ _ _ => pts_nil) (fun _ _ _ _ _ => (pe_op op_mul (pe_op op_pow pe_int pe_int) (pv 3)))) pa_nil)) pa_nil))) (nomark _)))))))))))))))), ?_⟩
    refine ⟨_, rfl, l, rfl, ⟨_, SqL.of hl⟩, for_list (K := K) (a := l) (xs := ns.map V.int) (fun i σ H2 => ∃ x3 x4 g, σ = [some (.ref a), some (.ref l), some (.int g), x3, x4, none, none, none, none, none, none, none, none, none, none, none, none] ∧ H2 = H ∧ g = (ns.take i).foldl gStep 0) ⟨none, none, 0, rfl, rfl, rfl⟩ (fun i σ H2 _ ⟨_, _, _, _, e, _⟩ => SqL.of (by rw [e]; exact hl)) ?_ ?_⟩
    · rintro i y σ H2 hi ⟨x3, x4, g, rfl, rfl, rfl⟩
      rw [List.getElem?_map] at hi
      obtain ⟨p, hp, rfl⟩ := Option.map_eq_some_iff.mp hi
      have p0 := hpos p (List.mem_of_getElem? hp)
      have g0 : 0 ≤ (ns.take i).foldl gStep 0 := (gFold _ 0 (fun q hq => hpos q (List.mem_of_mem_take hq)) (Int.le_refl _)).2.2.2.1
      have tk : (ns.take (i + 1)).foldl gStep 0 = gStep ((ns.take i).foldl gStep 0) p := by
        rw [List.take_add_one, hp]
        show (ns.take i ++ [p]).foldl gStep 0 = _
        rw [List.foldl_append]
        rfl
      generalize (ns.take i).foldl gStep 0 = g at g0 tk ⊢
      refine ⟨_, rfl, _, rfl, _, _, rfl, ?_⟩
      refine ⟨fun m σ H3 => ∃ x y : Int, σ = [some (.ref a), some (.ref l), some (.int g), some (.int x), some (.int y), none, none, none, none, none, none, none, none, none, none, none, none] ∧ H3 = H2 ∧ 0 ≤ x ∧ 0 ≤ y ∧ Int.gcd x y = Int.gcd p g ∧ m = y.toNat, ⟨_, p, g, rfl, rfl, by omega, g0, rfl, rfl⟩, ?_⟩
      rintro m σ H3 ⟨x, y, rfl, rfl, hx, hy, hg, rfl⟩
      refine ⟨_, rfl, _, _, rfl, rfl, _, rfl, ?_⟩
      by_cases h0 : 0 < y
      · rw [decide_eq_true h0]
        have l1 := Int.emod_nonneg x (show y ≠ 0 by omega)
        have l2 := Int.emod_lt_of_pos x h0
        refine iteT ⟨fun σ' H' => σ' = [some (.ref a), some (.ref l), some (.int g), some (.int y), some (.int (x % y)), none, none, none, none, none, none, none, none, none, none, none, none] ∧ H' = H3, ?_, ?_⟩
        · rintro σ' H' ⟨h3, h4⟩
          exact ⟨(x % y).toNat, by omega, y, x % y, h3, h4, by omega, l1, by rw [gcd_step hx h0, hg], rfl⟩
        exact ⟨_, rfl, _, rfl, .inl ⟨_, rfl, _, rfl, _, _, rfl, rfl, h0, _, _, rfl, rfl, rfl⟩⟩
      · rw [decide_eq_false h0]
        have y0 : y = 0 := by omega
        subst y0
        have hx2 : x = gStep g p := by
          unfold gStep
          rw [← hg, Int.gcd_zero_right]
          omega
        exact iteF ⟨_, rfl, _, _, _, rfl, rfl, by rw [tk, hx2]⟩
    · rintro σ H2 ⟨x3, x4, g, rfl, rfl, hg⟩
      rw [List.length_map, List.take_length] at hg
      have hg2 : g = gA ns := hg
      subst hg2
      obtain ⟨g0, gd, gg⟩ := gA_facts ne hpos
      have gle : gA ns ≤ 90 := by
        obtain ⟨p, hp⟩ := List.exists_mem_of_ne_nil ns ne
        have := Int.le_of_dvd (hpos p hp) (gd p hp)
        have := hdr p hp
        omega
      have hgetD : ∀ {i : Nat} {p : Int}, ns[i]? = some p → p / gA ns = (over ns).getD i 0 := fun {i p} h => by
        rw [List.getD_eq_getElem?_getD, over, List.getElem?_map, h]
        rfl
      refine ⟨_, rfl, l, rfl, ⟨_, SqL.of hl⟩, fun D hD => lc_pure (walk_list (K := K) (a := l) (xs := ns.map V.int)) (fun i y _ => y = V.int ((over ns).getD i 0)) hD (fun H e => SqL.of (e _ _ hl)) (fun _ _ _ _ r _ => r) (by rw [List.length_map, sizeLine_eq]; omega) (fun i x H3 H4 hi e y Q2 q2 => ?_) (fun ys H3 e3 hy hyl hys => ?_)⟩
      · obtain ⟨rfl, hx⟩ := y
        rw [List.getElem?_map] at hx
        obtain ⟨p, hp, rfl⟩ := Option.map_eq_some_iff.mp hx
        exact ⟨rfl, _, rfl, _, rfl, _, _, rfl, rfl, divW (b := 0) g0 (by omega), q2 _ _ (Same.refl _) (by rw [← hgetD hp])⟩
      · have e4 := ints_of hyl hys
        rw [List.length_map] at e4 hyl
        have eM : (List.range ns.length).map (fun i => (over ns).getD i 0) = over ns := by
          apply List.ext_getElem
          · simp [over_len]
          · intro i h1 h2
            simp [h2]
        rw [eM] at e4
        rw [e4] at hy
        have mpos := over_pos ne hpos
        have mle := over_le (b := 90) ne hpos fun p hp => (hdr p hp).2
        have mlen := over_len ns
        have mne : over ns ≠ [] := fun z => by rw [z] at mlen; simp at mlen; omega
        have mno := over_no ne hpos
        have Wpos := sum_pos mne mpos
        have Wle := sum_le mle
        have hd3 := hd.same e3
        have hDa := (hd.fresh hD).1
        have hT3 := Tabs.same hT e3
        have kp3 : Kp a H2 H3 := Kp.same e3
        have hk3 : k ≤ 800000 := hk
        generalize over ns = ms at *
        clear hys hyl gg gd g0 gle hgetD hg hpos hdr eM e4
        refine ⟨_, rfl, D, ms, rfl, SqL.of hy, ?_⟩
        refine ⟨_, rfl, _, rfl, _, rfl, a, c, D, k, ms, ms.sum, rfl, hd3, by omega, hy, hDa, by omega, fun m hm => ⟨mpos m hm, by have := mle m hm; omega⟩, Wpos, by omega, fun H4 f xs o4 d4 hf hfa hxl hsh => ?_⟩
        have O4 := kp3.trans (Kp.off o4)
        have T4 := Tabs.off hT3 hd3 o4
        obtain ⟨ds, dl, dk, dall⟩ := sh_data (K := K) fun i x h => ⟨_, hsh i x h⟩
        have sok := shData_ok (ds := ds) dk (by omega)
        have hy4 := o4 _ _ hDa hy
        have sh : ShL H4 xs ms.sum ms := ⟨hxl, by omega, by omega, Wpos, by omega, fun m hm => by have := mle m hm; have := mpos m hm; omega, fun i x h => (hsh i x h).sh⟩
        have whole : lcmAll (ms.map fun m => ms.sum / (Int.gcd m ms.sum : Int)) = ms.sum := lcm_whole Wpos ms fun d h _ => mno d h
        have fine : ∀ H' v, ExtN H4 H' → (v = .ref f ∨ ∃ t, v = .ref t ∧ H' t = some (.tup xs)) → Fine H' v ms.sum ms := fun H' v e hv => by
          refine ⟨?_, rfl, mpos, whole⟩
          rcases hv with rfl | ⟨t, rfl, ht⟩
          · exact ⟨f, xs, rfl, .inl (extN_lst e hf), sh.extN e⟩
          · exact ⟨t, xs, rfl, .inr ht, sh.extN e⟩
        refine ⟨_, rfl, f, .list ds, rfl, .lst (SqL.of hf) (dall _ (Same.refl _)), sok.1, sok.2.1, sok.2.2.1, sok.2.2.2, ?_⟩
        refine ⟨_, rfl, _, _, rfl, rfl, _, rfl, ?_⟩
        by_cases h400 : 400 < ms.sum
        · rw [decide_eq_true h400]
          refine iteT ⟨T4, fun H5 e5 T5 => ?_⟩
          refine ⟨_, rfl, .ref f, rfl, .inl ⟨ms.sum, ms, fine H5 _ e5 (.inl rfl), .inr ⟨h400, fun d H6 e6 hd6 => ⟨d, rfl, .inr (.inr ⟨rfl, _, _, hd6, fun H7 t e7 ht => ?_⟩)⟩⟩⟩⟩
          refine ⟨by show 3 ≤ sizeLine; decide, fun u hu => ?_⟩
          have n8 := same_new (o := HO.tup [.str "many", .str "positions", .int 400]) hu
          have E8 := (e6.trans e7).trans n8
          refine ⟨.tuple [.str "many", .str "positions", .int 400], .tuple [.str "many", .str "positions", .int 400], ?_, ?_, by decide +kernel, by decide +kernel, ?_⟩
          · exact .tup (SqT.of (n8 _ _ ht)) (.cons (.str _) (.cons (.str _) (.cons (.int _) .nil)))
          · exact .tup (SqT.of upd_same) (.cons (.str _) (.cons (.str _) (.cons (.int _) .nil)))
          rw [eqv_self (show SeqAt.shaped (.tuple [.str "many", .str "positions", .int 400]) = true by decide +kernel)]
          exact q _ (O4.trans ((Kp.ext e5).trans (Kp.same E8))) (((d4.extN e5).same E8).mono (by omega)) (Tabs.same T5 E8)
        · rw [decide_eq_false h400]
          refine iteF ?_
          refine ⟨_, rfl, .ref f, rfl, .inl ⟨ms.sum, ms, fine _ _ (ExtN.refl _) (.inl rfl), .inl ⟨by omega, fun H5 u e5 pt => ?_⟩⟩⟩
          obtain ⟨N, hWN⟩ : ∃ N : Nat, ms.sum = (N : Int) := ⟨ms.sum.toNat, by omega⟩
          have eN : ms.sum.toNat = N := by omega
          rw [eN] at pt
          have hN : 0 < N := by omega
          have cyc := ev_cyc (N := N) (n := ms.length) (s := fun i => ms.getD i 0) hN (by omega) (by omega) (by omega)
          have spos : ∀ i, i < ms.length → 0 < ms.getD i 0 := fun i hi => mpos _ (by simp [hi])
          have Ssum : S ms.length (fun i => ms.getD i 0) = N := by rw [S_list, hWN]
          have rl := evRows_len N ms.length fun i => ms.getD i 0
          have sums := ev_end hN Ssum spos
          have sumsM : (List.range ms.length).map (fun i => ms.getD i 0) = ms := by
            apply List.ext_getElem
            · simp
            · intro i h1 h2
              simp [h2]
          rw [sumsM] at sums
          have small : Small (evRows N ms.length fun i => ms.getD i 0) ms.length := fun g hg => by
            rw [sums] at hg
            have := mpos g hg
            have := mle g hg
            omega
          have mV := list_vI ms
          have hf5 := e5 _ _ hf
          have hy5 := e5 _ _ hy4
          obtain ⟨pa, dx, rv, rfl, h1, h2⟩ := id pt
          refine ⟨_, rfl, pa, _, dx, _, _, rfl, h1, T.c_Part, T.n_Part_doors, pf_doors _ _ _, _, rfl, pa, _, dx, _, _, rfl, h1, T.c_Part, T.n_Part_outs, pf_outs _ _ _, _, rfl, pa, _, dx, _, _, rfl, h1, T.c_Part, T.n_Part_many, pf_many _ _ _, by show 3 ≤ sizeLine; decide, fun t1 ht1 => ?_⟩
          have m1 := same_new (o := HO.tup [V.int 1, .int (ms.length : Nat), .int ((evRows N ms.length fun i => ms.getD i 0).length : Nat)]) ht1
          refine ⟨_, rfl, D, _, rfl, .inl (SqL.of (m1 _ _ hy5)), _, rfl, by show 3 ≤ sizeLine; decide, fun t2 ht2 => ?_⟩
          have m2 := m1.trans (same_new (o := HO.tup [V.int 1, .int ((ms.map V.int).length : Nat), .int ms.sum]) ht2)
          refine ⟨tI [1, (ms.length : Nat), ((evRows N ms.length fun i => ms.getD i 0).length : Nat)], tI [1, ((ms.map V.int).length : Nat), ms.sum], dp_tI (SqT.of ((same_new ht2) _ _ upd_same)), dp_tI (SqT.of upd_same), shp_tI _, shp_tI _, _, rfl, ?_⟩
          rw [eqv_tI, decide_eq_true (by rw [rl, hWN, List.length_map])]
          refine iteF ?_
          have e6 := e5.trans m2
          have hf6 := e6 _ _ hf
          refine ⟨_, rfl, f, _, rfl, .inl ⟨SqL.of hf6, fun t3 ht3 => ?_⟩⟩
          have m3 := same_new (o := HO.tup xs) ht3
          have e7 := e6.trans m3
          refine ⟨.ref t3, rfl, .inl ⟨ms.sum, ms, fine _ _ (ExtN.of e7) (.inr ⟨t3, rfl, upd_same⟩), .inl ⟨by omega, fun H8 u8 e8 pt8 => ?_⟩⟩⟩
          rw [eN] at pt8
          have k8 := (m2.trans m3).trans e8
          have pt8' := pt.same k8
          obtain ⟨pb, dy, rv8, rfl, h3, h4⟩ := id pt8
          have h1' := k8 _ _ h1
          refine ⟨_, rfl, ⟨pb, pa, dy, dx, _, _, rfl, rfl, h3, h1', _, _, pt8, pt8'⟩, fun H9 e9 => ⟨_, rfl, iteF ?_⟩⟩
          have e9' : Same H4 H9 := (e7.trans e8).trans e9
          refine ⟨_, rfl, f, .list ds, rfl, .lst (SqL.of (e9' _ _ hf)) (dall _ e9'), sok.1, sok.2.1, sok.2.2.1, sok.2.2.2, _, rfl, rfl, _, rfl, ?_⟩
          rw [decide_eq_true (rfl : V.str (PyData.list ds).shown = V.str (PyData.list ds).shown)]
          refine iteF ?_
          have pt9 := pt8'.same e9
          have hy9 := e9' _ _ hy4
          have O9 := O4.trans (Kp.same e9')
          have d9 := d4.same e9'
          have T9 := Tabs.same T4 e9'
          clear h3 h4 pt8 pt8' k8 e8 e9 h1' m3 ht3 e7 hf6 e6 m2 ht2 m1 ht1 h1 h2 hf5 hy5 pt e5 hy4 d4 T4 O4 hf hsh sh fine dall sok
          refine ⟨by show 1 ≤ sizeLine; decide, fun z hz => ?_⟩
          have m1 := same_new (o := HO.lst [V.int 0]) hz
          refine ⟨_, rfl, D, _, rfl, .inl (SqL.of (m1 _ _ hy9)), z, _, _, rfl, rfl, upd_same, by omega, by rw [List.length_map]; omega, by rw [List.length_map, sizeLine_eq]; show 1 * _ ≤ _; omega, fun r hr0 => ?_⟩
          have er : ((ms.map V.int).length : Int).toNat = ms.length := by rw [List.length_map]; omega
          have m2 := m1.trans (same_new (o := HO.lst (List.replicate ((ms.map V.int).length : Int).toNat [V.int 0]).flatten) hr0)
          have hr1 : (upd (upd H9 z (.lst [V.int 0])) r (.lst (List.replicate ((ms.map V.int).length : Int).toNat [V.int 0]).flatten)) r = some (.lst (vI (gv N (fun i => ms.getD i 0) ms.length 0) ms.length)) := by
            rw [upd_same, er, flat_one, ← vI_zero]
            rfl
          have hr9 : H9 r = none := by
            cases hh : H9 r with
            | none => rfl
            | some u =>
              rw [m1 _ _ hh] at hr0
              cases hr0
          generalize upd (upd H9 z (.lst [V.int 0])) r (.lst (List.replicate ((ms.map V.int).length : Int).toNat [V.int 0]).flatten) = H10 at m2 hr1 ⊢
          have hDV : H10 D = some (.lst (vI (fun i => ms.getD i 0) ms.length)) := by rw [m2 _ _ hy9, mV]
          refine ⟨_, rfl, _, rfl, D, N, ms.length, fun i => ms.getD i 0, by rw [hWN]; rfl, hDV, hN, by omega, by omega, Ssum, spos, fun H11 lr e11 hlr0 hlr => ?_⟩
          have hlrr : lr ≠ r := fun z => by
            rw [z, hr1] at hlr0
            cases hlr0
          have m11 := m2.trans e11
          refine ⟨lr, _, rfl, SqL.of hlr, for_it (walk_enum (K := K) (a := lr) (xs := vI (fun t => (pk N (fun i => ms.getD i 0) ms.length t : Int)) N)) (fun t σ H' => ∃ x3 x4 x10 x11 x12 x13, σ = [some (.ref a), some (.ref D), some (.int (gA ns)), x3, x4, some (.int ms.sum), some (.ref f), some (.str (PyData.list ds).shown), some (.ref pa), some (.ref r), x10, x11, x12, x13, none, none, none] ∧ Same H9 H' ∧ H' lr = some (.lst (vI (fun t => (pk N (fun i => ms.getD i 0) ms.length t : Int)) N)) ∧ H' r = some (.lst (vI (gv N (fun i => ms.getD i 0) ms.length t) ms.length)))
            ⟨x3, x4, none, none, none, none, rfl, m11, hlr, e11 _ _ hr1⟩ (fun t σ H' _ ⟨_, _, _, _, _, _, _, _, h, _⟩ => SqL.of h) ?_ ?_⟩
          · rintro t x σ H12 H13 ht ⟨x3, x4, x10, x11, x12, x13, rfl, e12, hlr12, hr12⟩ y
            obtain ⟨t2, y1, y2, rfl, ht2, rfl, q3, q4⟩ := y
            rw [vI_len] at ht
            cases q3
            dsimp only at q4
            rw [vI_at ht] at q4
            cases q4
            obtain ⟨dpk, hpk, hpn⟩ := pick_at (n := ms.length) (s := fun i => ms.getD i 0) hN Ssum spos ht
            have nz := same_new (o := HO.tup [.int (t : Nat), .int ((pk N (fun i => ms.getD i 0) ms.length t : Nat) : Int)]) ht2
            have e13 := e12.trans nz
            have hr13 := nz _ _ hr12
            have hlr13 := nz _ _ hlr12
            have tlt : t < (evRows N ms.length fun i => ms.getD i 0).length := by rw [rl]; exact ht
            have hnear : ∀ i, i < ms.length → _ := fun i hi => near (n := ms.length) (s := fun i => ms.getD i 0) hN Ssum spos (t := t + 1) (i := i) (by omega) hi
            refine ⟨t2, _, rfl, SqT.of upd_same, rfl, _, _, rfl, _, _, rfl, rfl, ?_⟩
            refine row_read0 T rfl (pt9.same e13) rfl tlt fun c' d' hc hd' => ?_
            refine ⟨c', _, rfl, SqT.of hc, rfl, _, _, rfl, _, _, rfl, rfl, ?_⟩
            have eat := evRows_at tlt
            have hle : V.int ((evRows N ms.length fun i => ms.getD i 0)[t]).1 = V.int (((t : Int) + 1) % ms.sum) := by
              rw [eat, hWN]
              show V.int (((t + 1) % N : Nat) : Int) = _
              rw [Int.natCast_emod, Int.natCast_add]
              rfl
            refine ⟨_, rfl, _, rfl, _, _, rfl, rfl, .inl ⟨_, rfl, _, rfl, _, _, rfl, rfl, Wpos, rfl, _, rfl, ?_⟩⟩
            rw [decide_eq_true hle]
            refine iteF ?_
            have hy13 := e13 _ _ hy9
            refine ⟨_, rfl, _, rfl, D, _, rfl, .inl (SqL.of hy13), _, rfl, by rw [List.length_map]; omega, by rw [List.length_map]; omega, fun D2 hD2 => lc_pure (walk_range (lo := 0) (n := (((ms.map V.int).length : Nat) : Int).toNat)) (fun i y _ => y = V.int (if i = pk N (fun i => ms.getD i 0) ms.length t then 1 else 0)) hD2 (fun _ _ => trivial) (fun _ _ _ _ r _ => r) (by rw [List.length_map, sizeLine_eq]; omega) (fun i x H14 H15 hi e y Q2 q2 => ?_) (fun ys2 H14 e14 hy2 hyl2 hys2 => ?_)⟩
            · obtain ⟨rfl, rfl⟩ := y
              refine ⟨rfl, _, rfl, _, rfl, rfl, .inr ⟨_, rfl, q2 _ _ (Same.refl _) ?_⟩⟩
              by_cases hio : i = pk N (fun i => ms.getD i 0) ms.length t
              · rw [if_pos hio]
                show V.int (if decide (V.int (0 + (i : Int)) = V.int _) = true then 1 else 0) = _
                rw [decide_eq_true (show V.int (0 + (i : Int)) = V.int (pk N (fun i => ms.getD i 0) ms.length t : Nat) by rw [hio, Int.zero_add])]
                rfl
              · rw [if_neg hio]
                show V.int (if decide (V.int (0 + (i : Int)) = V.int _) = true then 1 else 0) = _
                rw [decide_eq_false (show ¬ V.int (0 + (i : Int)) = V.int (pk N (fun i => ms.getD i 0) ms.length t : Nat) by intro z; injection z; omega)]
                rfl
            · have z6 := ints_of hyl2 hys2
              rw [er] at z6
              refine ⟨D2, _, rfl, .inl ⟨SqL.of hy2, fun t4 ht4 => ?_⟩⟩
              have n4 := same_new (o := HO.tup ys2) ht4
              have e15 := e14.trans n4
              have eunit : (evRows N ms.length fun i => ms.getD i 0)[t].2 = unit ms.length (pk N (fun i => ms.getD i 0) ms.length t) := by rw [eat]; rfl
              refine ⟨tI (unit ms.length (pk N (fun i => ms.getD i 0) ms.length t)), tI (unit ms.length (pk N (fun i => ms.getD i 0) ms.length t)), dp_tI (SqT.of ?_), dp_tI (SqT.of ?_), shp_tI _, shp_tI _, _, rfl, ?_⟩
              · rw [e15 _ _ hd', eunit]
              · rw [upd_same, z6]
                rfl
              rw [eqv_tI, decide_eq_true rfl]
              refine iteF ?_
              have e16 := e13.trans e15
              have hr16 := e15 _ _ hr13
              have hlr16 := e15 _ _ hlr13
              refine ⟨_, rfl, _, rfl, r, _, _, _, rfl, rfl, SqL.of hr16, atI_nat (vI_at hpn), _, _, rfl, rfl, ?_⟩
              refine ⟨_, rfl, _, rfl, r, _, _, _, rfl, rfl, hr16, Evl.ixN_nat (by rw [vI_len]; exact hpn), ?_⟩
              rw [vI_bump, ← gv_succ]
              have e17 : Same H9 (upd (upd H14 t4 (HO.tup ys2)) r (.lst (vI (gv N (fun i => ms.getD i 0) ms.length (t + 1)) ms.length))) := same_put e16 hr9
              have hr17 : (upd (upd H14 t4 (HO.tup ys2)) r (.lst (vI (gv N (fun i => ms.getD i 0) ms.length (t + 1)) ms.length))) r = _ := upd_same
              have hlr17 := (upd_ne (H := upd H14 t4 (HO.tup ys2)) (o := HO.lst (vI (gv N (fun i => ms.getD i 0) ms.length (t + 1)) ms.length)) hlrr).trans hlr16
              have hD17 := e17 _ _ hy9
              generalize upd (upd H14 t4 (HO.tup ys2)) r (.lst (vI (gv N (fun i => ms.getD i 0) ms.length (t + 1)) ms.length)) = H17 at e17 hr17 hlr17 hD17 ⊢
              refine ⟨_, rfl, _, rfl, r, D, _, _, rfl, .inl ⟨SqL.of hr17, SqL.of hD17, fun D3 hD3 => lc_it (walk_zip (K := K) (a := r) (b := D) (xs := vI (gv N (fun i => ms.getD i 0) ms.length (t + 1)) ms.length) (ys := ms.map V.int) (n := ms.length) (by rw [vI_len, List.length_map]; omega)) (fun i H18 => Same H17 H18 ∧ H18 D3 = some (.lst [])) ⟨same_new hD3, upd_same⟩ (fun i H18 _ z => ⟨SqL.of (z.1 _ _ hr17), SqL.of (z.1 _ _ hD17)⟩) (fun i x H18 H19 hi z y => ?_) (fun H18 z => ?_)⟩⟩
              · obtain ⟨t5, y1, y2, rfl, ht5, rfl, q5, q6⟩ := y
                dsimp only at q5 q6
                rw [vI_at hi] at q5
                cases q5
                have esh : ms[i]? = some (ms.getD i 0) := by simp [hi]
                rw [List.getElem?_map, esh] at q6
                cases q6
                have G := good_at hN Ssum spos (t + 1) (by omega)
                have glo := G.lo i hi
                have ghi := G.hi i hi
                have mi := mle (ms.getD i 0) (by simp [hi])
                have mi0 := spos i hi
                obtain ⟨c1, c2⟩ := hnear i hi
                have c1' : 0 - ms.sum < gv N (fun i => ms.getD i 0) ms.length (t + 1) i * ms.sum - ms.getD i 0 * ((t : Int) + 1) := by
                  rw [hWN]
                  exact c1
                have c2' : gv N (fun i => ms.getD i 0) ms.length (t + 1) i * ms.sum - ms.getD i 0 * ((t : Int) + 1) < ms.sum := by
                  rw [hWN]
                  exact c2
                refine ⟨t5, _, rfl, SqT.of upd_same, rfl, _, _, rfl, _, _, rfl, rfl, rfl, ?_⟩
                refine ⟨_, rfl, _, _, rfl, rfl, _, rfl, _, rfl, _, _, rfl, rfl, mulOk (by omega), _, rfl, _, rfl, _, _, rfl, rfl, _, _, rfl, rfl, mulOk (by omega), _, _, rfl, rfl, _, _, rfl, rfl, _, rfl, ?_⟩
                rw [decide_eq_true c1']
                refine iteT ⟨_, rfl, _, _, rfl, rfl, _, rfl, ?_⟩
                rw [decide_eq_true c2']
                refine iteF ⟨z.1.trans (same_new ht5), (same_new ht5) _ _ z.2⟩
              · obtain ⟨z1, z2⟩ := z
                refine ⟨by show 0 ≤ sizeLine; decide, fun t6 ht6 => ?_⟩
                have n6 := same_new (o := HO.lst []) ht6
                refine ⟨lI [], lI [], dp_lI (SqL.of (n6 _ _ z2)), dp_lI (SqL.of upd_same), shp_lI _, shp_lI _, _, rfl, ?_⟩
                rw [eqv_lI, decide_eq_true rfl]
                exact iteF ⟨_, _, _, _, _, _, rfl, e17.trans (z1.trans n6), n6 _ _ (z1 _ _ hlr17), n6 _ _ (z1 _ _ hr17)⟩
          · rintro σ H12 ⟨x3, x4, x10, x11, x12, x13, rfl, e12, hlr12, hr12⟩
            rw [vI_len] at hr12
            have hrow : vI (gv N (fun i => ms.getD i 0) ms.length N) ms.length = ms.map V.int := by
              rw [mV]
              unfold vI
              exact List.map_congr_left fun i hi => by rw [gv_end hN Ssum spos (List.mem_range.mp hi)]
            rw [hrow] at hr12
            have hy12 := e12 _ _ hy9
            refine ⟨_, rfl, _, rfl, lI ms, lI ms, dp_lI (SqL.of hr12), dp_lI (SqL.of hy12), shp_lI _, shp_lI _, _, rfl, ?_⟩
            rw [eqv_lI, decide_eq_true rfl]
            refine iteF ?_
            refine ⟨_, rfl, .ref pa, ms.length, _, rfl, pt9.same e12, cyc, small, fun H13 t7 e13 tv7 => ?_⟩
            have hy13 := e13 _ _ hy12
            have ed : fairD (evRows N ms.length fun i => ms.getD i 0) ms.length = .tuple [.tuple (ms.map fun m => tI (rd m ms.sum))] := by
              unfold fairD
              rw [sums, rl, hWN]
            rw [ed] at tv7
            refine ⟨_, rfl, D, rfl, ⟨_, SqL.of hy13⟩, fun D4 hD4 => lc_pure (walk_list (K := K) (a := D) (xs := ms.map V.int)) (fun i y H' => Tv H' y (tI (rd (ms.getD i 0) ms.sum))) hD4 (fun H e => SqL.of (e _ _ hy13)) (fun _ _ _ _ r st => r.stab st) (by rw [List.length_map, sizeLine_eq]; omega) (fun i x H14 H15 hi e y Q2 q2 => ?_) (fun ys4 H14 e14 hy4 hyl4 hys4 => ?_)⟩
            · obtain ⟨rfl, hx⟩ := y
              rw [List.getElem?_map] at hx
              obtain ⟨m, hm, rfl⟩ := Option.map_eq_some_iff.mp hx
              refine ⟨rfl, _, rfl, _, rfl, m, ms.sum, rfl, mpos m (List.mem_of_getElem? hm), Wpos, by omega, fun H' t8 s8 z8 => q2 _ _ s8 ?_⟩
              rw [← some_getD hm]
              exact z8
            · refine ⟨D4, _, rfl, .inl ⟨SqL.of hy4, fun t8 ht8 => ?_⟩⟩
              have n8 := same_new (o := HO.tup ys4) ht8
              refine ⟨by show 1 ≤ sizeLine; decide, fun t9 ht9 => ?_⟩
              have n9 := same_new (o := HO.tup [.ref t8]) ht9
              have e15 := e14.trans (n8.trans n9)
              have tall : TvAll H14 ys4 (ms.map fun m => tI (rd m ms.sum)) := tvs_mk (by rw [hyl4, List.length_map, List.length_map]) fun i v d hv hdd => by
                rw [List.getElem?_map] at hdd
                obtain ⟨m, hm, rfl⟩ := Option.map_eq_some_iff.mp hdd
                have := hys4 i v hv
                rw [← some_getD hm] at this
                exact this
              have tv9 : Tv (upd (upd H14 t8 (.tup ys4)) t9 (.tup [.ref t8])) (.ref t9) (.tuple [.tuple (ms.map fun m => tI (rd m ms.sum))]) := .tup upd_same (.cons (.tup (n9 _ _ upd_same) (tall.stab (.same (n8.trans n9)))) .nil)
              refine ⟨_, _, (tv7.same e15).dp, tv9.dp, shp_fair _ _, shp_fair _ _, _, rfl, ?_⟩
              rw [eqv_self (shp_fair _ _)]
              refine iteF ?_
              have e16 : Same H9 (upd (upd H14 t8 (.tup ys4)) t9 (.tup [.ref t8])) := e12.trans (e13.trans e15)
              generalize upd (upd H14 t8 (.tup ys4)) t9 (.tup [.ref t8]) = H16 at e16 ⊢
              refine ⟨_, rfl, .ref pa, ms.length, _, rfl, pt9.same e16, cyc, small, fun H17 t10 e17 tv10 => ?_⟩
              rw [rl, ← hWN] at tv10
              refine ⟨_, rfl, by show 1 ≤ sizeLine; decide, fun t11 ht11 => ?_⟩
              have n11 := same_new (o := HO.tup [V.int ms.sum]) ht11
              refine ⟨by show 1 ≤ sizeLine; decide, fun t12 ht12 => ?_⟩
              have n12 := same_new (o := HO.tup [.ref t11]) ht12
              have tv12 : Tv (upd (upd H17 t11 (.tup [V.int ms.sum])) t12 (.tup [.ref t11])) (.ref t12) (.tuple [tI [ms.sum]]) := .tup upd_same (.cons (tv_tI (ns := [_]) (n12 _ _ upd_same)) .nil)
              refine ⟨_, _, (tv10.same (n11.trans n12)).dp, tv12.dp, shp_in _, shp_in _, _, rfl, ?_⟩
              rw [eqv_self (shp_in _)]
              refine iteF ?_
              have e18 := e16.trans (e17.trans (n11.trans n12))
              generalize upd (upd H17 t11 (.tup [V.int ms.sum])) t12 (.tup [.ref t11]) = H18 at e18 ⊢
              have hy18 := e18 _ _ hy9
              have t30 : (10 : Int) ^ (30 : Int).toNat = ((10 ^ 30 : Nat) : Int) := by decide
              have cm : ∀ m : Int, m.natAbs < 2 ^ 64 → CMul ((10 : Int) ^ (30 : Int).toNat) m := fun m hm => .inr ⟨by omega, by omega⟩
              have cp : CPow 10 30 := ⟨by decide, by decide, by decide⟩
              refine ⟨_, rfl, _, _, rfl, rfl, cp, _, rfl, _, _, rfl, rfl, cm _ (by omega), by show 1 ≤ sizeLine; decide, fun l7 hl7 => ?_⟩
              have n7 := same_new (o := HO.lst [V.int ((10 : Int) ^ (30 : Int).toNat * ms.sum)]) hl7
              refine ⟨.ref pa, l7, _, ms.length, 10 ^ 30, _, rfl, upd_same, by rw [rl, hWN, t30, Int.mul_comm], (pt9.same e18).same n7, cyc, by decide, Nat.lt_of_lt_of_le (show 10 ^ 30 < 2 ^ 200 by decide) (Nat.pow_le_pow_right (by decide) (by decide)), small, fun H19 t13 e19 tv13 => ?_⟩
              rw [sums] at tv13
              have hy19 := e19 _ _ (n7 _ _ hy18)
              refine ⟨_, rfl, D, rfl, ⟨_, SqL.of hy19⟩, fun D5 hD5 => lc_pure (walk_list (K := K) (a := D) (xs := ms.map V.int)) (fun i y _ => y = V.int ((ms.map fun m => ((10 ^ 30 : Nat) : Int) * m).getD i 0)) hD5 (fun H e => SqL.of (e _ _ hy19)) (fun _ _ _ _ r _ => r) (by rw [List.length_map, sizeLine_eq]; omega) (fun i x H20 H21 hi e y Q2 q2 => ?_) (fun ys5 H20 e20 hy5 hyl5 hys5 => ?_)⟩
              · obtain ⟨rfl, hx⟩ := y
                rw [List.getElem?_map] at hx
                obtain ⟨m, hm, rfl⟩ := Option.map_eq_some_iff.mp hx
                have b1 := mle m (List.mem_of_getElem? hm)
                have b2 := mpos m (List.mem_of_getElem? hm)
                refine ⟨rfl, _, _, rfl, rfl, cp, _, rfl, _, _, rfl, rfl, cm _ (by omega), q2 _ _ (Same.refl _) ?_⟩
                show V.int ((10 : Int) ^ (30 : Int).toNat * m) = _
                rw [List.getD_eq_getElem?_getD, List.getElem?_map, hm, t30]
                rfl
              · have z5 := ints_of hyl5 hys5
                rw [List.length_map] at z5
                have e5M : (List.range ms.length).map (fun i => (ms.map fun m => ((10 ^ 30 : Nat) : Int) * m).getD i 0) = ms.map fun m => ((10 ^ 30 : Nat) : Int) * m := by
                  apply List.ext_getElem
                  · simp
                  · intro i h1 h2
                    simp at h1 h2
                    simp [h2]
                rw [e5M] at z5
                refine ⟨D5, _, rfl, .inl ⟨SqL.of hy5, fun t14 ht14 => ?_⟩⟩
                have n14 := same_new (o := HO.tup ys5) ht14
                refine ⟨by show 2 ≤ sizeLine; decide, fun t15 ht15 => ?_⟩
                have n15 := same_new (o := HO.tup [V.int 0, .ref t14]) ht15
                have e21 := e20.trans (n14.trans n15)
                have tv15 : Tv (upd (upd H20 t14 (.tup ys5)) t15 (.tup [V.int 0, .ref t14])) (.ref t15) (.tuple [.int 0, tI (ms.map fun m => ((10 ^ 30 : Nat) : Int) * m)]) := pairTv upd_same (by rw [n15 _ _ upd_same, z5])
                refine ⟨_, _, (tv13.same e21).dp, tv15.dp, shp_pair _ _, shp_pair _ _, ?_⟩
                rw [eqv_self (shp_pair _ _)]
                have e22 := e18.trans ((n7.trans e19).trans e21)
                exact q _ (O9.trans (Kp.same e22)) ((d9.same e22).mono (by omega)) (Tabs.same T9 e22)
end
end K91
end
section
set_option Elab.async false
set_option linter.all false
set_option maxRecDepth 100000
set_option maxHeartbeats 8000000
namespace K91
open PySem PySem.Spec PyProof.Rows L2 KB M1 M2 LamX
/-- as Look, tuples only -/
def LookT (H : Hp) (x : V) (r : Bool) : Prop := (∃ b, ∃ p q : Int, x = .ref b ∧ H b = some (.tup [.int p, .int q]) ∧ r = (decide (0 < q) && decide (0 < p))) ∨
  (r = false ∧ ((∃ b v0 v1 b0 b1, x = .ref b ∧ H b = some (.tup [v0, v1]) ∧ isI v0 = some b0 ∧ isI v1 = some b1 ∧ fr2 v0 v1 = false) ∨ (∃ b xs, x = .ref b ∧ H b = some (.tup xs) ∧ xs.length ≠ 2) ∨ x = .non ∨ ∃ s, x = .str s))
theorem LookT.keep {H H' : Hp} {x : V} {r : Bool} (h : LookT H x r) (e : Tups H H') : LookT H' x r := by
  rcases h with ⟨b, p, q, h0, h1, h2⟩ | ⟨h1, ⟨b, v0, v1, b0, b1, h0, h2, h3⟩ | ⟨b, xs, h0, h2, h3⟩ | h2 | h2⟩
  · exact .inl ⟨b, p, q, h0, e _ _ h1, h2⟩
  · exact .inr ⟨h1, .inl ⟨b, v0, v1, b0, b1, h0, e _ _ h2, h3⟩⟩
  · exact .inr ⟨h1, .inr (.inl ⟨b, xs, h0, e _ _ h2, h3⟩)⟩
  · exact .inr ⟨h1, .inr (.inr (.inl h2))⟩
  · exact .inr ⟨h1, .inr (.inr (.inr h2))⟩
theorem LookT.look {H : Hp} {x : V} {r : Bool} (h : LookT H x r) : Look H x r := by
  rcases h with ⟨b, p, q, h0, h1, h2⟩ | ⟨h1, ⟨b, v0, v1, b0, b1, h0, h2, h3⟩ | ⟨b, xs, h0, h2, h3⟩ | h2 | h2⟩
  · exact .inl ⟨p, q, ⟨b, h0, .inl h1⟩, h2⟩
  · exact .inr ⟨h1, .inl ⟨v0, v1, b0, b1, ⟨b, h0, .inl h2⟩, h3⟩⟩
  · exact .inr ⟨h1, .inr (.inl ⟨xs, ⟨b, h0, .inl h2⟩, h3⟩)⟩
  · exact .inr ⟨h1, .inr (.inr (.inl h2))⟩
  · exact .inr ⟨h1, .inr (.inr (.inr h2))⟩
/-- a value that is no list of shares, the deck aside -/
def BadV (a : Addr) (H : Hp) (v : V) : Prop := (v = .non ∨ (∃ i, v = .int i) ∨ ∃ s, v = .str s) ∨ (∃ d kvs, v = .ref d ∧ d ≠ a ∧ H d = some (.dK kvs)) ∨
  ∃ p xs, v = .ref p ∧ p ≠ a ∧ H p = some (.lst xs) ∧ ((xs.length = 0 ∨ (6 < xs.length ∧ xs.length ≤ 100)) ∨ (xs.length ≤ 6 ∧ ∃ f : Nat → Bool, (∀ (i : Nat) (x : V), xs[i]? = some x → LookT H x (f i)) ∧ ∃ i, i < xs.length ∧ f i = false))
theorem BadV.keep {a : Addr} {H H' : Hp} {v : V} (h : BadV a H v) (e : Kp a H H') (t : Tups H H') : BadV a H' v := by
  rcases h with h | ⟨d, kvs, h1, h2, h3⟩ | ⟨p, xs, h1, h2, h3, h4⟩
  · exact .inl h
  · exact .inr (.inl ⟨d, kvs, h1, h2, e _ _ h2 (fun _ z => by cases z) h3⟩)
  · refine .inr (.inr ⟨p, xs, h1, h2, e _ _ h2 (fun _ z => by cases z) h3, h4.imp id fun ⟨l6, f, hx, hf⟩ => ⟨l6, f, fun i x hi => (hx i x hi).keep t, hf⟩⟩)
theorem BadV.bad {a : Addr} {H : Hp} {v : V} (h : BadV a H v) : BadSh H v := by
  rcases h with (h | h | h) | ⟨d, kvs, h1, h2, h3⟩ | ⟨p, xs, h1, h2, h3, h4⟩
  · exact .inl (.inl h)
  · exact .inl (.inr (.inl h))
  · exact .inl (.inr (.inr (.inl h)))
  · exact .inl (.inr (.inr (.inr ⟨d, kvs, h1, h3⟩)))
  · exact .inr ⟨p, xs, h1, h3, h4.imp id fun ⟨l6, f, hx, hf⟩ => ⟨l6, f, fun i x hi => (hx i x hi).look, hf⟩⟩
def AllBad (a : Addr) (H : Hp) (vs : List V) : Prop := ∀ v ∈ vs, BadV a H v
theorem tups_same {H H' : Hp} (e : Same H H') : Tups H H' := fun b xs h => e b _ h
theorem AllBad.same {a : Addr} {H H' : Hp} {vs : List V} (h : AllBad a H vs) (e : Same H H') : AllBad a H' vs := fun v hv => (h v hv).keep (Kp.same e) (tups_same e)
theorem AllBad.snoc {a : Addr} {H : Hp} {vs : List V} {v : V} (h : AllBad a H vs) (b : BadV a H v) : AllBad a H (vs ++ [v]) := fun u hu => by
  rcases List.mem_append.mp hu with hu | hu
  · exact h u hu
  · rw [List.mem_singleton.mp hu]
    exact b
/-- a new list of these items -/
theorem AllBad.lst {a p : Addr} {H : Hp} {vs xs : List V} (h : AllBad a H vs) (hp : H p = none) (hpa : p ≠ a) (hb : (xs.length = 0 ∨ (6 < xs.length ∧ xs.length ≤ 100)) ∨ (xs.length ≤ 6 ∧ ∃ f : Nat → Bool, (∀ (i : Nat) (x : V), xs[i]? = some x → LookT H x (f i)) ∧ ∃ i, i < xs.length ∧ f i = false)) :
    AllBad a (upd H p (.lst xs)) (vs ++ [.ref p]) :=
  (h.same (same_new hp)).snoc (.inr (.inr ⟨p, xs, rfl, hpa, upd_same, hb.imp id fun ⟨l6, f, hx, hf⟩ => ⟨l6, f, fun i x hi => (hx i x hi).keep (tups_same (same_new hp)), hf⟩⟩))
/-- one item -/
theorem look1 {H : Hp} {x : V} (h : LookT H x false) : ([x] : List V).length ≤ 6 ∧ ∃ f : Nat → Bool, (∀ (i : Nat) (y : V), [x][i]? = some y → LookT H y (f i)) ∧ ∃ i, i < ([x] : List V).length ∧ f i = false :=
  ⟨by show 1 ≤ 6; decide, fun _ => false, fun i y hy => by
    match i, hy with
    | 0, hy => exact Option.some.inj hy ▸ h
    | i + 1, hy => simp at hy, 0, by show 0 < 1; decide, rfl⟩
theorem look2 {H : Hp} {x y : V} {r q : Bool} (h : LookT H x r) (h2 : LookT H y q) (z : r = false ∨ q = false) : ([x, y] : List V).length ≤ 6 ∧ ∃ f : Nat → Bool, (∀ (i : Nat) (u : V), [x, y][i]? = some u → LookT H u (f i)) ∧ ∃ i, i < ([x, y] : List V).length ∧ f i = false := by
  refine ⟨by show 2 ≤ 6; decide, fun i => if i = 0 then r else q, fun i u hu => ?_, ?_⟩
  · match i, hu with
    | 0, hu => exact Option.some.inj hu ▸ h
    | 1, hu => exact Option.some.inj hu ▸ h2
    | i + 2, hu => simp at hu
  · rcases z with z | z
    · exact ⟨0, by show 0 < 2; decide, z⟩
    · exact ⟨1, by show 1 < 2; decide, z⟩
theorem look3 {H : Hp} {x y z : V} {r q : Bool} (h : LookT H x r) (h2 : LookT H y q) (h3 : LookT H z false) : ([x, y, z] : List V).length ≤ 6 ∧ ∃ f : Nat → Bool, (∀ (i : Nat) (u : V), [x, y, z][i]? = some u → LookT H u (f i)) ∧ ∃ i, i < ([x, y, z] : List V).length ∧ f i = false := by
  refine ⟨by show 3 ≤ 6; decide, fun i => if i = 0 then r else if i = 1 then q else false, fun i u hu => ?_, 2, by show 2 < 3; decide, rfl⟩
  match i, hu with
  | 0, hu => exact Option.some.inj hu ▸ h
  | 1, hu => exact Option.some.inj hu ▸ h2
  | 2, hu => exact Option.some.inj hu ▸ h3
  | i + 3, hu => simp at hu
/-- the name of a lambda of law -/
def lamL : Str := (envOfC "law" (defScope s_law) 0 0 .none).qual ++ "<lambda>"
section
variable {P : Program} {w : World} {K : PySem.W.Frag} {mg : Str → Option Value} {base : Heap} {A : Ad}
abbrev N_law : List Str := ["script", "deck", "turn", "parts", "whole", "bad", "near"]
theorem sc_law : FnScope N_law ["script"] (defScope s_law) := ⟨rfl, rfl, rfl, by decide +kernel, rfl, by decide +kernel, by decide +kernel⟩
def sp_law (K : PySem.W.Frag) (Tb : List (Addr × Str)) : Sp := fun vs H Q _ => ∃ (a : Addr) (ns : List Int), vs = [.ref a] ∧ SqL K H a (ns.map V.int) ∧ Tabs Tb H ∧ ∀ H', Q (.bl true) H'
theorem G_law (T : Txt K mg A) {Tb : List (Addr × Str)} {c0 P0 c1 P1 : Addr} (TB0 : TabB base mg c0 P0) (hcode0 : A.d_law_right.code = .ref c0) (hm0 : (P0, lamR) ∈ Tb) (hu0 : ∀ p ∈ Tb, p.1 = P0 → p.2 = lamR)
    (TB : TabB base mg c1 P1) (hcode : A.d_law.code = .ref c1) (hmT : (P1, lamL) ∈ Tb) (huT : ∀ p ∈ Tb, p.1 = P1 → p.2 = lamL) : FnG P w K mg base 18 A.f_law A.d_law ["script"] (sp_law K Tb) := by
  refine T.F_law.okG sc_law (fun vs H Q E h => ?_) (fun A' outer s H vs Q hgd hr h => ?_)
  · obtain ⟨a, ns, rfl, _⟩ := h
    rfl
  · obtain ⟨sa, sn, rfl, hsa, hT, q⟩ := h
    have nd := sc_law.nd
    have G_law_right := fun T => G_law_right (P := P) (w := w) (K := K) (mg := mg) (base := base) (A := A) T TB0 hcode0 hm0 hu0
    refine ⟨_, (pss_cons (ps_set (i := 1) nd rfl (Or.inl rfl) (pe_call (G_law_deck T) (hr.mono (by decide)) rfl T.g_law_deck T.F_law_deck.kp T.B_law_deck .nil pass0 (pa_cons (pv 0) pa_nil)))
      (pss_cons (ps_for PassesOwn.never rfl (pi_range1 rfl T.b_range (pa_cons pe_int pa_nil)) (pg_name (i := 2) nd rfl (Or.inl rfl))
      (pss_cons (ps_asg (pe_call (G_law_shares T) (hr.mono (by decide)) rfl T.g_law_shares T.F_law_shares.kp T.B_law_shares .nil pass0 (pa_cons (pv 1) (pa_cons (pe_op op_add pe_int (pe_call (G_law_draw T) (hr.mono (by decide)) rfl T.g_law_draw T.F_law_draw.kp T.B_law_draw .nil pass0 (pa_cons (pv 1) (pa_cons pe_int pa_nil)))) (pa_cons (pe_call (G_law_pick T) (hr.mono (by decide)) rfl T.g_law_pick T.F_law_pick.kp T.B_law_pick .nil pass0 (pa_cons (pv 1) (pa_cons (pe_lst (pa_cons pe_int (pa_cons pe_int (pa_cons pe_int (pa_cons pe_int pa_nil))))) pa_nil))) pa_nil)))) (pgt (K := K) (n := 2) rfl rfl (pgs_cons (pg_name (i := 3) nd rfl (Or.inl rfl)) (pgs_cons (pg_name (i := 4) nd rfl (Or.inl rfl)) pgs_nil))))
      (pss_cons (ps_if (pt_not (pt_val (pe_callG (G_law_right T) (hr.mono (by decide)) hgd rfl T.g_law_right T.F_law_right.kp T.B_law_right (pa_cons (pv 1) (pa_cons (pv 3) pa_nil))))) (pss_one (ps_ret pe_bl)) pss_nil)
      (pss_cons (ps_set (i := 5) nd rfl (Or.inr rfl) (pe_call (G_law_pick T) (hr.mono (by decide)) rfl T.g_law_pick T.F_law_pick.kp T.B_law_pick .nil pass0 (pa_cons (pv 1) (pa_cons (pe_lst (pa_cons pe_non (pa_cons pe_int (pa_cons pe_str (pa_cons (pe_lst pa_nil) (pa_cons pe_dnewK (pa_cons (pe_lst (pa_cons (pe_tup (pa_cons pe_int (pa_cons pe_int pa_nil))) (pa_cons (pe_tup (pa_cons pe_int (pa_cons pe_int pa_nil))) pa_nil))) (pa_cons (pe_lst (pa_cons (pe_tup (pa_cons pe_int (pa_cons pe_int pa_nil))) (pa_cons (pe_tup (pa_cons pe_int (pa_cons pe_int pa_nil))) (pa_cons pe_non pa_nil)))) (pa_cons (pe_op op_rep (pe_lst (pa_cons (pe_tup (pa_cons pe_int (pa_cons pe_int pa_nil))) pa_nil)) pe_int) (pa_cons (pe_lst (pa_cons (pe_tup (pa_cons pe_int (pa_cons pe_int pa_nil))) (pa_cons (pe_tup (pa_cons (pe_un un_neg pe_int) (pa_cons pe_int pa_nil))) pa_nil))) (pa_cons (pe_lst (pa_cons (pe_tup (pa_cons pe_int (pa_cons pe_int pa_nil))) pa_nil)) (pa_cons (pe_lst (pa_cons (pe_tup (pa_cons pe_bl (pa_cons pe_int pa_nil))) pa_nil)) (pa_cons (pe_lst (pa_cons (pe_tup (pa_cons pe_int (pa_cons pe_int (pa_cons pe_int pa_nil)))) pa_nil)) (pa_cons (pe_lst (pa_cons pe_str pa_nil)) (pa_cons (pe_lst (pa_cons (pe_tup (pa_cons (pe_un un_neg pe_int) (pa_cons (pe_un un_neg pe_int) pa_nil))) pa_nil)) pa_nil))))))))))))))) pa_nil))))
      (pss_cons (ps_if (pt_cmpR (o_neD (K := K) rfl hr.units) (pe_heard T (G_evenly T) rfl TB hcode hmT huT (hr.mono (by decide)) (lamS_by (sc := defScope s_law) (by decide +kernel)) rfl (fun _ _ _ _ _ => rfl) (fun _ _ _ _ _ _ _ => rfl) (fun _ _ _ _ _ _ _ => (pa_cons (pv 5) pa_nil)) (fun _ _ _ _ _ _ _ => rfl)) (pe_tup (pa_cons pe_str (pa_cons pe_str pa_nil))) (nomark _)) (pss_one (ps_ret pe_bl)) pss_nil)
      (pss_cons (ps_set (i := 6) nd rfl (Or.inr rfl) (pe_call (G_law_fractions T) (hr.mono (by decide)) rfl T.g_law_fractions T.F_law_fractions.kp T.B_law_fractions .nil pass0 (pa_cons (pv 1) (pa_cons (pe_op op_cat (pe_slice (sll (K := K) rfl) (pv 3) po_none (po_some pe_int)) (pe_lst (pa_cons (pe_op op_sub (pe_op op_add pe_int (pv 4)) (pe_callB (c_sum (K := K) rfl rfl) (by rfl) T.b_sum (by decide +kernel) (pa_cons (pe_slice (sll (K := K) rfl) (pv 3) po_none (po_some pe_int)) pa_nil))) pa_nil))) (pa_cons (pv 4) pa_nil)))))
      (pss_one (ps_if (pt_cmpR (o_neD (K := K) rfl hr.units) (pe_heard T (G_evenly T) rfl TB hcode hmT huT (hr.mono (by decide)) (lamS_by (sc := defScope s_law) (by decide +kernel)) rfl (fun _ _ _ _ _ => rfl) (fun _ _ _ _ _ _ _ => rfl) (fun _ _ _ _ _ _ _ => (pa_cons (pv 6) pa_nil)) (fun _ _ _ _ _ _ _ => rfl)) (pe_tup (pa_cons pe_str (pa_cons pe_str pa_nil))) (nomark _)) (pss_one (ps_ret pe_bl)) pss_nil))))))))
      (pss_one (ps_ret (pe_and (pe_cmpR op_isN (pe_heard T (G_evenly T) rfl TB hcode hmT huT (hr.mono (by decide)) (lamS_by (sc := defScope s_law) (by decide +kernel)) rfl (fun _ _ _ _ _ => rfl) (fun _ _ _ _ _ _ _ => rfl) (fun _ _ _ _ _ _ _ => (pa_cons (pe_lst (pa_cons (pe_tup (pa_cons pe_int (pa_cons pe_int pa_nil))) (pa_cons (pe_tup (pa_cons pe_int (pa_cons pe_int pa_nil))) pa_nil))) pa_nil)) (fun _ _ _ _ _ _ _ => rfl)) pe_non (nomark _)) (pe_one (pe_cmpR (o_eqD (K := K) rfl hr.units) (pe_heardD T (G_evenly T) rfl TB hcode hmT huT (hr.mono (by decide)) ⟨rfl, rfl, rfl, by decide +kernel, rfl, by decide +kernel, by decide +kernel⟩ rfl rfl rfl (fun _ _ _ _ _ _ _ _ h => BindsTo.of_defaults rfl h rfl rfl rfl) (fun _ _ _ _ _ _ _ _ => rfl) (fun _ _ _ _ _ _ _ _ => (pa_cons (pe_lst (pa_cons (pe_tup (pa_cons pe_int (pa_cons pe_int pa_nil))) (pa_cons (pe_tup (pa_cons pe_int (pa_cons pe_int pa_nil))) pa_nil))) pa_nil)) (fun _ _ _ _ _ _ _ _ => rfl)) (pe_tup (pa_cons pe_str (pa_cons pe_str (pa_cons pe_int pa_nil)))) (nomark _)))))))), ?_⟩
    refine ⟨_, rfl, sa, sn, rfl, hsa, fun H1 a c e1 d1 => ?_⟩
    have T1 := Tabs.same hT e1
    refine ⟨_, rfl, by decide, by decide, for_range (lo := 0) (n := (5 : Int).toNat) (fun i σ H2 => ∃ x2 x3 x4 x5 x6, σ = [some (.ref sa), some (.ref a), x2, x3, x4, x5, x6] ∧ DeckAt H2 a c (50 * i) ∧ Tabs Tb H2) ⟨none, none, none, none, none, rfl, d1, T1⟩ ?_ ?_⟩
    · rintro i σ H2 hi ⟨x2, x3, x4, x5, x6, rfl, d2, T2⟩
      have hi5 : i < 5 := hi
      refine ⟨_, rfl, _, rfl, a, c, 50 * i, 6, rfl, d2, by omega, by decide, by decide, fun H3 r o3 d3 r0 r1 => ⟨_, _, rfl, rfl, _, rfl, by show 4 ≤ sizeLine; decide, fun z hz => ?_⟩⟩
      have n3 := same_new (o := HO.lst [.int 4, .int 9, .int 66, .int 90]) hz
      refine ⟨a, c, z, _, 50 * i + 1, rfl, d3.same n3, by omega, upd_same, (d3.fresh hz).1, by show 0 < 4; decide, by show 4 ≤ 1000; decide, fun H4 x j o4 d4 hx => ?_⟩
      obtain ⟨top, rfl, t4, t90⟩ : ∃ m : Int, x = V.int m ∧ 4 ≤ m ∧ m ≤ 90 := by
        match j, hx with
        | 0, hx => exact ⟨4, (Option.some.inj hx).symm, by omega, by omega⟩
        | 1, hx => exact ⟨9, (Option.some.inj hx).symm, by omega, by omega⟩
        | 2, hx => exact ⟨66, (Option.some.inj hx).symm, by omega, by omega⟩
        | 3, hx => exact ⟨90, (Option.some.inj hx).symm, by omega, by omega⟩
        | j + 4, hx => simp at hx
      obtain ⟨m, rfl⟩ : ∃ m : Nat, r = (m : Int) := ⟨r.toNat, by omega⟩
      refine ⟨a, c, 50 * i + 1 + 1, m + 1, top, by rw [Int.natCast_add, Int.add_comm]; rfl, d4, by omega, by omega, t4, t90, fun H5 t l ns o5 d5 ht hl hla hl0 hlen hdr => ?_⟩
      refine ⟨t, _, rfl, SqT.of ht, rfl, _, _, rfl, _, _, rfl, rfl, ?_⟩
      have T5 : Tabs Tb H5 := Tabs.off (Tabs.same (Tabs.off T2 d2 o3) n3) (d3.same n3) (o4.trans o5)
      have dr90 : Drawn ns 90 := fun n hn => ⟨(hdr n hn).1, Int.le_trans (hdr n hn).2 t90⟩
      have d5' := d5.mono (show 50 * i + 1 + 1 + 2 * (m + 1) ≤ 50 * i + 14 by omega)
      clear d5 o5 d4 o4 hx n3 hz d3 o3 ht hl0 t4 t90 hdr r0
      refine ⟨_, rfl, _, rfl, a, c, l, 50 * i + 14, ns, rfl, d5', by omega, hl, hla, by omega, by omega, dr90, T5, fun H6 k6 d6 T6 => ⟨_, rfl, iteF ?_⟩⟩
      have hl6 := k6 _ _ hla (fun _ z => by cases z) hl
      clear k6 T5 d5' hl
      have B0 : AllBad a H6 [.non, .int 5, .str "1"] := fun v hv => by
        rcases List.mem_cons.mp hv with rfl | hv
        · exact .inl (.inl rfl)
        rcases List.mem_cons.mp hv with rfl | hv
        · exact .inl (.inr (.inl ⟨_, rfl⟩))
        rw [List.mem_singleton.mp hv]
        exact .inl (.inr (.inr ⟨_, rfl⟩))
      refine ⟨_, rfl, by show 0 ≤ sizeLine; decide, fun p1 hp1 => ?_⟩
      have m1 := same_new (o := HO.lst []) hp1
      have B1 := AllBad.lst (xs := []) B0 hp1 (d6.fresh hp1).1 (.inl (.inl rfl))
      replace d6 := d6.same m1
      replace T6 := Tabs.same T6 m1
      replace hl6 := m1 _ _ hl6
      generalize upd H6 p1 (.lst []) = H7 at B1 d6 T6 hl6 ⊢
      clear m1 hp1 B0
      intro p2 hp2
      have m1 := same_new (o := HO.dK []) hp2
      have B2 := (B1.same m1).snoc (.inr (.inl ⟨p2, [], rfl, (d6.fresh hp2).1, upd_same⟩))
      replace d6 := d6.same m1
      replace T6 := Tabs.same T6 m1
      replace hl6 := m1 _ _ hl6
      generalize upd H7 p2 (.dK []) = H8 at B2 d6 T6 hl6 ⊢
      clear m1 hp2 B1
      refine ⟨by show 2 ≤ sizeLine; decide, fun qc0 hq => ?_⟩
      have m1 := same_new (o := HO.tup [V.int 0, V.int 1]) hq
      replace B2 := B2.same m1
      replace d6 := d6.same m1
      replace T6 := Tabs.same T6 m1
      replace hl6 := m1 _ _ hl6
      have gc0 : (upd H8 qc0 (.tup [V.int 0, V.int 1])) qc0 = some (.tup [V.int 0, V.int 1]) := upd_same
      generalize upd H8 qc0 (.tup [V.int 0, V.int 1]) = H9 at B2 d6 T6 hl6 gc0 ⊢
      clear m1 hq
      refine ⟨by show 2 ≤ sizeLine; decide, fun qc1 hq => ?_⟩
      have m1 := same_new (o := HO.tup [V.int 1, V.int 1]) hq
      replace B2 := B2.same m1
      replace d6 := d6.same m1
      replace T6 := Tabs.same T6 m1
      replace hl6 := m1 _ _ hl6
      replace gc0 := m1 _ _ gc0
      have gc1 : (upd H9 qc1 (.tup [V.int 1, V.int 1])) qc1 = some (.tup [V.int 1, V.int 1]) := upd_same
      generalize upd H9 qc1 (.tup [V.int 1, V.int 1]) = H10 at B2 d6 T6 hl6 gc0 gc1 ⊢
      clear m1 hq
      refine ⟨by show 2 ≤ sizeLine; decide, fun pc hp => ?_⟩
      have B11 := AllBad.lst (xs := [V.ref qc0, V.ref qc1]) B2 hp (d6.fresh hp).1 (.inr (look2 (r := false) (q := true) (.inl ⟨_, _, _, rfl, gc0, by decide⟩) (.inl ⟨_, _, _, rfl, gc1, by decide⟩) (.inl rfl)))
      have m1 := same_new (o := HO.lst [V.ref qc0, V.ref qc1]) hp
      replace d6 := d6.same m1
      replace T6 := Tabs.same T6 m1
      replace hl6 := m1 _ _ hl6
      generalize upd H10 pc (.lst [V.ref qc0, V.ref qc1]) = H11 at B11 d6 T6 hl6 ⊢
      clear m1 hp B2 gc0 gc1
      refine ⟨by show 2 ≤ sizeLine; decide, fun qd0 hq => ?_⟩
      have m1 := same_new (o := HO.tup [V.int 1, V.int 2]) hq
      replace B11 := B11.same m1
      replace d6 := d6.same m1
      replace T6 := Tabs.same T6 m1
      replace hl6 := m1 _ _ hl6
      have gd0 : (upd H11 qd0 (.tup [V.int 1, V.int 2])) qd0 = some (.tup [V.int 1, V.int 2]) := upd_same
      generalize upd H11 qd0 (.tup [V.int 1, V.int 2]) = H12 at B11 d6 T6 hl6 gd0 ⊢
      clear m1 hq
      refine ⟨by show 2 ≤ sizeLine; decide, fun qd1 hq => ?_⟩
      have m1 := same_new (o := HO.tup [V.int 1, V.int 2]) hq
      replace B11 := B11.same m1
      replace d6 := d6.same m1
      replace T6 := Tabs.same T6 m1
      replace hl6 := m1 _ _ hl6
      replace gd0 := m1 _ _ gd0
      have gd1 : (upd H12 qd1 (.tup [V.int 1, V.int 2])) qd1 = some (.tup [V.int 1, V.int 2]) := upd_same
      generalize upd H12 qd1 (.tup [V.int 1, V.int 2]) = H13 at B11 d6 T6 hl6 gd0 gd1 ⊢
      clear m1 hq
      refine ⟨by show 3 ≤ sizeLine; decide, fun pd hp => ?_⟩
      have B14 := AllBad.lst (xs := [V.ref qd0, V.ref qd1, V.non]) B11 hp (d6.fresh hp).1 (.inr (look3 (r := true) (q := true) (.inl ⟨_, _, _, rfl, gd0, by decide⟩) (.inl ⟨_, _, _, rfl, gd1, by decide⟩) (.inr ⟨rfl, .inr (.inr (.inl rfl))⟩)))
      have m1 := same_new (o := HO.lst [V.ref qd0, V.ref qd1, V.non]) hp
      replace d6 := d6.same m1
      replace T6 := Tabs.same T6 m1
      replace hl6 := m1 _ _ hl6
      generalize upd H13 pd (.lst [V.ref qd0, V.ref qd1, V.non]) = H14 at B14 d6 T6 hl6 ⊢
      clear m1 hp B11 gd0 gd1
      refine ⟨by show 2 ≤ sizeLine; decide, fun qe0 hq => ?_⟩
      have m1 := same_new (o := HO.tup [V.int 1, V.int 7]) hq
      replace B14 := B14.same m1
      replace d6 := d6.same m1
      replace T6 := Tabs.same T6 m1
      replace hl6 := m1 _ _ hl6
      have ge0 : (upd H14 qe0 (.tup [V.int 1, V.int 7])) qe0 = some (.tup [V.int 1, V.int 7]) := upd_same
      generalize upd H14 qe0 (.tup [V.int 1, V.int 7]) = H15 at B14 d6 T6 hl6 ge0 ⊢
      clear m1 hq
      refine ⟨by show 1 ≤ sizeLine; decide, fun z7 hz7 => ?_⟩
      have m1 := same_new (o := HO.lst [V.ref qe0]) hz7
      replace B14 := B14.same m1
      replace d6 := d6.same m1
      replace T6 := Tabs.same T6 m1
      replace hl6 := m1 _ _ hl6
      have gz : (upd H15 z7 (.lst [V.ref qe0])) z7 = some (.lst [V.ref qe0]) := upd_same
      generalize upd H15 z7 (.lst [V.ref qe0]) = H16 at B14 d6 T6 hl6 gz ⊢
      clear m1 hz7
      refine ⟨z7, 7, _, rfl, rfl, gz, by decide, by decide, by show 1 * 7 ≤ sizeLine; decide, fun pe hp => ?_⟩
      have B17 := AllBad.lst (xs := (List.replicate (7 : Int).toNat [V.ref qe0]).flatten) B14 hp (d6.fresh hp).1 (.inl (.inr ⟨by show 6 < 7; decide, by show 7 ≤ 100; decide⟩))
      have m1 := same_new (o := HO.lst ((List.replicate (7 : Int).toNat [V.ref qe0]).flatten)) hp
      replace d6 := d6.same m1
      replace T6 := Tabs.same T6 m1
      replace hl6 := m1 _ _ hl6
      generalize upd H16 pe (.lst ((List.replicate (7 : Int).toNat [V.ref qe0]).flatten)) = H17 at B17 d6 T6 hl6 ⊢
      clear m1 hp B14 ge0
      refine ⟨by show 2 ≤ sizeLine; decide, fun qf0 hq => ?_⟩
      have m1 := same_new (o := HO.tup [V.int 2, V.int 1]) hq
      replace B17 := B17.same m1
      replace d6 := d6.same m1
      replace T6 := Tabs.same T6 m1
      replace hl6 := m1 _ _ hl6
      have gf0 : (upd H17 qf0 (.tup [V.int 2, V.int 1])) qf0 = some (.tup [V.int 2, V.int 1]) := upd_same
      generalize upd H17 qf0 (.tup [V.int 2, V.int 1]) = H18 at B17 d6 T6 hl6 gf0 ⊢
      clear m1 hq
      refine ⟨_, rfl, by show 2 ≤ sizeLine; decide, fun qf1 hq => ?_⟩
      have m1 := same_new (o := HO.tup [V.int (-1), V.int 1]) hq
      replace B17 := B17.same m1
      replace d6 := d6.same m1
      replace T6 := Tabs.same T6 m1
      replace hl6 := m1 _ _ hl6
      replace gf0 := m1 _ _ gf0
      have gf1 : (upd H18 qf1 (.tup [V.int (-1), V.int 1])) qf1 = some (.tup [V.int (-1), V.int 1]) := upd_same
      generalize upd H18 qf1 (.tup [V.int (-1), V.int 1]) = H19 at B17 d6 T6 hl6 gf0 gf1 ⊢
      clear m1 hq
      refine ⟨by show 2 ≤ sizeLine; decide, fun pf hp => ?_⟩
      have B20 := AllBad.lst (xs := [V.ref qf0, V.ref qf1]) B17 hp (d6.fresh hp).1 (.inr (look2 (r := true) (q := false) (.inl ⟨_, _, _, rfl, gf0, by decide⟩) (.inl ⟨_, _, _, rfl, gf1, by decide⟩) (.inr rfl)))
      have m1 := same_new (o := HO.lst [V.ref qf0, V.ref qf1]) hp
      replace d6 := d6.same m1
      replace T6 := Tabs.same T6 m1
      replace hl6 := m1 _ _ hl6
      generalize upd H19 pf (.lst [V.ref qf0, V.ref qf1]) = H20 at B20 d6 T6 hl6 ⊢
      clear m1 hp B17 gf0 gf1
      refine ⟨by show 2 ≤ sizeLine; decide, fun qg0 hq => ?_⟩
      have m1 := same_new (o := HO.tup [V.int 1, V.int 0]) hq
      replace B20 := B20.same m1
      replace d6 := d6.same m1
      replace T6 := Tabs.same T6 m1
      replace hl6 := m1 _ _ hl6
      have gg0 : (upd H20 qg0 (.tup [V.int 1, V.int 0])) qg0 = some (.tup [V.int 1, V.int 0]) := upd_same
      generalize upd H20 qg0 (.tup [V.int 1, V.int 0]) = H21 at B20 d6 T6 hl6 gg0 ⊢
      clear m1 hq
      refine ⟨by show 1 ≤ sizeLine; decide, fun pg hp => ?_⟩
      have B22 := AllBad.lst (xs := [V.ref qg0]) B20 hp (d6.fresh hp).1 (.inr (look1 (.inl ⟨_, _, _, rfl, gg0, by decide⟩)))
      have m1 := same_new (o := HO.lst [V.ref qg0]) hp
      replace d6 := d6.same m1
      replace T6 := Tabs.same T6 m1
      replace hl6 := m1 _ _ hl6
      generalize upd H21 pg (.lst [V.ref qg0]) = H22 at B22 d6 T6 hl6 ⊢
      clear m1 hp B20 gg0
      refine ⟨by show 2 ≤ sizeLine; decide, fun qh0 hq => ?_⟩
      have m1 := same_new (o := HO.tup [V.bl true, V.int 1]) hq
      replace B22 := B22.same m1
      replace d6 := d6.same m1
      replace T6 := Tabs.same T6 m1
      replace hl6 := m1 _ _ hl6
      have gh0 : (upd H22 qh0 (.tup [V.bl true, V.int 1])) qh0 = some (.tup [V.bl true, V.int 1]) := upd_same
      generalize upd H22 qh0 (.tup [V.bl true, V.int 1]) = H23 at B22 d6 T6 hl6 gh0 ⊢
      clear m1 hq
      refine ⟨by show 1 ≤ sizeLine; decide, fun ph hp => ?_⟩
      have B24 := AllBad.lst (xs := [V.ref qh0]) B22 hp (d6.fresh hp).1 (.inr (look1 (.inr ⟨rfl, .inl ⟨_, _, _, _, _, rfl, gh0, rfl, rfl, rfl⟩⟩)))
      have m1 := same_new (o := HO.lst [V.ref qh0]) hp
      replace d6 := d6.same m1
      replace T6 := Tabs.same T6 m1
      replace hl6 := m1 _ _ hl6
      generalize upd H23 ph (.lst [V.ref qh0]) = H24 at B24 d6 T6 hl6 ⊢
      clear m1 hp B22 gh0
      refine ⟨by show 3 ≤ sizeLine; decide, fun qj0 hq => ?_⟩
      have m1 := same_new (o := HO.tup [V.int 1, V.int 1, V.int 1]) hq
      replace B24 := B24.same m1
      replace d6 := d6.same m1
      replace T6 := Tabs.same T6 m1
      replace hl6 := m1 _ _ hl6
      have gj0 : (upd H24 qj0 (.tup [V.int 1, V.int 1, V.int 1])) qj0 = some (.tup [V.int 1, V.int 1, V.int 1]) := upd_same
      generalize upd H24 qj0 (.tup [V.int 1, V.int 1, V.int 1]) = H25 at B24 d6 T6 hl6 gj0 ⊢
      clear m1 hq
      refine ⟨by show 1 ≤ sizeLine; decide, fun pj hp => ?_⟩
      have B26 := AllBad.lst (xs := [V.ref qj0]) B24 hp (d6.fresh hp).1 (.inr (look1 (.inr ⟨rfl, .inr (.inl ⟨_, _, rfl, gj0, by decide⟩)⟩)))
      have m1 := same_new (o := HO.lst [V.ref qj0]) hp
      replace d6 := d6.same m1
      replace T6 := Tabs.same T6 m1
      replace hl6 := m1 _ _ hl6
      generalize upd H25 pj (.lst [V.ref qj0]) = H26 at B26 d6 T6 hl6 ⊢
      clear m1 hp B24 gj0
      refine ⟨by show 1 ≤ sizeLine; decide, fun pk hp => ?_⟩
      have B27 := AllBad.lst (xs := [V.str "11"]) B26 hp (d6.fresh hp).1 (.inr (look1 (.inr ⟨rfl, .inr (.inr (.inr ⟨_, rfl⟩))⟩)))
      have m1 := same_new (o := HO.lst [V.str "11"]) hp
      replace d6 := d6.same m1
      replace T6 := Tabs.same T6 m1
      replace hl6 := m1 _ _ hl6
      generalize upd H26 pk (.lst [V.str "11"]) = H27 at B27 d6 T6 hl6 ⊢
      clear m1 hp B26 
      refine ⟨_, rfl, _, rfl, by show 2 ≤ sizeLine; decide, fun ql0 hq => ?_⟩
      have m1 := same_new (o := HO.tup [V.int (-1), V.int (-1)]) hq
      replace B27 := B27.same m1
      replace d6 := d6.same m1
      replace T6 := Tabs.same T6 m1
      replace hl6 := m1 _ _ hl6
      have gl0 : (upd H27 ql0 (.tup [V.int (-1), V.int (-1)])) ql0 = some (.tup [V.int (-1), V.int (-1)]) := upd_same
      generalize upd H27 ql0 (.tup [V.int (-1), V.int (-1)]) = H28 at B27 d6 T6 hl6 gl0 ⊢
      clear m1 hq
      refine ⟨by show 1 ≤ sizeLine; decide, fun pl hp => ?_⟩
      have B29 := AllBad.lst (xs := [V.ref ql0]) B27 hp (d6.fresh hp).1 (.inr (look1 (.inl ⟨_, _, _, rfl, gl0, by decide⟩)))
      have m1 := same_new (o := HO.lst [V.ref ql0]) hp
      replace d6 := d6.same m1
      replace T6 := Tabs.same T6 m1
      replace hl6 := m1 _ _ hl6
      generalize upd H28 pl (.lst [V.ref ql0]) = H29 at B29 d6 T6 hl6 ⊢
      clear m1 hp B27 gl0
      refine ⟨by show 14 ≤ sizeLine; decide, fun L hL => ?_⟩
      have fL := d6.fresh hL
      have nL := same_new (o := HO.lst [V.non, .int 5, .str "1", .ref p1, .ref p2, .ref pc, .ref pd, .ref pe, .ref pf, .ref pg, .ref ph, .ref pj, .ref pk, .ref pl]) hL
      refine ⟨a, c, L, _, _, rfl, d6.same nL, by omega, upd_same, fL.1, by show 0 < 14; decide, by show 14 ≤ 1000; decide, fun H30 x j o30 d30 hx => ?_⟩
      have B30 := B29.same nL
      have bx := (B30 x (List.mem_of_getElem? hx)).keep (Kp.off o30) (fun b xs h => (d6.same nL).stab o30 _ _ h trivial)
      have T30 := Tabs.off (Tabs.same T6 nL) (d6.same nL) o30
      have hl30 := o30 _ _ hla (nL _ _ hl6)
      clear B30 hx o30 fL nL hL B29 d6 T6 hl6
      refine ⟨T30, fun H31 e31 T31 => ?_⟩
      have bx31 := bx.keep (Kp.ext e31) (fun b xs h => e31 _ _ h fun _ z => by cases z)
      have d31 := d30.extN e31
      have hl31 := extN_lst e31 hl30
      refine ⟨_, rfl, x, rfl, .inr (.inr ⟨bx31.bad, fun d H32 e32 hd32 => ⟨d, rfl, .inl ⟨rfl, _, hd32, fun H33 t e33 ht => ?_⟩⟩⟩)⟩
      refine ⟨by show 2 ≤ sizeLine; decide, fun u hu => ?_⟩
      have n8 := same_new (o := HO.tup [.str "value", .str "shares"]) hu
      have E8 := (e32.trans e33).trans n8
      refine ⟨.tuple [.str "value", .str "shares"], .tuple [.str "value", .str "shares"], ?_, ?_, by decide +kernel, by decide +kernel, _, rfl, ?_⟩
      · exact .tup (SqT.of (n8 _ _ ht)) (.cons (.str _) (.cons (.str _) .nil))
      · exact .tup (SqT.of upd_same) (.cons (.str _) (.cons (.str _) .nil))
      rw [eqv_self (show SeqAt.shaped (.tuple [.str "value", .str "shares"]) = true by decide +kernel)]
      refine iteF ?_
      have d34 := d31.same E8
      have T34 := Tabs.same T31 E8
      have hl34 := E8 _ _ hl31
      generalize upd H33 u (.tup [.str "value", .str "shares"]) = H34 at d34 T34 hl34 ⊢
      clear n8 E8 hu ht e33 hd32 e32 bx31 d31 hl31 T31 e31 bx T30 hl30 d30
      have cut5 : cutV (ns.map V.int) none (some 5) = (ns.take 5).map V.int := by
        unfold cutV
        rw [HT.sIx_none, List.drop_zero, Nat.sub_zero, ← List.map_take]
        show ((ns.take (min (5 : Int).toNat (ns.map V.int).length)).map V.int) = _
        rw [List.length_map]
        congr 1
        show ns.take (min 5 ns.length) = _
        rw [List.take_eq_take_iff]
        omega
      have npos : ∀ x ∈ ns, 0 < x := fun x hx => by have := dr90 x hx; omega
      have Wle := sum_le (b := 90) fun x hx => (dr90 x hx).2
      have nne : ns ≠ [] := fun z => by rw [z] at hlen; simp at hlen
      have Wpos := sum_pos nne npos
      have tsum : (ns.take 5).sum ≤ ns.sum := by
        have e : ns.sum = (ns.take 5).sum + (ns.drop 5).sum := by
          rw [← List.sum_append, List.take_append_drop]
        have : 0 ≤ (ns.drop 5).sum := by
          have key : ∀ l : List Int, (∀ x ∈ l, 0 < x) → 0 ≤ l.sum := fun l h => by
            by_cases z : l = []
            · rw [z]
              exact Int.le_refl _
            · exact Int.le_of_lt (sum_pos z h)
          exact key _ fun x hx => npos x (List.mem_of_mem_drop hx)
        omega
      have t0 : 0 ≤ (ns.take 5).sum := by
        have key : ∀ l : List Int, (∀ x ∈ l, 0 < x) → 0 ≤ l.sum := fun l h => by
          by_cases z : l = []
          · rw [z]
            exact Int.le_refl _
          · exact Int.le_of_lt (sum_pos z h)
        exact key _ fun x hx => npos x (List.mem_of_mem_take hx)
      refine ⟨_, rfl, _, rfl, _, rfl, l, _, rfl, SqL.of hl34, fun s1 hs1 => ?_⟩
      have n1 := same_new (o := HO.lst (cutV (ns.map V.int) none (some 5))) hs1
      refine ⟨_, rfl, _, _, rfl, rfl, _, rfl, _, rfl, l, _, rfl, SqL.of (n1 _ _ hl34), fun s2 hs2 => ?_⟩
      have n2 := n1.trans (same_new (o := HO.lst (cutV (ns.map V.int) none (some 5))) hs2)
      have hs1' := (same_new (o := HO.lst (cutV (ns.map V.int) none (some 5))) hs2) _ _ (upd_same (H := H34) (a := s1) (o := HO.lst (cutV (ns.map V.int) none (some 5))))
      refine ⟨s2, ns.take 5, rfl, SqL.of (by rw [upd_same, cut5]), _, _, rfl, rfl, by show 1 ≤ sizeLine; decide, fun s3 hs3 => ?_⟩
      have n3 := n2.trans (same_new (o := HO.lst [V.int (1 + ns.sum - (ns.take 5).sum)]) hs3)
      refine ⟨s1, s3, _, _, rfl, rfl, (same_new hs3) _ _ hs1', upd_same, ?_, fun s4 hs4 => ?_⟩
      · have := cutV_length (ns.map V.int) none (some 5)
        rw [List.length_map] at this
        rw [sizeLine_eq]
        show (cutV (ns.map V.int) none (some 5)).length + 1 ≤ _
        omega
      have hM : cutV (ns.map V.int) none (some 5) ++ [V.int (1 + ns.sum - (ns.take 5).sum)] = (ns.take 5 ++ [1 + ns.sum - (ns.take 5).sum]).map V.int := by
        rw [cut5, List.map_append]
        rfl
      have n4 := n3.trans (same_new (o := HO.lst (cutV (ns.map V.int) none (some 5) ++ [V.int (1 + ns.sum - (ns.take 5).sum)])) hs4)
      have hs4a := ((d34.same n3).fresh hs4).1
      have hM5 : (ns.take 5 ++ [1 + ns.sum - (ns.take 5).sum]).length ≤ 6 := by
        rw [List.length_append, List.length_take]
        show min 5 ns.length + 1 ≤ 6
        omega
      have hMs : (ns.take 5 ++ [1 + ns.sum - (ns.take 5).sum]).sum = ns.sum + 1 := by
        rw [List.sum_append]
        simp
        omega
      have hMp : ∀ n ∈ ns.take 5 ++ [1 + ns.sum - (ns.take 5).sum], 0 < n ∧ n ≤ 1000 := fun n hn => by
        rcases List.mem_append.mp hn with hn | hn
        · have := dr90 n (List.mem_of_mem_take hn)
          omega
        · rw [List.mem_singleton.mp hn]
          have : (ns.length : Int) ≤ 6 := by omega
          omega
      have hMl : 1 ≤ (ns.take 5 ++ [1 + ns.sum - (ns.take 5).sum]).length := by
        rw [List.length_append]
        exact Nat.le_add_left _ _
      refine ⟨_, rfl, a, c, s4, _, ns.take 5 ++ [1 + ns.sum - (ns.take 5).sum], ns.sum, rfl, d34.same n4, by omega, by rw [upd_same, hM], hs4a, by omega, hMp, Wpos, by omega, fun H35 f xs o35 d35 hf hfa hxl hsh => ?_⟩
      have T35 := Tabs.off (Tabs.same T34 n4) (d34.same n4) o35
      generalize ns.take 5 ++ [1 + ns.sum - (ns.take 5).sum] = M at *
      refine ⟨T35, fun H36 e36 T36 => ?_⟩
      have sh : ShL H35 xs ns.sum M := ⟨hxl, by omega, by omega, Wpos, by omega, fun m hm => by have := hMp m hm; omega, fun i x h => (hsh i x h).sh⟩
      refine ⟨_, rfl, .ref f, rfl, .inr (.inl ⟨f, xs, ns.sum, M, rfl, extN_lst e36 hf, sh.extN e36, by omega, fun d H37 e37 hd37 => ⟨d, rfl, .inr (.inl ⟨rfl, _, hd37, fun H38 t e38 ht => ?_⟩)⟩⟩)⟩
      refine ⟨by show 2 ≤ sizeLine; decide, fun u hu => ?_⟩
      have n8 := same_new (o := HO.tup [.str "misfit", .str "shares"]) hu
      have E8 := (e37.trans e38).trans n8
      refine ⟨.tuple [.str "misfit", .str "shares"], .tuple [.str "misfit", .str "shares"], ?_, ?_, by decide +kernel, by decide +kernel, _, rfl, ?_⟩
      · exact .tup (SqT.of (n8 _ _ ht)) (.cons (.str _) (.cons (.str _) .nil))
      · exact .tup (SqT.of upd_same) (.cons (.str _) (.cons (.str _) .nil))
      rw [eqv_self (show SeqAt.shaped (.tuple [.str "misfit", .str "shares"]) = true by decide +kernel)]
      exact iteF ⟨_, _, _, _, _, rfl, ((d35.extN e36).same E8).mono (by omega), Tabs.same T36 E8⟩
    · rintro σ H2 ⟨x2, x3, x4, x5, x6, rfl, d2, T2⟩
      refine ⟨T2, fun H3 e3 T3 => ?_⟩
      refine ⟨by show 2 ≤ sizeLine; decide, fun q1 hq1 => ⟨by show 2 ≤ sizeLine; decide, fun q2 hq2 => ⟨by show 2 ≤ sizeLine; decide, fun p hp => ?_⟩⟩⟩
      have m2 := same_new (o := HO.tup [V.int 399, .int 400]) hq2
      have m3 := same_new (o := HO.lst [V.ref q1, .ref q2]) hp
      have g1 := m3 _ _ (m2 _ _ (upd_same (H := H3) (a := q1) (o := HO.tup [V.int 1, .int 400])))
      have g2 := m3 _ _ (upd_same (H := upd H3 q1 (.tup [V.int 1, .int 400])) (a := q2) (o := HO.tup [V.int 399, .int 400]))
      have TT := Tabs.same T3 ((same_new (o := HO.tup [V.int 1, .int 400]) hq1).trans (m2.trans m3))
      refine ⟨.ref p, rfl, .inl ⟨400, [1, 399], ⟨⟨p, _, rfl, .inl upd_same, rfl, by show 1 ≤ 2; decide, by show 2 ≤ 6; decide, by decide, by decide, by decide, fun j x hx => ?_⟩, by decide, by decide, by decide +kernel⟩, .inl ⟨by decide, fun H4 u e4 _ => ?_⟩⟩⟩
      · match j, hx with
        | 0, hx => exact Option.some.inj hx ▸ ⟨1, 400, ⟨q1, rfl, .inl g1⟩, by decide, by decide, by decide, rfl⟩
        | 1, hx => exact Option.some.inj hx ▸ ⟨399, 400, ⟨q2, rfl, .inl g2⟩, by decide, by decide, by decide, rfl⟩
        | j + 2, hx => simp at hx
      have TT4 := Tabs.same TT e4
      refine ⟨rfl, _, rfl, ?_⟩
      rw [decide_eq_true (rfl : V.non = V.non)]
      refine iteT ⟨TT4, fun H5 e5 T5 => ?_⟩
      refine ⟨by show 2 ≤ sizeLine; decide, fun q3 hq3 => ⟨by show 2 ≤ sizeLine; decide, fun q4 hq4 => ⟨by show 2 ≤ sizeLine; decide, fun p5 hp5 => ?_⟩⟩⟩
      have k2 := same_new (o := HO.tup [V.int 400, .int 401]) hq4
      have k3 := same_new (o := HO.lst [V.ref q3, .ref q4]) hp5
      have g3 := k3 _ _ (k2 _ _ (upd_same (H := H5) (a := q3) (o := HO.tup [V.int 1, .int 401])))
      have g4 := k3 _ _ (upd_same (H := upd H5 q3 (.tup [V.int 1, .int 401])) (a := q4) (o := HO.tup [V.int 400, .int 401]))
      refine ⟨.ref p5, rfl, .inl ⟨401, [1, 400], ⟨⟨p5, _, rfl, .inl upd_same, rfl, by show 1 ≤ 2; decide, by show 2 ≤ 6; decide, by decide, by decide, by decide, fun j x hx => ?_⟩, by decide, by decide, by decide +kernel⟩, .inr ⟨by decide, fun d H6 e6 hd6 => ⟨d, rfl, .inr (.inr ⟨rfl, _, _, hd6, fun H7 t e7 ht => ?_⟩)⟩⟩⟩⟩
      · match j, hx with
        | 0, hx => exact Option.some.inj hx ▸ ⟨1, 401, ⟨q3, rfl, .inl g3⟩, by decide, by decide, by decide, rfl⟩
        | 1, hx => exact Option.some.inj hx ▸ ⟨400, 401, ⟨q4, rfl, .inl g4⟩, by decide, by decide, by decide, rfl⟩
        | j + 2, hx => simp at hx
      refine ⟨by show 3 ≤ sizeLine; decide, fun u hu => ?_⟩
      have n8 := same_new (o := HO.tup [.str "many", .str "positions", .int 400]) hu
      refine ⟨.tuple [.str "many", .str "positions", .int 400], .tuple [.str "many", .str "positions", .int 400], ?_, ?_, by decide +kernel, by decide +kernel, ?_⟩
      · exact .tup (SqT.of (n8 _ _ ht)) (.cons (.str _) (.cons (.str _) (.cons (.int _) .nil)))
      · exact .tup (SqT.of upd_same) (.cons (.str _) (.cons (.str _) (.cons (.int _) .nil)))
      rw [eqv_self (show SeqAt.shaped (.tuple [.str "many", .str "positions", .int 400]) = true by decide +kernel)]
      exact q _
end
end K91
end
section
set_option Elab.async false
set_option linter.all false
set_option maxRecDepth 100000
set_option maxHeartbeats 2000000
/-! the end of a law row whose def is promised in the form FnG (with tables of code objects) -/
namespace K91
open PySem PySem.Spec PyProof.Rows L2 KB LamX
/-- what is tracked when the law is entered: the tables, and the script if K does not tell it -/
def startH (tabs : List Addr) (own : Bool) (a : Addr) (vs : List Value) (ns : List Int) : Hp := fun b =>
  if b ∈ tabs then some (.tbl #[]) else if own = true ∧ b = a then some (.frz { cls := .type "list", data := .seq vs.toArray } (.lst (ns.map V.int))) else none
theorem startH_cases {tabs : List Addr} {own : Bool} {a b : Addr} {vs : List Value} {ns : List Int} {u : HO} (h : startH tabs own a vs ns b = some u) : (b ∈ tabs ∧ u = .tbl #[]) ∨ (own = true ∧ b = a ∧ b ∉ tabs ∧ u = .frz { cls := .type "list", data := .seq vs.toArray } (.lst (ns.map V.int))) := by
  unfold startH at h
  by_cases h1 : b ∈ tabs
  · rw [if_pos h1] at h
    exact .inl ⟨h1, (Option.some.inj h).symm⟩
  · rw [if_neg h1] at h
    by_cases h2 : own = true ∧ b = a
    · rw [if_pos h2] at h
      exact .inr ⟨h2.1, h2.2, h1, (Option.some.inj h).symm⟩
    · rw [if_neg h2] at h
      cases h
theorem law_callG {P : Program} {w : World} {K : PySem.W.Frag} {mg mb : Str → Option Value} {k : Nat} {fa a : Addr} {cs : List (Addr × Addr)} {fd : FuncData} {x : Str} {sp : Sp} {s₁ : Shared} {vs : List Value} {ns : List Int}
    (KX : K.In s₁.heap) (hns : s₁.heap.Ns mainGlobals mg) (hb : s₁.heap.Ns builtinsNs mb) (hbb : ∀ x : Str, x ≠ "__name__" → mb x = bootBuiltins x) (hlim : s₁.heap.NoLimit) (hg : s₁.gens = #[])
    (hT : ∀ p ∈ cs, s₁.heap.get? p.2 = some { cls := .none, data := .fields #[] }) (nT : ∀ p ∈ cs, K.lookup p.2 = none) (C : ∀ p ∈ cs, PySem.W.CodeHd s₁.heap p.1 p.2)
    (hbm : ∃ (bm : Addr) (ob : Obj), mg "__builtins__" = some (.ref bm) ∧ bm ≠ builtinsNs ∧ s₁.heap.get? bm = some ob ∧ ob.cls = .type "module" ∧ ob.dict = some builtinsNs ∧ ob.data = .plain)
    (ha : s₁.heap.get? a = some { cls := .type "list", data := .seq vs.toArray }) (hi : IntsAre vs ns) (hl : ns.length ≤ sizeLine) (hr : Room k callerA)
    (F : ∀ base : Heap, K.In base → base.Ns mainGlobals mg → (∀ p ∈ cs, TabB base mg p.1 p.2) → FnG P w K mg base k fa fd [x] sp) (hbind : ∀ (s : Shared) (u : Value), BindsTo s fd ⟨[u], []⟩ [(x, u)])
    (hsp : ∀ H : Hp, (∀ p ∈ cs, H p.2 = some (.tbl #[])) → SqL K H a (ns.map V.int) → sp [.ref a] H (fun v _ => v = .bl true) E0) :
    codeAny (model P w) callerA (.call (.ref fa) ⟨[.ref a], []⟩) (fun r s' => r = .ok (.ret (.bool true)) ∧ OldK s₁.heap s'.heap ∧ s'.os = s₁.os ∧ AllBare s'.gens) s₁ := by
  obtain ⟨tabs, etabs⟩ : ∃ t, t = cs.map (·.2) := ⟨_, rfl⟩
  have tab_get : ∀ b, b ∈ tabs → s₁.heap.get? b = some { cls := .none, data := .fields #[] } := fun b m => by
    rw [etabs] at m
    obtain ⟨p, hp, rfl⟩ := List.mem_map.mp m
    exact hT p hp
  have tab_mem : ∀ p ∈ cs, p.2 ∈ tabs := fun p hp => etabs ▸ List.mem_map.mpr ⟨p, hp, rfl⟩
  have a_out : a ∉ tabs := fun m => by
    have := (tab_get a m).symm.trans ha
    cases this
  obtain ⟨own, eown⟩ : ∃ o : Bool, o = (K.lookup a).isNone := ⟨_, rfl⟩
  obtain ⟨H, eH⟩ : ∃ H, H = startH tabs own a vs ns := ⟨_, rfl⟩
  have Hc : ∀ {b u}, H b = some u → (b ∈ tabs ∧ u = .tbl #[]) ∨ (own = true ∧ b = a ∧ b ∉ tabs ∧ u = .frz { cls := .type "list", data := .seq vs.toArray } (.lst (ns.map V.int))) := fun {b u} h => startH_cases (eH ▸ h)
  have HT : ∀ p ∈ cs, H p.2 = some (.tbl #[]) := fun p hp => by
    rw [eH]
    exact if_pos (tab_mem p hp)
  have rvs := vals_ints hi
  have nlen : ns.length = vs.length := hi.length.symm
  -- what is neither a list nor an empty table is not tracked
  have free : ∀ {b o}, s₁.heap.get? b = some o → (∀ us n, o.data ≠ .seq us n) → o.data ≠ .fields #[] → H b = none := fun {b o} e n1 n2 => by
    cases q : H b with
    | none => rfl
    | some u =>
      rcases Hc q with ⟨m, _⟩ | ⟨_, rfl, _, _⟩
      · rw [tab_get b m] at e
        cases e
        exact absurd rfl n2
      · rw [ha] at e
        cases e
        exact absurd rfl (n1 _ _)
  have dictFree : ∀ {b o es ep}, s₁.heap.get? b = some o → o.data = .dict es ep → H b = none := fun {b o es ep} e d => free e (fun us n z => by rw [d] at z; cases z) fun z => by rw [d] at z; cases z
  have stay : ∀ {b m}, s₁.heap.Ns b m → (hidT s₁.heap H).Ns b m := fun {b m} ⟨o, es, ep, e, d, r⟩ => ⟨o, es, ep, hidT_get e (dictFree e d), d, r⟩
  have KB' : K.In (hidT s₁.heap H) := fun b o e => hidT_get (KX b o e) (by
    cases q : H b with
    | none => rfl
    | some u =>
      rcases Hc q with ⟨m, _⟩ | ⟨ow, rfl, _, _⟩
      · rw [etabs] at m
        obtain ⟨p, hp, rfl⟩ := List.mem_map.mp m
        rw [nT p hp] at e
        cases e
      · rw [eown, e] at ow
        cases ow)
  have TBs : ∀ p ∈ cs, TabB (hidT s₁.heap H) mg p.1 p.2 := fun p hp => by
    have gP := hT p hp
    obtain ⟨og, eg, pg, hgo, hgd, _⟩ := id hns
    have gne : mainGlobals ≠ p.2 := fun z => by
      rw [z, gP] at hgo
      cases hgo
      cases hgd
    refine ⟨?_, ?_, gne⟩
    · obtain ⟨o, us, file, tf, flags, tg, inF, text, tt, g1, g2, g3, g4, r⟩ := C p hp
      exact ⟨o, us, file, tf, flags, tg, inF, text, tt, hidT_get g1 (free g1 (fun u n z => by rw [g3] at z; cases z) fun z => by
        rw [g3] at z
        cases z
        simp at g4), g2, g3, g4, r⟩
    · obtain ⟨bm, ob, b1, b2, b3, b4, b5, b6⟩ := hbm
      refine ⟨bm, ob, b1, b2, fun z => ?_, fun z => ?_, hidT_get b3 (free b3 (fun u n z => by rw [b6] at z; cases z) fun z => by rw [b6] at z; cases z), b4, b5, b6⟩
      · rw [z, hgo] at b3
        cases b3
        rw [hgd] at b6
        cases b6
      · rw [z, gP] at b3
        cases b3
        cases b6
  have HO : HOk P w H s₁.heap := fun b u q => by
    rcases Hc q with ⟨m, rfl⟩ | ⟨_, rfl, _, rfl⟩
    · exact tab_get b m
    · exact ⟨ha, by rw [List.length_map]; exact hl, vs, _, rvs, ha⟩
  have md : L2.Mod K mg (hidT s₁.heap H) := ⟨KB', stay hns, ⟨mb, stay hb, hbb⟩, let ⟨mc, q1, q2⟩ := hlim; ⟨mc, stay q1, q2⟩⟩
  have en : Env0 P w K mg (hidT s₁.heap H) callerA [] s₁ H := ⟨rfl, md, fun b o e => of_hidT e, Nat.le_of_eq (hidT_size _ _), trivial, (fun b m => absurd (show b ∈ ([] : List Addr) from m) (by simp)), HO, .of_eq hg⟩
  have SQ : SqL K H a (ns.map V.int) := by
    cases q : K.lookup a with
    | none =>
      have ow : own = true := by rw [eown, q]; rfl
      refine .inl (.inr ⟨{ cls := .type "list", data := .seq vs.toArray }, ?_⟩)
      rw [eH]
      unfold startH
      rw [if_neg a_out, if_pos ⟨ow, rfl⟩]
    | some o =>
      have g := KX a o q
      rw [ha] at g
      cases g
      exact .inr ⟨_, vs.toArray, _, q, rfl, rfl, rfl, by rw [List.size_toArray, ← nlen]; exact hl, rvs⟩
  refine codeAny_mono ((F _ KB' (stay hns) TBs).run callerA [] s₁ H ⟨[.ref a], []⟩ [.ref a] [.ref a] (fun v _ => v = .bl true) hr rfl en (hbind s₁ (.ref a)) (.cons rfl .nil) (hsp H HT SQ)) fun r s' z => ?_
  cases r with
  | error e => exact (show False from z).elim
  | ok fl =>
    cases fl with
    | next => exact z.elim
    | brk => exact z.elim
    | cont => exact z.elim
    | ret u =>
      obtain ⟨v, H', os, bare, un, hok', rv, ev⟩ := z
      obtain rfl : v = .bl true := ev
      obtain rfl : u = Value.bool true := rv
      have kept : ∀ b o, b ∉ tabs → s₁.heap.get? b = some o → s'.heap.get? b = some o := fun b o nb e => by
        cases q : H b with
        | none => exact un.keep b o e q (fun m => nomatch (show b ∈ ([] : List Addr) from m)) (fun m => nomatch (show b ∈ ([] : List Addr) from m))
        | some u =>
          rcases Hc q with ⟨m, _⟩ | ⟨_, rfl, _, rfl⟩
          · exact absurd m nb
          · have g := (hok' b _ (un.frzs b _ _ q)).1
            rw [ha] at e
            cases e
            exact g
      have more : ∀ p ∈ cs, ∃ ps : Array Value, s'.heap.get? p.2 = some { cls := .none, data := .fields ps } := fun p hp => by
        obtain ⟨ps, q⟩ := un.tbls p.2 #[] (HT p hp)
        exact ⟨_, hok' p.2 _ q⟩
      refine ⟨rfl, ⟨fun b o e => ?_, fun b o e => ?_⟩, os, bare⟩
      · by_cases m : b ∈ tabs
        · rw [etabs] at m
          obtain ⟨p, hp, rfl⟩ := List.mem_map.mp m
          obtain ⟨ps, g⟩ := more p hp
          rw [hT p hp] at e
          cases e
          exact .inr (.inl ⟨((C p hp).tab (hT p hp)).isCodeTable, rfl, #[], ps, rfl, by rw [Array.empty_append]; exact g⟩)
        · exact .inl (kept b o m e)
      · by_cases m : b ∈ tabs
        · rw [etabs] at m
          obtain ⟨p, hp, rfl⟩ := List.mem_map.mp m
          obtain ⟨ps, g⟩ := more p hp
          exact ⟨_, g⟩
        · exact ⟨o, kept b o m e⟩
/-- what is known of the law's promise at the head's heap -/
def LawAtG (l : PySem.W.OpenLaw) (w : World) (K : PySem.W.Frag) (k : Nat) (x : Str) (mg : Str → Option Value) (fa : Addr) (h : Heap) : Prop :=
  ∃ (fd : FuncData) (cs : List (Addr × Addr)) (sp : Sp), (∀ p ∈ cs, h.get? p.2 = some { cls := .none, data := .fields #[] }) ∧ (∀ p ∈ cs, K.lookup p.2 = none) ∧ (∀ p ∈ cs, PySem.W.CodeHd h p.1 p.2) ∧ (∀ (s : Shared) (u : Value), BindsTo s fd ⟨[u], []⟩ [(x, u)]) ∧
    (∀ (H : Hp) (a : Addr) (ns : List Int), (∀ p ∈ cs, H p.2 = some (.tbl #[])) → SqL K H a (ns.map V.int) → sp [.ref a] H (fun v _ => v = .bl true) E0) ∧
    ∀ base : Heap, K.In base → base.Ns mainGlobals mg → (∀ p ∈ cs, TabB base mg p.1 p.2) → FnG l.prog w K mg base k fa fd [x] sp
theorem walk_G {l : PySem.W.OpenLaw} {n k : Nat} {q : Program} {loose : List Str} {XP : (Str → Option Value) → Heap → Prop} {YP : World → Heap → Prop} {d : DefRec} {K : Params → PySem.W.Frag} {x : Str}
    (hn : l.most = some n) (hn2 : n ≤ sizeLine) (hdf : d.params.defaults = []) (hr : Room k callerA) (hY : ∀ (w : World) (h : Heap), YP w h → (K w.params).In h)
    (F : ∀ (w : World) (mg mb : Str → Option Value) (mean : ExcName → Option Value) (fa : Addr) (h : Heap), (K w.params).In h → Top q (PySem.W.looseW q loose) mean mg mb h → mg d.name = some (.ref fa) → LawAtG l w (K w.params) k x mg fa h) :
    PySem.W.WalkO q loose XP YP l.row.toRowW d [] (fun f vs => PySem.call f vs) :=
  Att.attach_callB hn hdf fun w s₀ s₁ mg mb fa o pm cd doc a vs ns G Y ho hd hcd hmg hobj hints hlen hbits hg => by
    obtain ⟨fd, cs, sp, hT, nT, C, hb, hsp, hF⟩ := F w mg mb _ fa _ (hY w _ Y) G.T hmg
    exact law_callG (hY w _ Y) G.T.g G.T.b G.T.builtins G.T.nolimit hg hT nT C G.T.bmain hobj hints (Nat.le_trans hlen hn2) hr hF hb fun H hH hS => hsp H a ns hH hS
end K91
end
section
set_option Elab.async false
set_option linter.all false
set_option maxRecDepth 100000
set_option maxHeartbeats 4000000
namespace K91
open PySem PySem.Spec PyProof.Rows L2 KB LamX
theorem walk_GY {l : PySem.W.OpenLaw} {n k : Nat} {q : Program} {loose : List Str} {XP : (Str → Option Value) → Heap → Prop} {YP : World → Heap → Prop} {d : DefRec} {K : Params → PySem.W.Frag} {x : Str}
    (hn : l.most = some n) (hn2 : n ≤ sizeLine) (hdf : d.params.defaults = []) (hr : Room k callerA) (hY : ∀ (w : World) (h : Heap), YP w h → (K w.params).In h)
    (F : ∀ (w : World) (mg mb : Str → Option Value) (mean : ExcName → Option Value) (fa : Addr) (h : Heap), (K w.params).In h → YP w h → Top q (PySem.W.looseW q loose) mean mg mb h → mg d.name = some (.ref fa) → LawAtG l w (K w.params) k x mg fa h) :
    PySem.W.WalkO q loose XP YP l.row.toRowW d [] (fun f vs => PySem.call f vs) :=
  Att.attach_callB hn hdf fun w s₀ s₁ mg mb fa o pm cd doc a vs ns G Y ho hd hcd hmg hobj hints hlen hbits hg => by
    obtain ⟨fd, cs, sp, hT, nT, C, hb, hsp, hF⟩ := F w mg mb _ fa _ (hY w _ Y) Y G.T hmg
    exact law_callG (hY w _ Y) G.T.g G.T.b G.T.builtins G.T.nolimit hg hT nT C G.T.bmain hobj hints (Nat.le_trans hlen hn2) hr hF hb fun H hH hS => hsp H a ns hH hS
theorem funA_mk {K : PySem.W.Frag} {x qual : Str} {st : Stmt} {f : Addr} {oc : Value} {od : Option Addr} {dV kV doc pm : Value} {an : Option Addr} {cdv ct : Value} {osl : Array (Option Value)}
    (l : K.lookup f = some ⟨oc, od, .func (PySem.W.fnOf x qual (defArgs st) (defBody st) (defScope st) dV kV doc pm an cdv ct), osl⟩) (c : PySem.W.codeIn K cdv qual = true) (k : PySem.W.keepIn K (.ref f) = true) :
    FunA K x qual st f (PySem.W.fnOf x qual (defArgs st) (defBody st) (defScope st) dV kV doc pm an cdv ct) := ⟨⟨oc, od, dV, kV, doc, pm, an, cdv, ct, osl, rfl, l, c⟩, k⟩
theorem oexC_mk {K : PySem.W.Frag} {C : Addr} {nm q : Str} {N : Addr} {bs bm : List Value} {sn : List Str} {sub : List Value} {ab : Bool} {col : Option Bool} {dd : Option Addr} {m0 m1 m2 m3 m5 : Option Value}
    (l : K.lookup C = some (excClassObj nm q C N bs bm true sn sub ab col dd m0 m1 m2 m3 m5 "ValueError.__new__")) (r : PySem.HandSPX.refsVE bm = true)
    (a : PySem.W.findIn K (.ref C) "__setattr__" = some (some (.builtin "object.__setattr__"))) (b : PySem.W.subIn K (.ref C) (.type "BaseException") = some true) (c : PySem.W.typeIn K (.ref C) = some (.type "type")) (d : PySem.W.keepIn K (.ref C) = true) : OexC K C :=
  ⟨⟨nm, q, N, bs, bm, sn, sub, ab, col, dd, m0, m1, m2, m3, m5, l, r⟩, a, b, c, d⟩
theorem exm_of {K : PySem.W.Frag} {E S : Addr} {b : Bool} (h1 : PySem.W.subIn K (.ref S) (.type "BaseException") = some true) (h2 : PySem.W.isClsIn K S = true) (h3 : PySem.W.typeIn K (.ref S) = some (.type "type")) (h4 : PySem.W.subIn K (.ref E) (.ref S) = some b) :
    PySem.W.exmOne K (.ref E) (.ref S) = some b := by
  have e1 : (PySem.W.subIn K (.ref S) (.type "BaseException") == some true) = true := by rw [h1] <;> rfl
  have e2 : ((PySem.W.clsIn K S).isSome && PySem.W.typeIn K (.ref S) == some (.type "type")) = true := by
    have h2' : (PySem.W.clsIn K S).isSome = true := h2
    rw [h2', h3] <;> rfl
  show (if (PySem.W.subIn K (.ref S) (.type "BaseException") == some true) = true then (if ((PySem.W.clsIn K S).isSome && PySem.W.typeIn K (.ref S) == some (.type "type")) = true then PySem.W.subIn K (.ref E) (.ref S) else none) else none) = some b
  rw [if_pos e1, if_pos e2]
  exact h4
theorem end_ok {l : PySem.W.OpenLaw} {w : World} {K : PySem.W.Frag} {mg : Str → Option Value} {h : Heap} {fa : Addr} {A : Ad} {c0 P0 c1 P1 : Addr} (KX : K.In h) (T : Txt K mg A) (hmg : mg "law" = some (.ref fa))
    (hc0 : A.d_law_right.code = .ref c0) (hc1 : A.d_law.code = .ref c1) (hb : ∀ (s : Shared) (u : Value), BindsTo s A.d_law ⟨[u], []⟩ [("script", u)])
    (ht : h.get? P0 = some (PySem.W.tabObj #[]) ∧ h.get? P1 = some (PySem.W.tabObj #[]) ∧ PySem.W.codeHdIn K c0 P0 = true ∧ PySem.W.codeHdIn K c1 P1 = true ∧ K.lookup P0 = none ∧ K.lookup P1 = none ∧ P0 ≠ P1) : LawAtG l w K 18 "script" mg fa h := by
  obtain ⟨t0, t1, q0, q1, n0, n1, ne⟩ := ht
  have e := hmg.symm.trans T.g_law
  cases e
  have two : ∀ {p : Addr × Addr}, p ∈ [(c0, P0), (c1, P1)] → p = (c0, P0) ∨ p = (c1, P1) := fun {p} hp => by simpa using hp
  refine ⟨A.d_law, [(c0, P0), (c1, P1)], sp_law K [(P0, lamR), (P1, lamL)], fun p hp => ?_, fun p hp => ?_, fun p hp => ?_, hb, fun H a ns hH hS => ?_, fun base Kb Nb TB => ?_⟩
  · rcases two hp with rfl | rfl
    · exact t0
    · exact t1
  · rcases two hp with rfl | rfl
    · exact n0
    · exact n1
  · rcases two hp with rfl | rfl
    · exact PySem.W.codeHd_of_K KX q0
    · exact PySem.W.codeHd_of_K KX q1
  · refine ⟨a, ns, rfl, hS, fun p hp => ?_, fun H' => rfl⟩
    have h2 : p = (P0, lamR) ∨ p = (P1, lamL) := by simpa using hp
    rcases h2 with rfl | rfl
    · exact LamX.TabS.nil (hH (c0, P0) (by simp))
    · exact LamX.TabS.nil (hH (c1, P1) (by simp))
  · refine G_law T (TB (c0, P0) (by simp)) hc0 (by simp) (fun p hp e => ?_) (TB (c1, P1) (by simp)) hc1 (by simp) (fun p hp e => ?_)
    · have h2 : p = (P0, lamR) ∨ p = (P1, lamL) := by simpa using hp
      rcases h2 with rfl | rfl
      · rfl
      · exact absurd e.symm ne
    · have h2 : p = (P0, lamR) ∨ p = (P1, lamL) := by simpa using hp
      rcases h2 with rfl | rfl
      · exact absurd e ne
      · rfl
/-- where a def's code lies -/
def codeOf (d : FuncData) : Addr := match d.code with
  | .ref c => c
  | _ => 0
theorem end_okC {l : PySem.W.OpenLaw} {w : World} {K : PySem.W.Frag} {mg : Str → Option Value} {h : Heap} {fa : Addr} {A : Ad} (P0 P1 : Addr) (KX : K.In h) (T : Txt K mg A) (hmg : mg "law" = some (.ref fa))
    (hc0 : A.d_law_right.code = .ref (codeOf A.d_law_right)) (hc1 : A.d_law.code = .ref (codeOf A.d_law)) (hb : ∀ (s : Shared) (u : Value), BindsTo s A.d_law ⟨[u], []⟩ [("script", u)])
    (t0 : h.get? P0 = some (PySem.W.tabObj #[])) (t1 : h.get? P1 = some (PySem.W.tabObj #[])) (q0 : PySem.W.codeHdIn K (codeOf A.d_law_right) P0 = true) (q1 : PySem.W.codeHdIn K (codeOf A.d_law) P1 = true) (n0 : K.lookup P0 = none) (n1 : K.lookup P1 = none) (ne : P0 ≠ P1) : LawAtG l w K 18 "script" mg fa h :=
  end_ok KX T hmg hc0 hc1 hb ⟨t0, t1, q0, q1, n0, n1, ne⟩
/-! every def's parameters, and all facts together -/
theorem b_is_integer {K : PySem.W.Frag} {kV dc pm cd ct : Value} {an : Option Addr} : Binds K (PySem.W.fnOf "is_integer" "is_integer" (defArgs s_is_integer) (defBody s_is_integer) (defScope s_is_integer) .none kV dc pm an cd ct) ["value"] [] :=
  Binds.all fun us hl => match us, hl with | [_], _ => rfl
theorem b_need_integer {K : PySem.W.Frag} {kV dc pm cd ct : Value} {an : Option Addr} {D : Addr} {oc : Value} {od : Option Addr} {sl : Array (Option Value)} {n : Nat} (lD : K.lookup D = some ⟨oc, od, .seq #[.none] n, sl⟩) : Binds K (PySem.W.fnOf "need_integer" "need_integer" (defArgs s_need_integer) (defBody s_need_integer) (defScope s_need_integer) (.ref D) kV dc pm an cd ct) ["part", "value", "least", "most"] [] :=
  fun s us X hl => match us, hl with
    | [_, _, _, _], _ => PySem.W.binds_K X rfl lD rfl rfl rfl
theorem b_is_row {K : PySem.W.Frag} {kV dc pm cd ct : Value} {an : Option Addr} : Binds K (PySem.W.fnOf "is_row" "is_row" (defArgs s_is_row) (defBody s_is_row) (defScope s_is_row) .none kV dc pm an cd ct) ["value", "many"] [] :=
  Binds.all fun us hl => match us, hl with | [_, _], _ => rfl
theorem b_is_counts {K : PySem.W.Frag} {kV dc pm cd ct : Value} {an : Option Addr} : Binds K (PySem.W.fnOf "is_counts" "is_counts" (defArgs s_is_counts) (defBody s_is_counts) (defScope s_is_counts) .none kV dc pm an cd ct) ["value", "many"] [] :=
  Binds.all fun us hl => match us, hl with | [_, _], _ => rfl
theorem b_need_counts {K : PySem.W.Frag} {kV dc pm cd ct : Value} {an : Option Addr} : Binds K (PySem.W.fnOf "need_counts" "need_counts" (defArgs s_need_counts) (defBody s_need_counts) (defScope s_need_counts) .none kV dc pm an cd ct) ["part", "value", "many"] [] :=
  Binds.all fun us hl => match us, hl with | [_, _, _], _ => rfl
theorem b_is_fraction {K : PySem.W.Frag} {kV dc pm cd ct : Value} {an : Option Addr} : Binds K (PySem.W.fnOf "is_fraction" "is_fraction" (defArgs s_is_fraction) (defBody s_is_fraction) (defScope s_is_fraction) .none kV dc pm an cd ct) ["value"] [] :=
  Binds.all fun us hl => match us, hl with | [_], _ => rfl
theorem b_reduced {K : PySem.W.Frag} {kV dc pm cd ct : Value} {an : Option Addr} : Binds K (PySem.W.fnOf "reduced" "reduced" (defArgs s_reduced) (defBody s_reduced) (defScope s_reduced) .none kV dc pm an cd ct) ["p", "q"] [] :=
  Binds.all fun us hl => match us, hl with | [_, _], _ => rfl
theorem b_added {K : PySem.W.Frag} {kV dc pm cd ct : Value} {an : Option Addr} : Binds K (PySem.W.fnOf "added" "added" (defArgs s_added) (defBody s_added) (defScope s_added) .none kV dc pm an cd ct) ["one", "other"] [] :=
  Binds.all fun us hl => match us, hl with | [_, _], _ => rfl
theorem b_total {K : PySem.W.Frag} {kV dc pm cd ct : Value} {an : Option Addr} : Binds K (PySem.W.fnOf "total" "total" (defArgs s_total) (defBody s_total) (defScope s_total) .none kV dc pm an cd ct) ["fractions"] [] :=
  Binds.all fun us hl => match us, hl with | [_], _ => rfl
theorem b_common_of {K : PySem.W.Frag} {kV dc pm cd ct : Value} {an : Option Addr} : Binds K (PySem.W.fnOf "common_of" "common_of" (defArgs s_common_of) (defBody s_common_of) (defScope s_common_of) .none kV dc pm an cd ct) ["fractions"] [] :=
  Binds.all fun us hl => match us, hl with | [_], _ => rfl
theorem b_is_pass {K : PySem.W.Frag} {kV dc pm cd ct : Value} {an : Option Addr} : Binds K (PySem.W.fnOf "is_pass" "is_pass" (defArgs s_is_pass) (defBody s_is_pass) (defScope s_is_pass) .none kV dc pm an cd ct) ["value", "many", "outs"] [] :=
  Binds.all fun us hl => match us, hl with | [_, _, _], _ => rfl
theorem b_need_rows {K : PySem.W.Frag} {kV dc pm cd ct : Value} {an : Option Addr} : Binds K (PySem.W.fnOf "need_rows" "need_rows" (defArgs s_need_rows) (defBody s_need_rows) (defScope s_need_rows) .none kV dc pm an cd ct) ["rows", "doors", "outs"] [] :=
  Binds.all fun us hl => match us, hl with | [_, _, _], _ => rfl
theorem b_need_part {K : PySem.W.Frag} {kV dc pm cd ct : Value} {an : Option Addr} : Binds K (PySem.W.fnOf "need_part" "need_part" (defArgs s_need_part) (defBody s_need_part) (defScope s_need_part) .none kV dc pm an cd ct) ["part", "value"] [] :=
  Binds.all fun us hl => match us, hl with | [_, _], _ => rfl
theorem b_need_position {K : PySem.W.Frag} {kV dc pm cd ct : Value} {an : Option Addr} : Binds K (PySem.W.fnOf "need_position" "need_position" (defArgs s_need_position) (defBody s_need_position) (defScope s_need_position) .none kV dc pm an cd ct) ["part", "position"] [] :=
  Binds.all fun us hl => match us, hl with | [_, _], _ => rfl
theorem b_sum_of {K : PySem.W.Frag} {kV dc pm cd ct : Value} {an : Option Addr} : Binds K (PySem.W.fnOf "sum_of" "sum_of" (defArgs s_sum_of) (defBody s_sum_of) (defScope s_sum_of) .none kV dc pm an cd ct) ["one", "other"] [] :=
  Binds.all fun us hl => match us, hl with | [_, _], _ => rfl
theorem b_gone {K : PySem.W.Frag} {kV dc pm cd ct : Value} {an : Option Addr} : Binds K (PySem.W.fnOf "gone" "gone" (defArgs s_gone) (defBody s_gone) (defScope s_gone) .none kV dc pm an cd ct) ["part", "position", "row"] [] :=
  Binds.all fun us hl => match us, hl with | [_, _, _], _ => rfl
theorem b_closes_at {K : PySem.W.Frag} {kV dc pm cd ct : Value} {an : Option Addr} : Binds K (PySem.W.fnOf "closes_at" "closes_at" (defArgs s_closes_at) (defBody s_closes_at) (defScope s_closes_at) .none kV dc pm an cd ct) ["part", "position", "one", "other"] [] :=
  Binds.all fun us hl => match us, hl with | [_, _, _, _], _ => rfl
theorem b_first_crossing {K : PySem.W.Frag} {kV dc pm cd ct : Value} {an : Option Addr} : Binds K (PySem.W.fnOf "first_crossing" "first_crossing" (defArgs s_first_crossing) (defBody s_first_crossing) (defScope s_first_crossing) .none kV dc pm an cd ct) ["part"] [] :=
  Binds.all fun us hl => match us, hl with | [_], _ => rfl
theorem b_pace_of {K : PySem.W.Frag} {kV dc pm cd ct : Value} {an : Option Addr} : Binds K (PySem.W.fnOf "pace_of" "pace_of" (defArgs s_pace_of) (defBody s_pace_of) (defScope s_pace_of) .none kV dc pm an cd ct) ["part", "position", "door"] [] :=
  Binds.all fun us hl => match us, hl with | [_, _, _], _ => rfl
theorem b_many_gone {K : PySem.W.Frag} {kV dc pm cd ct : Value} {an : Option Addr} : Binds K (PySem.W.fnOf "many_gone" "many_gone" (defArgs s_many_gone) (defBody s_many_gone) (defScope s_many_gone) .none kV dc pm an cd ct) ["part", "position", "door", "many"] [] :=
  Binds.all fun us hl => match us, hl with | [_, _, _, _], _ => rfl
theorem b_need_closing {K : PySem.W.Frag} {kV dc pm cd ct : Value} {an : Option Addr} : Binds K (PySem.W.fnOf "need_closing" "need_closing" (defArgs s_need_closing) (defBody s_need_closing) (defScope s_need_closing) .none kV dc pm an cd ct) ["part", "value"] [] :=
  Binds.all fun us hl => match us, hl with | [_, _], _ => rfl
theorem b_fell_counts {K : PySem.W.Frag} {kV dc pm cd ct : Value} {an : Option Addr} : Binds K (PySem.W.fnOf "fell_counts" "fell_counts" (defArgs s_fell_counts) (defBody s_fell_counts) (defScope s_fell_counts) .none kV dc pm an cd ct) ["part", "position", "counts"] [] :=
  Binds.all fun us hl => match us, hl with | [_, _, _], _ => rfl
theorem b_reached {K : PySem.W.Frag} {kV dc pm cd ct : Value} {an : Option Addr} : Binds K (PySem.W.fnOf "reached" "reached" (defArgs s_reached) (defBody s_reached) (defScope s_reached) .none kV dc pm an cd ct) ["part", "start"] [] :=
  Binds.all fun us hl => match us, hl with | [_, _], _ => rfl
theorem b_spread_row {K : PySem.W.Frag} {kV dc pm cd ct : Value} {an : Option Addr} : Binds K (PySem.W.fnOf "spread_row" "spread_row" (defArgs s_spread_row) (defBody s_spread_row) (defScope s_spread_row) .none kV dc pm an cd ct) ["parts", "whole"] [] :=
  Binds.all fun us hl => match us, hl with | [_, _], _ => rfl
theorem b_spread_part {K : PySem.W.Frag} {kV dc pm cd ct : Value} {an : Option Addr} : Binds K (PySem.W.fnOf "spread_part" "spread_part" (defArgs s_spread_part) (defBody s_spread_part) (defScope s_spread_part) .none kV dc pm an cd ct) ["parts"] [] :=
  Binds.all fun us hl => match us, hl with | [_], _ => rfl
theorem b_need_shares {K : PySem.W.Frag} {kV dc pm cd ct : Value} {an : Option Addr} : Binds K (PySem.W.fnOf "need_shares" "need_shares" (defArgs s_need_shares) (defBody s_need_shares) (defScope s_need_shares) .none kV dc pm an cd ct) ["value", "most"] [] :=
  Binds.all fun us hl => match us, hl with | [_, _], _ => rfl
theorem b_evenly {K : PySem.W.Frag} {kV dc pm cd ct : Value} {an : Option Addr} : Binds K (PySem.W.fnOf "evenly" "evenly" (defArgs s_evenly) (defBody s_evenly) (defScope s_evenly) .none kV dc pm an cd ct) ["shares"] [] :=
  Binds.all fun us hl => match us, hl with | [_], _ => rfl
theorem b_begun {K : PySem.W.Frag} {kV dc pm cd ct : Value} {an : Option Addr} : Binds K (PySem.W.fnOf "begun" "begun" (defArgs s_begun) (defBody s_begun) (defScope s_begun) .none kV dc pm an cd ct) ["part", "position"] [] :=
  Binds.all fun us hl => match us, hl with | [_, _], _ => rfl
theorem b_ring_of {K : PySem.W.Frag} {kV dc pm cd ct : Value} {an : Option Addr} : Binds K (PySem.W.fnOf "ring_of" "ring_of" (defArgs s_ring_of) (defBody s_ring_of) (defScope s_ring_of) .none kV dc pm an cd ct) ["part", "position", "door"] [] :=
  Binds.all fun us hl => match us, hl with | [_, _, _], _ => rfl
theorem b_less {K : PySem.W.Frag} {kV dc pm cd ct : Value} {an : Option Addr} : Binds K (PySem.W.fnOf "less" "less" (defArgs s_less) (defBody s_less) (defScope s_less) .none kV dc pm an cd ct) ["row", "times", "other"] [] :=
  Binds.all fun us hl => match us, hl with | [_, _, _], _ => rfl
theorem b_rest_in {K : PySem.W.Frag} {kV dc pm cd ct : Value} {an : Option Addr} {D : Addr} {oc : Value} {od : Option Addr} {sl : Array (Option Value)} {n : Nat} {tk : Tok} (lD : K.lookup D = some ⟨oc, od, .seq #[.int 0 tk] n, sl⟩) : Binds K (PySem.W.fnOf "rest_in" "rest_in" (defArgs s_rest_in) (defBody s_rest_in) (defScope s_rest_in) (.ref D) kV dc pm an cd ct) ["rows", "row", "begin"] [] :=
  fun s us X hl => match us, hl with
    | [_, _, _], _ => PySem.W.binds_K X rfl lD rfl rfl rfl
theorem b_triangle_in {K : PySem.W.Frag} {kV dc pm cd ct : Value} {an : Option Addr} : Binds K (PySem.W.fnOf "triangle_in" "triangle_in" (defArgs s_triangle_in) (defBody s_triangle_in) (defScope s_triangle_in) .none kV dc pm an cd ct) ["part", "begin"] [] :=
  Binds.all fun us hl => match us, hl with | [_, _], _ => rfl
theorem b_widened {K : PySem.W.Frag} {kV dc pm cd ct : Value} {an : Option Addr} : Binds K (PySem.W.fnOf "widened" "widened" (defArgs s_widened) (defBody s_widened) (defScope s_widened) .none kV dc pm an cd ct) ["part", "known", "door", "many"] [] :=
  Binds.all fun us hl => match us, hl with | [_, _, _, _], _ => rfl
theorem b_given_by {K : PySem.W.Frag} {kV dc pm cd ct : Value} {an : Option Addr} : Binds K (PySem.W.fnOf "given_by" "given_by" (defArgs s_given_by) (defBody s_given_by) (defScope s_given_by) .none kV dc pm an cd ct) ["part", "begin", "row"] [] :=
  Binds.all fun us hl => match us, hl with | [_, _, _], _ => rfl
theorem b_need_round {K : PySem.W.Frag} {kV dc pm cd ct : Value} {an : Option Addr} : Binds K (PySem.W.fnOf "need_round" "need_round" (defArgs s_need_round) (defBody s_need_round) (defScope s_need_round) .none kV dc pm an cd ct) ["part", "position"] [] :=
  Binds.all fun us hl => match us, hl with | [_, _], _ => rfl
theorem b_laps {K : PySem.W.Frag} {kV dc pm cd ct : Value} {an : Option Addr} : Binds K (PySem.W.fnOf "laps" "laps" (defArgs s_laps) (defBody s_laps) (defScope s_laps) .none kV dc pm an cd ct) ["part", "position"] [] :=
  Binds.all fun us hl => match us, hl with | [_, _], _ => rfl
theorem b_fair {K : PySem.W.Frag} {kV dc pm cd ct : Value} {an : Option Addr} : Binds K (PySem.W.fnOf "fair" "fair" (defArgs s_fair) (defBody s_fair) (defScope s_fair) .none kV dc pm an cd ct) ["part", "position"] [] :=
  Binds.all fun us hl => match us, hl with | [_, _], _ => rfl
theorem b_law_deck {K : PySem.W.Frag} {kV dc pm cd ct : Value} {an : Option Addr} : Binds K (PySem.W.fnOf "_law_deck" "_law_deck" (defArgs s_law_deck) (defBody s_law_deck) (defScope s_law_deck) .none kV dc pm an cd ct) ["script"] [] :=
  Binds.all fun us hl => match us, hl with | [_], _ => rfl
theorem b_law_draw {K : PySem.W.Frag} {kV dc pm cd ct : Value} {an : Option Addr} : Binds K (PySem.W.fnOf "_law_draw" "_law_draw" (defArgs s_law_draw) (defBody s_law_draw) (defScope s_law_draw) .none kV dc pm an cd ct) ["deck", "many"] [] :=
  Binds.all fun us hl => match us, hl with | [_, _], _ => rfl
theorem b_law_pick {K : PySem.W.Frag} {kV dc pm cd ct : Value} {an : Option Addr} : Binds K (PySem.W.fnOf "_law_pick" "_law_pick" (defArgs s_law_pick) (defBody s_law_pick) (defScope s_law_pick) .none kV dc pm an cd ct) ["deck", "some"] [] :=
  Binds.all fun us hl => match us, hl with | [_, _], _ => rfl
theorem b_law_low {K : PySem.W.Frag} {kV dc pm cd ct : Value} {an : Option Addr} : Binds K (PySem.W.fnOf "_law_low" "_law_low" (defArgs s_law_low) (defBody s_law_low) (defScope s_law_low) .none kV dc pm an cd ct) ["p", "q"] [] :=
  Binds.all fun us hl => match us, hl with | [_, _], _ => rfl
theorem b_law_shares {K : PySem.W.Frag} {kV dc pm cd ct : Value} {an : Option Addr} : Binds K (PySem.W.fnOf "_law_shares" "_law_shares" (defArgs s_law_shares) (defBody s_law_shares) (defScope s_law_shares) .none kV dc pm an cd ct) ["deck", "many", "top"] [] :=
  Binds.all fun us hl => match us, hl with | [_, _, _], _ => rfl
theorem b_law_fractions {K : PySem.W.Frag} {kV dc pm cd ct : Value} {an : Option Addr} : Binds K (PySem.W.fnOf "_law_fractions" "_law_fractions" (defArgs s_law_fractions) (defBody s_law_fractions) (defScope s_law_fractions) .none kV dc pm an cd ct) ["deck", "parts", "whole"] [] :=
  Binds.all fun us hl => match us, hl with | [_, _, _], _ => rfl
theorem b_law_heard {K : PySem.W.Frag} {kV dc pm cd ct : Value} {an : Option Addr} : Binds K (PySem.W.fnOf "_law_heard" "_law_heard" (defArgs s_law_heard) (defBody s_law_heard) (defScope s_law_heard) .none kV dc pm an cd ct) ["ask"] [] :=
  Binds.all fun us hl => match us, hl with | [_], _ => rfl
theorem b_law_row {K : PySem.W.Frag} {kV dc pm cd ct : Value} {an : Option Addr} : Binds K (PySem.W.fnOf "_law_row" "_law_row" (defArgs s_law_row) (defBody s_law_row) (defScope s_law_row) .none kV dc pm an cd ct) ["parts", "whole"] [] :=
  Binds.all fun us hl => match us, hl with | [_, _], _ => rfl
theorem b_law_right {K : PySem.W.Frag} {kV dc pm cd ct : Value} {an : Option Addr} : Binds K (PySem.W.fnOf "_law_right" "_law_right" (defArgs s_law_right) (defBody s_law_right) (defScope s_law_right) .none kV dc pm an cd ct) ["deck", "parts"] [] :=
  Binds.all fun us hl => match us, hl with | [_, _], _ => rfl
theorem b_law {K : PySem.W.Frag} {kV dc pm cd ct : Value} {an : Option Addr} : Binds K (PySem.W.fnOf "law" "law" (defArgs s_law) (defBody s_law) (defScope s_law) .none kV dc pm an cd ct) ["script"] [] :=
  Binds.all fun us hl => match us, hl with | [_], _ => rfl
theorem kb_evenly {kV dc pm cd ct : Value} {an : Option Addr} : ∀ (s : Shared) (w : Value), BindsTo s (PySem.W.fnOf "evenly" "evenly" (defArgs s_evenly) (defBody s_evenly) (defScope s_evenly) .none kV dc pm an cd ct) ⟨[], [("shares", w)]⟩ [("shares", w)] :=
  fun s w => .of_eq rfl
theorem b_BadValue_init {K : PySem.W.Frag} {kV dc pm cd ct : Value} {an : Option Addr} : Binds K (PySem.W.fnOf "__init__" "BadValue.__init__" (defArgs s_BadValue_init) (defBody s_BadValue_init) (defScope s_BadValue_init) .none kV dc pm an cd ct) ["self", "part"] [] :=
  Binds.all fun us hl => match us, hl with | [_, _], _ => rfl
theorem b_BadNumber_init {K : PySem.W.Frag} {kV dc pm cd ct : Value} {an : Option Addr} : Binds K (PySem.W.fnOf "__init__" "BadNumber.__init__" (defArgs s_BadNumber_init) (defBody s_BadNumber_init) (defScope s_BadNumber_init) .none kV dc pm an cd ct) ["self", "part"] [] :=
  Binds.all fun us hl => match us, hl with | [_, _], _ => rfl
theorem b_BadPart_init {K : PySem.W.Frag} {kV dc pm cd ct : Value} {an : Option Addr} : Binds K (PySem.W.fnOf "__init__" "BadPart.__init__" (defArgs s_BadPart_init) (defBody s_BadPart_init) (defScope s_BadPart_init) .none kV dc pm an cd ct) ["self", "part"] [] :=
  Binds.all fun us hl => match us, hl with | [_, _], _ => rfl
theorem b_Crosses_init {K : PySem.W.Frag} {kV dc pm cd ct : Value} {an : Option Addr} : Binds K (PySem.W.fnOf "__init__" "Crosses.__init__" (defArgs s_Crosses_init) (defBody s_Crosses_init) (defScope s_Crosses_init) .none kV dc pm an cd ct) ["self", "position", "one", "other"] [] :=
  Binds.all fun us hl => match us, hl with | [_, _, _, _], _ => rfl
theorem b_Misfit_init {K : PySem.W.Frag} {kV dc pm cd ct : Value} {an : Option Addr} : Binds K (PySem.W.fnOf "__init__" "Misfit.__init__" (defArgs s_Misfit_init) (defBody s_Misfit_init) (defScope s_Misfit_init) .none kV dc pm an cd ct) ["self", "part"] [] :=
  Binds.all fun us hl => match us, hl with | [_, _], _ => rfl
theorem b_TooMany_init {K : PySem.W.Frag} {kV dc pm cd ct : Value} {an : Option Addr} : Binds K (PySem.W.fnOf "__init__" "TooMany.__init__" (defArgs s_TooMany_init) (defBody s_TooMany_init) (defScope s_TooMany_init) .none kV dc pm an cd ct) ["self", "what", "most"] [] :=
  Binds.all fun us hl => match us, hl with | [_, _, _], _ => rfl
theorem b_Part_init {K : PySem.W.Frag} {kV dc pm cd ct : Value} {an : Option Addr} : Binds K (PySem.W.fnOf "__init__" "Part.__init__" (defArgs s_Part_init) (defBody s_Part_init) (defScope s_Part_init) .none kV dc pm an cd ct) ["self", "doors", "outs", "rows"] [] :=
  Binds.all fun us hl => match us, hl with | [_, _, _, _], _ => rfl
theorem b_Part_eq {K : PySem.W.Frag} {kV dc pm cd ct : Value} {an : Option Addr} : Binds K (PySem.W.fnOf "__eq__" "Part.__eq__" (defArgs s_Part_eq) (defBody s_Part_eq) (defScope s_Part_eq) .none kV dc pm an cd ct) ["self", "other"] [] :=
  Binds.all fun us hl => match us, hl with | [_, _], _ => rfl
theorem b_Round_init {K : PySem.W.Frag} {kV dc pm cd ct : Value} {an : Option Addr} : Binds K (PySem.W.fnOf "__init__" "Round.__init__" (defArgs s_Round_init) (defBody s_Round_init) (defScope s_Round_init) .none kV dc pm an cd ct) ["self", "part", "position"] [] :=
  Binds.all fun us hl => match us, hl with | [_, _, _], _ => rfl
theorem b_Round_rest {K : PySem.W.Frag} {kV dc pm cd ct : Value} {an : Option Addr} : Binds K (PySem.W.fnOf "rest" "Round.rest" (defArgs s_Round_rest) (defBody s_Round_rest) (defScope s_Round_rest) .none kV dc pm an cd ct) ["self", "row"] [] :=
  Binds.all fun us hl => match us, hl with | [_, _], _ => rfl
theorem b_Round_gift {K : PySem.W.Frag} {kV dc pm cd ct : Value} {an : Option Addr} : Binds K (PySem.W.fnOf "gift" "Round.gift" (defArgs s_Round_gift) (defBody s_Round_gift) (defScope s_Round_gift) .none kV dc pm an cd ct) ["self", "times"] [] :=
  Binds.all fun us hl => match us, hl with | [_, _], _ => rfl
theorem b_Round_fair {K : PySem.W.Frag} {kV dc pm cd ct : Value} {an : Option Addr} : Binds K (PySem.W.fnOf "fair" "Round.fair" (defArgs s_Round_fair) (defBody s_Round_fair) (defScope s_Round_fair) .none kV dc pm an cd ct) ["self"] [] :=
  Binds.all fun us hl => match us, hl with | [_], _ => rfl
theorem all_mk {K : PySem.W.Frag} {h : Heap} {mg : Str → Option Value} (X : K.In h) (G : h.Ns mainGlobals mg)
    {f_is_integer : Addr}
    {d_is_integer : FuncData}
    {f_need_integer : Addr}
    {d_need_integer : FuncData}
    {f_is_row : Addr}
    {d_is_row : FuncData}
    {f_is_counts : Addr}
    {d_is_counts : FuncData}
    {f_need_counts : Addr}
    {d_need_counts : FuncData}
    {f_is_fraction : Addr}
    {d_is_fraction : FuncData}
    {f_reduced : Addr}
    {d_reduced : FuncData}
    {f_added : Addr}
    {d_added : FuncData}
    {f_total : Addr}
    {d_total : FuncData}
    {f_common_of : Addr}
    {d_common_of : FuncData}
    {f_is_pass : Addr}
    {d_is_pass : FuncData}
    {f_need_rows : Addr}
    {d_need_rows : FuncData}
    {f_need_part : Addr}
    {d_need_part : FuncData}
    {f_need_position : Addr}
    {d_need_position : FuncData}
    {f_sum_of : Addr}
    {d_sum_of : FuncData}
    {f_gone : Addr}
    {d_gone : FuncData}
    {f_closes_at : Addr}
    {d_closes_at : FuncData}
    {f_first_crossing : Addr}
    {d_first_crossing : FuncData}
    {f_pace_of : Addr}
    {d_pace_of : FuncData}
    {f_many_gone : Addr}
    {d_many_gone : FuncData}
    {f_need_closing : Addr}
    {d_need_closing : FuncData}
    {f_fell_counts : Addr}
    {d_fell_counts : FuncData}
    {f_reached : Addr}
    {d_reached : FuncData}
    {f_spread_row : Addr}
    {d_spread_row : FuncData}
    {f_spread_part : Addr}
    {d_spread_part : FuncData}
    {f_need_shares : Addr}
    {d_need_shares : FuncData}
    {f_evenly : Addr}
    {d_evenly : FuncData}
    {f_begun : Addr}
    {d_begun : FuncData}
    {f_ring_of : Addr}
    {d_ring_of : FuncData}
    {f_less : Addr}
    {d_less : FuncData}
    {f_rest_in : Addr}
    {d_rest_in : FuncData}
    {f_triangle_in : Addr}
    {d_triangle_in : FuncData}
    {f_widened : Addr}
    {d_widened : FuncData}
    {f_given_by : Addr}
    {d_given_by : FuncData}
    {f_need_round : Addr}
    {d_need_round : FuncData}
    {f_laps : Addr}
    {d_laps : FuncData}
    {f_fair : Addr}
    {d_fair : FuncData}
    {f_law_deck : Addr}
    {d_law_deck : FuncData}
    {f_law_draw : Addr}
    {d_law_draw : FuncData}
    {f_law_pick : Addr}
    {d_law_pick : FuncData}
    {f_law_low : Addr}
    {d_law_low : FuncData}
    {f_law_shares : Addr}
    {d_law_shares : FuncData}
    {f_law_fractions : Addr}
    {d_law_fractions : FuncData}
    {f_law_heard : Addr}
    {d_law_heard : FuncData}
    {f_law_row : Addr}
    {d_law_row : FuncData}
    {f_law_right : Addr}
    {d_law_right : FuncData}
    {f_law : Addr}
    {d_law : FuncData}
    {f_BadValue_init : Addr}
    {d_BadValue_init : FuncData}
    {f_BadNumber_init : Addr}
    {d_BadNumber_init : FuncData}
    {f_BadPart_init : Addr}
    {d_BadPart_init : FuncData}
    {f_Crosses_init : Addr}
    {d_Crosses_init : FuncData}
    {f_Misfit_init : Addr}
    {d_Misfit_init : FuncData}
    {f_TooMany_init : Addr}
    {d_TooMany_init : FuncData}
    {f_Part_init : Addr}
    {d_Part_init : FuncData}
    {f_Part_eq : Addr}
    {d_Part_eq : FuncData}
    {f_Round_init : Addr}
    {d_Round_init : FuncData}
    {f_Round_rest : Addr}
    {d_Round_rest : FuncData}
    {f_Round_gift : Addr}
    {d_Round_gift : FuncData}
    {f_Round_fair : Addr}
    {d_Round_fair : FuncData}
    {C_MarbleError : Addr}
    {C_BadValue : Addr}
    {C_BadNumber : Addr}
    {C_BadPart : Addr}
    {C_Crosses : Addr}
    {C_Misfit : Addr}
    {C_TooMany : Addr}
    {C_Part : Addr}
    {C_Round : Addr}
    {t_MOST_DOORS : Tok}
    {t_MOST_OUTS : Tok}
    {t_MOST_POSITIONS : Tok}
    {t_MOST_GIVES : Tok}
    (g_is_integer : PySem.W.nsIn K mainGlobals "is_integer" = some (some (.ref f_is_integer)))
    (F_is_integer : FunA K "is_integer" "is_integer" s_is_integer f_is_integer d_is_integer)
    (B_is_integer : Binds K d_is_integer ["value"] [])
    (g_need_integer : PySem.W.nsIn K mainGlobals "need_integer" = some (some (.ref f_need_integer)))
    (F_need_integer : FunA K "need_integer" "need_integer" s_need_integer f_need_integer d_need_integer)
    (B_need_integer : Binds K d_need_integer ["part", "value", "least", "most"] [])
    (g_is_row : PySem.W.nsIn K mainGlobals "is_row" = some (some (.ref f_is_row)))
    (F_is_row : FunA K "is_row" "is_row" s_is_row f_is_row d_is_row)
    (B_is_row : Binds K d_is_row ["value", "many"] [])
    (g_is_counts : PySem.W.nsIn K mainGlobals "is_counts" = some (some (.ref f_is_counts)))
    (F_is_counts : FunA K "is_counts" "is_counts" s_is_counts f_is_counts d_is_counts)
    (B_is_counts : Binds K d_is_counts ["value", "many"] [])
    (g_need_counts : PySem.W.nsIn K mainGlobals "need_counts" = some (some (.ref f_need_counts)))
    (F_need_counts : FunA K "need_counts" "need_counts" s_need_counts f_need_counts d_need_counts)
    (B_need_counts : Binds K d_need_counts ["part", "value", "many"] [])
    (g_is_fraction : PySem.W.nsIn K mainGlobals "is_fraction" = some (some (.ref f_is_fraction)))
    (F_is_fraction : FunA K "is_fraction" "is_fraction" s_is_fraction f_is_fraction d_is_fraction)
    (B_is_fraction : Binds K d_is_fraction ["value"] [])
    (g_reduced : PySem.W.nsIn K mainGlobals "reduced" = some (some (.ref f_reduced)))
    (F_reduced : FunA K "reduced" "reduced" s_reduced f_reduced d_reduced)
    (B_reduced : Binds K d_reduced ["p", "q"] [])
    (g_added : PySem.W.nsIn K mainGlobals "added" = some (some (.ref f_added)))
    (F_added : FunA K "added" "added" s_added f_added d_added)
    (B_added : Binds K d_added ["one", "other"] [])
    (g_total : PySem.W.nsIn K mainGlobals "total" = some (some (.ref f_total)))
    (F_total : FunA K "total" "total" s_total f_total d_total)
    (B_total : Binds K d_total ["fractions"] [])
    (g_common_of : PySem.W.nsIn K mainGlobals "common_of" = some (some (.ref f_common_of)))
    (F_common_of : FunA K "common_of" "common_of" s_common_of f_common_of d_common_of)
    (B_common_of : Binds K d_common_of ["fractions"] [])
    (g_is_pass : PySem.W.nsIn K mainGlobals "is_pass" = some (some (.ref f_is_pass)))
    (F_is_pass : FunA K "is_pass" "is_pass" s_is_pass f_is_pass d_is_pass)
    (B_is_pass : Binds K d_is_pass ["value", "many", "outs"] [])
    (g_need_rows : PySem.W.nsIn K mainGlobals "need_rows" = some (some (.ref f_need_rows)))
    (F_need_rows : FunA K "need_rows" "need_rows" s_need_rows f_need_rows d_need_rows)
    (B_need_rows : Binds K d_need_rows ["rows", "doors", "outs"] [])
    (g_need_part : PySem.W.nsIn K mainGlobals "need_part" = some (some (.ref f_need_part)))
    (F_need_part : FunA K "need_part" "need_part" s_need_part f_need_part d_need_part)
    (B_need_part : Binds K d_need_part ["part", "value"] [])
    (g_need_position : PySem.W.nsIn K mainGlobals "need_position" = some (some (.ref f_need_position)))
    (F_need_position : FunA K "need_position" "need_position" s_need_position f_need_position d_need_position)
    (B_need_position : Binds K d_need_position ["part", "position"] [])
    (g_sum_of : PySem.W.nsIn K mainGlobals "sum_of" = some (some (.ref f_sum_of)))
    (F_sum_of : FunA K "sum_of" "sum_of" s_sum_of f_sum_of d_sum_of)
    (B_sum_of : Binds K d_sum_of ["one", "other"] [])
    (g_gone : PySem.W.nsIn K mainGlobals "gone" = some (some (.ref f_gone)))
    (F_gone : FunA K "gone" "gone" s_gone f_gone d_gone)
    (B_gone : Binds K d_gone ["part", "position", "row"] [])
    (g_closes_at : PySem.W.nsIn K mainGlobals "closes_at" = some (some (.ref f_closes_at)))
    (F_closes_at : FunA K "closes_at" "closes_at" s_closes_at f_closes_at d_closes_at)
    (B_closes_at : Binds K d_closes_at ["part", "position", "one", "other"] [])
    (g_first_crossing : PySem.W.nsIn K mainGlobals "first_crossing" = some (some (.ref f_first_crossing)))
    (F_first_crossing : FunA K "first_crossing" "first_crossing" s_first_crossing f_first_crossing d_first_crossing)
    (B_first_crossing : Binds K d_first_crossing ["part"] [])
    (g_pace_of : PySem.W.nsIn K mainGlobals "pace_of" = some (some (.ref f_pace_of)))
    (F_pace_of : FunA K "pace_of" "pace_of" s_pace_of f_pace_of d_pace_of)
    (B_pace_of : Binds K d_pace_of ["part", "position", "door"] [])
    (g_many_gone : PySem.W.nsIn K mainGlobals "many_gone" = some (some (.ref f_many_gone)))
    (F_many_gone : FunA K "many_gone" "many_gone" s_many_gone f_many_gone d_many_gone)
    (B_many_gone : Binds K d_many_gone ["part", "position", "door", "many"] [])
    (g_need_closing : PySem.W.nsIn K mainGlobals "need_closing" = some (some (.ref f_need_closing)))
    (F_need_closing : FunA K "need_closing" "need_closing" s_need_closing f_need_closing d_need_closing)
    (B_need_closing : Binds K d_need_closing ["part", "value"] [])
    (g_fell_counts : PySem.W.nsIn K mainGlobals "fell_counts" = some (some (.ref f_fell_counts)))
    (F_fell_counts : FunA K "fell_counts" "fell_counts" s_fell_counts f_fell_counts d_fell_counts)
    (B_fell_counts : Binds K d_fell_counts ["part", "position", "counts"] [])
    (g_reached : PySem.W.nsIn K mainGlobals "reached" = some (some (.ref f_reached)))
    (F_reached : FunA K "reached" "reached" s_reached f_reached d_reached)
    (B_reached : Binds K d_reached ["part", "start"] [])
    (g_spread_row : PySem.W.nsIn K mainGlobals "spread_row" = some (some (.ref f_spread_row)))
    (F_spread_row : FunA K "spread_row" "spread_row" s_spread_row f_spread_row d_spread_row)
    (B_spread_row : Binds K d_spread_row ["parts", "whole"] [])
    (g_spread_part : PySem.W.nsIn K mainGlobals "spread_part" = some (some (.ref f_spread_part)))
    (F_spread_part : FunA K "spread_part" "spread_part" s_spread_part f_spread_part d_spread_part)
    (B_spread_part : Binds K d_spread_part ["parts"] [])
    (g_need_shares : PySem.W.nsIn K mainGlobals "need_shares" = some (some (.ref f_need_shares)))
    (F_need_shares : FunA K "need_shares" "need_shares" s_need_shares f_need_shares d_need_shares)
    (B_need_shares : Binds K d_need_shares ["value", "most"] [])
    (g_evenly : PySem.W.nsIn K mainGlobals "evenly" = some (some (.ref f_evenly)))
    (F_evenly : FunA K "evenly" "evenly" s_evenly f_evenly d_evenly)
    (B_evenly : Binds K d_evenly ["shares"] [])
    (g_begun : PySem.W.nsIn K mainGlobals "begun" = some (some (.ref f_begun)))
    (F_begun : FunA K "begun" "begun" s_begun f_begun d_begun)
    (B_begun : Binds K d_begun ["part", "position"] [])
    (g_ring_of : PySem.W.nsIn K mainGlobals "ring_of" = some (some (.ref f_ring_of)))
    (F_ring_of : FunA K "ring_of" "ring_of" s_ring_of f_ring_of d_ring_of)
    (B_ring_of : Binds K d_ring_of ["part", "position", "door"] [])
    (g_less : PySem.W.nsIn K mainGlobals "less" = some (some (.ref f_less)))
    (F_less : FunA K "less" "less" s_less f_less d_less)
    (B_less : Binds K d_less ["row", "times", "other"] [])
    (g_rest_in : PySem.W.nsIn K mainGlobals "rest_in" = some (some (.ref f_rest_in)))
    (F_rest_in : FunA K "rest_in" "rest_in" s_rest_in f_rest_in d_rest_in)
    (B_rest_in : Binds K d_rest_in ["rows", "row", "begin"] [])
    (g_triangle_in : PySem.W.nsIn K mainGlobals "triangle_in" = some (some (.ref f_triangle_in)))
    (F_triangle_in : FunA K "triangle_in" "triangle_in" s_triangle_in f_triangle_in d_triangle_in)
    (B_triangle_in : Binds K d_triangle_in ["part", "begin"] [])
    (g_widened : PySem.W.nsIn K mainGlobals "widened" = some (some (.ref f_widened)))
    (F_widened : FunA K "widened" "widened" s_widened f_widened d_widened)
    (B_widened : Binds K d_widened ["part", "known", "door", "many"] [])
    (g_given_by : PySem.W.nsIn K mainGlobals "given_by" = some (some (.ref f_given_by)))
    (F_given_by : FunA K "given_by" "given_by" s_given_by f_given_by d_given_by)
    (B_given_by : Binds K d_given_by ["part", "begin", "row"] [])
    (g_need_round : PySem.W.nsIn K mainGlobals "need_round" = some (some (.ref f_need_round)))
    (F_need_round : FunA K "need_round" "need_round" s_need_round f_need_round d_need_round)
    (B_need_round : Binds K d_need_round ["part", "position"] [])
    (g_laps : PySem.W.nsIn K mainGlobals "laps" = some (some (.ref f_laps)))
    (F_laps : FunA K "laps" "laps" s_laps f_laps d_laps)
    (B_laps : Binds K d_laps ["part", "position"] [])
    (g_fair : PySem.W.nsIn K mainGlobals "fair" = some (some (.ref f_fair)))
    (F_fair : FunA K "fair" "fair" s_fair f_fair d_fair)
    (B_fair : Binds K d_fair ["part", "position"] [])
    (g_law_deck : PySem.W.nsIn K mainGlobals "_law_deck" = some (some (.ref f_law_deck)))
    (F_law_deck : FunA K "_law_deck" "_law_deck" s_law_deck f_law_deck d_law_deck)
    (B_law_deck : Binds K d_law_deck ["script"] [])
    (g_law_draw : PySem.W.nsIn K mainGlobals "_law_draw" = some (some (.ref f_law_draw)))
    (F_law_draw : FunA K "_law_draw" "_law_draw" s_law_draw f_law_draw d_law_draw)
    (B_law_draw : Binds K d_law_draw ["deck", "many"] [])
    (g_law_pick : PySem.W.nsIn K mainGlobals "_law_pick" = some (some (.ref f_law_pick)))
    (F_law_pick : FunA K "_law_pick" "_law_pick" s_law_pick f_law_pick d_law_pick)
    (B_law_pick : Binds K d_law_pick ["deck", "some"] [])
    (g_law_low : PySem.W.nsIn K mainGlobals "_law_low" = some (some (.ref f_law_low)))
    (F_law_low : FunA K "_law_low" "_law_low" s_law_low f_law_low d_law_low)
    (B_law_low : Binds K d_law_low ["p", "q"] [])
    (g_law_shares : PySem.W.nsIn K mainGlobals "_law_shares" = some (some (.ref f_law_shares)))
    (F_law_shares : FunA K "_law_shares" "_law_shares" s_law_shares f_law_shares d_law_shares)
    (B_law_shares : Binds K d_law_shares ["deck", "many", "top"] [])
    (g_law_fractions : PySem.W.nsIn K mainGlobals "_law_fractions" = some (some (.ref f_law_fractions)))
    (F_law_fractions : FunA K "_law_fractions" "_law_fractions" s_law_fractions f_law_fractions d_law_fractions)
    (B_law_fractions : Binds K d_law_fractions ["deck", "parts", "whole"] [])
    (g_law_heard : PySem.W.nsIn K mainGlobals "_law_heard" = some (some (.ref f_law_heard)))
    (F_law_heard : FunA K "_law_heard" "_law_heard" s_law_heard f_law_heard d_law_heard)
    (B_law_heard : Binds K d_law_heard ["ask"] [])
    (g_law_row : PySem.W.nsIn K mainGlobals "_law_row" = some (some (.ref f_law_row)))
    (F_law_row : FunA K "_law_row" "_law_row" s_law_row f_law_row d_law_row)
    (B_law_row : Binds K d_law_row ["parts", "whole"] [])
    (g_law_right : PySem.W.nsIn K mainGlobals "_law_right" = some (some (.ref f_law_right)))
    (F_law_right : FunA K "_law_right" "_law_right" s_law_right f_law_right d_law_right)
    (B_law_right : Binds K d_law_right ["deck", "parts"] [])
    (g_law : PySem.W.nsIn K mainGlobals "law" = some (some (.ref f_law)))
    (F_law : FunA K "law" "law" s_law f_law d_law)
    (B_law : Binds K d_law ["script"] [])
    (K_evenly : ∀ (s : Shared) (w : Value), BindsTo s d_evenly ⟨[], [("shares", w)]⟩ [("shares", w)])
    (F_BadValue_init : FunA K "__init__" "BadValue.__init__" s_BadValue_init f_BadValue_init d_BadValue_init)
    (B_BadValue_init : Binds K d_BadValue_init ["self", "part"] [])
    (F_BadNumber_init : FunA K "__init__" "BadNumber.__init__" s_BadNumber_init f_BadNumber_init d_BadNumber_init)
    (B_BadNumber_init : Binds K d_BadNumber_init ["self", "part"] [])
    (F_BadPart_init : FunA K "__init__" "BadPart.__init__" s_BadPart_init f_BadPart_init d_BadPart_init)
    (B_BadPart_init : Binds K d_BadPart_init ["self", "part"] [])
    (F_Crosses_init : FunA K "__init__" "Crosses.__init__" s_Crosses_init f_Crosses_init d_Crosses_init)
    (B_Crosses_init : Binds K d_Crosses_init ["self", "position", "one", "other"] [])
    (F_Misfit_init : FunA K "__init__" "Misfit.__init__" s_Misfit_init f_Misfit_init d_Misfit_init)
    (B_Misfit_init : Binds K d_Misfit_init ["self", "part"] [])
    (F_TooMany_init : FunA K "__init__" "TooMany.__init__" s_TooMany_init f_TooMany_init d_TooMany_init)
    (B_TooMany_init : Binds K d_TooMany_init ["self", "what", "most"] [])
    (F_Part_init : FunA K "__init__" "Part.__init__" s_Part_init f_Part_init d_Part_init)
    (B_Part_init : Binds K d_Part_init ["self", "doors", "outs", "rows"] [])
    (F_Part_eq : FunA K "__eq__" "Part.__eq__" s_Part_eq f_Part_eq d_Part_eq)
    (B_Part_eq : Binds K d_Part_eq ["self", "other"] [])
    (F_Round_init : FunA K "__init__" "Round.__init__" s_Round_init f_Round_init d_Round_init)
    (B_Round_init : Binds K d_Round_init ["self", "part", "position"] [])
    (F_Round_rest : FunA K "rest" "Round.rest" s_Round_rest f_Round_rest d_Round_rest)
    (B_Round_rest : Binds K d_Round_rest ["self", "row"] [])
    (F_Round_gift : FunA K "gift" "Round.gift" s_Round_gift f_Round_gift d_Round_gift)
    (B_Round_gift : Binds K d_Round_gift ["self", "times"] [])
    (F_Round_fair : FunA K "fair" "Round.fair" s_Round_fair f_Round_fair d_Round_fair)
    (B_Round_fair : Binds K d_Round_fair ["self"] [])
    (g_MarbleError : PySem.W.nsIn K mainGlobals "MarbleError" = some (some (.ref C_MarbleError)))
    (g_BadValue : PySem.W.nsIn K mainGlobals "BadValue" = some (some (.ref C_BadValue)))
    (g_BadNumber : PySem.W.nsIn K mainGlobals "BadNumber" = some (some (.ref C_BadNumber)))
    (g_BadPart : PySem.W.nsIn K mainGlobals "BadPart" = some (some (.ref C_BadPart)))
    (g_Crosses : PySem.W.nsIn K mainGlobals "Crosses" = some (some (.ref C_Crosses)))
    (g_Misfit : PySem.W.nsIn K mainGlobals "Misfit" = some (some (.ref C_Misfit)))
    (g_TooMany : PySem.W.nsIn K mainGlobals "TooMany" = some (some (.ref C_TooMany)))
    (g_Part : PySem.W.nsIn K mainGlobals "Part" = some (some (.ref C_Part)))
    (g_Round : PySem.W.nsIn K mainGlobals "Round" = some (some (.ref C_Round)))
    (x_BadValue : OexC K C_BadValue)
    (i_BadValue : PySem.W.findIn K (.ref C_BadValue) "__init__" = some (some (.ref f_BadValue_init)))
    (y_BadValue : PySem.W.typeIn K (.ref f_BadValue_init) = some (.type "function"))
    (z_BadValue : XfC K C_BadValue)
    (n_BadValue_part : PySem.W.findIn K (.ref C_BadValue) "part" = some none)
    (x_BadNumber : OexC K C_BadNumber)
    (i_BadNumber : PySem.W.findIn K (.ref C_BadNumber) "__init__" = some (some (.ref f_BadNumber_init)))
    (y_BadNumber : PySem.W.typeIn K (.ref f_BadNumber_init) = some (.type "function"))
    (z_BadNumber : XfC K C_BadNumber)
    (n_BadNumber_part : PySem.W.findIn K (.ref C_BadNumber) "part" = some none)
    (x_BadPart : OexC K C_BadPart)
    (i_BadPart : PySem.W.findIn K (.ref C_BadPart) "__init__" = some (some (.ref f_BadPart_init)))
    (y_BadPart : PySem.W.typeIn K (.ref f_BadPart_init) = some (.type "function"))
    (z_BadPart : XfC K C_BadPart)
    (n_BadPart_part : PySem.W.findIn K (.ref C_BadPart) "part" = some none)
    (x_Crosses : OexC K C_Crosses)
    (i_Crosses : PySem.W.findIn K (.ref C_Crosses) "__init__" = some (some (.ref f_Crosses_init)))
    (y_Crosses : PySem.W.typeIn K (.ref f_Crosses_init) = some (.type "function"))
    (z_Crosses : XfC K C_Crosses)
    (n_Crosses_position : PySem.W.findIn K (.ref C_Crosses) "position" = some none)
    (n_Crosses_one : PySem.W.findIn K (.ref C_Crosses) "one" = some none)
    (n_Crosses_other : PySem.W.findIn K (.ref C_Crosses) "other" = some none)
    (x_Misfit : OexC K C_Misfit)
    (i_Misfit : PySem.W.findIn K (.ref C_Misfit) "__init__" = some (some (.ref f_Misfit_init)))
    (y_Misfit : PySem.W.typeIn K (.ref f_Misfit_init) = some (.type "function"))
    (z_Misfit : XfC K C_Misfit)
    (n_Misfit_part : PySem.W.findIn K (.ref C_Misfit) "part" = some none)
    (x_TooMany : OexC K C_TooMany)
    (i_TooMany : PySem.W.findIn K (.ref C_TooMany) "__init__" = some (some (.ref f_TooMany_init)))
    (y_TooMany : PySem.W.typeIn K (.ref f_TooMany_init) = some (.type "function"))
    (z_TooMany : XfC K C_TooMany)
    (n_TooMany_what : PySem.W.findIn K (.ref C_TooMany) "what" = some none)
    (n_TooMany_most : PySem.W.findIn K (.ref C_TooMany) "most" = some none)
    (xm_BadValue_BadValue : PySem.W.exmOne K (.ref C_BadValue) (.ref C_BadValue) = some true)
    (xm_BadValue_Misfit : PySem.W.exmOne K (.ref C_BadValue) (.ref C_Misfit) = some false)
    (xm_BadValue_TooMany : PySem.W.exmOne K (.ref C_BadValue) (.ref C_TooMany) = some false)
    (xm_Misfit_BadValue : PySem.W.exmOne K (.ref C_Misfit) (.ref C_BadValue) = some false)
    (xm_Misfit_Misfit : PySem.W.exmOne K (.ref C_Misfit) (.ref C_Misfit) = some true)
    (xm_Misfit_TooMany : PySem.W.exmOne K (.ref C_Misfit) (.ref C_TooMany) = some false)
    (xm_TooMany_BadValue : PySem.W.exmOne K (.ref C_TooMany) (.ref C_BadValue) = some false)
    (xm_TooMany_Misfit : PySem.W.exmOne K (.ref C_TooMany) (.ref C_Misfit) = some false)
    (xm_TooMany_TooMany : PySem.W.exmOne K (.ref C_TooMany) (.ref C_TooMany) = some true)
    (c_Part : Cls K C_Part)
    (o_Part : C8.InsC K C_Part)
    (n_Part_doors : PySem.W.findIn K (.ref C_Part) "doors" = some none)
    (n_Part_outs : PySem.W.findIn K (.ref C_Part) "outs" = some none)
    (n_Part_rows : PySem.W.findIn K (.ref C_Part) "rows" = some none)
    (n_Part_many : PySem.W.findIn K (.ref C_Part) "many" = some none)
    (m_Part : Mk K C_Part f_Part_init)
    (e_Part : PySem.W.findIn K (.ref C_Part) "__eq__" = some (some (.ref f_Part_eq)))
    (en_Part : PySem.W.findIn K (.ref C_Part) "__ne__" = some (some (.builtin "object.__ne__")))
    (eo_Part : PySem.W.mroIn K C_Part (.type "object") = some true)
    (ef_Part : PySem.W.isFn K (.ref f_Part_eq) = true)
    (c_Round : Cls K C_Round)
    (o_Round : C8.InsC K C_Round)
    (n_Round_part : PySem.W.findIn K (.ref C_Round) "part" = some none)
    (n_Round_begin : PySem.W.findIn K (.ref C_Round) "begin" = some none)
    (n_Round_spots : PySem.W.findIn K (.ref C_Round) "spots" = some none)
    (n_Round_laps : PySem.W.findIn K (.ref C_Round) "laps" = some none)
    (n_Round_gifts : PySem.W.findIn K (.ref C_Round) "gifts" = some none)
    (m_Round : Mk K C_Round f_Round_init)
    (h_Round_rest : Meth K C_Round "rest" f_Round_rest)
    (h_Round_gift : Meth K C_Round "gift" f_Round_gift)
    (h_Round_fair : Meth K C_Round "fair" f_Round_fair)
    (b_isinstance : PySem.W.nsIn K mainGlobals "isinstance" = some none)
    (b_int : PySem.W.nsIn K mainGlobals "int" = some none)
    (b_bool : PySem.W.nsIn K mainGlobals "bool" = some none)
    (b_str : PySem.W.nsIn K mainGlobals "str" = some none)
    (b_list : PySem.W.nsIn K mainGlobals "list" = some none)
    (b_tuple : PySem.W.nsIn K mainGlobals "tuple" = some none)
    (b_len : PySem.W.nsIn K mainGlobals "len" = some none)
    (b_all : PySem.W.nsIn K mainGlobals "all" = some none)
    (b_any : PySem.W.nsIn K mainGlobals "any" = some none)
    (b_sum : PySem.W.nsIn K mainGlobals "sum" = some none)
    (b_max : PySem.W.nsIn K mainGlobals "max" = some none)
    (b_abs : PySem.W.nsIn K mainGlobals "abs" = some none)
    (b_range : PySem.W.nsIn K mainGlobals "range" = some none)
    (b_zip : PySem.W.nsIn K mainGlobals "zip" = some none)
    (b_enumerate : PySem.W.nsIn K mainGlobals "enumerate" = some none)
    (b_sorted : PySem.W.nsIn K mainGlobals "sorted" = some none)
    (b_repr : PySem.W.nsIn K mainGlobals "repr" = some none)
    (c_MOST_DOORS : PySem.W.nsIn K mainGlobals "MOST_DOORS" = some (some (.int (4) t_MOST_DOORS)))
    (c_MOST_OUTS : PySem.W.nsIn K mainGlobals "MOST_OUTS" = some (some (.int (6) t_MOST_OUTS)))
    (c_MOST_POSITIONS : PySem.W.nsIn K mainGlobals "MOST_POSITIONS" = some (some (.int (400) t_MOST_POSITIONS)))
    (c_MOST_GIVES : PySem.W.nsIn K mainGlobals "MOST_GIVES" = some (some (.int (1000000000000) t_MOST_GIVES)))
    (c_gcd : PySem.W.nsIn K mainGlobals "gcd" = some (some (.builtin "math.gcd")))
    : Txt K mg ⟨f_is_integer, d_is_integer, f_need_integer, d_need_integer, f_is_row, d_is_row, f_is_counts, d_is_counts, f_need_counts, d_need_counts, f_is_fraction, d_is_fraction, f_reduced, d_reduced, f_added, d_added, f_total, d_total, f_common_of, d_common_of, f_is_pass, d_is_pass, f_need_rows, d_need_rows, f_need_part, d_need_part, f_need_position, d_need_position, f_sum_of, d_sum_of, f_gone, d_gone, f_closes_at, d_closes_at, f_first_crossing, d_first_crossing, f_pace_of, d_pace_of, f_many_gone, d_many_gone, f_need_closing, d_need_closing, f_fell_counts, d_fell_counts, f_reached, d_reached, f_spread_row, d_spread_row, f_spread_part, d_spread_part, f_need_shares, d_need_shares, f_evenly, d_evenly, f_begun, d_begun, f_ring_of, d_ring_of, f_less, d_less, f_rest_in, d_rest_in, f_triangle_in, d_triangle_in, f_widened, d_widened, f_given_by, d_given_by, f_need_round, d_need_round, f_laps, d_laps, f_fair, d_fair, f_law_deck, d_law_deck, f_law_draw, d_law_draw, f_law_pick, d_law_pick, f_law_low, d_law_low, f_law_shares, d_law_shares, f_law_fractions, d_law_fractions, f_law_heard, d_law_heard, f_law_row, d_law_row, f_law_right, d_law_right, f_law, d_law, f_BadValue_init, d_BadValue_init, f_BadNumber_init, d_BadNumber_init, f_BadPart_init, d_BadPart_init, f_Crosses_init, d_Crosses_init, f_Misfit_init, d_Misfit_init, f_TooMany_init, d_TooMany_init, f_Part_init, d_Part_init, f_Part_eq, d_Part_eq, f_Round_init, d_Round_init, f_Round_rest, d_Round_rest, f_Round_gift, d_Round_gift, f_Round_fair, d_Round_fair, C_MarbleError, C_BadValue, C_BadNumber, C_BadPart, C_Crosses, C_Misfit, C_TooMany, C_Part, C_Round, t_MOST_DOORS, t_MOST_OUTS, t_MOST_POSITIONS, t_MOST_GIVES, 0, 0, 0, 0⟩ :=
  { g_is_integer := PySem.W.mg_of X G g_is_integer,
    F_is_integer := F_is_integer,
    B_is_integer := B_is_integer,
    g_need_integer := PySem.W.mg_of X G g_need_integer,
    F_need_integer := F_need_integer,
    B_need_integer := B_need_integer,
    g_is_row := PySem.W.mg_of X G g_is_row,
    F_is_row := F_is_row,
    B_is_row := B_is_row,
    g_is_counts := PySem.W.mg_of X G g_is_counts,
    F_is_counts := F_is_counts,
    B_is_counts := B_is_counts,
    g_need_counts := PySem.W.mg_of X G g_need_counts,
    F_need_counts := F_need_counts,
    B_need_counts := B_need_counts,
    g_is_fraction := PySem.W.mg_of X G g_is_fraction,
    F_is_fraction := F_is_fraction,
    B_is_fraction := B_is_fraction,
    g_reduced := PySem.W.mg_of X G g_reduced,
    F_reduced := F_reduced,
    B_reduced := B_reduced,
    g_added := PySem.W.mg_of X G g_added,
    F_added := F_added,
    B_added := B_added,
    g_total := PySem.W.mg_of X G g_total,
    F_total := F_total,
    B_total := B_total,
    g_common_of := PySem.W.mg_of X G g_common_of,
    F_common_of := F_common_of,
    B_common_of := B_common_of,
    g_is_pass := PySem.W.mg_of X G g_is_pass,
    F_is_pass := F_is_pass,
    B_is_pass := B_is_pass,
    g_need_rows := PySem.W.mg_of X G g_need_rows,
    F_need_rows := F_need_rows,
    B_need_rows := B_need_rows,
    g_need_part := PySem.W.mg_of X G g_need_part,
    F_need_part := F_need_part,
    B_need_part := B_need_part,
    g_need_position := PySem.W.mg_of X G g_need_position,
    F_need_position := F_need_position,
    B_need_position := B_need_position,
    g_sum_of := PySem.W.mg_of X G g_sum_of,
    F_sum_of := F_sum_of,
    B_sum_of := B_sum_of,
    g_gone := PySem.W.mg_of X G g_gone,
    F_gone := F_gone,
    B_gone := B_gone,
    g_closes_at := PySem.W.mg_of X G g_closes_at,
    F_closes_at := F_closes_at,
    B_closes_at := B_closes_at,
    g_first_crossing := PySem.W.mg_of X G g_first_crossing,
    F_first_crossing := F_first_crossing,
    B_first_crossing := B_first_crossing,
    g_pace_of := PySem.W.mg_of X G g_pace_of,
    F_pace_of := F_pace_of,
    B_pace_of := B_pace_of,
    g_many_gone := PySem.W.mg_of X G g_many_gone,
    F_many_gone := F_many_gone,
    B_many_gone := B_many_gone,
    g_need_closing := PySem.W.mg_of X G g_need_closing,
    F_need_closing := F_need_closing,
    B_need_closing := B_need_closing,
    g_fell_counts := PySem.W.mg_of X G g_fell_counts,
    F_fell_counts := F_fell_counts,
    B_fell_counts := B_fell_counts,
    g_reached := PySem.W.mg_of X G g_reached,
    F_reached := F_reached,
    B_reached := B_reached,
    g_spread_row := PySem.W.mg_of X G g_spread_row,
    F_spread_row := F_spread_row,
    B_spread_row := B_spread_row,
    g_spread_part := PySem.W.mg_of X G g_spread_part,
    F_spread_part := F_spread_part,
    B_spread_part := B_spread_part,
    g_need_shares := PySem.W.mg_of X G g_need_shares,
    F_need_shares := F_need_shares,
    B_need_shares := B_need_shares,
    g_evenly := PySem.W.mg_of X G g_evenly,
    F_evenly := F_evenly,
    B_evenly := B_evenly,
    g_begun := PySem.W.mg_of X G g_begun,
    F_begun := F_begun,
    B_begun := B_begun,
    g_ring_of := PySem.W.mg_of X G g_ring_of,
    F_ring_of := F_ring_of,
    B_ring_of := B_ring_of,
    g_less := PySem.W.mg_of X G g_less,
    F_less := F_less,
    B_less := B_less,
    g_rest_in := PySem.W.mg_of X G g_rest_in,
    F_rest_in := F_rest_in,
    B_rest_in := B_rest_in,
    g_triangle_in := PySem.W.mg_of X G g_triangle_in,
    F_triangle_in := F_triangle_in,
    B_triangle_in := B_triangle_in,
    g_widened := PySem.W.mg_of X G g_widened,
    F_widened := F_widened,
    B_widened := B_widened,
    g_given_by := PySem.W.mg_of X G g_given_by,
    F_given_by := F_given_by,
    B_given_by := B_given_by,
    g_need_round := PySem.W.mg_of X G g_need_round,
    F_need_round := F_need_round,
    B_need_round := B_need_round,
    g_laps := PySem.W.mg_of X G g_laps,
    F_laps := F_laps,
    B_laps := B_laps,
    g_fair := PySem.W.mg_of X G g_fair,
    F_fair := F_fair,
    B_fair := B_fair,
    g_law_deck := PySem.W.mg_of X G g_law_deck,
    F_law_deck := F_law_deck,
    B_law_deck := B_law_deck,
    g_law_draw := PySem.W.mg_of X G g_law_draw,
    F_law_draw := F_law_draw,
    B_law_draw := B_law_draw,
    g_law_pick := PySem.W.mg_of X G g_law_pick,
    F_law_pick := F_law_pick,
    B_law_pick := B_law_pick,
    g_law_low := PySem.W.mg_of X G g_law_low,
    F_law_low := F_law_low,
    B_law_low := B_law_low,
    g_law_shares := PySem.W.mg_of X G g_law_shares,
    F_law_shares := F_law_shares,
    B_law_shares := B_law_shares,
    g_law_fractions := PySem.W.mg_of X G g_law_fractions,
    F_law_fractions := F_law_fractions,
    B_law_fractions := B_law_fractions,
    g_law_heard := PySem.W.mg_of X G g_law_heard,
    F_law_heard := F_law_heard,
    B_law_heard := B_law_heard,
    g_law_row := PySem.W.mg_of X G g_law_row,
    F_law_row := F_law_row,
    B_law_row := B_law_row,
    g_law_right := PySem.W.mg_of X G g_law_right,
    F_law_right := F_law_right,
    B_law_right := B_law_right,
    g_law := PySem.W.mg_of X G g_law,
    F_law := F_law,
    B_law := B_law,
    K_evenly := K_evenly,
    F_BadValue_init := F_BadValue_init,
    B_BadValue_init := B_BadValue_init,
    F_BadNumber_init := F_BadNumber_init,
    B_BadNumber_init := B_BadNumber_init,
    F_BadPart_init := F_BadPart_init,
    B_BadPart_init := B_BadPart_init,
    F_Crosses_init := F_Crosses_init,
    B_Crosses_init := B_Crosses_init,
    F_Misfit_init := F_Misfit_init,
    B_Misfit_init := B_Misfit_init,
    F_TooMany_init := F_TooMany_init,
    B_TooMany_init := B_TooMany_init,
    F_Part_init := F_Part_init,
    B_Part_init := B_Part_init,
    F_Part_eq := F_Part_eq,
    B_Part_eq := B_Part_eq,
    F_Round_init := F_Round_init,
    B_Round_init := B_Round_init,
    F_Round_rest := F_Round_rest,
    B_Round_rest := B_Round_rest,
    F_Round_gift := F_Round_gift,
    B_Round_gift := B_Round_gift,
    F_Round_fair := F_Round_fair,
    B_Round_fair := B_Round_fair,
    g_MarbleError := PySem.W.mg_of X G g_MarbleError,
    g_BadValue := PySem.W.mg_of X G g_BadValue,
    g_BadNumber := PySem.W.mg_of X G g_BadNumber,
    g_BadPart := PySem.W.mg_of X G g_BadPart,
    g_Crosses := PySem.W.mg_of X G g_Crosses,
    g_Misfit := PySem.W.mg_of X G g_Misfit,
    g_TooMany := PySem.W.mg_of X G g_TooMany,
    g_Part := PySem.W.mg_of X G g_Part,
    g_Round := PySem.W.mg_of X G g_Round,
    x_BadValue := x_BadValue,
    i_BadValue := i_BadValue,
    y_BadValue := y_BadValue,
    z_BadValue := z_BadValue,
    n_BadValue_part := n_BadValue_part,
    x_BadNumber := x_BadNumber,
    i_BadNumber := i_BadNumber,
    y_BadNumber := y_BadNumber,
    z_BadNumber := z_BadNumber,
    n_BadNumber_part := n_BadNumber_part,
    x_BadPart := x_BadPart,
    i_BadPart := i_BadPart,
    y_BadPart := y_BadPart,
    z_BadPart := z_BadPart,
    n_BadPart_part := n_BadPart_part,
    x_Crosses := x_Crosses,
    i_Crosses := i_Crosses,
    y_Crosses := y_Crosses,
    z_Crosses := z_Crosses,
    n_Crosses_position := n_Crosses_position,
    n_Crosses_one := n_Crosses_one,
    n_Crosses_other := n_Crosses_other,
    x_Misfit := x_Misfit,
    i_Misfit := i_Misfit,
    y_Misfit := y_Misfit,
    z_Misfit := z_Misfit,
    n_Misfit_part := n_Misfit_part,
    x_TooMany := x_TooMany,
    i_TooMany := i_TooMany,
    y_TooMany := y_TooMany,
    z_TooMany := z_TooMany,
    n_TooMany_what := n_TooMany_what,
    n_TooMany_most := n_TooMany_most,
    xm_BadValue_BadValue := xm_BadValue_BadValue,
    xm_BadValue_Misfit := xm_BadValue_Misfit,
    xm_BadValue_TooMany := xm_BadValue_TooMany,
    xm_Misfit_BadValue := xm_Misfit_BadValue,
    xm_Misfit_Misfit := xm_Misfit_Misfit,
    xm_Misfit_TooMany := xm_Misfit_TooMany,
    xm_TooMany_BadValue := xm_TooMany_BadValue,
    xm_TooMany_Misfit := xm_TooMany_Misfit,
    xm_TooMany_TooMany := xm_TooMany_TooMany,
    c_Part := c_Part,
    o_Part := o_Part,
    n_Part_doors := n_Part_doors,
    n_Part_outs := n_Part_outs,
    n_Part_rows := n_Part_rows,
    n_Part_many := n_Part_many,
    m_Part := m_Part,
    e_Part := e_Part,
    en_Part := en_Part,
    eo_Part := eo_Part,
    ef_Part := ef_Part,
    c_Round := c_Round,
    o_Round := o_Round,
    n_Round_part := n_Round_part,
    n_Round_begin := n_Round_begin,
    n_Round_spots := n_Round_spots,
    n_Round_laps := n_Round_laps,
    n_Round_gifts := n_Round_gifts,
    m_Round := m_Round,
    h_Round_rest := h_Round_rest,
    h_Round_gift := h_Round_gift,
    h_Round_fair := h_Round_fair,
    b_isinstance := PySem.W.mg_none_of X G b_isinstance,
    b_int := PySem.W.mg_none_of X G b_int,
    b_bool := PySem.W.mg_none_of X G b_bool,
    b_str := PySem.W.mg_none_of X G b_str,
    b_list := PySem.W.mg_none_of X G b_list,
    b_tuple := PySem.W.mg_none_of X G b_tuple,
    b_len := PySem.W.mg_none_of X G b_len,
    b_all := PySem.W.mg_none_of X G b_all,
    b_any := PySem.W.mg_none_of X G b_any,
    b_sum := PySem.W.mg_none_of X G b_sum,
    b_max := PySem.W.mg_none_of X G b_max,
    b_abs := PySem.W.mg_none_of X G b_abs,
    b_range := PySem.W.mg_none_of X G b_range,
    b_zip := PySem.W.mg_none_of X G b_zip,
    b_enumerate := PySem.W.mg_none_of X G b_enumerate,
    b_sorted := PySem.W.mg_none_of X G b_sorted,
    b_repr := PySem.W.mg_none_of X G b_repr,
    c_MOST_DOORS := PySem.W.mg_of X G c_MOST_DOORS,
    c_MOST_OUTS := PySem.W.mg_of X G c_MOST_OUTS,
    c_MOST_POSITIONS := PySem.W.mg_of X G c_MOST_POSITIONS,
    c_MOST_GIVES := PySem.W.mg_of X G c_MOST_GIVES,
    c_gcd := PySem.W.mg_of X G c_gcd }
end K91
end
section
open PySem PySem.W PyProof.Rows
set_option Elab.async false
set_option maxRecDepth 100000 in
set_option maxHeartbeats 0 in
set_option pp.deepTerms false in
set_option pp.maxSteps 40 in
theorem PySem.Challenge.cw_everagain_k91_whole_parts_that_spread_holds : PySem.Challenge.rw_everagain_k91_whole_parts_that_spread.Holds := by
  w_on; o_law; k_head; (case hw => w_witness2)
  k_fill
  refine K91.walk_GY (l := PySem.Challenge.rw_everagain_k91_whole_parts_that_spread) (n := 63) (k := 18) (x := "script") rfl (by decide) rfl ⟨rfl, by decide, by decide⟩ (fun w h Y => PySem.W.km_in_of Y) ?F
  case F =>
    intro w mg mb mean fa h KX Y T hmg
    have t8 := PySem.W.km_tabs_of Y
    have G := T.g
    have hm : mg "law" = some (.ref fa) := hmg
    clear T hmg Y
    refine' K91.end_okC (l := PySem.Challenge.rw_everagain_k91_whole_parts_that_spread) 531 536 KX (K91.all_mk KX G ?g_is_integer ?F_is_integer ?B_is_integer ?g_need_integer ?F_need_integer ?B_need_integer ?g_is_row ?F_is_row ?B_is_row ?g_is_counts ?F_is_counts ?B_is_counts ?g_need_counts ?F_need_counts ?B_need_counts ?g_is_fraction ?F_is_fraction ?B_is_fraction ?g_reduced ?F_reduced ?B_reduced ?g_added ?F_added ?B_added ?g_total ?F_total ?B_total ?g_common_of ?F_common_of ?B_common_of ?g_is_pass ?F_is_pass ?B_is_pass ?g_need_rows ?F_need_rows ?B_need_rows ?g_need_part ?F_need_part ?B_need_part ?g_need_position ?F_need_position ?B_need_position ?g_sum_of ?F_sum_of ?B_sum_of ?g_gone ?F_gone ?B_gone ?g_closes_at ?F_closes_at ?B_closes_at ?g_first_crossing ?F_first_crossing ?B_first_crossing ?g_pace_of ?F_pace_of ?B_pace_of ?g_many_gone ?F_many_gone ?B_many_gone ?g_need_closing ?F_need_closing ?B_need_closing ?g_fell_counts ?F_fell_counts ?B_fell_counts ?g_reached ?F_reached ?B_reached ?g_spread_row ?F_spread_row ?B_spread_row ?g_spread_part ?F_spread_part ?B_spread_part ?g_need_shares ?F_need_shares ?B_need_shares ?g_evenly ?F_evenly ?B_evenly ?g_begun ?F_begun ?B_begun ?g_ring_of ?F_ring_of ?B_ring_of ?g_less ?F_less ?B_less ?g_rest_in ?F_rest_in ?B_rest_in ?g_triangle_in ?F_triangle_in ?B_triangle_in ?g_widened ?F_widened ?B_widened ?g_given_by ?F_given_by ?B_given_by ?g_need_round ?F_need_round ?B_need_round ?g_laps ?F_laps ?B_laps ?g_fair ?F_fair ?B_fair ?g_law_deck ?F_law_deck ?B_law_deck ?g_law_draw ?F_law_draw ?B_law_draw ?g_law_pick ?F_law_pick ?B_law_pick ?g_law_low ?F_law_low ?B_law_low ?g_law_shares ?F_law_shares ?B_law_shares ?g_law_fractions ?F_law_fractions ?B_law_fractions ?g_law_heard ?F_law_heard ?B_law_heard ?g_law_row ?F_law_row ?B_law_row ?g_law_right ?F_law_right ?B_law_right ?g_law ?F_law ?B_law ?K_evenly ?F_BadValue_init ?B_BadValue_init ?F_BadNumber_init ?B_BadNumber_init ?F_BadPart_init ?B_BadPart_init ?F_Crosses_init ?B_Crosses_init ?F_Misfit_init ?B_Misfit_init ?F_TooMany_init ?B_TooMany_init ?F_Part_init ?B_Part_init ?F_Part_eq ?B_Part_eq ?F_Round_init ?B_Round_init ?F_Round_rest ?B_Round_rest ?F_Round_gift ?B_Round_gift ?F_Round_fair ?B_Round_fair ?g_MarbleError ?g_BadValue ?g_BadNumber ?g_BadPart ?g_Crosses ?g_Misfit ?g_TooMany ?g_Part ?g_Round ?x_BadValue ?i_BadValue ?y_BadValue ?z_BadValue ?n_BadValue_part ?x_BadNumber ?i_BadNumber ?y_BadNumber ?z_BadNumber ?n_BadNumber_part ?x_BadPart ?i_BadPart ?y_BadPart ?z_BadPart ?n_BadPart_part ?x_Crosses ?i_Crosses ?y_Crosses ?z_Crosses ?n_Crosses_position ?n_Crosses_one ?n_Crosses_other ?x_Misfit ?i_Misfit ?y_Misfit ?z_Misfit ?n_Misfit_part ?x_TooMany ?i_TooMany ?y_TooMany ?z_TooMany ?n_TooMany_what ?n_TooMany_most ?xm_BadValue_BadValue ?xm_BadValue_Misfit ?xm_BadValue_TooMany ?xm_Misfit_BadValue ?xm_Misfit_Misfit ?xm_Misfit_TooMany ?xm_TooMany_BadValue ?xm_TooMany_Misfit ?xm_TooMany_TooMany ?c_Part ?o_Part ?n_Part_doors ?n_Part_outs ?n_Part_rows ?n_Part_many ?m_Part ?e_Part ?en_Part ?eo_Part ?ef_Part ?c_Round ?o_Round ?n_Round_part ?n_Round_begin ?n_Round_spots ?n_Round_laps ?n_Round_gifts ?m_Round ?h_Round_rest ?h_Round_gift ?h_Round_fair ?b_isinstance ?b_int ?b_bool ?b_str ?b_list ?b_tuple ?b_len ?b_all ?b_any ?b_sum ?b_max ?b_abs ?b_range ?b_zip ?b_enumerate ?b_sorted ?b_repr ?c_MOST_DOORS ?c_MOST_OUTS ?c_MOST_POSITIONS ?c_MOST_GIVES ?c_gcd) hm ?hc0 ?hc1 ?hb (t8 531 (by decide)) (t8 536 (by decide)) ?q0 ?q1 ?n0 ?n1 (by decide)
    (case g_is_integer => k_is)
    (case g_need_integer => k_is)
    (case g_is_row => k_is)
    (case g_is_counts => k_is)
    (case g_need_counts => k_is)
    (case g_is_fraction => k_is)
    (case g_reduced => k_is)
    (case g_added => k_is)
    (case g_total => k_is)
    (case g_common_of => k_is)
    (case g_is_pass => k_is)
    (case g_need_rows => k_is)
    (case g_need_part => k_is)
    (case g_need_position => k_is)
    (case g_sum_of => k_is)
    (case g_gone => k_is)
    (case g_closes_at => k_is)
    (case g_first_crossing => k_is)
    (case g_pace_of => k_is)
    (case g_many_gone => k_is)
    (case g_need_closing => k_is)
    (case g_fell_counts => k_is)
    (case g_reached => k_is)
    (case g_spread_row => k_is)
    (case g_spread_part => k_is)
    (case g_need_shares => k_is)
    (case g_evenly => k_is)
    (case g_begun => k_is)
    (case g_ring_of => k_is)
    (case g_less => k_is)
    (case g_rest_in => k_is)
    (case g_triangle_in => k_is)
    (case g_widened => k_is)
    (case g_given_by => k_is)
    (case g_need_round => k_is)
    (case g_laps => k_is)
    (case g_fair => k_is)
    (case g_law_deck => k_is)
    (case g_law_draw => k_is)
    (case g_law_pick => k_is)
    (case g_law_low => k_is)
    (case g_law_shares => k_is)
    (case g_law_fractions => k_is)
    (case g_law_heard => k_is)
    (case g_law_row => k_is)
    (case g_law_right => k_is)
    (case g_law => k_is)
    (case g_MarbleError => k_is)
    (case g_BadValue => k_is)
    (case g_BadNumber => k_is)
    (case g_BadPart => k_is)
    (case g_Crosses => k_is)
    (case g_Misfit => k_is)
    (case g_TooMany => k_is)
    (case g_Part => k_is)
    (case g_Round => k_is)
    (case b_isinstance => k_is)
    (case b_int => k_is)
    (case b_bool => k_is)
    (case b_str => k_is)
    (case b_list => k_is)
    (case b_tuple => k_is)
    (case b_len => k_is)
    (case b_all => k_is)
    (case b_any => k_is)
    (case b_sum => k_is)
    (case b_max => k_is)
    (case b_abs => k_is)
    (case b_range => k_is)
    (case b_zip => k_is)
    (case b_enumerate => k_is)
    (case b_sorted => k_is)
    (case b_repr => k_is)
    (case c_MOST_DOORS => k_is)
    (case c_MOST_OUTS => k_is)
    (case c_MOST_POSITIONS => k_is)
    (case c_MOST_GIVES => k_is)
    (case c_gcd => k_is)
    (case i_BadValue => (first | k_is | kernel_rfl | decide +kernel))
    (case i_BadNumber => (first | k_is | kernel_rfl | decide +kernel))
    (case i_BadPart => (first | k_is | kernel_rfl | decide +kernel))
    (case i_Crosses => (first | k_is | kernel_rfl | decide +kernel))
    (case i_Misfit => (first | k_is | kernel_rfl | decide +kernel))
    (case i_TooMany => (first | k_is | kernel_rfl | decide +kernel))
    (case m_Part => exact ⟨by (first | k_is | kernel_rfl | decide +kernel), by (first | k_is | kernel_rfl | decide +kernel), by (first | k_is | kernel_rfl | decide +kernel), by (first | k_is | kernel_rfl | decide +kernel)⟩)
    (case e_Part => (first | k_is | kernel_rfl | decide +kernel))
    (case m_Round => exact ⟨by (first | k_is | kernel_rfl | decide +kernel), by (first | k_is | kernel_rfl | decide +kernel), by (first | k_is | kernel_rfl | decide +kernel), by (first | k_is | kernel_rfl | decide +kernel)⟩)
    (case h_Round_rest => exact ⟨by (first | k_is | kernel_rfl | decide +kernel), by (first | k_is | kernel_rfl | decide +kernel), by (first | k_is | kernel_rfl | decide +kernel)⟩)
    (case h_Round_gift => exact ⟨by (first | k_is | kernel_rfl | decide +kernel), by (first | k_is | kernel_rfl | decide +kernel), by (first | k_is | kernel_rfl | decide +kernel)⟩)
    (case h_Round_fair => exact ⟨by (first | k_is | kernel_rfl | decide +kernel), by (first | k_is | kernel_rfl | decide +kernel), by (first | k_is | kernel_rfl | decide +kernel)⟩)
    (case F_is_integer => exact K91.funA_mk (by k_is) (by k_is) (by k_is))
    (case F_need_integer => exact K91.funA_mk (by k_is) (by k_is) (by k_is))
    (case F_is_row => exact K91.funA_mk (by k_is) (by k_is) (by k_is))
    (case F_is_counts => exact K91.funA_mk (by k_is) (by k_is) (by k_is))
    (case F_need_counts => exact K91.funA_mk (by k_is) (by k_is) (by k_is))
    (case F_is_fraction => exact K91.funA_mk (by k_is) (by k_is) (by k_is))
    (case F_reduced => exact K91.funA_mk (by k_is) (by k_is) (by k_is))
    (case F_added => exact K91.funA_mk (by k_is) (by k_is) (by k_is))
    (case F_total => exact K91.funA_mk (by k_is) (by k_is) (by k_is))
    (case F_common_of => exact K91.funA_mk (by k_is) (by k_is) (by k_is))
    (case F_is_pass => exact K91.funA_mk (by k_is) (by k_is) (by k_is))
    (case F_need_rows => exact K91.funA_mk (by k_is) (by k_is) (by k_is))
    (case F_need_part => exact K91.funA_mk (by k_is) (by k_is) (by k_is))
    (case F_need_position => exact K91.funA_mk (by k_is) (by k_is) (by k_is))
    (case F_sum_of => exact K91.funA_mk (by k_is) (by k_is) (by k_is))
    (case F_gone => exact K91.funA_mk (by k_is) (by k_is) (by k_is))
    (case F_closes_at => exact K91.funA_mk (by k_is) (by k_is) (by k_is))
    (case F_first_crossing => exact K91.funA_mk (by k_is) (by k_is) (by k_is))
    (case F_pace_of => exact K91.funA_mk (by k_is) (by k_is) (by k_is))
    (case F_many_gone => exact K91.funA_mk (by k_is) (by k_is) (by k_is))
    (case F_need_closing => exact K91.funA_mk (by k_is) (by k_is) (by k_is))
    (case F_fell_counts => exact K91.funA_mk (by k_is) (by k_is) (by k_is))
    (case F_reached => exact K91.funA_mk (by k_is) (by k_is) (by k_is))
    (case F_spread_row => exact K91.funA_mk (by k_is) (by k_is) (by k_is))
    (case F_spread_part => exact K91.funA_mk (by k_is) (by k_is) (by k_is))
    (case F_need_shares => exact K91.funA_mk (by k_is) (by k_is) (by k_is))
    (case F_evenly => exact K91.funA_mk (by k_is) (by k_is) (by k_is))
    (case F_begun => exact K91.funA_mk (by k_is) (by k_is) (by k_is))
    (case F_ring_of => exact K91.funA_mk (by k_is) (by k_is) (by k_is))
    (case F_less => exact K91.funA_mk (by k_is) (by k_is) (by k_is))
    (case F_rest_in => exact K91.funA_mk (by k_is) (by k_is) (by k_is))
    (case F_triangle_in => exact K91.funA_mk (by k_is) (by k_is) (by k_is))
    (case F_widened => exact K91.funA_mk (by k_is) (by k_is) (by k_is))
    (case F_given_by => exact K91.funA_mk (by k_is) (by k_is) (by k_is))
    (case F_need_round => exact K91.funA_mk (by k_is) (by k_is) (by k_is))
    (case F_laps => exact K91.funA_mk (by k_is) (by k_is) (by k_is))
    (case F_fair => exact K91.funA_mk (by k_is) (by k_is) (by k_is))
    (case F_law_deck => exact K91.funA_mk (by k_is) (by k_is) (by k_is))
    (case F_law_draw => exact K91.funA_mk (by k_is) (by k_is) (by k_is))
    (case F_law_pick => exact K91.funA_mk (by k_is) (by k_is) (by k_is))
    (case F_law_low => exact K91.funA_mk (by k_is) (by k_is) (by k_is))
    (case F_law_shares => exact K91.funA_mk (by k_is) (by k_is) (by k_is))
    (case F_law_fractions => exact K91.funA_mk (by k_is) (by k_is) (by k_is))
    (case F_law_heard => exact K91.funA_mk (by k_is) (by k_is) (by k_is))
    (case F_law_row => exact K91.funA_mk (by k_is) (by k_is) (by k_is))
    (case F_law_right => exact K91.funA_mk (by k_is) (by k_is) (by k_is))
    (case F_law => exact K91.funA_mk (by k_is) (by k_is) (by k_is))
    (case F_BadValue_init => exact K91.funA_mk (by k_is) (by k_is) (by k_is))
    (case F_BadNumber_init => exact K91.funA_mk (by k_is) (by k_is) (by k_is))
    (case F_BadPart_init => exact K91.funA_mk (by k_is) (by k_is) (by k_is))
    (case F_Crosses_init => exact K91.funA_mk (by k_is) (by k_is) (by k_is))
    (case F_Misfit_init => exact K91.funA_mk (by k_is) (by k_is) (by k_is))
    (case F_TooMany_init => exact K91.funA_mk (by k_is) (by k_is) (by k_is))
    (case F_Part_init => exact K91.funA_mk (by k_is) (by k_is) (by k_is))
    (case F_Part_eq => exact K91.funA_mk (by k_is) (by k_is) (by k_is))
    (case F_Round_init => exact K91.funA_mk (by k_is) (by k_is) (by k_is))
    (case F_Round_rest => exact K91.funA_mk (by k_is) (by k_is) (by k_is))
    (case F_Round_gift => exact K91.funA_mk (by k_is) (by k_is) (by k_is))
    (case F_Round_fair => exact K91.funA_mk (by k_is) (by k_is) (by k_is))
    (case B_is_integer => exact K91.b_is_integer)
    (case B_need_integer => exact K91.b_need_integer (by k_is))
    (case B_is_row => exact K91.b_is_row)
    (case B_is_counts => exact K91.b_is_counts)
    (case B_need_counts => exact K91.b_need_counts)
    (case B_is_fraction => exact K91.b_is_fraction)
    (case B_reduced => exact K91.b_reduced)
    (case B_added => exact K91.b_added)
    (case B_total => exact K91.b_total)
    (case B_common_of => exact K91.b_common_of)
    (case B_is_pass => exact K91.b_is_pass)
    (case B_need_rows => exact K91.b_need_rows)
    (case B_need_part => exact K91.b_need_part)
    (case B_need_position => exact K91.b_need_position)
    (case B_sum_of => exact K91.b_sum_of)
    (case B_gone => exact K91.b_gone)
    (case B_closes_at => exact K91.b_closes_at)
    (case B_first_crossing => exact K91.b_first_crossing)
    (case B_pace_of => exact K91.b_pace_of)
    (case B_many_gone => exact K91.b_many_gone)
    (case B_need_closing => exact K91.b_need_closing)
    (case B_fell_counts => exact K91.b_fell_counts)
    (case B_reached => exact K91.b_reached)
    (case B_spread_row => exact K91.b_spread_row)
    (case B_spread_part => exact K91.b_spread_part)
    (case B_need_shares => exact K91.b_need_shares)
    (case B_evenly => exact K91.b_evenly)
    (case B_begun => exact K91.b_begun)
    (case B_ring_of => exact K91.b_ring_of)
    (case B_less => exact K91.b_less)
    (case B_rest_in => exact K91.b_rest_in (by k_is))
    (case B_triangle_in => exact K91.b_triangle_in)
    (case B_widened => exact K91.b_widened)
    (case B_given_by => exact K91.b_given_by)
    (case B_need_round => exact K91.b_need_round)
    (case B_laps => exact K91.b_laps)
    (case B_fair => exact K91.b_fair)
    (case B_law_deck => exact K91.b_law_deck)
    (case B_law_draw => exact K91.b_law_draw)
    (case B_law_pick => exact K91.b_law_pick)
    (case B_law_low => exact K91.b_law_low)
    (case B_law_shares => exact K91.b_law_shares)
    (case B_law_fractions => exact K91.b_law_fractions)
    (case B_law_heard => exact K91.b_law_heard)
    (case B_law_row => exact K91.b_law_row)
    (case B_law_right => exact K91.b_law_right)
    (case B_law => exact K91.b_law)
    (case K_evenly => exact K91.kb_evenly)
    (case B_BadValue_init => exact K91.b_BadValue_init)
    (case B_BadNumber_init => exact K91.b_BadNumber_init)
    (case B_BadPart_init => exact K91.b_BadPart_init)
    (case B_Crosses_init => exact K91.b_Crosses_init)
    (case B_Misfit_init => exact K91.b_Misfit_init)
    (case B_TooMany_init => exact K91.b_TooMany_init)
    (case B_Part_init => exact K91.b_Part_init)
    (case B_Part_eq => exact K91.b_Part_eq)
    (case B_Round_init => exact K91.b_Round_init)
    (case B_Round_rest => exact K91.b_Round_rest)
    (case B_Round_gift => exact K91.b_Round_gift)
    (case B_Round_fair => exact K91.b_Round_fair)
    (case x_BadValue => exact K91.oexC_mk (by k_is) (by decide +kernel) (by k_is) (by k_is) (by k_is) (by k_is))
    (case y_BadValue => (first | k_is | kernel_rfl | decide +kernel))
    (case z_BadValue => (refine ⟨?_, ?_, ?_, ?_⟩ <;> k_is))
    (case n_BadValue_part => (first | k_is | kernel_rfl | decide +kernel))
    (case x_BadNumber => exact K91.oexC_mk (by k_is) (by decide +kernel) (by k_is) (by k_is) (by k_is) (by k_is))
    (case y_BadNumber => (first | k_is | kernel_rfl | decide +kernel))
    (case z_BadNumber => (refine ⟨?_, ?_, ?_, ?_⟩ <;> k_is))
    (case n_BadNumber_part => (first | k_is | kernel_rfl | decide +kernel))
    (case x_BadPart => exact K91.oexC_mk (by k_is) (by decide +kernel) (by k_is) (by k_is) (by k_is) (by k_is))
    (case y_BadPart => (first | k_is | kernel_rfl | decide +kernel))
    (case z_BadPart => (refine ⟨?_, ?_, ?_, ?_⟩ <;> k_is))
    (case n_BadPart_part => (first | k_is | kernel_rfl | decide +kernel))
    (case x_Crosses => exact K91.oexC_mk (by k_is) (by decide +kernel) (by k_is) (by k_is) (by k_is) (by k_is))
    (case y_Crosses => (first | k_is | kernel_rfl | decide +kernel))
    (case z_Crosses => (refine ⟨?_, ?_, ?_, ?_⟩ <;> k_is))
    (case n_Crosses_position => (first | k_is | kernel_rfl | decide +kernel))
    (case n_Crosses_one => (first | k_is | kernel_rfl | decide +kernel))
    (case n_Crosses_other => (first | k_is | kernel_rfl | decide +kernel))
    (case x_Misfit => exact K91.oexC_mk (by k_is) (by decide +kernel) (by k_is) (by k_is) (by k_is) (by k_is))
    (case y_Misfit => (first | k_is | kernel_rfl | decide +kernel))
    (case z_Misfit => (refine ⟨?_, ?_, ?_, ?_⟩ <;> k_is))
    (case n_Misfit_part => (first | k_is | kernel_rfl | decide +kernel))
    (case x_TooMany => exact K91.oexC_mk (by k_is) (by decide +kernel) (by k_is) (by k_is) (by k_is) (by k_is))
    (case y_TooMany => (first | k_is | kernel_rfl | decide +kernel))
    (case z_TooMany => (refine ⟨?_, ?_, ?_, ?_⟩ <;> k_is))
    (case n_TooMany_what => (first | k_is | kernel_rfl | decide +kernel))
    (case n_TooMany_most => (first | k_is | kernel_rfl | decide +kernel))
    (case xm_BadValue_BadValue => (refine K91.exm_of ?_ ?_ ?_ ?_ <;> k_is))
    (case xm_BadValue_Misfit => (refine K91.exm_of ?_ ?_ ?_ ?_ <;> k_is))
    (case xm_BadValue_TooMany => (refine K91.exm_of ?_ ?_ ?_ ?_ <;> k_is))
    (case xm_Misfit_BadValue => (refine K91.exm_of ?_ ?_ ?_ ?_ <;> k_is))
    (case xm_Misfit_Misfit => (refine K91.exm_of ?_ ?_ ?_ ?_ <;> k_is))
    (case xm_Misfit_TooMany => (refine K91.exm_of ?_ ?_ ?_ ?_ <;> k_is))
    (case xm_TooMany_BadValue => (refine K91.exm_of ?_ ?_ ?_ ?_ <;> k_is))
    (case xm_TooMany_Misfit => (refine K91.exm_of ?_ ?_ ?_ ?_ <;> k_is))
    (case xm_TooMany_TooMany => (refine K91.exm_of ?_ ?_ ?_ ?_ <;> k_is))
    (case c_Part => exact ⟨by (first | k_is | kernel_rfl | decide +kernel), by (first | k_is | kernel_rfl | decide +kernel), by (first | k_is | kernel_rfl | decide +kernel), by (first | k_is | kernel_rfl | decide +kernel)⟩)
    (case o_Part => exact ⟨⟨by (first | k_is | kernel_rfl | decide +kernel), by (first | k_is | kernel_rfl | decide +kernel), by (first | k_is | kernel_rfl | decide +kernel), by (first | k_is | kernel_rfl | decide +kernel)⟩, by (first | k_is | kernel_rfl | decide +kernel), by (first | k_is | kernel_rfl | decide +kernel), by (first | k_is | kernel_rfl | decide +kernel), by (first | k_is | kernel_rfl | decide +kernel), by (first | k_is | kernel_rfl | decide +kernel)⟩)
    (case n_Part_doors => k_is)
    (case n_Part_outs => k_is)
    (case n_Part_rows => k_is)
    (case n_Part_many => k_is)
    (case en_Part => (first | k_is | kernel_rfl | decide +kernel))
    (case eo_Part => (first | k_is | kernel_rfl | decide +kernel))
    (case ef_Part => (first | k_is | kernel_rfl | decide +kernel))
    (case c_Round => exact ⟨by (first | k_is | kernel_rfl | decide +kernel), by (first | k_is | kernel_rfl | decide +kernel), by (first | k_is | kernel_rfl | decide +kernel), by (first | k_is | kernel_rfl | decide +kernel)⟩)
    (case o_Round => exact ⟨⟨by (first | k_is | kernel_rfl | decide +kernel), by (first | k_is | kernel_rfl | decide +kernel), by (first | k_is | kernel_rfl | decide +kernel), by (first | k_is | kernel_rfl | decide +kernel)⟩, by (first | k_is | kernel_rfl | decide +kernel), by (first | k_is | kernel_rfl | decide +kernel), by (first | k_is | kernel_rfl | decide +kernel), by (first | k_is | kernel_rfl | decide +kernel), by (first | k_is | kernel_rfl | decide +kernel)⟩)
    (case n_Round_part => k_is)
    (case n_Round_begin => k_is)
    (case n_Round_spots => k_is)
    (case n_Round_laps => k_is)
    (case n_Round_gifts => k_is)
    (case hc0 => exact rfl); (case hc1 => exact rfl)
    (case hb => exact fun s u => .of_eq rfl)
    (case q0 => kernel_rfl); (case q1 => kernel_rfl); (case n0 => kernel_rfl); (case n1 => kernel_rfl)
end
