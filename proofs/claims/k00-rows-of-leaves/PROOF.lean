import PyProof.Rows.All
import Wide.All
import OpenK.AllK
import Wide.FinOn
import HandS.ForMost
import HandS.IsInst
import HandS.Flow
import HandS.Style
import HandS.TupAny
import HandS.TupMul
import HandS.Deep
import HandS.CallLocal
import HandS.Conv
import HandS.Exc
import HandS.Flt
import HandS.Zip
import HandS.Walk
import HandS.Steps
import HandS.Evl
import KE.KDictZip
import PySem.Challenge.RW_putpages_k00_whole_rows_of_leaves
set_option Elab.async false
set_option linter.all false
set_option autoImplicit false
set_option maxRecDepth 100000
set_option maxHeartbeats 4000000
namespace Pp
open PySem PySem.Spec PyProof.Rows L2
/-! ### heaps -/
section
variable {K : PySem.W.Frag} {H H' H1 H2 : Hp} {a b p l : Addr} {xs ys : List V} {o u : HO} {v : V} {d : PyData}
theorem sm_put (s : Same H H') (n : H p = none) : Same H (upd H' p o) := fun c q e => by
  rw [upd_ne (fun z => by rw [z, n] at e; cases e)]; exact s c q e
theorem sm_new (n : H p = none) : Same H (upd H p o) := sm_put (Same.refl H) n
theorem sm_rd (s : Same H H') (h : Rd H a u) : Rd H' a u := by
  rcases h with h | ⟨o, h⟩
  · exact .inl (s _ _ h)
  · exact .inr ⟨o, s _ _ h⟩
theorem sm_sl (s : Same H H') (h : SqL K H a xs) : SqL K H' a xs := by
  rcases h with h | h
  · exact .inl (sm_rd s h)
  · exact .inr h
theorem sm_st (s : Same H H') (h : SqT K H a xs) : SqT K H' a xs := by
  rcases h with h | h
  · exact .inl (sm_rd s h)
  · exact .inr h
/-- tuples are kept -/
def Kp (H H' : Hp) : Prop := ∀ a xs, Rd H a (.tup xs) → Rd H' a (.tup xs)
theorem Kp.refl (H : Hp) : Kp H H := fun _ _ h => h
theorem Kp.trans (x : Kp H H1) (y : Kp H1 H2) : Kp H H2 := fun c q e => y c q (x c q e)
theorem sm_kp (s : Same H H') : Kp H H' := fun _ _ h => sm_rd s h
theorem rd_ne {w : HO} (h : Rd H a (.tup xs)) (e : H p = some w) (m : Mut (some w)) : a ≠ p := fun z => by
  subst z
  rcases h with h | ⟨o, h⟩
  · rw [h] at e; cases e; exact m
  · rw [h] at e; cases e; exact m
theorem Kp.mu {w : HO} (e : H p = some w) (m : Mut (some w)) : Kp H (upd H p o) := fun c q h => by
  have n := rd_ne h e m
  rcases h with h | ⟨z, h⟩
  · exact .inl ((upd_ne n).trans h)
  · exact .inr ⟨z, (upd_ne n).trans h⟩
theorem Kp.lst (e : H p = some (.lst ys)) : Kp H (upd H p o) := Kp.mu e True.intro
theorem Kp.new (n : H p = none) : Kp H (upd H p o) := sm_kp (sm_new n)
theorem Kp.st (s : Kp H H') (h : SqT K H a xs) : SqT K H' a xs := by
  rcases h with h | h
  · exact .inl (s _ _ h)
  · exact .inr h
mutual
/-- data without lists -/
def nl : PyData → Bool
  | .list _ => false
  | .dict _ => false
  | .tuple ds => nlA ds
  | _ => true
def nlA : List PyData → Bool
  | [] => true
  | d :: ds => nl d && nlA ds
end
mutual
theorem dp_same (s : Same H H') : ∀ {v : V} {d : PyData}, Dp K H v d → Dp K H' v d
  | _, _, .non => .non
  | _, _, .bl b => .bl b
  | _, _, .int i => .int i
  | _, _, .str x => .str x
  | _, _, .lst h hs => .lst (sm_sl s h) (dpa_same s hs)
  | _, _, .tup h hs => .tup (sm_st s h) (dpa_same s hs)
theorem dpa_same (s : Same H H') : ∀ {vs : List V} {ds : List PyData}, DpAll K H vs ds → DpAll K H' vs ds
  | _, _, .nil => .nil
  | _, _, .cons h t => .cons (dp_same s h) (dpa_same s t)
end
mutual
theorem dp_kp (s : Kp H H') : ∀ {v : V} {d : PyData}, nl d = true → Dp K H v d → Dp K H' v d
  | _, _, _, .non => .non
  | _, _, _, .bl b => .bl b
  | _, _, _, .int i => .int i
  | _, _, _, .str x => .str x
  | _, _, n, .lst h hs => by exact absurd n (by simp [nl])
  | _, _, n, .tup h hs => .tup (s.st h) (dpa_kp s (by simpa [nl] using n) hs)
theorem dpa_kp (s : Kp H H') : ∀ {vs : List V} {ds : List PyData}, nlA ds = true → DpAll K H vs ds → DpAll K H' vs ds
  | _, _, _, .nil => .nil
  | _, _, n, .cons h t => by
    simp only [nlA, Bool.and_eq_true] at n
    exact .cons (dp_kp s n.1 h) (dpa_kp s n.2 t)
end
theorem dpa_len : ∀ {vs : List V} {ds : List PyData}, DpAll K H vs ds → vs.length = ds.length
  | _, _, .nil => rfl
  | _, _, .cons _ t => by rw [List.length_cons, List.length_cons, dpa_len t]
theorem dpa_get : ∀ {vs : List V} {ds : List PyData} {i : Nat} {d : PyData}, DpAll K H vs ds → ds[i]? = some d → ∃ v, vs[i]? = some v ∧ Dp K H v d
  | _, _, _, _, .nil, e => by simp at e
  | _, _, 0, _, .cons h t, e => by simp at e; subst e; exact ⟨_, rfl, h⟩
  | _, _, i + 1, d, .cons h t, e => by
    obtain ⟨v, h1, h2⟩ := dpa_get (i := i) (d := d) t (by simpa using e)
    exact ⟨v, by simpa using h1, h2⟩
theorem dpa_get' {vs : List V} {ds : List PyData} {i : Nat} {v : V} (h : DpAll K H vs ds) (e : vs[i]? = some v) : ∃ d, ds[i]? = some d ∧ Dp K H v d := by
  have hl := dpa_len h
  obtain ⟨h1, h2⟩ := List.getElem?_eq_some_iff.mp e
  have h3 : ds[i]? = some (ds[i]'(by omega)) := List.getElem?_eq_getElem _
  obtain ⟨w, e2, q⟩ := dpa_get h h3
  rw [e] at e2; cases e2
  exact ⟨_, h3, q⟩
theorem dpa_app : ∀ {vs ws : List V} {ds es : List PyData}, DpAll K H vs ds → DpAll K H ws es → DpAll K H (vs ++ ws) (ds ++ es)
  | _, _, _, _, .nil, h => h
  | _, _, _, _, .cons h t, g => .cons h (dpa_app t g)
theorem dpa_drop : ∀ {vs : List V} {ds : List PyData} (n : Nat), DpAll K H vs ds → DpAll K H (vs.drop n) (ds.drop n)
  | _, _, 0, h => h
  | _, _, _ + 1, .nil => .nil
  | _, _, n + 1, .cons _ t => dpa_drop n t
theorem dpa_take : ∀ {vs : List V} {ds : List PyData} (n : Nat), DpAll K H vs ds → DpAll K H (vs.take n) (ds.take n)
  | _, _, 0, _ => .nil
  | _, _, _ + 1, .nil => .nil
  | _, _, n + 1, .cons h t => .cons h (dpa_take n t)
theorem dpa_rev : ∀ {vs : List V} {ds : List PyData}, DpAll K H vs ds → DpAll K H vs.reverse ds.reverse
  | _, _, .nil => .nil
  | _, _, .cons h t => by
    rw [List.reverse_cons, List.reverse_cons]
    exact dpa_app (dpa_rev t) (.cons h .nil)
theorem dpa_rep (h : Dp K H v d) : ∀ n : Nat, DpAll K H (List.replicate n v) (List.replicate n d)
  | 0 => .nil
  | n + 1 => .cons h (dpa_rep h n)
theorem dpa_ints : ∀ ns : List Int, DpAll K H (ns.map V.int) (ns.map PyData.int)
  | [] => .nil
  | n :: ns => .cons (.int n) (dpa_ints ns)
theorem dpa_strs : ∀ ns : List Str, DpAll K H (ns.map V.str) (ns.map PyData.str)
  | [] => .nil
  | n :: ns => .cons (.str n) (dpa_strs ns)
theorem dp_tup {ds : List PyData} (h : Dp K H v (.tuple ds)) : ∃ a xs, v = .ref a ∧ SqT K H a xs ∧ DpAll K H xs ds := by
  cases h with
  | tup h1 h2 => exact ⟨_, _, rfl, h1, h2⟩
theorem dp_lst {ds : List PyData} (h : Dp K H v (.list ds)) : ∃ a xs, v = .ref a ∧ SqL K H a xs ∧ DpAll K H xs ds := by
  cases h with
  | lst h1 h2 => exact ⟨_, _, rfl, h1, h2⟩
theorem dp_int {i : Int} (h : Dp K H v (.int i)) : v = .int i := by cases h; rfl
theorem dp_str {i : Str} (h : Dp K H v (.str i)) : v = .str i := by cases h; rfl
theorem dp_non (h : Dp K H v .none) : v = .non := by cases h; rfl
end
/-! ### rooms -/
theorem hu65 {A : Around} {k : Nat} (hr : Room k A) : A.units + 65 < cLine := by have := hr.un; omega
/-! ### more rules -/
section
variable {X : Cx}
/-- xs[i], by values -/
theorem get_list : PGet X (rIxL X.K) := by
  intro pins s σ H x y u w Q I rx ry h
  obtain ⟨p, xs, i, z, rfl, rfl, hq, he, q⟩ := h
  cases rx
  obtain ⟨t, rfl⟩ := ry
  obtain ⟨its, r, pl, hz⟩ := I.list hq
  obtain ⟨j, h1, h2, h3, h4, h5⟩ := atI_get he
  obtain ⟨w, ew, rw'⟩ := r.get h2
  have hl := r.length
  have hn := line63
  have fin : EP X pins σ Q w s := ⟨z, H, I, rw', q⟩
  by_cases h0 : 0 ≤ i
  · have hj : i.toNat = j := by
      rw [seqIndex_of h0 h5] at h1
      exact Option.some.inj h1
    exact wpAny_getItem_list pl.isList h0 (by omega) (by rw [hj]; simpa using ew) fin
  · have hj : (i + (its.toArray.size : Int)).toNat = j := by
      rw [seqIndex_neg (by omega) h4] at h1
      rw [List.size_toArray, ← hl]
      exact Option.some.inj h1
    exact wpAny_getItem_list_neg pl.isList (by omega) (by rw [List.size_toArray] <;> omega) (by omega) (by rw [hj]; simpa using ew) fin
/-- x in (.., ..), data of any depth -/
def rInDT (K : PySem.W.Frag) : R2 := fun x y H Q => ∃ d ds, Dp K H x d ∧ Dp K H y (.tuple ds) ∧ SeqAt.shaped d = true ∧ SeqAt.shaped (.tuple ds) = true ∧ Q (.bl (ds.any fun z => PyData.eqv z d)) H
theorem op_inDT (hu : X.A.units + 65 < cLine) : OpR X (compareOp .In) (rInDT X.K) := by
  intro pins s σ H x y v u Q I rx ry h
  obtain ⟨d, ds, hd, he, sd, se, q⟩ := h
  obtain ⟨as, r1⟩ := Dp.reads I d x v hd rx
  obtain ⟨bs, r2⟩ := Dp.reads I (.tuple ds) y u he ry
  exact SeqAt.in_tuple_reads r2 r1 (SeqAt.canLay_of_shaped se) (SeqAt.canLay_of_shaped sd) (room_in_shaped sd hu) ⟨.bl _, H, I, rfl, q⟩
/-- min of three ints -/
theorem call_min3I (hc : X.calm = true) : CallR X (.builtin "min") (fun xs H Q => ∃ i j k : Int, xs = [.int i, .int j, .int k] ∧ Q (.int (min (min i j) k)) H) := by
  intro pins s σ H xs us Q I r h
  obtain ⟨i, j, k, rfl, q⟩ := h
  refine call_min3Nu hc pins s σ H _ us Q I r ⟨.int i, .int j, .int k, .int (min (min i j) k), rfl, ?_, q⟩
  have e : ∀ a b : Int, nuMin2 (.int a) (.int b) = some (.int (min a b)) := fun a b => by
    show (nuLt (.int b) (.int a)).map (fun c => if c = true then V.int b else V.int a) = some (.int (min a b))
    have e1 : nuLt (.int b) (.int a) = some (decide (b < a)) := rfl
    rw [e1]
    by_cases h : b < a
    · rw [decide_eq_true h, Int.min_eq_right (by omega)]; rfl
    · rw [decide_eq_false h, Int.min_eq_left (by omega)]; rfl
  unfold nuMin3
  rw [e i j]
  exact e _ k
theorem ps_try_never0 {body : List Stmt} {h₀ : ExceptHandler} {hs : List ExceptHandler} {pos : Pos} {t : TS} (hn : ∀ e s, ¬ X.xe e s) (hb : PSs X body t) : PS X (.Try body (h₀ :: hs) [] [] pos) (tThru t tNext) := ps_try_never hn hb pss_nil
theorem pe_gi {x : Str} {pos : Pos} {i : Int} {t : Tok} (hg : Gl X x) (hm : X.mg x = some (.int i t)) (hd : (x == ("__debug__" : Str)) = false := by decide) : PE X (.Name x pos) (tC (.int i)) := pe_glob hg hm ⟨_, rfl⟩ hd
theorem pe_gs {x : Str} {pos : Pos} {i : Str} {t : Tok} (hg : Gl X x) (hm : X.mg x = some (.str i t)) (hd : (x == ("__debug__" : Str)) = false := by decide) : PE X (.Name x pos) (tC (.str i)) := pe_glob hg hm ⟨_, rfl⟩ hd
theorem pe_gr {x : Str} {pos : Pos} {a : Addr} (hg : Gl X x) (hm : X.mg x = some (.ref a)) (hd : (x == ("__debug__" : Str)) = false := by decide) : PE X (.Name x pos) (tC (.ref a)) := pe_glob hg hm rfl hd
end
end Pp

set_option Elab.async false
set_option linter.all false
set_option autoImplicit false
set_option maxRecDepth 100000
set_option maxHeartbeats 4000000
namespace Pp
open PySem L2
def top (i : Nat) : Stmt := PySem.Challenge.pw_putpages_k00_whole_rows_of_leaves.main.body.getD i (.Pass ⟨0, 0, 0, 0⟩)
abbrev s_is_number : Stmt := top 10
abbrev N_is_number : List Str := ["thing"]
abbrev P_is_number : List Str := ["thing"]
theorem sc_is_number : FnScope N_is_number P_is_number (defScope s_is_number) := ⟨rfl, rfl, rfl, by decide +kernel, rfl, by decide +kernel, by decide +kernel⟩
abbrev s_is_index : Stmt := top 11
abbrev N_is_index : List Str := ["thing"]
abbrev P_is_index : List Str := ["thing"]
theorem sc_is_index : FnScope N_is_index P_is_index (defScope s_is_index) := ⟨rfl, rfl, rfl, by decide +kernel, rfl, by decide +kernel, by decide +kernel⟩
abbrev s_is_name : Stmt := top 12
abbrev N_is_name : List Str := ["thing", "sign"]
abbrev P_is_name : List Str := ["thing"]
theorem sc_is_name : FnScope N_is_name P_is_name (defScope s_is_name) := ⟨rfl, rfl, rfl, by decide +kernel, rfl, by decide +kernel, by decide +kernel⟩
abbrev s_is_tuple_of : Stmt := top 13
abbrev N_is_tuple_of : List Str := ["thing", "is_one", "one"]
abbrev P_is_tuple_of : List Str := ["thing", "is_one"]
theorem sc_is_tuple_of : FnScope N_is_tuple_of P_is_tuple_of (defScope s_is_tuple_of) := ⟨rfl, rfl, rfl, by decide +kernel, rfl, by decide +kernel, by decide +kernel⟩
abbrev s_is_sized : Stmt := top 14
abbrev N_is_sized : List Str := ["thing", "many"]
abbrev P_is_sized : List Str := ["thing", "many"]
theorem sc_is_sized : FnScope N_is_sized P_is_sized (defScope s_is_sized) := ⟨rfl, rfl, rfl, by decide +kernel, rfl, by decide +kernel, by decide +kernel⟩
abbrev s_is_node : Stmt := top 15
abbrev N_is_node : List Str := ["thing"]
abbrev P_is_node : List Str := ["thing"]
theorem sc_is_node : FnScope N_is_node P_is_node (defScope s_is_node) := ⟨rfl, rfl, rfl, by decide +kernel, rfl, by decide +kernel, by decide +kernel⟩
abbrev s_are_nodes : Stmt := top 16
abbrev N_are_nodes : List Str := ["thing"]
abbrev P_are_nodes : List Str := ["thing"]
theorem sc_are_nodes : FnScope N_are_nodes P_are_nodes (defScope s_are_nodes) := ⟨rfl, rfl, rfl, by decide +kernel, rfl, by decide +kernel, by decide +kernel⟩
abbrev s_is_full : Stmt := top 18
abbrev N_is_full : List Str := ["nodes", "left", "tag", "many"]
abbrev P_is_full : List Str := ["nodes"]
theorem sc_is_full : FnScope N_is_full P_is_full (defScope s_is_full) := ⟨rfl, rfl, rfl, by decide +kernel, rfl, by decide +kernel, by decide +kernel⟩
abbrev s_is_row : Stmt := top 19
abbrev N_is_row : List Str := ["thing"]
abbrev P_is_row : List Str := ["thing"]
theorem sc_is_row : FnScope N_is_row P_is_row (defScope s_is_row) := ⟨rfl, rfl, rfl, by decide +kernel, rfl, by decide +kernel, by decide +kernel⟩
abbrev s_is_tree : Stmt := top 20
abbrev N_is_tree : List Str := ["thing"]
abbrev P_is_tree : List Str := ["thing"]
theorem sc_is_tree : FnScope N_is_tree P_is_tree (defScope s_is_tree) := ⟨rfl, rfl, rfl, by decide +kernel, rfl, by decide +kernel, by decide +kernel⟩
abbrev s_check_node : Stmt := top 21
abbrev N_check_node : List Str := ["row", "at"]
abbrev P_check_node : List Str := ["row", "at"]
theorem sc_check_node : FnScope N_check_node P_check_node (defScope s_check_node) := ⟨rfl, rfl, rfl, by decide +kernel, rfl, by decide +kernel, by decide +kernel⟩
abbrev s_end_of : Stmt := top 22
abbrev N_end_of : List Str := ["row", "at", "left", "here"]
abbrev P_end_of : List Str := ["row", "at"]
theorem sc_end_of : FnScope N_end_of P_end_of (defScope s_end_of) := ⟨rfl, rfl, rfl, by decide +kernel, rfl, by decide +kernel, by decide +kernel⟩
abbrev s_roots : Stmt := top 23
abbrev N_roots : List Str := ["row", "found", "at"]
abbrev P_roots : List Str := ["row"]
theorem sc_roots : FnScope N_roots P_roots (defScope s_roots) := ⟨rfl, rfl, rfl, by decide +kernel, rfl, by decide +kernel, by decide +kernel⟩
abbrev s_tree_at : Stmt := top 24
abbrev N_tree_at : List Str := ["row", "at"]
abbrev P_tree_at : List Str := ["row", "at"]
theorem sc_tree_at : FnScope N_tree_at P_tree_at (defScope s_tree_at) := ⟨rfl, rfl, rfl, by decide +kernel, rfl, by decide +kernel, by decide +kernel⟩
abbrev s_check_rows : Stmt := top 27
abbrev N_check_rows : List Str := ["one", "other"]
abbrev P_check_rows : List Str := ["one", "other"]
theorem sc_check_rows : FnScope N_check_rows P_check_rows (defScope s_check_rows) := ⟨rfl, rfl, rfl, by decide +kernel, rfl, by decide +kernel, by decide +kernel⟩
abbrev s_sizes_of : Stmt := top 28
abbrev N_sizes_of : List Str := ["row", "found", "line", "at", "its", "_child"]
abbrev P_sizes_of : List Str := ["row"]
theorem sc_sizes_of : FnScope N_sizes_of P_sizes_of (defScope s_sizes_of) := ⟨rfl, rfl, rfl, by decide +kernel, rfl, by decide +kernel, by decide +kernel⟩
abbrev s_least_sums : Stmt := top 29
abbrev N_least_sums : List Str := ["ones", "others", "between", "table", "j", "node", "size", "i", "one", "mine", "other", "its", "kept", "_row"]
abbrev P_least_sums : List Str := ["ones", "others", "between"]
theorem sc_least_sums : FnScope N_least_sums P_least_sums (defScope s_least_sums) := ⟨rfl, rfl, rfl, by decide +kernel, rfl, by decide +kernel, by decide +kernel⟩
abbrev s_inner_of : Stmt := top 30
abbrev N_inner_of : List Str := ["row", "found", "line", "at", "_child"]
abbrev P_inner_of : List Str := ["row"]
theorem sc_inner_of : FnScope N_inner_of P_inner_of (defScope s_inner_of) := ⟨rfl, rfl, rfl, by decide +kernel, rfl, by decide +kernel, by decide +kernel⟩
abbrev s_Distances___init__ : Stmt := inClass (top 31) 0
abbrev N_Distances___init__ : List Str := ["self", "one", "other", "levels", "ones", "others", "at", "to", "which"]
abbrev P_Distances___init__ : List Str := ["self", "one", "other"]
theorem sc_Distances___init__ : FnScope N_Distances___init__ P_Distances___init__ (defScope s_Distances___init__) := ⟨rfl, rfl, rfl, by decide +kernel, rfl, by decide +kernel, by decide +kernel⟩
abbrev s_Distances_below : Stmt := inClass (top 31) 1
abbrev N_Distances_below : List Str := ["self", "which", "numbers", "found", "at"]
abbrev P_Distances_below : List Str := ["self", "which", "numbers"]
theorem sc_Distances_below : FnScope N_Distances_below P_Distances_below (defScope s_Distances_below) := ⟨rfl, rfl, rfl, by decide +kernel, rfl, by decide +kernel, by decide +kernel⟩
abbrev s_Distances_with_sizes : Stmt := inClass (top 31) 2
abbrev N_Distances_with_sizes : List Str := ["self", "which", "numbers", "at"]
abbrev P_Distances_with_sizes : List Str := ["self", "which", "numbers"]
theorem sc_Distances_with_sizes : FnScope N_Distances_with_sizes P_Distances_with_sizes (defScope s_Distances_with_sizes) := ⟨rfl, rfl, rfl, by decide +kernel, rfl, by decide +kernel, by decide +kernel⟩
abbrev s_Distances_table : Stmt := inClass (top 31) 3
abbrev N_Distances_table : List Str := ["self", "ones", "others"]
abbrev P_Distances_table : List Str := ["self", "ones", "others"]
theorem sc_Distances_table : FnScope N_Distances_table P_Distances_table (defScope s_Distances_table) := ⟨rfl, rfl, rfl, by decide +kernel, rfl, by decide +kernel, by decide +kernel⟩
abbrev s_Distances_told : Stmt := inClass (top 31) 4
abbrev N_Distances_told : List Str := ["self", "at", "to", "turned"]
abbrev P_Distances_told : List Str := ["self", "at", "to"]
theorem sc_Distances_told : FnScope N_Distances_told P_Distances_told (defScope s_Distances_told) := ⟨rfl, rfl, rfl, by decide +kernel, rfl, by decide +kernel, by decide +kernel⟩
abbrev s_Distances_whole : Stmt := inClass (top 31) 5
abbrev N_Distances_whole : List Str := ["self"]
abbrev P_Distances_whole : List Str := ["self"]
theorem sc_Distances_whole : FnScope N_Distances_whole P_Distances_whole (defScope s_Distances_whole) := ⟨rfl, rfl, rfl, by decide +kernel, rfl, by decide +kernel, by decide +kernel⟩
abbrev s_row_distance : Stmt := top 32
abbrev N_row_distance : List Str := ["one", "other"]
abbrev P_row_distance : List Str := ["one", "other"]
theorem sc_row_distance : FnScope N_row_distance P_row_distance (defScope s_row_distance) := ⟨rfl, rfl, rfl, by decide +kernel, rfl, by decide +kernel, by decide +kernel⟩
abbrev s_tree_distance : Stmt := top 33
abbrev N_tree_distance : List Str := ["one", "other"]
abbrev P_tree_distance : List Str := ["one", "other"]
theorem sc_tree_distance : FnScope N_tree_distance P_tree_distance (defScope s_tree_distance) := ⟨rfl, rfl, rfl, by decide +kernel, rfl, by decide +kernel, by decide +kernel⟩
abbrev s_is_step : Stmt := top 37
abbrev N_is_step : List Str := ["thing"]
abbrev P_is_step : List Str := ["thing"]
theorem sc_is_step : FnScope N_is_step P_is_step (defScope s_is_step) := ⟨rfl, rfl, rfl, by decide +kernel, rfl, by decide +kernel, by decide +kernel⟩
abbrev s_is_way : Stmt := top 38
abbrev N_is_way : List Str := ["thing", "deep", "step", "one"]
abbrev P_is_way : List Str := ["thing"]
theorem sc_is_way : FnScope N_is_way P_is_way (defScope s_is_way) := ⟨rfl, rfl, rfl, by decide +kernel, rfl, by decide +kernel, by decide +kernel⟩
abbrev s_Going___init__ : Stmt := inClass (top 39) 0
abbrev N_Going___init__ : List Str := ["self", "row", "way", "step"]
abbrev P_Going___init__ : List Str := ["self", "row", "way"]
theorem sc_Going___init__ : FnScope N_Going___init__ P_Going___init__ (defScope s_Going___init__) := ⟨rfl, rfl, rfl, by decide +kernel, rfl, by decide +kernel, by decide +kernel⟩
abbrev s_Going_go : Stmt := inClass (top 39) 1
abbrev N_Going_go : List Str := ["self", "step"]
abbrev P_Going_go : List Str := ["self", "step"]
theorem sc_Going_go : FnScope N_Going_go P_Going_go (defScope s_Going_go) := ⟨rfl, rfl, rfl, by decide +kernel, rfl, by decide +kernel, by decide +kernel⟩
abbrev s_Going_count : Stmt := inClass (top 39) 2
abbrev N_Going_count : List Str := ["self", "at"]
abbrev P_Going_count : List Str := ["self"]
theorem sc_Going_count : FnScope N_Going_count P_Going_count (defScope s_Going_count) := ⟨rfl, rfl, rfl, by decide +kernel, rfl, by decide +kernel, by decide +kernel⟩
abbrev s_Going_put_in : Stmt := inClass (top 39) 3
abbrev N_Going_put_in : List Str := ["self", "tree", "tag", "many"]
abbrev P_Going_put_in : List Str := ["self", "tree"]
theorem sc_Going_put_in : FnScope N_Going_put_in P_Going_put_in (defScope s_Going_put_in) := ⟨rfl, rfl, rfl, by decide +kernel, rfl, by decide +kernel, by decide +kernel⟩
abbrev s_Going_keep : Stmt := inClass (top 39) 4
abbrev N_Going_keep : List Str := ["self", "at", "step", "tag"]
abbrev P_Going_keep : List Str := ["self", "at", "step"]
theorem sc_Going_keep : FnScope N_Going_keep P_Going_keep (defScope s_Going_keep) := ⟨rfl, rfl, rfl, by decide +kernel, rfl, by decide +kernel, by decide +kernel⟩
abbrev s_Going_behind : Stmt := inClass (top 39) 5
abbrev N_Going_behind : List Str := ["self"]
abbrev P_Going_behind : List Str := ["self"]
theorem sc_Going_behind : FnScope N_Going_behind P_Going_behind (defScope s_Going_behind) := ⟨rfl, rfl, rfl, by decide +kernel, rfl, by decide +kernel, by decide +kernel⟩
abbrev s_going : Stmt := top 40
abbrev N_going : List Str := ["row", "way"]
abbrev P_going : List Str := ["row", "way"]
theorem sc_going : FnScope N_going P_going (defScope s_going) := ⟨rfl, rfl, rfl, by decide +kernel, rfl, by decide +kernel, by decide +kernel⟩
abbrev s_gone : Stmt := top 41
abbrev N_gone : List Str := ["row", "way"]
abbrev P_gone : List Str := ["row", "way"]
theorem sc_gone : FnScope N_gone P_gone (defScope s_gone) := ⟨rfl, rfl, rfl, by decide +kernel, rfl, by decide +kernel, by decide +kernel⟩
abbrev s_cost_of : Stmt := top 42
abbrev N_cost_of : List Str := ["row", "way"]
abbrev P_cost_of : List Str := ["row", "way"]
theorem sc_cost_of : FnScope N_cost_of P_cost_of (defScope s_cost_of) := ⟨rfl, rfl, rfl, by decide +kernel, rfl, by decide +kernel, by decide +kernel⟩
abbrev s_turned_back : Stmt := top 43
abbrev N_turned_back : List Str := ["row", "way"]
abbrev P_turned_back : List Str := ["row", "way"]
theorem sc_turned_back : FnScope N_turned_back P_turned_back (defScope s_turned_back) := ⟨rfl, rfl, rfl, by decide +kernel, rfl, by decide +kernel, by decide +kernel⟩
abbrev s_moves_between : Stmt := top 44
abbrev N_moves_between : List Str := ["distances", "ones", "others", "table", "i", "j", "found", "here"]
abbrev P_moves_between : List Str := ["distances", "ones", "others"]
theorem sc_moves_between : FnScope N_moves_between P_moves_between (defScope s_moves_between) := ⟨rfl, rfl, rfl, by decide +kernel, rfl, by decide +kernel, by decide +kernel⟩
abbrev s_steps_between : Stmt := top 45
abbrev N_steps_between : List Str := ["distances", "ones", "others", "one", "other", "found", "waiting", "move", "at", "to"]
abbrev P_steps_between : List Str := ["distances", "ones", "others"]
theorem sc_steps_between : FnScope N_steps_between P_steps_between (defScope s_steps_between) := ⟨rfl, rfl, rfl, by decide +kernel, rfl, by decide +kernel, by decide +kernel⟩
abbrev s_way_of : Stmt := top 46
abbrev N_way_of : List Str := ["one", "other"]
abbrev P_way_of : List Str := ["one", "other"]
theorem sc_way_of : FnScope N_way_of P_way_of (defScope s_way_of) := ⟨rfl, rfl, rfl, by decide +kernel, rfl, by decide +kernel, by decide +kernel⟩
abbrev s_is_least_way : Stmt := top 47
abbrev N_is_least_way : List Str := ["one", "other", "thing", "least", "its"]
abbrev P_is_least_way : List Str := ["one", "other", "thing"]
theorem sc_is_least_way : FnScope N_is_least_way P_is_least_way (defScope s_is_least_way) := ⟨rfl, rfl, rfl, by decide +kernel, rfl, by decide +kernel, by decide +kernel⟩
abbrev s__law_bag : Stmt := top 49
abbrev N__law_bag : List Str := ["script", "cell"]
abbrev P__law_bag : List Str := ["script"]
theorem sc__law_bag : FnScope N__law_bag P__law_bag (defScope s__law_bag) := ⟨rfl, rfl, rfl, by decide +kernel, rfl, by decide +kernel, by decide +kernel⟩
abbrev s__law_take : Stmt := top 50
abbrev N__law_take : List Str := ["bag", "many", "cell", "stirred", "value", "begin", "second"]
abbrev P__law_take : List Str := ["bag", "many"]
theorem sc__law_take : FnScope N__law_take P__law_take (defScope s__law_take) := ⟨rfl, rfl, rfl, by decide +kernel, rfl, by decide +kernel, by decide +kernel⟩
abbrev s__law_some : Stmt := top 51
abbrev N__law_some : List Str := ["bag", "things"]
abbrev P__law_some : List Str := ["bag", "things"]
theorem sc__law_some : FnScope N__law_some P__law_some (defScope s__law_some) := ⟨rfl, rfl, rfl, by decide +kernel, rfl, by decide +kernel, by decide +kernel⟩
abbrev s__law_words : Stmt := top 52
abbrev N__law_words : List Str := ["one", "other", "line", "i", "letter", "later", "j", "its"]
abbrev P__law_words : List Str := ["one", "other"]
theorem sc__law_words : FnScope N__law_words P__law_words (defScope s__law_words) := ⟨rfl, rfl, rfl, by decide +kernel, rfl, by decide +kernel, by decide +kernel⟩
abbrev s__law_leaves : Stmt := top 53
abbrev N__law_leaves : List Str := ["word", "tag"]
abbrev P__law_leaves : List Str := ["word"]
theorem sc__law_leaves : FnScope N__law_leaves P__law_leaves (defScope s__law_leaves) := ⟨rfl, rfl, rfl, by decide +kernel, rfl, by decide +kernel, by decide +kernel⟩
abbrev s_law : Stmt := top 54
abbrev N_law : List Str := ["script", "bag", "tags", "one", "other", "due", "mine", "its", "way", "back", "hand", "many", "kept", "k", "cost", "strange", "above", "first", "tag", "second", "far", "more", "node"]
abbrev P_law : List Str := ["script"]
theorem sc_law : FnScope N_law P_law (defScope s_law) := ⟨rfl, rfl, rfl, by decide +kernel, rfl, by decide +kernel, by decide +kernel⟩
structure Txt (K : PySem.W.Frag) (mg : Str → Option Value) where
  c_Distances : Addr
  m_Distances : mg "Distances" = some (.ref c_Distances)
  cl_Distances : Cls K c_Distances
  na_Distances_rows : NoAttr K c_Distances "rows"
  na_Distances_sizes : NoAttr K c_Distances "sizes"
  na_Distances_inner : NoAttr K c_Distances "inner"
  na_Distances_between : NoAttr K c_Distances "between"
  c_Going : Addr
  m_Going : mg "Going" = some (.ref c_Going)
  cl_Going : Cls K c_Going
  na_Going_row : NoAttr K c_Going "row"
  na_Going_inner : NoAttr K c_Going "inner"
  na_Going_sizes : NoAttr K c_Going "sizes"
  na_Going_cost : NoAttr K c_Going "cost"
  na_Going_back : NoAttr K c_Going "back"
  na_Going_tags : NoAttr K c_Going "tags"
  na_Going_counts : NoAttr K c_Going "counts"
  na_Going_frames : NoAttr K c_Going "frames"
  a_is_number : Addr
  d_is_number : FuncData
  F_is_number : Fun K "is_number" "is_number" s_is_number a_is_number d_is_number
  b_is_number : Binds K d_is_number P_is_number []
  m_is_number : mg "is_number" = some (.ref a_is_number)
  a_is_index : Addr
  d_is_index : FuncData
  F_is_index : Fun K "is_index" "is_index" s_is_index a_is_index d_is_index
  b_is_index : Binds K d_is_index P_is_index []
  m_is_index : mg "is_index" = some (.ref a_is_index)
  a_is_name : Addr
  d_is_name : FuncData
  F_is_name : Fun K "is_name" "is_name" s_is_name a_is_name d_is_name
  b_is_name : Binds K d_is_name P_is_name []
  m_is_name : mg "is_name" = some (.ref a_is_name)
  a_is_tuple_of : Addr
  d_is_tuple_of : FuncData
  F_is_tuple_of : Fun K "is_tuple_of" "is_tuple_of" s_is_tuple_of a_is_tuple_of d_is_tuple_of
  b_is_tuple_of : Binds K d_is_tuple_of P_is_tuple_of []
  m_is_tuple_of : mg "is_tuple_of" = some (.ref a_is_tuple_of)
  a_is_sized : Addr
  d_is_sized : FuncData
  F_is_sized : Fun K "is_sized" "is_sized" s_is_sized a_is_sized d_is_sized
  b_is_sized : Binds K d_is_sized P_is_sized []
  m_is_sized : mg "is_sized" = some (.ref a_is_sized)
  a_is_node : Addr
  d_is_node : FuncData
  F_is_node : Fun K "is_node" "is_node" s_is_node a_is_node d_is_node
  b_is_node : Binds K d_is_node P_is_node []
  m_is_node : mg "is_node" = some (.ref a_is_node)
  a_are_nodes : Addr
  d_are_nodes : FuncData
  F_are_nodes : Fun K "are_nodes" "are_nodes" s_are_nodes a_are_nodes d_are_nodes
  b_are_nodes : Binds K d_are_nodes P_are_nodes []
  m_are_nodes : mg "are_nodes" = some (.ref a_are_nodes)
  a_is_full : Addr
  d_is_full : FuncData
  F_is_full : Fun K "is_full" "is_full" s_is_full a_is_full d_is_full
  b_is_full : Binds K d_is_full P_is_full []
  m_is_full : mg "is_full" = some (.ref a_is_full)
  a_is_row : Addr
  d_is_row : FuncData
  F_is_row : Fun K "is_row" "is_row" s_is_row a_is_row d_is_row
  b_is_row : Binds K d_is_row P_is_row []
  m_is_row : mg "is_row" = some (.ref a_is_row)
  a_is_tree : Addr
  d_is_tree : FuncData
  F_is_tree : Fun K "is_tree" "is_tree" s_is_tree a_is_tree d_is_tree
  b_is_tree : Binds K d_is_tree P_is_tree []
  m_is_tree : mg "is_tree" = some (.ref a_is_tree)
  a_check_node : Addr
  d_check_node : FuncData
  F_check_node : Fun K "check_node" "check_node" s_check_node a_check_node d_check_node
  b_check_node : Binds K d_check_node P_check_node []
  m_check_node : mg "check_node" = some (.ref a_check_node)
  a_end_of : Addr
  d_end_of : FuncData
  F_end_of : Fun K "end_of" "end_of" s_end_of a_end_of d_end_of
  b_end_of : Binds K d_end_of P_end_of []
  m_end_of : mg "end_of" = some (.ref a_end_of)
  a_roots : Addr
  d_roots : FuncData
  F_roots : Fun K "roots" "roots" s_roots a_roots d_roots
  b_roots : Binds K d_roots P_roots []
  m_roots : mg "roots" = some (.ref a_roots)
  a_tree_at : Addr
  d_tree_at : FuncData
  F_tree_at : Fun K "tree_at" "tree_at" s_tree_at a_tree_at d_tree_at
  b_tree_at : Binds K d_tree_at P_tree_at []
  m_tree_at : mg "tree_at" = some (.ref a_tree_at)
  a_check_rows : Addr
  d_check_rows : FuncData
  F_check_rows : Fun K "check_rows" "check_rows" s_check_rows a_check_rows d_check_rows
  b_check_rows : Binds K d_check_rows P_check_rows []
  m_check_rows : mg "check_rows" = some (.ref a_check_rows)
  a_sizes_of : Addr
  d_sizes_of : FuncData
  F_sizes_of : Fun K "sizes_of" "sizes_of" s_sizes_of a_sizes_of d_sizes_of
  b_sizes_of : Binds K d_sizes_of P_sizes_of []
  m_sizes_of : mg "sizes_of" = some (.ref a_sizes_of)
  a_least_sums : Addr
  d_least_sums : FuncData
  F_least_sums : Fun K "least_sums" "least_sums" s_least_sums a_least_sums d_least_sums
  b_least_sums : Binds K d_least_sums P_least_sums []
  m_least_sums : mg "least_sums" = some (.ref a_least_sums)
  a_inner_of : Addr
  d_inner_of : FuncData
  F_inner_of : Fun K "inner_of" "inner_of" s_inner_of a_inner_of d_inner_of
  b_inner_of : Binds K d_inner_of P_inner_of []
  m_inner_of : mg "inner_of" = some (.ref a_inner_of)
  a_Distances___init__ : Addr
  d_Distances___init__ : FuncData
  F_Distances___init__ : Fun K "__init__" "Distances.__init__" s_Distances___init__ a_Distances___init__ d_Distances___init__
  b_Distances___init__ : Binds K d_Distances___init__ P_Distances___init__ []
  mk_Distances : Mk K c_Distances a_Distances___init__
  a_Distances_below : Addr
  d_Distances_below : FuncData
  F_Distances_below : Fun K "below" "Distances.below" s_Distances_below a_Distances_below d_Distances_below
  b_Distances_below : Binds K d_Distances_below P_Distances_below []
  M_Distances_below : Meth K c_Distances "below" a_Distances_below
  a_Distances_with_sizes : Addr
  d_Distances_with_sizes : FuncData
  F_Distances_with_sizes : Fun K "with_sizes" "Distances.with_sizes" s_Distances_with_sizes a_Distances_with_sizes d_Distances_with_sizes
  b_Distances_with_sizes : Binds K d_Distances_with_sizes P_Distances_with_sizes []
  M_Distances_with_sizes : Meth K c_Distances "with_sizes" a_Distances_with_sizes
  a_Distances_table : Addr
  d_Distances_table : FuncData
  F_Distances_table : Fun K "table" "Distances.table" s_Distances_table a_Distances_table d_Distances_table
  b_Distances_table : Binds K d_Distances_table P_Distances_table []
  M_Distances_table : Meth K c_Distances "table" a_Distances_table
  a_Distances_told : Addr
  d_Distances_told : FuncData
  F_Distances_told : Fun K "told" "Distances.told" s_Distances_told a_Distances_told d_Distances_told
  b_Distances_told : Binds K d_Distances_told P_Distances_told []
  M_Distances_told : Meth K c_Distances "told" a_Distances_told
  a_Distances_whole : Addr
  d_Distances_whole : FuncData
  F_Distances_whole : Fun K "whole" "Distances.whole" s_Distances_whole a_Distances_whole d_Distances_whole
  b_Distances_whole : Binds K d_Distances_whole P_Distances_whole []
  M_Distances_whole : Meth K c_Distances "whole" a_Distances_whole
  a_row_distance : Addr
  d_row_distance : FuncData
  F_row_distance : Fun K "row_distance" "row_distance" s_row_distance a_row_distance d_row_distance
  b_row_distance : Binds K d_row_distance P_row_distance []
  m_row_distance : mg "row_distance" = some (.ref a_row_distance)
  a_tree_distance : Addr
  d_tree_distance : FuncData
  F_tree_distance : Fun K "tree_distance" "tree_distance" s_tree_distance a_tree_distance d_tree_distance
  b_tree_distance : Binds K d_tree_distance P_tree_distance []
  m_tree_distance : mg "tree_distance" = some (.ref a_tree_distance)
  a_is_step : Addr
  d_is_step : FuncData
  F_is_step : Fun K "is_step" "is_step" s_is_step a_is_step d_is_step
  b_is_step : Binds K d_is_step P_is_step []
  m_is_step : mg "is_step" = some (.ref a_is_step)
  a_is_way : Addr
  d_is_way : FuncData
  F_is_way : Fun K "is_way" "is_way" s_is_way a_is_way d_is_way
  b_is_way : Binds K d_is_way P_is_way []
  m_is_way : mg "is_way" = some (.ref a_is_way)
  a_Going___init__ : Addr
  d_Going___init__ : FuncData
  F_Going___init__ : Fun K "__init__" "Going.__init__" s_Going___init__ a_Going___init__ d_Going___init__
  b_Going___init__ : Binds K d_Going___init__ P_Going___init__ []
  mk_Going : Mk K c_Going a_Going___init__
  a_Going_go : Addr
  d_Going_go : FuncData
  F_Going_go : Fun K "go" "Going.go" s_Going_go a_Going_go d_Going_go
  b_Going_go : Binds K d_Going_go P_Going_go []
  M_Going_go : Meth K c_Going "go" a_Going_go
  a_Going_count : Addr
  d_Going_count : FuncData
  F_Going_count : Fun K "count" "Going.count" s_Going_count a_Going_count d_Going_count
  b_Going_count : Binds K d_Going_count P_Going_count []
  M_Going_count : Meth K c_Going "count" a_Going_count
  a_Going_put_in : Addr
  d_Going_put_in : FuncData
  F_Going_put_in : Fun K "put_in" "Going.put_in" s_Going_put_in a_Going_put_in d_Going_put_in
  b_Going_put_in : Binds K d_Going_put_in P_Going_put_in []
  M_Going_put_in : Meth K c_Going "put_in" a_Going_put_in
  a_Going_keep : Addr
  d_Going_keep : FuncData
  F_Going_keep : Fun K "keep" "Going.keep" s_Going_keep a_Going_keep d_Going_keep
  b_Going_keep : Binds K d_Going_keep P_Going_keep []
  M_Going_keep : Meth K c_Going "keep" a_Going_keep
  a_Going_behind : Addr
  d_Going_behind : FuncData
  F_Going_behind : Fun K "behind" "Going.behind" s_Going_behind a_Going_behind d_Going_behind
  b_Going_behind : Binds K d_Going_behind P_Going_behind []
  M_Going_behind : Meth K c_Going "behind" a_Going_behind
  a_going : Addr
  d_going : FuncData
  F_going : Fun K "going" "going" s_going a_going d_going
  b_going : Binds K d_going P_going []
  m_going : mg "going" = some (.ref a_going)
  a_gone : Addr
  d_gone : FuncData
  F_gone : Fun K "gone" "gone" s_gone a_gone d_gone
  b_gone : Binds K d_gone P_gone []
  m_gone : mg "gone" = some (.ref a_gone)
  a_cost_of : Addr
  d_cost_of : FuncData
  F_cost_of : Fun K "cost_of" "cost_of" s_cost_of a_cost_of d_cost_of
  b_cost_of : Binds K d_cost_of P_cost_of []
  m_cost_of : mg "cost_of" = some (.ref a_cost_of)
  a_turned_back : Addr
  d_turned_back : FuncData
  F_turned_back : Fun K "turned_back" "turned_back" s_turned_back a_turned_back d_turned_back
  b_turned_back : Binds K d_turned_back P_turned_back []
  m_turned_back : mg "turned_back" = some (.ref a_turned_back)
  a_moves_between : Addr
  d_moves_between : FuncData
  F_moves_between : Fun K "moves_between" "moves_between" s_moves_between a_moves_between d_moves_between
  b_moves_between : Binds K d_moves_between P_moves_between []
  m_moves_between : mg "moves_between" = some (.ref a_moves_between)
  a_steps_between : Addr
  d_steps_between : FuncData
  F_steps_between : Fun K "steps_between" "steps_between" s_steps_between a_steps_between d_steps_between
  b_steps_between : Binds K d_steps_between P_steps_between []
  m_steps_between : mg "steps_between" = some (.ref a_steps_between)
  a_way_of : Addr
  d_way_of : FuncData
  F_way_of : Fun K "way_of" "way_of" s_way_of a_way_of d_way_of
  b_way_of : Binds K d_way_of P_way_of []
  m_way_of : mg "way_of" = some (.ref a_way_of)
  a_is_least_way : Addr
  d_is_least_way : FuncData
  F_is_least_way : Fun K "is_least_way" "is_least_way" s_is_least_way a_is_least_way d_is_least_way
  b_is_least_way : Binds K d_is_least_way P_is_least_way []
  m_is_least_way : mg "is_least_way" = some (.ref a_is_least_way)
  a__law_bag : Addr
  d__law_bag : FuncData
  F__law_bag : Fun K "_law_bag" "_law_bag" s__law_bag a__law_bag d__law_bag
  b__law_bag : Binds K d__law_bag P__law_bag []
  m__law_bag : mg "_law_bag" = some (.ref a__law_bag)
  a__law_take : Addr
  d__law_take : FuncData
  F__law_take : Fun K "_law_take" "_law_take" s__law_take a__law_take d__law_take
  b__law_take : Binds K d__law_take P__law_take []
  m__law_take : mg "_law_take" = some (.ref a__law_take)
  a__law_some : Addr
  d__law_some : FuncData
  F__law_some : Fun K "_law_some" "_law_some" s__law_some a__law_some d__law_some
  b__law_some : Binds K d__law_some P__law_some []
  m__law_some : mg "_law_some" = some (.ref a__law_some)
  a__law_words : Addr
  d__law_words : FuncData
  F__law_words : Fun K "_law_words" "_law_words" s__law_words a__law_words d__law_words
  b__law_words : Binds K d__law_words P__law_words []
  m__law_words : mg "_law_words" = some (.ref a__law_words)
  a__law_leaves : Addr
  d__law_leaves : FuncData
  F__law_leaves : Fun K "_law_leaves" "_law_leaves" s__law_leaves a__law_leaves d__law_leaves
  b__law_leaves : Binds K d__law_leaves P__law_leaves []
  m__law_leaves : mg "_law_leaves" = some (.ref a__law_leaves)
  a_law : Addr
  d_law : FuncData
  F_law : Fun K "law" "law" s_law a_law d_law
  b_law : Binds K d_law P_law []
  m_law : mg "law" = some (.ref a_law)
  n_abs : mg "abs" = none
  n_all : mg "all" = none
  n_bool : mg "bool" = none
  n_enumerate : mg "enumerate" = none
  n_int : mg "int" = none
  n_isinstance : mg "isinstance" = none
  n_len : mg "len" = none
  n_list : mg "list" = none
  n_max : mg "max" = none
  n_min : mg "min" = none
  n_range : mg "range" = none
  n_str : mg "str" = none
  n_sum : mg "sum" = none
  n_tuple : mg "tuple" = none
  n_zip : mg "zip" = none
  t_LETTERS : Tok
  m_LETTERS : mg "LETTERS" = some (.str "abcdefghijklmnopqrstuvwxyz" t_LETTERS)
  t_DIGITS : Tok
  m_DIGITS : mg "DIGITS" = some (.str "0123456789" t_DIGITS)
  t_MOST_LETTERS : Tok
  m_MOST_LETTERS : mg "MOST_LETTERS" = some (.int 8 t_MOST_LETTERS)
  a_RESERVED : Addr
  m_RESERVED : mg "RESERVED" = some (.ref a_RESERVED)
  q_RESERVED : ∃ o its n, List.lookup a_RESERVED K = some o ∧ o.cls = Value.type "tuple" ∧ o.data = Data.seq its n ∧ its.size ≤ sizeLine ∧ Vals [.str "all", .str "any", .str "apply", .str "else", .str "first", .str "has", .str "if", .str "in", .str "last", .str "mode", .str "none", .str "of", .str "one", .str "or", .str "page", .str "root", .str "rule", .str "some", .str "tag", .str "text", .str "then"] its.toList
  t_MOST_COUPLES : Tok
  m_MOST_COUPLES : mg "MOST_COUPLES" = some (.int 100000 t_MOST_COUPLES)
  a_OUT : Addr
  m_OUT : mg "OUT" = some (.ref a_OUT)
  q_OUT : ∃ o its n, List.lookup a_OUT K = some o ∧ o.cls = Value.type "tuple" ∧ o.data = Data.seq its n ∧ its.size ≤ sizeLine ∧ Vals [.str "out"] its.toList
  a_UP : Addr
  m_UP : mg "UP" = some (.ref a_UP)
  q_UP : ∃ o its n, List.lookup a_UP K = some o ∧ o.cls = Value.type "tuple" ∧ o.data = Data.seq its n ∧ its.size ≤ sizeLine ∧ Vals [.str "up"] its.toList
end Pp

set_option Elab.async false
set_option linter.all false
set_option autoImplicit false
set_option maxRecDepth 100000
set_option maxHeartbeats 4000000
namespace Pp
open PySem PySem.Spec L2
variable {P : Program} {w : World} {K : PySem.W.Frag} {mg : Str → Option Value} {base : Heap}
theorem pe_te {X : Cx} {e : Expr} {t t' : TE} (h : PE X e t') (ht : t = t') : PE X e t := ht ▸ h
theorem pts_te {X : Cx} {e : List Expr} {t t' : TT} (h : PTs X e t') (ht : t = t') : PTs X e t := ht ▸ h
/-! ### forms -/
def lettersL : List Nat := ("abcdefghijklmnopqrstuvwxyz" : Str).cps.toList
def digitsL : List Nat := ("0123456789" : Str).cps.toList
def resL : List Str := ["all", "any", "apply", "else", "first", "has", "if", "in", "last", "mode", "none", "of", "one", "or", "page", "root", "rule", "some", "tag", "text", "then"]
def isName (x : Str) : Bool :=
  (decide (1 ≤ x.length) && decide (x.length ≤ 8)) && (match x.cps.toList with | [] => false | c :: _ => decide (c ∈ lettersL)) && !(resL.contains x) && x.cps.toList.all (fun c => decide (c ∈ lettersL ++ digitsL))
abbrev Nd := Str × Nat
def ndD (n : Nd) : PyData := .tuple [.str n.1, .int (n.2 : Nat)]
def rowD (r : List Nd) : PyData := .tuple (r.map ndD)
section
variable {K : PySem.W.Frag}
theorem k_ii : PySem.W.kitOne K (.type "int") (.type "int") = some true := kit_ty (by decide +kernel)
theorem k_ib : PySem.W.kitOne K (.type "int") (.type "bool") = some false := kit_ty (by decide +kernel)
theorem k_ss : PySem.W.kitOne K (.type "str") (.type "str") = some true := kit_ty (by decide +kernel)
theorem k_tt : PySem.W.kitOne K (.type "tuple") (.type "tuple") = some true := kit_ty (by decide +kernel)
end
def sp_is_number (T : Txt K mg) : Sp := fun vs H Q _ => ∃ (i : Int), vs = [.int i] ∧ Q (.bl true) H
theorem ok_is_number (T : Txt K mg) : FnOk P w K mg base CX0 1 T.a_is_number T.d_is_number P_is_number (sp_is_number T) := by
  refine T.F_is_number.ok sc_is_number (fun vs H Q E h => ?_) (fun cdv A outer s H vs Q E hr h => ?_)
  · obtain ⟨i, rfl, k⟩ := h
    rfl
  · obtain ⟨i, rfl, k⟩ := h
    refine ⟨_, (pss_one (ps_ret (pe_and (pe_callB call_isi (by rfl) T.n_isinstance (by decide +kernel) (pa_cons (pv 0) (pa_cons (pe_bltn (v := .ty "int") (by rfl) T.n_int (by decide +kernel) rfl) pa_nil))) (pe_one (pe_not (pe_callB call_isi (by rfl) T.n_isinstance (by decide +kernel) (pa_cons (pv 0) (pa_cons (pe_bltn (v := .ty "bool") (by rfl) T.n_bool (by decide +kernel) rfl) pa_nil)))))))), ?_⟩
    refine ⟨_, rfl, _, _, _, _, _, rfl, .ty _, .base (.int _), k_ii, ?_⟩
    refine ⟨_, rfl, iteT ?_⟩
    refine ⟨_, rfl, _, _, _, _, _, rfl, .ty _, .base (.int _), k_ib, ?_⟩
    exact ⟨_, rfl, k⟩
def sp_is_index (T : Txt K mg) : Sp := fun vs H Q _ => ∃ (i : Int), vs = [.int i] ∧ Q (.bl (decide (0 ≤ i))) H
theorem ok_is_index (T : Txt K mg) : FnOk P w K mg base CX0 2 T.a_is_index T.d_is_index P_is_index (sp_is_index T) := by
  have G_is_number := ok_is_number (P := P) (w := w) (base := base) T
  refine T.F_is_index.ok sc_is_index (fun vs H Q E h => ?_) (fun cdv A outer s H vs Q E hr h => ?_)
  · obtain ⟨i, rfl, k⟩ := h
    rfl
  · obtain ⟨i, rfl, k⟩ := h
    refine ⟨_, (pss_one (ps_ret (pe_and (pe_call G_is_number (hr.mono (by decide)) (by rfl) T.m_is_number T.F_is_number.kp T.b_is_number .nil pass0 (pa_cons (pv 0) pa_nil)) (pe_one (pe_cmpR op_ge (pv 0) pe_int (nomark _)))))), ?_⟩
    refine ⟨_, rfl, i, rfl, ?_⟩
    refine ⟨_, rfl, iteT ?_⟩
    exact ⟨_, rfl, _, _, rfl, rfl, k⟩
def sp_is_sized (T : Txt K mg) : Sp := fun vs H Q _ => ∃ (v : V) (m : Int) (ds : List PyData), vs = [v, .int m] ∧ Dp K H v (.tuple ds) ∧ Q (.bl (decide (((ds.length : Nat) : Int) = m))) H
theorem tyx_tup {H : Hp} {a : Addr} {xs : List V} (h : SqT K H a xs) : TyX K H (.ref a) (.type "tuple") := by
  rcases h with (h | ⟨o, h⟩) | ⟨o, its, n, h1, h2, _⟩
  · exact .base (.tup h)
  · exact .fTuple h
  · exact .kTuple h1 h2
theorem ok_is_sized (T : Txt K mg) : FnOk P w K mg base CX0 1 T.a_is_sized T.d_is_sized P_is_sized (sp_is_sized T) := by
  refine T.F_is_sized.ok sc_is_sized (fun vs H Q E h => ?_) (fun cdv A outer s H vs Q E hr h => ?_)
  · obtain ⟨v, m, ds, rfl, hv, k⟩ := h
    rfl
  · obtain ⟨v, m, ds, rfl, hv, k⟩ := h
    refine ⟨_, (pss_one (ps_ret (pe_and (pe_callB call_isi (by rfl) T.n_isinstance (by decide +kernel) (pa_cons (pv 0) (pa_cons (pe_bltn (v := .ty "tuple") (by rfl) T.n_tuple (by decide +kernel) rfl) pa_nil))) (pe_one (pe_cmpR op_eq (pe_callB call_len_seq (by rfl) T.n_len (by decide +kernel) (pa_cons (pv 0) pa_nil)) (pv 1) (nomark _)))))), ?_⟩
    obtain ⟨a, xs, rfl, ha, hd⟩ := dp_tup hv
    refine ⟨_, rfl, _, _, _, _, _, rfl, .ty _, tyx_tup ha, k_tt, ?_⟩
    refine ⟨_, rfl, iteT ?_⟩
    refine ⟨_, rfl, a, xs, rfl, .inr ha, _, rfl, rfl, ?_⟩
    have e : decide (V.int ((xs.length : Nat) : Int) = V.int m) = decide (((ds.length : Nat) : Int) = m) := by
      rw [← dpa_len hd]
      exact decide_eq_decide.mpr ⟨fun h => V.int.inj h, fun h => congrArg V.int h⟩
    rw [e]
    exact k

end Pp

set_option Elab.async false
set_option linter.all false
set_option autoImplicit false
set_option maxRecDepth 100000
set_option maxHeartbeats 4000000
namespace Pp
open PySem PySem.Spec L2
variable {P : Program} {w : World} {K : PySem.W.Frag} {mg : Str → Option Value} {base : Heap}
def sp_is_name (T : Txt K mg) : Sp := fun vs H Q _ => ∃ (x : Str), vs = [.str x] ∧ x.length ≤ sizeLine ∧ ∀ H', Same H H' → Q (.bl (isName x)) H'
theorem lettersL_eq : ("abcdefghijklmnopqrstuvwxyz" : Str).cps.toList = lettersL := rfl
theorem resV : (resL.map V.str).all flatV = true := by decide +kernel
theorem inV_str (x : Str) : ∀ l : List Str, inV (.str x) (l.map V.str) = l.contains x
  | [] => rfl
  | y :: l => by
    have ih := inV_str x l
    have e : eqV (.str y) (.str x) = (x == y) := by
      show (y == x) = (x == y)
      by_cases h : x = y
      · subst h; rfl
      · have h1 : (x == y) = false := beq_eq_false_iff_ne.mpr h
        have h2 : (y == x) = false := beq_eq_false_iff_ne.mpr (fun z => h z.symm)
        rw [h1, h2]
    show (eqV (.str y) (.str x) || inV (.str x) (l.map V.str)) = _
    rw [e, ih]
    rfl
theorem atI0 {x : Str} {c : Nat} {l : List Nat} (h : x.cps.toList = c :: l) : atI x.cps.toList 0 = some c := by
  rw [h]
  unfold atI ixN
  rw [if_pos (by decide), if_pos (by rw [List.length_cons]; omega)]
  rfl
theorem all_append_one {α : Type} (f : α → Bool) (l : List α) (x : α) : (l ++ [x]).map f = l.map f ++ [f x] := by simp
theorem one_sign (c : Nat) : (⟨#[c]⟩ : Str).cps.toList = [c] := rfl
theorem ok_is_name (T : Txt K mg) : FnOk P w K mg base CX0 1 T.a_is_name T.d_is_name P_is_name (sp_is_name T) := by
  refine T.F_is_name.ok sc_is_name (fun vs H Q E h => ?_) (fun cdv A outer s H vs Q E hr h => ?_)
  · obtain ⟨x, rfl, hz, k⟩ := h
    rfl
  · obtain ⟨x, rfl, hz, k⟩ := h
    refine ⟨_, (pss_cons (ps_if (PW.pt (pw_or (pt_not (pt_val (pe_callB call_isi (by rfl) T.n_isinstance (by decide +kernel) (pa_cons (pv 0) (pa_cons (pe_bltn (v := .ty "str") (by rfl) T.n_str (by decide +kernel) rfl) pa_nil))))) (pw_or1 (pt_not (pt_chain op_le op_le pe_int (pe_callB call_len_str (by rfl) T.n_len (by decide +kernel) (pa_cons (pv 0) pa_nil)) (pe_gi rfl T.m_MOST_LETTERS)))))) (pss_one (ps_ret pe_bl)) pss_nil)
      (pss_cons (ps_if (PW.pt (pw_or (pt_cmpR op_notInS (pe_ix ix_str (pv 0) pe_int (fun _ _ => rfl)) (pe_gs rfl T.m_LETTERS) (by rfl)) (pw_or1 (pt_cmpR op_in_seq (pv 0) (pe_gr rfl T.m_RESERVED) (by rfl))))) (pss_one (ps_ret pe_bl)) pss_nil)
      (pss_one (ps_ret (pe_callB (cr_all rfl) (by rfl) T.n_all (by decide +kernel) (pa_cons (pe_lc (own := [("sign", 1)]) rfl sc_is_name.nd (pi_str (pv 0)) (blkOk_by (N := N_is_name) (sc := defScope s_is_name) (by decide +kernel)) (fun _ _ _ _ _ => (pg_name (i := 1) sc_is_name.nd rfl (Or.inl rfl))) (fun _ _ _ _ _ => pts_te (by exact pts_nil) (by first | rfl | (dsimp only <;> rfl))) (fun _ _ _ _ _ => pe_te (by exact (pe_cmpR op_inS (pv 1) (pe_op op_add_str (pe_gs rfl T.m_LETTERS) (pe_gs rfl T.m_DIGITS)) (by rfl))) (by first | rfl | (dsimp only <;> rfl)))) pa_nil)))))), ?_⟩
    refine ⟨_, rfl, _, _, _, _, _, rfl, .ty _, .base (.str _), k_ss, ?_⟩
    refine ⟨_, rfl, iteF ?_⟩
    refine ⟨_, rfl, _, rfl, hz, _, _, rfl, rfl, _, rfl, ?_⟩
    have no : ∀ {H'}, Same H H' → isName x = false → Q (.bl false) H' := fun s e => by
      have := k _ s
      rw [e] at this
      exact this
    refine ite2 (fun c1 => ?_) (fun c1 => ?_)
    · have d1 : (1 : Int) ≤ (x.length : Nat) := of_decide_eq_true c1
      refine ⟨_, _, rfl, rfl, _, rfl, ?_⟩
      refine ite2 (fun c2 => ?_) (fun c2 => ?_)
      · refine no (Same.refl H) ?_
        have d2 : ¬ x.length ≤ 8 := fun z => by
          have : decide (((x.length : Nat) : Int) ≤ 8) = true := decide_eq_true (by omega)
          rw [this] at c2; cases c2
        unfold isName
        rw [decide_eq_false d2, Bool.and_false] <;> rfl
      · have d2 : x.length ≤ 8 := by
          by_cases z : ((x.length : Nat) : Int) ≤ 8
          · omega
          · rw [decide_eq_false z] at c2; exact absurd rfl c2
        obtain ⟨c, l, hx⟩ : ∃ c l, x.cps.toList = c :: l := by
          cases e : x.cps.toList with
          | nil =>
            have : x.length = 0 := by
              show x.cps.size = 0
              rw [← Array.length_toList, e]; rfl
            omega
          | cons c l => exact ⟨c, l, rfl⟩
        have ha := atI0 hx
        refine ⟨_, rfl, x, 0, c, rfl, rfl, hz, ha, c, _, rfl, rfl, _, rfl, ?_⟩
        refine ite2 (fun c3 => ?_) (fun c3 => ?_)
        · refine no (Same.refl H) ?_
          have d3 : ¬ c ∈ lettersL := fun z => by
            have : decide (c ∈ lettersL) = true := decide_eq_true z
            rw [lettersL_eq, this] at c3; cases c3
          unfold isName
          rw [hx]
          show ((_ && decide (c ∈ lettersL)) && _ && _) = false
          rw [decide_eq_false d3, Bool.and_false] <;> rfl
        · have d3 : c ∈ lettersL := by
            by_cases z : c ∈ lettersL
            · exact z
            · rw [lettersL_eq, decide_eq_false z] at c3; exact absurd rfl c3
          refine ⟨_, rfl, T.a_RESERVED, resL.map V.str, rfl, .inr (.inr T.q_RESERVED), rfl, resV, _, rfl, ?_⟩
          rw [inV_str]
          refine ite2 (fun c4 => ?_) (fun c4 => ?_)
          · refine no (Same.refl H) ?_
            have c4' : resL.contains x = true := c4
            unfold isName
            rw [c4', Bool.not_true, Bool.and_false] <;> rfl
          · have c4' : resL.contains x = false := Bool.eq_false_iff.mpr c4
            refine ⟨_, rfl, x, rfl, fun D hD => ?_⟩
            have fin : isName x = (x.cps.toList.map (fun c => decide (c ∈ lettersL ++ digitsL))).all id := by
              unfold isName
              rw [hx, decide_eq_true d2, c4', decide_eq_true (show 1 ≤ x.length by omega)]
              show (true && decide (c ∈ lettersL) && true && _) = _
              rw [decide_eq_true d3, ← hx, List.all_map]
              rfl
            refine lc_it (walk_str (z := x)) (fun i H' => Same H H' ∧ H D = none ∧ H' D = some (.lst (((x.cps.toList.take i).map (fun c => decide (c ∈ lettersL ++ digitsL))).map V.bl))) ⟨sm_new hD, hD, upd_same⟩ (fun _ _ _ _ => True.intro) ?_ ?_
            · rintro i y H1 H2 hi ⟨s1, n1, e1⟩ ⟨rfl, c', hc', rfl⟩
              refine ⟨rfl, _, rfl, _, _, rfl, rfl, (by decide +kernel), c', _, rfl, rfl, _, e1, ?_, sm_put s1 n1, n1, ?_⟩
              · rw [List.length_map, List.length_map, List.length_take]
                have : x.cps.toList.length = x.length := Array.length_toList
                have := small1000 (n := 8) (by decide)
                omega
              · have e2 : x.cps.toList[i]? = some c' := by rw [Array.getElem?_toList]; exact hc'
                have e3 : x.cps.toList.take (i + 1) = x.cps.toList.take i ++ [c'] := by
                  rw [List.take_add_one, e2]; rfl
                rw [e3, upd_same, List.map_append, List.map_append]
                rfl
            · rintro H1 ⟨s1, n1, e1⟩
              refine ⟨D, _, rfl, .inl (.inl e1), ?_⟩
              have e2 : x.cps.toList.take x.cps.size = x.cps.toList := by
                rw [← Array.length_toList]; exact List.take_length
              rw [e2, ← fin]
              exact k _ s1
    · refine ⟨_, rfl, iteT (no (Same.refl H) ?_)⟩
      have d1 : ¬ 1 ≤ x.length := fun z => by
        have : decide ((1 : Int) ≤ ((x.length : Nat) : Int)) = true := decide_eq_true (by omega)
        exact c1 this
      unfold isName
      rw [decide_eq_false d1] <;> rfl

end Pp

set_option Elab.async false
set_option linter.all false
set_option autoImplicit false
set_option maxRecDepth 100000
set_option maxHeartbeats 4000000
namespace Pp
open PySem PySem.Spec L2
variable {P : Program} {w : World} {K : PySem.W.Frag} {mg : Str → Option Value} {base : Heap}
/-! ### shapes of data -/
theorem shp_of {d : PyData} (h1 : d.canLay0 = true) (h2 : d.depth ≤ 64) : SeqAt.shaped d = true := by
  show (d.canLay0 && decide (d.depth ≤ 64)) = true
  rw [h1, decide_eq_true h2]; rfl
theorem canLay_all : ∀ {ds : List PyData}, (∀ d ∈ ds, d.canLay0 = true) → PyData.canLayAll0 ds = true
  | [], _ => by simp [PyData.canLayAll0]
  | d :: ds, h => by
    simp only [PyData.canLayAll0, Bool.and_eq_true]
    exact ⟨h d List.mem_cons_self, canLay_all fun e he => h e (List.mem_cons_of_mem _ he)⟩
theorem depth_all {n : Nat} : ∀ {ds : List PyData}, (∀ d ∈ ds, d.depth ≤ n) → PyData.depthAll ds ≤ n
  | [], _ => by simp [PyData.depthAll]
  | d :: ds, h => by
    simp only [PyData.depthAll]
    exact Nat.max_le.mpr ⟨h d List.mem_cons_self, depth_all fun e he => h e (List.mem_cons_of_mem _ he)⟩
/-- data that can be laid and is at most n deep -/
structure Sh (n : Nat) (d : PyData) : Prop where
  lay : d.canLay0 = true
  dep : d.depth ≤ n
theorem Sh.ok {n : Nat} {d : PyData} (h : Sh n d) (hn : n ≤ 64 := by decide) : SeqAt.shaped d = true := shp_of h.lay (Nat.le_trans h.dep hn)
theorem Sh.mono {n m : Nat} {d : PyData} (h : Sh n d) (hn : n ≤ m := by decide) : Sh m d := ⟨h.lay, Nat.le_trans h.dep hn⟩
theorem sh_int {n : Nat} (i : Int) : Sh n (.int i) := ⟨by simp [PyData.canLay0], by simp [PyData.depth]⟩
theorem sh_non {n : Nat} : Sh n .none := ⟨by simp [PyData.canLay0], by simp [PyData.depth]⟩
theorem sh_str {n : Nat} {x : Str} (h : PyData.strOk x = true) : Sh n (.str x) := ⟨by simp [PyData.canLay0, h], by simp [PyData.depth]⟩
theorem sh_lst {n : Nat} {ds : List PyData} (h : ∀ d ∈ ds, Sh n d) : Sh (n + 1) (.list ds) :=
  ⟨by rw [PyData.canLay0]; exact canLay_all fun d hd => (h d hd).lay, by rw [PyData.depth]; exact Nat.succ_le_succ (depth_all fun d hd => (h d hd).dep)⟩
theorem sh_tup {n : Nat} {ds : List PyData} (h : ∀ d ∈ ds, Sh n d) : Sh (n + 1) (.tuple ds) :=
  ⟨by rw [PyData.canLay0]; exact canLay_all fun d hd => (h d hd).lay, by rw [PyData.depth]; exact Nat.succ_le_succ (depth_all fun d hd => (h d hd).dep)⟩
theorem sh_ints (ns : List Int) : Sh 1 (.list (ns.map PyData.int)) := sh_lst fun d hd => by
  obtain ⟨n, _, rfl⟩ := List.mem_map.mp hd; exact sh_int n
theorem sh_intT (ns : List Int) : Sh 1 (.tuple (ns.map PyData.int)) := sh_tup fun d hd => by
  obtain ⟨n, _, rfl⟩ := List.mem_map.mp hd; exact sh_int n
theorem sh_nil : Sh 1 (.list []) := sh_lst fun d hd => by cases hd
theorem sh_nilT : Sh 1 (.tuple []) := sh_tup fun d hd => by cases hd
theorem eqv_lnil : ∀ ds : List PyData, PyData.eqv (.list ds) (.list []) = ds.isEmpty
  | [] => by simp [PyData.eqv, PyData.eqvAll]
  | d :: ds => by simp [PyData.eqv, PyData.eqvAll]
theorem eqv_tnil : ∀ ds : List PyData, PyData.eqv (.tuple ds) (.tuple []) = ds.isEmpty
  | [] => by simp [PyData.eqv, PyData.eqvAll]
  | d :: ds => by simp [PyData.eqv, PyData.eqvAll]
theorem eqv_lists (xs ys : List PyData) : PyData.eqv (.list xs) (.list ys) = PyData.eqvAll xs ys := by rw [PyData.eqv]
theorem eqv_tuples (xs ys : List PyData) : PyData.eqv (.tuple xs) (.tuple ys) = PyData.eqvAll xs ys := by rw [PyData.eqv]
theorem eqvAll_map {α : Type} (f : α → PyData) (h : ∀ a b, PyData.eqv (f a) (f b) = true ↔ a = b) : ∀ xs ys : List α, PyData.eqvAll (xs.map f) (ys.map f) = true ↔ xs = ys
  | [], [] => by simp [PyData.eqvAll]
  | [], y :: ys => by simp [PyData.eqvAll]
  | x :: xs, [] => by simp [PyData.eqvAll]
  | x :: xs, y :: ys => by
    simp only [List.map_cons, PyData.eqvAll, Bool.and_eq_true, h, eqvAll_map f h xs ys, List.cons.injEq]
theorem eqv_nd (a b : Nd) : PyData.eqv (ndD a) (ndD b) = true ↔ a = b := by
  obtain ⟨x, m⟩ := a
  obtain ⟨y, n⟩ := b
  simp only [ndD, PyData.eqv, PyData.eqvAll, Bool.and_true, Bool.and_eq_true, beq_iff_eq, Prod.mk.injEq]
  constructor
  · rintro ⟨h1, h2⟩; exact ⟨h1, by omega⟩
  · rintro ⟨h1, h2⟩; exact ⟨h1, by omega⟩
theorem eqv_row (a b : List Nd) : PyData.eqv (rowD a) (rowD b) = true ↔ a = b := by
  unfold rowD
  rw [eqv_tuples]
  exact eqvAll_map ndD eqv_nd a b
theorem eqv_rowD (a b : List Nd) : PyData.eqv (rowD a) (rowD b) = decide (a = b) := by
  by_cases h : a = b
  · rw [decide_eq_true h]; exact (eqv_row a b).mpr h
  · rw [decide_eq_false h]; exact Bool.eq_false_iff.mpr fun z => h ((eqv_row a b).mp z)
theorem nl_nd (n : Nd) : nl (ndD n) = true := by simp [ndD, nl, nlA]
theorem nlA_map {α : Type} (f : α → PyData) (h : ∀ a, nl (f a) = true) : ∀ xs : List α, nlA (xs.map f) = true
  | [] => by simp [nlA]
  | x :: xs => by simp [nlA, h x, nlA_map f h xs]
theorem nl_row (r : List Nd) : nl (rowD r) = true := by
  unfold rowD; rw [nl]; exact nlA_map ndD nl_nd r
theorem isName_len {x : Str} (h : isName x = true) : x.length ≤ 8 := by
  unfold isName at h
  simp only [Bool.and_eq_true, decide_eq_true_eq] at h
  exact h.1.1.1.2
/-- a name's size -/
theorem isName_ok {x : Str} (h : isName x = true) : PyData.strOk x = true := by
  have h1 := isName_len h
  unfold isName at h
  simp only [Bool.and_eq_true, List.all_eq_true, decide_eq_true_eq] at h
  have h2 := h.2
  have h3 : ∀ c ∈ lettersL ++ digitsL, c < 0x110000 := by decide +kernel
  show x.cps.all (· < 0x110000) = true
  rw [← Array.all_toList, List.all_eq_true]
  exact fun c hc => decide_eq_true (h3 c (h2 c hc))
theorem sh_nd {n : Nd} (h : PyData.strOk n.1 = true) : Sh 1 (ndD n) := sh_tup fun d hd => by
  simp only [List.mem_cons, List.not_mem_nil, or_false] at hd
  rcases hd with rfl | rfl
  · exact sh_str h
  · exact sh_int _
theorem sh_row {r : List Nd} (h : ∀ n ∈ r, PyData.strOk n.1 = true) : Sh 2 (rowD r) := sh_tup fun d hd => by
  obtain ⟨n, hn, rfl⟩ := List.mem_map.mp hd
  exact sh_nd (h n hn)

end Pp

set_option Elab.async false
set_option linter.all false
set_option autoImplicit false
set_option maxRecDepth 100000
set_option maxHeartbeats 4000000
namespace Pp
open PySem PySem.Spec L2
variable {P : Program} {w : World} {K : PySem.W.Frag} {mg : Str → Option Value} {base : Heap}
def sp_is_node (T : Txt K mg) : Sp := fun vs H Q _ => ∃ (v : V) (n : Nd), vs = [v] ∧ Dp K H v (ndD n) ∧ n.1.length ≤ sizeLine ∧ ∀ H', Same H H' → Q (.bl (isName n.1)) H'
theorem nd_parts {H : Hp} {v : V} {n : Nd} (h : Dp K H v (ndD n)) : ∃ a, v = .ref a ∧ SqT K H a [.str n.1, .int (n.2 : Nat)] := by
  obtain ⟨a, xs, rfl, ha, hd⟩ := dp_tup h
  refine ⟨a, rfl, ?_⟩
  cases hd with
  | cons h1 t =>
    cases t with
    | cons h2 t =>
      cases t
      rw [dp_str h1, dp_int h2] at ha
      exact ha
theorem nd_mk {H : Hp} {a : Addr} {n : Nd} (h : SqT K H a [.str n.1, .int (n.2 : Nat)]) : Dp K H (.ref a) (ndD n) := .tup h (.cons (.str _) (.cons (.int _) .nil))
theorem ok_is_node (T : Txt K mg) : FnOk P w K mg base CX0 3 T.a_is_node T.d_is_node P_is_node (sp_is_node T) := by
  have G_is_index := ok_is_index (P := P) (w := w) (base := base) T
  have G_is_name := ok_is_name (P := P) (w := w) (base := base) T
  have G_is_sized := ok_is_sized (P := P) (w := w) (base := base) T
  refine T.F_is_node.ok sc_is_node (fun vs H Q E h => ?_) (fun cdv A outer s H vs Q E hr h => ?_)
  · obtain ⟨v, n, rfl, hv, hz, k⟩ := h
    rfl
  · obtain ⟨v, n, rfl, hv, hz, k⟩ := h
    refine ⟨_, (pss_one (ps_ret (pe_and (pe_call G_is_sized (hr.mono (by decide)) (by rfl) T.m_is_sized T.F_is_sized.kp T.b_is_sized .nil pass0 (pa_cons (pv 0) (pa_cons pe_int pa_nil))) (pe_and (pe_call G_is_name (hr.mono (by decide)) (by rfl) T.m_is_name T.F_is_name.kp T.b_is_name .nil pass0 (pa_cons (pe_ix ix_tup (pv 0) pe_int (fun _ _ => rfl)) pa_nil)) (pe_one (pe_call G_is_index (hr.mono (by decide)) (by rfl) T.m_is_index T.F_is_index.kp T.b_is_index .nil pass0 (pa_cons (pe_ix ix_tup (pv 0) pe_int (fun _ _ => rfl)) pa_nil))))))), ?_⟩
    refine ⟨_, rfl, v, 2, _, rfl, hv, ?_⟩
    refine ⟨_, rfl, ?_⟩
    obtain ⟨a, rfl, ha⟩ := nd_parts hv
    refine ⟨_, rfl, a, _, 0, .str n.1, rfl, rfl, ha, rfl, n.1, rfl, hz, fun H1 s1 => ?_⟩
    refine ⟨_, rfl, ?_⟩
    refine ite2 (fun c => ?_) (fun c => ?_)
    · refine ⟨_, rfl, a, _, 1, .int n.2, rfl, rfl, sm_st s1 ha, rfl, (n.2 : Int), rfl, ?_⟩
      have := k _ s1
      rw [c] at this
      rw [decide_eq_true (by omega)]
      exact this
    · have := k _ s1
      rw [Bool.eq_false_iff.mpr c] at this
      exact this
def sp_is_tuple_of (T : Txt K mg) : Sp := fun vs H Q _ => ∃ (v : V) (r : List Nd), vs = [v, .ref T.a_is_node] ∧ Dp K H v (rowD r) ∧ r.length < sizeLine ∧ (∀ n ∈ r, n.1.length ≤ sizeLine) ∧ ∀ H', Same H H' → Q (.bl (r.all fun n => isName n.1)) H'
theorem ok_is_tuple_of (T : Txt K mg) : FnOk P w K mg base CX0 4 T.a_is_tuple_of T.d_is_tuple_of P_is_tuple_of (sp_is_tuple_of T) := by
  have G_is_node := ok_is_node (P := P) (w := w) (base := base) T
  refine T.F_is_tuple_of.ok sc_is_tuple_of (fun vs H Q E h => ?_) (fun cdv A outer s H vs Q E hr h => ?_)
  · obtain ⟨v, r, rfl, hv, hl, hz, k⟩ := h
    rfl
  · obtain ⟨v, r, rfl, hv, hl, hz, k⟩ := h
    refine ⟨_, (pss_one (ps_ret (pe_and (pe_callB call_isi (by rfl) T.n_isinstance (by decide +kernel) (pa_cons (pv 0) (pa_cons (pe_bltn (v := .ty "tuple") (by rfl) T.n_tuple (by decide +kernel) rfl) pa_nil))) (pe_one (pe_callB (cr_all rfl) (by rfl) T.n_all (by decide +kernel) (pa_cons (pe_lc (own := [("one", 2)]) rfl sc_is_tuple_of.nd (pi_tup (pv 0)) (blkOk_by (N := N_is_tuple_of) (sc := defScope s_is_tuple_of) (by decide +kernel)) (fun _ _ _ _ _ => (pg_name (i := 2) sc_is_tuple_of.nd rfl (Or.inl rfl))) (fun _ _ _ _ _ => pts_te (by exact pts_nil) (by first | rfl | (dsimp only <;> rfl))) (fun _ _ _ _ _ => pe_te (by exact (pe_callL (i := 1) G_is_node (hr.mono (by decide)) (by rfl) (by first | exact Or.inl rfl | exact Or.inr (Or.inl rfl) | exact Or.inr (Or.inr rfl)) T.F_is_node.kp T.b_is_node .nil pass0 (pa_cons (pv 2) pa_nil))) (by first | rfl | (dsimp only <;> rfl)))) pa_nil)))))), ?_⟩
    obtain ⟨a, xs, rfl, ha, hd⟩ := dp_tup hv
    refine ⟨_, rfl, _, _, _, _, _, rfl, .ty _, tyx_tup ha, k_tt, ?_⟩
    refine ⟨_, rfl, ?_⟩
    refine ⟨_, rfl, a, rfl, ⟨_, ha⟩, fun D hD => ?_⟩
    have hxl : xs.length = r.length := by rw [dpa_len hd, List.length_map]
    refine lc_it (walk_tup (xs := xs)) (fun i H' => Same H H' ∧ H' D = some (.lst (((r.take i).map (fun n => isName n.1)).map V.bl))) ⟨sm_new hD, upd_same⟩ (fun _ _ _ p => sm_st p.1 ha) ?_ ?_
    · rintro i y H1 H2 hi ⟨s1, e1⟩ ⟨rfl, hy⟩
      obtain ⟨d, hd1, hd2⟩ := dpa_get' hd hy
      rw [List.getElem?_map] at hd1
      cases hn : r[i]? with
      | none => rw [hn] at hd1; cases hd1
      | some n =>
        rw [hn] at hd1
        cases hd1
        refine ⟨rfl, rfl, _, rfl, y, n, rfl, dp_same s1 hd2, hz n (List.mem_of_getElem? hn), fun H3 s3 => ?_⟩
        refine ⟨_, s3 _ _ e1, ?_, sm_put (s1.trans s3) hD, ?_⟩
        · rw [List.length_map, List.length_map, List.length_take]; omega
        · rw [upd_same, List.take_add_one, hn, List.map_append, List.map_append]; rfl
    · rintro H1 ⟨s1, e1⟩
      refine ⟨D, _, rfl, .inl (.inl e1), ?_⟩
      rw [hxl, List.take_length, List.all_map]
      exact k _ s1
def sp_are_nodes (T : Txt K mg) : Sp := fun vs H Q _ => ∃ (v : V) (r : List Nd), vs = [v] ∧ Dp K H v (rowD r) ∧ r.length < sizeLine ∧ (∀ n ∈ r, n.1.length ≤ sizeLine) ∧ ∀ H', Same H H' → Q (.bl (r.all fun n => isName n.1)) H'
theorem ok_are_nodes (T : Txt K mg) : FnOk P w K mg base CX0 5 T.a_are_nodes T.d_are_nodes P_are_nodes (sp_are_nodes T) := by
  have G_is_node := ok_is_node (P := P) (w := w) (base := base) T
  have G_is_tuple_of := ok_is_tuple_of (P := P) (w := w) (base := base) T
  refine T.F_are_nodes.ok sc_are_nodes (fun vs H Q E h => ?_) (fun cdv A outer s H vs Q E hr h => ?_)
  · obtain ⟨v, r, rfl, hv, hl, hz, k⟩ := h
    rfl
  · obtain ⟨v, r, rfl, hv, hl, hz, k⟩ := h
    refine ⟨_, (pss_one (ps_ret (pe_call G_is_tuple_of (hr.mono (by decide)) (by rfl) T.m_is_tuple_of T.F_is_tuple_of.kp T.b_is_tuple_of .nil pass0 (pa_cons (pv 0) (pa_cons (pe_gr rfl T.m_is_node) pa_nil))))), ?_⟩
    exact ⟨_, rfl, v, r, rfl, hv, hl, hz, k⟩

end Pp

set_option Elab.async false
set_option linter.all false
set_option autoImplicit false
set_option maxRecDepth 100000
set_option maxHeartbeats 4000000
namespace Pp
open PySem PySem.Spec L2
variable {P : Program} {w : World} {K : PySem.W.Frag} {mg : Str → Option Value} {base : Heap}
/-! ### forests: the last tree of a row, what stands ahead of it -/
inductive F where
  | nil
  | snoc (a : F) (t : Str) (c : F)
  deriving DecidableEq
namespace F
def len : F → Nat
  | nil => 0
  | snoc a _ _ => a.len + 1
def size : F → Nat
  | nil => 0
  | snoc a _ c => a.size + (1 + c.size)
def flat : F → List Nd
  | nil => []
  | snoc a t c => a.flat ++ (t, c.len) :: c.flat
/-- all nodes, as they begin, each with what is in it -/
def nodes : F → List (Str × F)
  | nil => []
  | snoc a t c => a.nodes ++ (t, c) :: c.nodes
/-- the trees side by side -/
def trees : F → List (Str × F)
  | nil => []
  | snoc a t c => a.trees ++ [(t, c)]
/-- the numbers of the roots of a row that begins at o -/
def roots : F → Nat → List Nat
  | nil, _ => []
  | snoc a _ _, o => a.roots o ++ [o + a.size]
/-- the first i trees -/
def pre : F → Nat → F
  | nil, _ => nil
  | snoc a t c, i => if i = a.len + 1 then snoc a t c else a.pre i
/-- all names are names -/
def good : F → Bool
  | nil => true
  | snoc a t c => a.good && (isName t && c.good)
end F
def szT (n : Str × F) : Nat := 1 + n.2.size
theorem flat_len : ∀ f : F, f.flat.length = f.size
  | .nil => rfl
  | .snoc a t c => by
    show (a.flat ++ (t, c.len) :: c.flat).length = a.size + (1 + c.size)
    rw [List.length_append, List.length_cons, flat_len a, flat_len c]; omega
theorem nodes_len : ∀ f : F, f.nodes.length = f.size
  | .nil => rfl
  | .snoc a t c => by
    show (a.nodes ++ (t, c) :: c.nodes).length = a.size + (1 + c.size)
    rw [List.length_append, List.length_cons, nodes_len a, nodes_len c]; omega
theorem flat_nodes : ∀ f : F, f.flat = f.nodes.map fun n => (n.1, n.2.len)
  | .nil => rfl
  | .snoc a t c => by
    show a.flat ++ (t, c.len) :: c.flat = (a.nodes ++ (t, c) :: c.nodes).map _
    rw [List.map_append, List.map_cons, flat_nodes a, flat_nodes c]
theorem trees_len : ∀ f : F, f.trees.length = f.len
  | .nil => rfl
  | .snoc a t c => by
    show (a.trees ++ [(t, c)]).length = a.len + 1
    rw [List.length_append, trees_len a]; rfl
theorem roots_len : ∀ (f : F) (o : Nat), (f.roots o).length = f.len
  | .nil, _ => rfl
  | .snoc a t c, o => by
    show (a.roots o ++ [o + a.size]).length = a.len + 1
    rw [List.length_append, roots_len a]; rfl
theorem len_le_size : ∀ f : F, f.len ≤ f.size
  | .nil => Nat.le_refl _
  | .snoc a t c => by
    show a.len + 1 ≤ a.size + (1 + c.size)
    have := len_le_size a; omega
theorem roots_lt : ∀ (f : F) (o : Nat), ∀ x ∈ f.roots o, o ≤ x ∧ x < o + f.size
  | .nil, _, x, h => by cases h
  | .snoc a t c, o, x, h => by
    have h' : x ∈ a.roots o ++ [o + a.size] := h
    rw [List.mem_append, List.mem_singleton] at h'
    show o ≤ x ∧ x < o + (a.size + (1 + c.size))
    rcases h' with h' | h'
    · have := roots_lt a o x h'; omega
    · omega
/-- the x-th root's node is the x-th tree -/
theorem roots_nodes : ∀ (f : F) (o i x : Nat), (f.roots o)[i]? = some x → f.nodes[x - o]? = f.trees[i]?
  | .nil, _, _, _, h => by simp [F.roots] at h
  | .snoc a t c, o, i, x, h => by
    have h' : (a.roots o ++ [o + a.size])[i]? = some x := h
    show (a.nodes ++ (t, c) :: c.nodes)[x - o]? = (a.trees ++ [(t, c)])[i]?
    have hl := roots_len a o
    have ht := trees_len a
    have hn := nodes_len a
    by_cases hi : i < a.len
    · rw [List.getElem?_append_left (by omega)] at h'
      have hm := roots_lt a o x (List.mem_of_getElem? h')
      rw [List.getElem?_append_left (by omega), List.getElem?_append_left (by omega)]
      exact roots_nodes a o i x h'
    · rw [List.getElem?_append_right (by omega)] at h'
      have e : i - (a.roots o).length = 0 := by
        cases q : i - (a.roots o).length with
        | zero => rfl
        | succ n => rw [q] at h'; simp at h'
      rw [e] at h'
      have hx : o + a.size = x := by simpa using h'
      rw [List.getElem?_append_right (by omega), List.getElem?_append_right (by omega), show x - o - a.nodes.length = 0 by omega, show i - a.trees.length = 0 by omega]
      rfl
/-- what is in a node stands behind it -/
theorem nodes_in : ∀ (f : F) (x : Nat) (t : Str) (c : F), f.nodes[x]? = some (t, c) → x + c.size < f.size ∧ ∀ i, i < c.size → f.nodes[x + 1 + i]? = c.nodes[i]?
  | .nil, _, _, _, h => by simp [F.nodes] at h
  | .snoc a u e, x, t, c, h => by
    have h' : (a.nodes ++ (u, e) :: e.nodes)[x]? = some (t, c) := h
    have hn := nodes_len a
    have hc := nodes_len c
    have he := nodes_len e
    show x + c.size < a.size + (1 + e.size) ∧ ∀ i, i < c.size → (a.nodes ++ (u, e) :: e.nodes)[x + 1 + i]? = c.nodes[i]?
    by_cases hx : x < a.size
    · rw [List.getElem?_append_left (by omega)] at h'
      obtain ⟨h1, h2⟩ := nodes_in a x t c h'
      exact ⟨by omega, fun i hi => by rw [List.getElem?_append_left (by omega)]; exact h2 i hi⟩
    · rw [List.getElem?_append_right (by omega)] at h'
      cases q : x - a.nodes.length with
      | zero =>
        rw [q] at h'
        cases (Option.some.inj h')
        exact ⟨by omega, fun i hi => by rw [List.getElem?_append_right (by omega), show x + 1 + i - a.nodes.length = i + 1 by omega]; rfl⟩
      | succ y =>
        rw [q] at h'
        obtain ⟨h1, h2⟩ := nodes_in e y t c (by simpa using h')
        exact ⟨by omega, fun i hi => by rw [List.getElem?_append_right (by omega), show x + 1 + i - a.nodes.length = (y + 1 + i) + 1 by omega, List.getElem?_cons_succ]; exact h2 i hi⟩
theorem good_nodes : ∀ (f : F), f.good = true → ∀ n ∈ f.nodes, isName n.1 = true ∧ n.2.good = true
  | .nil, _, n, h => by cases h
  | .snoc a t c, g, n, h => by
    have g' : (a.good && (isName t && c.good)) = true := g
    simp only [Bool.and_eq_true] at g'
    have h' : n ∈ a.nodes ++ (t, c) :: c.nodes := h
    rw [List.mem_append, List.mem_cons] at h'
    rcases h' with h' | rfl | h'
    · exact good_nodes a g'.1 n h'
    · exact g'.2
    · exact good_nodes c g'.2.2 n h'
theorem good_flat {f : F} (g : f.good = true) : (f.flat.all fun n => isName n.1) = true := by
  rw [flat_nodes, List.all_map, List.all_eq_true]
  exact fun n hn => (good_nodes f g n hn).1
theorem good_names {f : F} (g : f.good = true) : ∀ n ∈ f.flat, isName n.1 = true := fun n hn => (List.all_eq_true.mp (good_flat g)) n hn
/-! the first i trees -/
theorem pre_all : ∀ f : F, f.pre f.len = f
  | .nil => rfl
  | .snoc a t c => if_pos rfl
theorem pre_zero : ∀ f : F, f.pre 0 = .nil
  | .nil => rfl
  | .snoc a t c => by
    show (if 0 = a.len + 1 then _ else a.pre 0) = _
    rw [if_neg (by omega)]; exact pre_zero a
theorem pre_len : ∀ (f : F) (i : Nat), i ≤ f.len → (f.pre i).len = i
  | .nil, i, h => by
    have : i ≤ 0 := h
    show 0 = i; omega
  | .snoc a t c, i, h => by
    have h' : i ≤ a.len + 1 := h
    show (if i = a.len + 1 then F.snoc a t c else a.pre i).len = i
    by_cases e : i = a.len + 1
    · rw [if_pos e, e]; rfl
    · rw [if_neg e]; exact pre_len a i (by omega)
theorem pre_succ : ∀ (f : F) (i : Nat) (t : Str) (c : F), f.trees[i]? = some (t, c) → f.pre (i + 1) = .snoc (f.pre i) t c
  | .nil, _, _, _, h => by simp [F.trees] at h
  | .snoc a u e, i, t, c, h => by
    have h' : (a.trees ++ [(u, e)])[i]? = some (t, c) := h
    have hl := trees_len a
    show (if i + 1 = a.len + 1 then F.snoc a u e else a.pre (i + 1)) = .snoc (if i = a.len + 1 then F.snoc a u e else a.pre i) t c
    by_cases hi : i < a.len
    · rw [List.getElem?_append_left (by omega)] at h'
      rw [if_neg (by omega), if_neg (by omega)]
      exact pre_succ a i t c h'
    · rw [List.getElem?_append_right (by omega)] at h'
      have e0 : i - a.trees.length = 0 := by
        cases q : i - a.trees.length with
        | zero => rfl
        | succ n => rw [q] at h'; simp at h'
      rw [e0] at h'
      cases (Option.some.inj h')
      have : i = a.len := by omega
      subst this
      rw [if_pos rfl, if_neg (by omega), pre_all]
/-! full rows -/
def popz : List Nat → List Nat
  | 0 :: l => popz l
  | l => l
def dec1 : List Nat → List Nat
  | [] => []
  | n :: l => (n - 1) :: l
def fullGo : List Nat → List Nd → List Nat
  | s, [] => s
  | s, n :: r => fullGo (popz (n.2 :: dec1 s)) r
def isFull (r : List Nd) : Bool := (fullGo [] r).isEmpty
theorem fullGo_app : ∀ (x y : List Nd) (s : List Nat), fullGo s (x ++ y) = fullGo (fullGo s x) y
  | [], _, _ => rfl
  | n :: x, y, s => by
    show fullGo _ (x ++ y) = _
    rw [fullGo_app x y]; rfl
/-- a row takes as many trees of the innermost open node as it has -/
theorem fullGo_flat : ∀ (f : F) (k : Nat) (s : List Nat), fullGo (popz ((f.len + k) :: s)) f.flat = popz (k :: s)
  | .nil, k, s => by
    show popz ((0 + k) :: s) = _
    rw [Nat.zero_add]
  | .snoc a t c, k, s => by
    show fullGo (popz ((a.len + 1 + k) :: s)) (a.flat ++ (t, c.len) :: c.flat) = _
    rw [fullGo_app, show a.len + 1 + k = a.len + (k + 1) by omega, fullGo_flat a (k + 1) s]
    show fullGo (popz (c.len :: dec1 ((k + 1) :: s))) c.flat = _
    have h := fullGo_flat c 0 (k :: s)
    exact h
theorem fullGo_root : ∀ f : F, fullGo [] f.flat = []
  | .nil => rfl
  | .snoc a t c => by
    show fullGo [] (a.flat ++ (t, c.len) :: c.flat) = _
    rw [fullGo_app, fullGo_root a]
    exact fullGo_flat c 0 []
theorem isFull_flat (f : F) : isFull f.flat = true := by
  unfold isFull; rw [fullGo_root]; rfl

end Pp

set_option Elab.async false
set_option linter.all false
set_option autoImplicit false
set_option maxRecDepth 100000
set_option maxHeartbeats 4000000
namespace Pp
open PySem PySem.Spec L2
variable {P : Program} {w : World} {K : PySem.W.Frag} {mg : Str → Option Value} {base : Heap}
/-! ### lists of numbers -/
def iv (s : List Nat) : List V := s.map fun n => V.int (n : Nat)
def idt (s : List Nat) : List PyData := s.map fun n => PyData.int (n : Nat)
theorem dpa_iv {H : Hp} : ∀ s : List Nat, DpAll K H (iv s) (idt s)
  | [] => .nil
  | n :: s => .cons (.int _) (dpa_iv s)
theorem sh_idl (s : List Nat) : Sh 1 (.list (idt s)) := sh_lst fun d hd => by
  obtain ⟨n, _, rfl⟩ := List.mem_map.mp hd; exact sh_int n
theorem sh_idt (s : List Nat) : Sh 1 (.tuple (idt s)) := sh_tup fun d hd => by
  obtain ⟨n, _, rfl⟩ := List.mem_map.mp hd; exact sh_int n
theorem iv_len (s : List Nat) : (iv s).length = s.length := List.length_map _
theorem iv_app (s t : List Nat) : iv (s ++ t) = iv s ++ iv t := List.map_append
theorem iv_get {s : List Nat} {i n : Nat} (h : s[i]? = some n) : (iv s)[i]? = some (.int (n : Nat)) := by
  unfold iv; rw [List.getElem?_map, h]; rfl
theorem idt_empty (s : List Nat) : (idt s).isEmpty = s.isEmpty := by cases s <;> rfl
theorem ixN_last {α : Type} (xs : List α) (v : α) : ixN (xs ++ [v]).length (-1) = some xs.length := by
  have hl : (xs ++ [v]).length = xs.length + 1 := by simp
  unfold ixN
  rw [hl, if_neg (by decide), if_pos (by omega)]
  exact congrArg some (by omega)
theorem set_last {α : Type} (xs : List α) (v y : α) : (xs ++ [v]).set xs.length y = xs ++ [y] := by
  rw [List.set_append_right _ _ (Nat.le_refl _), Nat.sub_self]; rfl
theorem popz_hd : ∀ s : List Nat, (popz s).head? ≠ some 0
  | [] => by simp [popz]
  | 0 :: l => by show (popz l).head? ≠ some 0; exact popz_hd l
  | (n + 1) :: l => by show some (n + 1) ≠ some 0; intro h; cases h
theorem popz_len : ∀ s : List Nat, (popz s).length ≤ s.length
  | [] => Nat.le_refl _
  | 0 :: l => Nat.le_succ_of_le (popz_len l)
  | (n + 1) :: l => Nat.le_refl _
theorem dec1_len (s : List Nat) : (dec1 s).length = s.length := by cases s <;> rfl
theorem fullGo_hd : ∀ (r : List Nd) (s : List Nat), s.head? ≠ some 0 → (fullGo s r).head? ≠ some 0
  | [], _, h => h
  | n :: r, s, _ => fullGo_hd r _ (popz_hd _)
theorem fullGo_len : ∀ (r : List Nd) (s : List Nat), (fullGo s r).length ≤ s.length + r.length
  | [], _ => Nat.le_refl _
  | n :: r, s => by
    have h1 := fullGo_len r (popz (n.2 :: dec1 s))
    have h2 := popz_len (n.2 :: dec1 s)
    have h3 := dec1_len s
    rw [List.length_cons] at h2 ⊢
    show (fullGo _ r).length ≤ _
    omega
theorem row_at {H : Hp} {v : V} {r : List Nd} (h : Dp K H v (rowD r)) : ∃ a xs, v = .ref a ∧ SqT K H a xs ∧ xs.length = r.length ∧ ∀ (i : Nat) (n : Nd), r[i]? = some n → ∃ p, xs[i]? = some (.ref p) ∧ SqT K H p [.str n.1, .int (n.2 : Nat)] := by
  obtain ⟨a, xs, rfl, ha, hd⟩ := dp_tup h
  refine ⟨a, xs, rfl, ha, by rw [dpa_len hd, List.length_map], fun i n hn => ?_⟩
  obtain ⟨v, h1, h2⟩ := dpa_get hd (i := i) (d := ndD n) (by rw [List.getElem?_map, hn]; rfl)
  obtain ⟨p, rfl, hp⟩ := nd_parts h2
  exact ⟨p, h1, hp⟩
def sp_is_full (T : Txt K mg) : Sp := fun vs H Q _ => ∃ (v : V) (r : List Nd), vs = [v] ∧ Dp K H v (rowD r) ∧ r.length < sizeLine ∧ ∀ H', Same H H' → Q (.bl (isFull r)) H'
theorem ok_is_full (T : Txt K mg) : FnOk P w K mg base CX0 1 T.a_is_full T.d_is_full P_is_full (sp_is_full T) := by
  refine T.F_is_full.ok sc_is_full (fun vs H Q E h => ?_) (fun cdv A outer s H vs Q E hr h => ?_)
  · obtain ⟨v, r, rfl, hv, hz, k⟩ := h
    rfl
  · obtain ⟨v, r, rfl, hv, hz, k⟩ := h
    refine ⟨_, (pss_cons (ps_set (i := 1) sc_is_full.nd rfl (Or.inl rfl) (pe_lst pa_nil))
      (pss_cons (ps_for PassesOwn.never rfl (pi_tup (pv 0)) (pg_tup rfl (pgs_cons (pg_name (i := 2) sc_is_full.nd rfl (Or.inl rfl)) (pgs_cons (pg_name (i := 3) sc_is_full.nd rfl (Or.inl rfl)) pgs_nil))) (Evl.pss_cut (ps_if (pt_cmpR (op_neD hr.units) (pv 1) (pe_lst pa_nil) (nomark _)) (pss_one (ps_augS (pv 1) (pe_un un_neg pe_int) get_list pe_int ip_sub set_list)) pss_nil)
        (pss_cons (ps_expr (pe_bm PySem.F.plainAttrs_list PySem.F.slot_list_append PySem.F.type_list_append mt_append (pv 1) (pa_cons (pv 3) pa_nil)))
        (pss_one (ps_while PassesOwn.never (PW.pt (pw_and (pt_cmpR (op_neD hr.units) (pv 1) (pe_lst pa_nil) (nomark _)) (pw_and1 (pt_cmpR op_eq (pe_ix ix_list (pv 1) (pe_un un_neg pe_int) (fun _ _ => rfl)) pe_int (nomark _))))) (pss_one (ps_expr (pe_bm0 PySem.F.plainAttrs_list PySem.F.slot_list_pop PySem.F.type_list_pop mt_pop (pv 1)))))))))
      (pss_one (ps_ret (pe_cmpR (op_eqD hr.units) (pv 1) (pe_lst pa_nil) (nomark _)))))), ?_⟩
    obtain ⟨a, xs, rfl, ha, hxl, hx⟩ := row_at hv
    refine ⟨Nat.zero_le _, fun l hl => ?_⟩
    refine ⟨_, rfl, a, rfl, ⟨xs, sm_st (sm_new hl) ha⟩, ?_⟩
    refine for_it (walk_tup (xs := xs)) (fun i σ' H' => ∃ x y, σ' = [some (.ref a), some (.ref l), x, y] ∧ Same H H' ∧ H' l = some (.lst (iv (fullGo [] (r.take i)).reverse))) ⟨none, none, rfl, sm_new hl, upd_same⟩
      (fun i σ' H' _ p => by obtain ⟨_, _, _, s1, _⟩ := p; exact sm_st s1 ha) ?_ ?_
    · rintro i y σ' H1 H2 hi ⟨x0, y0, rfl, s1, e1⟩ ⟨rfl, hy⟩
      obtain ⟨n, hn⟩ : ∃ n, r[i]? = some n := ⟨_, List.getElem?_eq_getElem (by omega)⟩
      obtain ⟨p, hp1, hp⟩ := hx i n hn
      rw [hy] at hp1
      cases hp1
      refine ⟨p, _, rfl, sm_st s1 hp, rfl, _, _, rfl, _, _, rfl, rfl, ?_⟩
      have hfl : (fullGo [] (r.take i)).length ≤ i := by
        have := fullGo_len (r.take i) []
        rw [List.length_take, List.length_nil] at this; omega
      have hhd := fullGo_hd (r.take i) [] (by simp)
      have hstep : fullGo [] (r.take (i + 1)) = popz (n.2 :: dec1 (fullGo [] (r.take i))) := by
        rw [List.take_add_one, hn, fullGo_app]; rfl
      rw [hstep]
      generalize fullGo [] (r.take i) = st at *
      refine ⟨fun σ3 H3 => σ3 = [some (.ref a), some (.ref l), some (.str n.1), some (.int (n.2 : Nat))] ∧ Same H H3 ∧ H3 l = some (.lst (iv (dec1 st).reverse)), ?_, ?_⟩
      · refine ⟨_, rfl, Nat.zero_le _, fun p2 hp2 => ?_⟩
        have e2 : upd H2 p2 (.lst []) l = some (.lst (iv st.reverse)) := (upd_ne (ne_of_none e1 hp2)).trans e1
        refine ⟨_, _, .lst (SqL.of e2) (dpa_iv _), .lst (SqL.of upd_same) .nil, Sh.ok (sh_idl _), Sh.ok sh_nil, _, rfl, ?_⟩
        rw [eqv_lnil, idt_empty]
        have s2 := sm_put s1 (s1.free hp2) (o := .lst [])
        cases st with
        | nil => exact ⟨rfl, s2, e2⟩
        | cons m st' =>
          have hm : m ≠ 0 := fun z => hhd (by rw [z]; rfl)
          rw [show (!(m :: st').reverse.isEmpty) = true by simp]
          have er : iv (m :: st').reverse = iv st'.reverse ++ [.int (m : Nat)] := by rw [List.reverse_cons, iv_app]; rfl
          rw [er] at e2
          refine ⟨_, rfl, 1, rfl, l, _, -1, _, rfl, rfl, SqL.of e2, atI_last _ _, m, 1, rfl, rfl, l, _, -1, _, rfl, rfl, e2, ixN_last _ _, rfl, sm_put s2 hl, ?_⟩
          rw [upd_same, set_last]
          show some (HO.lst (iv st'.reverse ++ [V.int ((m : Int) - 1)])) = some (HO.lst (iv ((m - 1) :: st').reverse))
          rw [List.reverse_cons, iv_app]
          have : ((m : Int) - 1) = ((m - 1 : Nat) : Int) := by omega
          rw [this]; rfl
      · rintro σ3 H3 ⟨rfl, s3, e3⟩
        have hdl := dec1_len st
        refine ⟨_, rfl, .inl ⟨rfl, _, SqL.of e3⟩, _, rfl, l, _, _, rfl, rfl, e3, (by rw [iv_len, List.length_reverse]; omega), ?_⟩
        refine ⟨fun m σ4 H4 => ∃ s', s'.length = m ∧ popz s' = popz (n.2 :: dec1 st) ∧ σ4 = [some (.ref a), some (.ref l), some (.str n.1), some (.int (n.2 : Nat))] ∧ Same H H4 ∧ H4 l = some (.lst (iv s'.reverse)), ⟨_, n.2 :: dec1 st, rfl, rfl, rfl, sm_put s3 hl, ?_⟩, ?_⟩
        · rw [upd_same, List.reverse_cons, iv_app]; rfl
        · rintro m σ4 H4 ⟨s', rfl, hs', rfl, s4, e4⟩
          refine ⟨_, rfl, Nat.zero_le _, fun p2 hp2 => ?_⟩
          have e5 : upd H4 p2 (.lst []) l = some (.lst (iv s'.reverse)) := (upd_ne (ne_of_none e4 hp2)).trans e4
          refine ⟨_, _, .lst (SqL.of e5) (dpa_iv _), .lst (SqL.of upd_same) .nil, Sh.ok (sh_idl _), Sh.ok sh_nil, _, rfl, ?_⟩
          rw [eqv_lnil, idt_empty]
          have s5 := sm_put s4 (s4.free hp2) (o := .lst [])
          cases s' with
          | nil => exact ⟨_, _, rfl, s5, by rw [← hs']; exact e5⟩
          | cons m st' =>
            rw [show (!(m :: st').reverse.isEmpty) = true by simp]
            have er : iv (m :: st').reverse = iv st'.reverse ++ [.int (m : Nat)] := by rw [List.reverse_cons, iv_app]; rfl
            have e6 := e5
            rw [er] at e6
            refine ⟨_, rfl, 1, rfl, l, _, -1, _, rfl, rfl, SqL.of e6, atI_last _ _, rfl, _, rfl, ?_⟩
            refine ite2 (fun c => ?_) (fun c => ?_)
            · have hm : m = 0 := by
                have := V.int.inj (of_decide_eq_true c); omega
              subst hm
              refine ⟨fun σ' H' => ∃ s'', s''.length < st'.length + 1 ∧ popz s'' = popz (n.2 :: dec1 st) ∧ σ' = [some (.ref a), some (.ref l), some (.str n.1), some (.int (n.2 : Nat))] ∧ Same H H' ∧ H' l = some (.lst (iv s''.reverse)), fun σ' H' ⟨s'', q1, q2⟩ => ⟨_, q1, s'', rfl, q2⟩, ?_⟩
              refine ⟨_, rfl, .inl ⟨rfl, _, SqL.of e6⟩, l, _, _, rfl, rfl, e6, by rw [List.length_append, List.length_singleton, Nat.add_sub_cancel, List.getElem?_append_right (Nat.le_refl _), Nat.sub_self]; rfl, st', Nat.lt_succ_self _, hs', rfl, sm_put s5 hl, ?_⟩
              rw [upd_same, List.dropLast_concat]
            · have hm : m ≠ 0 := fun z => c (decide_eq_true (by rw [z]; rfl))
              refine ⟨_, _, rfl, s5, ?_⟩
              rw [← hs', e5]
              cases m with
              | zero => exact absurd rfl hm
              | succ m => rfl
    · rintro σ' H1 ⟨x0, y0, rfl, s1, e1⟩
      rw [hxl, List.take_length] at e1
      refine ⟨_, rfl, Nat.zero_le _, fun p2 hp2 => ?_⟩
      have e2 : upd H1 p2 (.lst []) l = some (.lst (iv (fullGo [] r).reverse)) := (upd_ne (ne_of_none e1 hp2)).trans e1
      refine ⟨_, _, .lst (SqL.of e2) (dpa_iv _), .lst (SqL.of upd_same) .nil, Sh.ok (sh_idl _), Sh.ok sh_nil, ?_⟩
      rw [eqv_lnil, idt_empty]
      have := k _ (sm_put s1 (s1.free hp2) (o := .lst []))
      unfold isFull at this
      rw [show (fullGo [] r).reverse.isEmpty = (fullGo [] r).isEmpty by cases fullGo [] r <;> simp]
      exact this

end Pp

set_option Elab.async false
set_option linter.all false
set_option autoImplicit false
set_option maxRecDepth 100000
set_option maxHeartbeats 4000000
namespace Pp
open PySem PySem.Spec L2
variable {P : Program} {w : World} {K : PySem.W.Frag} {mg : Str → Option Value} {base : Heap}
/-- a row that is one -/
def rowOk (r : List Nd) : Bool := (r.all fun n => isName n.1) && isFull r
theorem rowOk_flat {f : F} (g : f.good = true) : rowOk f.flat = true := by
  unfold rowOk; rw [good_flat g, isFull_flat]; rfl
def sp_is_row (T : Txt K mg) : Sp := fun vs H Q _ => ∃ (v : V) (r : List Nd), vs = [v] ∧ Dp K H v (rowD r) ∧ r.length < sizeLine ∧ (∀ n ∈ r, n.1.length ≤ sizeLine) ∧ ∀ H', Same H H' → Q (.bl (rowOk r)) H'
theorem ok_is_row (T : Txt K mg) : FnOk P w K mg base CX0 6 T.a_is_row T.d_is_row P_is_row (sp_is_row T) := by
  have G_are_nodes := ok_are_nodes (P := P) (w := w) (base := base) T
  have G_is_full := ok_is_full (P := P) (w := w) (base := base) T
  refine T.F_is_row.ok sc_is_row (fun vs H Q E h => ?_) (fun cdv A outer s H vs Q E hr h => ?_)
  · obtain ⟨v, r, rfl, hv, hl, hz, k⟩ := h
    rfl
  · obtain ⟨v, r, rfl, hv, hl, hz, k⟩ := h
    refine ⟨_, (pss_one (ps_ret (pe_and (pe_call G_are_nodes (hr.mono (by decide)) (by rfl) T.m_are_nodes T.F_are_nodes.kp T.b_are_nodes .nil pass0 (pa_cons (pv 0) pa_nil)) (pe_one (pe_call G_is_full (hr.mono (by decide)) (by rfl) T.m_is_full T.F_is_full.kp T.b_is_full .nil pass0 (pa_cons (pv 0) pa_nil)))))), ?_⟩
    refine ⟨_, rfl, v, r, rfl, hv, hl, hz, fun H1 s1 => ?_⟩
    refine ⟨_, rfl, ?_⟩
    refine ite2 (fun c => ?_) (fun c => ?_)
    · refine ⟨_, rfl, v, r, rfl, dp_same s1 hv, hl, fun H2 s2 => ?_⟩
      have := k _ (s1.trans s2)
      unfold rowOk at this
      rw [c] at this
      exact this
    · have := k _ s1
      unfold rowOk at this
      rw [Bool.eq_false_iff.mpr c] at this
      exact this
/-! ### ends, roots -/
/-- one more than the last number in a node's tree, by counting -/
def endGo : List Nd → Nat → Nat → Nat
  | _, 0, h => h
  | [], _ + 1, _ => 0
  | n :: r, l + 1, h => endGo r (l + n.2) (h + 1)
theorem endGo_app : ∀ (f : F) (k h : Nat) (r : List Nd), endGo (f.flat ++ r) (f.len + k) h = endGo r k (h + f.size)
  | .nil, k, h, r => by
    show endGo r (0 + k) h = _
    rw [Nat.zero_add]; rfl
  | .snoc a t c, k, h, r => by
    show endGo ((a.flat ++ (t, c.len) :: c.flat) ++ r) (a.len + 1 + k) h = _
    rw [List.append_assoc, show a.len + 1 + k = a.len + (k + 1) by omega, endGo_app a]
    show endGo (c.flat ++ r) (k + c.len) (h + a.size + 1) = _
    rw [show k + c.len = c.len + k by omega, endGo_app c]
    show endGo r k (h + a.size + 1 + c.size) = endGo r k (h + (a.size + (1 + c.size)))
    congr 1; omega
theorem nodes_drop : ∀ (f : F) (x : Nat) (t : Str) (c : F), f.nodes[x]? = some (t, c) → ∃ r, f.flat.drop x = (t, c.len) :: (c.flat ++ r)
  | .nil, _, _, _, h => by simp [F.nodes] at h
  | .snoc a u e, x, t, c, h => by
    have h' : (a.nodes ++ (u, e) :: e.nodes)[x]? = some (t, c) := h
    have hn := nodes_len a
    have hf := flat_len a
    show ∃ r, (a.flat ++ (u, e.len) :: e.flat).drop x = _
    by_cases hx : x < a.size
    · rw [List.getElem?_append_left (by omega)] at h'
      obtain ⟨r, hr⟩ := nodes_drop a x t c h'
      refine ⟨r ++ (u, e.len) :: e.flat, ?_⟩
      rw [List.drop_append_of_le_length (by omega), hr, List.cons_append, List.append_assoc]
    · rw [List.getElem?_append_right (by omega)] at h'
      have e1 : (a.flat ++ (u, e.len) :: e.flat).drop x = ((u, e.len) :: e.flat).drop (x - a.flat.length) := by
        rw [List.drop_append, List.drop_eq_nil_of_le (by omega), List.nil_append]
      rw [e1]
      cases q : x - a.nodes.length with
      | zero =>
        rw [q] at h'
        cases (Option.some.inj h')
        exact ⟨[], by rw [show x - a.flat.length = 0 by omega, List.append_nil]; rfl⟩
      | succ y =>
        rw [q] at h'
        obtain ⟨r, hr⟩ := nodes_drop e y t c (by simpa using h')
        exact ⟨r, by rw [show x - a.flat.length = y + 1 by omega, List.drop_succ_cons, hr]⟩
theorem end_node {f : F} {x : Nat} {t : Str} {c : F} (h : f.nodes[x]? = some (t, c)) : endGo (f.flat.drop x) 1 x = x + 1 + c.size := by
  obtain ⟨r, hr⟩ := nodes_drop f x t c h
  rw [hr]
  show endGo (c.flat ++ r) (0 + c.len) (x + 1) = _
  rw [show 0 + c.len = c.len + 0 by omega, endGo_app]
  show endGo r 0 _ = _
  cases r <;> rfl
/-- the row r is handed in, the node x of it -/
def sp_end_of (T : Txt K mg) : Sp := fun vs H Q _ => ∃ (v : V) (f : F) (x : Nat) (t : Str) (c : F), vs = [v, .int (x : Nat)] ∧ Dp K H v (rowD f.flat) ∧ f.nodes[x]? = some (t, c) ∧ Q (.int ((x + 1 + c.size : Nat) : Nat)) H
theorem endGo_end : ∀ (r : List Nd) (l h : Nat), (∃ m, endGo r l h = m) := fun r l h => ⟨_, rfl⟩
theorem ok_end_of (T : Txt K mg) : FnOk P w K mg base CX0 1 T.a_end_of T.d_end_of P_end_of (sp_end_of T) := by
  refine T.F_end_of.ok sc_end_of (fun vs H Q E h => ?_) (fun cdv A outer s H vs Q E hr h => ?_)
  · obtain ⟨v, f, x, t, c, rfl, hv, hx, k⟩ := h
    rfl
  · obtain ⟨v, f, x, t, c, rfl, hv, hx, k⟩ := h
    refine ⟨_, (pss_cons (ps_par (i := 2) (j := 3) rfl sc_end_of.nd rfl rfl (by decide) rfl rfl (pa_cons pe_int (pa_cons (pv 1) pa_nil)) (by rfl))
      (pss_cons (ps_while PassesOwn.never (pt_cmpR op_gt (pv 2) pe_int (nomark _)) (pss_cons (ps_aug (i := 2) sc_end_of.nd rfl (Or.inl rfl) (pe_op op_sub (pe_ix ix_tup (pe_ix ix_tup (pv 0) (pv 3) (fun _ _ => rfl)) pe_int (fun _ _ => rfl)) pe_int) ip_add)
        (pss_one (ps_aug (i := 3) sc_end_of.nd rfl (Or.inl rfl) pe_int ip_add))))
      (pss_one (ps_ret (pv 3))))), ?_⟩
    obtain ⟨a, xs, rfl, ha, hxl, hget⟩ := row_at hv
    refine ⟨_, rfl, _, _, rfl, ?_⟩
    have hend := end_node hx
    obtain ⟨hin, _⟩ := nodes_in f x t c hx
    refine ⟨fun m σ' H' => ∃ (l h : Nat), m = f.flat.length + 1 - h ∧ σ' = [some (.ref a), some (.int (x : Nat)), some (.int (l : Nat)), some (.int (h : Nat))] ∧ H' = H ∧ h ≤ f.flat.length ∧ endGo (f.flat.drop h) l h = x + 1 + c.size ∧ (l ≠ 0 → h < f.flat.length), ⟨_, 1, x, rfl, rfl, rfl, ?_, hend, ?_⟩, ?_⟩
    · rw [flat_len]; omega
    · rw [flat_len]; omega
    · rintro m σ' H' ⟨l, h, rfl, rfl, rfl, hh, he, hlt⟩
      refine ⟨_, rfl, _, _, rfl, rfl, _, rfl, ?_⟩
      refine ite2 (fun c1 => ?_) (fun c1 => ?_)
      · have hl : l ≠ 0 := by
          have := of_decide_eq_true c1; omega
        have hlt' := hlt hl
        obtain ⟨n, hn⟩ : ∃ n, f.flat[h]? = some n := ⟨_, List.getElem?_eq_getElem hlt'⟩
        obtain ⟨p, hp1, hp⟩ := hget h n hn
        have hd : f.flat.drop h = n :: f.flat.drop (h + 1) := by
          rw [List.drop_eq_getElem_cons hlt']
          rw [List.getElem?_eq_getElem hlt'] at hn
          rw [Option.some.inj hn]
        obtain ⟨l', rfl⟩ : ∃ l', l = l' + 1 := ⟨l - 1, by omega⟩
        have he' : endGo (f.flat.drop (h + 1)) (l' + n.2) (h + 1) = x + 1 + c.size := by
          rw [hd] at he; exact he
        refine ⟨fun σ2 H2 => σ2 = [some (.ref a), some (.int (x : Nat)), some (.int ((l' + n.2 : Nat) : Nat)), some (.int ((h + 1 : Nat) : Nat))] ∧ H2 = H', ?_, ?_⟩
        · rintro σ2 H2 ⟨rfl, rfl⟩
          refine ⟨_, ?_, l' + n.2, h + 1, rfl, rfl, rfl, hlt', he', fun z => ?_⟩
          · omega
          · cases Nat.lt_or_ge (h + 1) f.flat.length with
            | inl q => exact q
            | inr q =>
              rw [List.drop_eq_nil_of_le q] at he'
              obtain ⟨y, hy⟩ : ∃ y, l' + n.2 = y + 1 := ⟨l' + n.2 - 1, by omega⟩
              rw [hy] at he'
              have : (0 : Nat) = x + 1 + c.size := he'
              omega
        · refine ⟨_, rfl, _, rfl, _, rfl, a, _, _, _, rfl, rfl, ha, atI_nat hp1, p, _, _, _, rfl, rfl, hp, rfl, _, _, rfl, rfl, _, _, rfl, rfl, ?_⟩
          refine ⟨_, rfl, _, _, rfl, rfl, ?_, rfl⟩
          have e1 : (((l' + 1 : Nat) : Int) + ((n.2 : Int) - 1)) = ((l' + n.2 : Nat) : Int) := by omega
          have e2 : ((h : Int) + 1) = ((h + 1 : Nat) : Int) := by omega
          show [some (V.ref a), some (V.int (x : Nat)), some (V.int (((l' + 1 : Nat) : Int) + ((n.2 : Int) - 1))), some (V.int ((h : Int) + 1))] = _
          rw [e1, e2]
      · have hl : l = 0 := by
          have : ¬ (0 : Int) < (l : Nat) := fun z => c1 (decide_eq_true z)
          omega
        subst hl
        have : endGo (f.flat.drop h) 0 h = h := by cases f.flat.drop h <;> rfl
        rw [this] at he
        refine ⟨_, rfl, ?_⟩
        rw [he]
        exact k

end Pp

set_option Elab.async false
set_option linter.all false
set_option autoImplicit false
set_option maxRecDepth 100000
set_option maxHeartbeats 4000000
namespace Pp
open PySem PySem.Spec L2
variable {P : Program} {w : World} {K : PySem.W.Frag} {mg : Str → Option Value} {base : Heap}
def RetT (xs : List V) (H : Hp) (Q : VK) : Prop := ∀ p H', Same H H' → H p = none → H' p = some (.tup xs) → Q (.ref p) H'
def RetL (xs : List V) (H : Hp) (Q : VK) : Prop := ∀ p H', Same H H' → H p = none → H' p = some (.lst xs) → Q (.ref p) H'
def RetD (d : PyData) (K : PySem.W.Frag) (H : Hp) (Q : VK) : Prop := ∀ v H', Same H H' → Dp K H' v d → Q v H'
theorem roots_pre : ∀ (f : F) (o i : Nat), i < f.len → (f.roots o)[i]? = some (o + (f.pre i).size)
  | .nil, _, _, h => absurd h (Nat.not_lt_zero _)
  | .snoc a t c, o, i, h => by
    have h' : i < a.len + 1 := h
    have hl := roots_len a o
    show (a.roots o ++ [o + a.size])[i]? = some (o + (if i = a.len + 1 then F.snoc a t c else a.pre i).size)
    rw [if_neg (by omega)]
    by_cases hi : i < a.len
    · rw [List.getElem?_append_left (by omega)]; exact roots_pre a o i hi
    · have : i = a.len := by omega
      subst this
      rw [List.getElem?_append_right (by omega), hl, Nat.sub_self, pre_all]; rfl
theorem tree_get (f : F) (i : Nat) (h : i < f.len) : ∃ t c, f.trees[i]? = some (t, c) ∧ f.nodes[(f.pre i).size]? = some (t, c) ∧ (f.pre (i + 1)).size = (f.pre i).size + 1 + c.size := by
  obtain ⟨n, hn⟩ : ∃ n, f.trees[i]? = some n := ⟨_, List.getElem?_eq_getElem (by rw [trees_len]; exact h)⟩
  obtain ⟨t, c⟩ := n
  have h1 := roots_nodes f 0 i _ (roots_pre f 0 i h)
  rw [Nat.zero_add, Nat.sub_zero] at h1
  refine ⟨t, c, hn, h1.trans hn, ?_⟩
  rw [pre_succ f i t c hn]
  show (f.pre i).size + (1 + c.size) = _
  omega
theorem pre_lt {f : F} {i : Nat} (h : i < f.len) : (f.pre i).size < f.size := by
  obtain ⟨t, c, _, h2, _⟩ := tree_get f i h
  rw [← nodes_len f]
  exact (List.getElem?_eq_some_iff.mp h2).1
def sp_roots (T : Txt K mg) : Sp := fun vs H Q _ => ∃ (v : V) (f : F), vs = [v] ∧ Dp K H v (rowD f.flat) ∧ f.size < sizeLine ∧ RetT (iv (f.roots 0)) H Q
theorem ok_roots (T : Txt K mg) : FnOk P w K mg base CX0 2 T.a_roots T.d_roots P_roots (sp_roots T) := by
  have G_end_of := ok_end_of (P := P) (w := w) (base := base) T
  refine T.F_roots.ok sc_roots (fun vs H Q E h => ?_) (fun cdv A outer s H vs Q E hr h => ?_)
  · obtain ⟨v, f, rfl, hv, hz, k⟩ := h
    rfl
  · obtain ⟨v, f, rfl, hv, hz, k⟩ := h
    refine ⟨_, (pss_cons (ps_par (i := 1) (j := 2) rfl sc_roots.nd rfl rfl (by decide) rfl rfl (pa_cons (pe_lst pa_nil) (pa_cons pe_int pa_nil)) (by rfl))
      (pss_cons (ps_while PassesOwn.never (pt_cmpR op_lt (pv 2) (pe_callB call_len_seq (by rfl) T.n_len (by decide +kernel) (pa_cons (pv 0) pa_nil)) (nomark _)) (pss_cons (ps_expr (pe_bm PySem.F.plainAttrs_list PySem.F.slot_list_append PySem.F.type_list_append mt_append (pv 1) (pa_cons (pv 2) pa_nil)))
        (pss_one (ps_set (i := 2) sc_roots.nd rfl (Or.inl rfl) (pe_call G_end_of (hr.mono (by decide)) (by rfl) T.m_end_of T.F_end_of.kp T.b_end_of .nil pass0 (pa_cons (pv 0) (pa_cons (pv 2) pa_nil)))))))
      (pss_one (ps_ret (pe_callTy call_tuple_of (by rfl) T.n_tuple (by decide +kernel) (pa_cons (pv 1) pa_nil)))))), ?_⟩
    obtain ⟨a, xs, rfl, ha, hxl, hget⟩ := row_at hv
    refine ⟨Nat.zero_le _, fun l hl => ⟨_, _, rfl, ?_⟩⟩
    refine ⟨fun m σ' H' => ∃ (i : Nat), m = f.len - i ∧ i ≤ f.len ∧ σ' = [some (.ref a), some (.ref l), some (.int (((f.pre i).size : Nat) : Nat))] ∧ Same H H' ∧ H' l = some (.lst (iv ((f.roots 0).take i))), ⟨_, 0, rfl, Nat.zero_le _, ?_, sm_new hl, upd_same⟩, ?_⟩
    · rw [pre_zero]; rfl
    · rintro m σ' H' ⟨i, rfl, hi, rfl, s1, e1⟩
      refine ⟨_, rfl, _, rfl, a, xs, rfl, .inr (sm_st s1 ha), _, _, rfl, rfl, _, rfl, ?_⟩
      rw [hxl, flat_len]
      refine ite2 (fun c1 => ?_) (fun c1 => ?_)
      · have hlt : i < f.len := by
          rcases Nat.lt_or_ge i f.len with q | q
          · exact q
          · have : i = f.len := by omega
            subst this
            have c2 := of_decide_eq_true c1
            rw [pre_all] at c2; omega
        obtain ⟨t, c, h1, h2, h3⟩ := tree_get f i hlt
        have hrl := len_le_size f
        refine ⟨fun σ' H' => ∃ (j : Nat), f.len - j < f.len - i ∧ j ≤ f.len ∧ σ' = [some (.ref a), some (.ref l), some (.int (((f.pre j).size : Nat) : Nat))] ∧ Same H H' ∧ H' l = some (.lst (iv ((f.roots 0).take j))), fun σ' H' ⟨j, q1, q2⟩ => ⟨_, q1, j, rfl, q2⟩, ?_⟩
        refine ⟨_, rfl, .inl ⟨rfl, _, SqL.of e1⟩, _, rfl, l, _, _, rfl, rfl, e1, (by rw [iv_len, List.length_take]; omega), ?_⟩
        have s2 := sm_put s1 hl (o := .lst (iv ((f.roots 0).take i) ++ [V.int ((f.pre i).size : Nat)]))
        refine ⟨_, rfl, _, rfl, .ref a, f, (f.pre i).size, t, c, rfl, dp_same s2 hv, h2, i + 1, by omega, hlt, ?_, s2, ?_⟩
        · rw [h3]; rfl
        · rw [upd_same, List.take_add_one, roots_pre f 0 i hlt, iv_app, Nat.zero_add]; rfl
      · have hge : i = f.len := by
          rcases Nat.lt_or_ge i f.len with q | q
          · exact absurd (decide_eq_true (by have := pre_lt q; omega)) c1
          · omega
        subst hge
        refine ⟨_, rfl, l, _, rfl, .inl ⟨SqL.of e1, fun p hp => ?_⟩⟩
        rw [← roots_len f 0, List.take_length]
        exact k p _ (sm_put s1 (s1.free hp)) (s1.free hp) upd_same
def sp_is_tree (T : Txt K mg) : Sp := fun vs H Q _ => ∃ (v : V) (f : F), vs = [v] ∧ Dp K H v (rowD f.flat) ∧ f.size < sizeLine ∧ f.good = true ∧ ∀ H', Same H H' → Q (.bl (decide (f.len = 1))) H'
theorem name_size {x : Str} (h : isName x = true) : x.length ≤ sizeLine := by
  have := isName_len h
  have := small1000 (n := 8) (by decide)
  omega
theorem ok_is_tree (T : Txt K mg) : FnOk P w K mg base CX0 7 T.a_is_tree T.d_is_tree P_is_tree (sp_is_tree T) := by
  have G_is_row := ok_is_row (P := P) (w := w) (base := base) T
  have G_roots := ok_roots (P := P) (w := w) (base := base) T
  refine T.F_is_tree.ok sc_is_tree (fun vs H Q E h => ?_) (fun cdv A outer s H vs Q E hr h => ?_)
  · obtain ⟨v, f, rfl, hv, hz, g, k⟩ := h
    rfl
  · obtain ⟨v, f, rfl, hv, hz, g, k⟩ := h
    refine ⟨_, (pss_one (ps_ret (pe_and (pe_call G_is_row (hr.mono (by decide)) (by rfl) T.m_is_row T.F_is_row.kp T.b_is_row .nil pass0 (pa_cons (pv 0) pa_nil)) (pe_one (pe_cmpR op_eq (pe_callB call_len_seq (by rfl) T.n_len (by decide +kernel) (pa_cons (pe_call G_roots (hr.mono (by decide)) (by rfl) T.m_roots T.F_roots.kp T.b_roots .nil pass0 (pa_cons (pv 0) pa_nil)) pa_nil)) pe_int (nomark _)))))), ?_⟩
    refine ⟨_, rfl, v, f.flat, rfl, hv, by rw [flat_len]; exact hz, fun n hn => name_size (good_names g n hn), fun H1 s1 => ?_⟩
    rw [rowOk_flat g]
    refine ⟨_, rfl, ?_⟩
    refine ⟨_, rfl, v, f, rfl, dp_same s1 hv, hz, fun p H2 s2 hp e2 => ?_⟩
    refine ⟨p, _, rfl, .inr (SqT.of e2), rfl, ?_⟩
    have := k _ (s1.trans s2)
    rw [iv_len, roots_len]
    have e : decide (V.int ((f.len : Nat) : Int) = V.int 1) = decide (f.len = 1) := decide_eq_decide.mpr ⟨fun h => by have := V.int.inj h; omega, fun h => by rw [h]; rfl⟩
    rw [e]; exact this
def sp_check_node (T : Txt K mg) : Sp := fun vs H Q _ => ∃ (v : V) (r : List Nd) (x : Nat), vs = [v, .int (x : Nat)] ∧ Dp K H v (rowD r) ∧ x < r.length ∧ Q .non H
theorem ok_check_node (T : Txt K mg) : FnOk P w K mg base CX0 3 T.a_check_node T.d_check_node P_check_node (sp_check_node T) := by
  have G_is_index := ok_is_index (P := P) (w := w) (base := base) T
  refine T.F_check_node.ok sc_check_node (fun vs H Q E h => ?_) (fun cdv A outer s H vs Q E hr h => ?_)
  · obtain ⟨v, r, x, rfl, hv, hx, k⟩ := h
    rfl
  · obtain ⟨v, r, x, rfl, hv, hx, k⟩ := h
    refine ⟨_, (pss_one (ps_if (PW.pt (pw_or (pt_not (pt_val (pe_call G_is_index (hr.mono (by decide)) (by rfl) T.m_is_index T.F_is_index.kp T.b_is_index .nil pass0 (pa_cons (pv 1) pa_nil)))) (pw_or1 (pt_cmpR op_ge (pv 1) (pe_callB call_len_seq (by rfl) T.n_len (by decide +kernel) (pa_cons (pv 0) pa_nil)) (nomark _))))) (pss_one ps_never) pss_nil)), ?_⟩
    obtain ⟨a, xs, rfl, ha, hxl, hget⟩ := row_at hv
    refine ⟨_, rfl, _, rfl, ?_⟩
    rw [decide_eq_true (by omega)]
    refine ⟨_, rfl, ?_⟩
    refine ⟨_, rfl, _, rfl, a, xs, rfl, .inr ha, _, _, rfl, rfl, _, rfl, ?_⟩
    rw [hxl, decide_eq_false (by omega)]
    exact k
/-- the tree at a node -/
def sub1 (t : Str) (c : F) : F := .snoc .nil t c
theorem sub1_flat (t : Str) (c : F) : (sub1 t c).flat = (t, c.len) :: c.flat := rfl
theorem cut_tree {f : F} {x : Nat} {t : Str} {c : F} (h : f.nodes[x]? = some (t, c)) : (f.flat.drop x).take (x + 1 + c.size - x) = (sub1 t c).flat := by
  obtain ⟨r, hr⟩ := nodes_drop f x t c h
  have hl := flat_len c
  rw [hr, show x + 1 + c.size - x = c.size + 1 by omega, List.take_succ_cons, List.take_append_of_le_length (by omega), ← hl, List.take_length]
  rfl
def sp_tree_at (T : Txt K mg) : Sp := fun vs H Q _ => ∃ (v : V) (f : F) (x : Nat) (t : Str) (c : F), vs = [v, .int (x : Nat)] ∧ Dp K H v (rowD f.flat) ∧ f.nodes[x]? = some (t, c) ∧ RetD (rowD (sub1 t c).flat) K H Q
theorem ok_tree_at (T : Txt K mg) : FnOk P w K mg base CX0 4 T.a_tree_at T.d_tree_at P_tree_at (sp_tree_at T) := by
  have G_check_node := ok_check_node (P := P) (w := w) (base := base) T
  have G_end_of := ok_end_of (P := P) (w := w) (base := base) T
  refine T.F_tree_at.ok sc_tree_at (fun vs H Q E h => ?_) (fun cdv A outer s H vs Q E hr h => ?_)
  · obtain ⟨v, f, x, t, c, rfl, hv, hx, k⟩ := h
    rfl
  · obtain ⟨v, f, x, t, c, rfl, hv, hx, k⟩ := h
    refine ⟨_, (pss_cons (ps_expr (pe_call G_check_node (hr.mono (by decide)) (by rfl) T.m_check_node T.F_check_node.kp T.b_check_node .nil pass0 (pa_cons (pv 0) (pa_cons (pv 1) pa_nil))))
      (pss_one (ps_ret (pe_slice sl_tupA (pv 0) (po_some (pv 1)) (po_some (pe_call G_end_of (hr.mono (by decide)) (by rfl) T.m_end_of T.F_end_of.kp T.b_end_of .nil pass0 (pa_cons (pv 0) (pa_cons (pv 1) pa_nil)))))))), ?_⟩
    obtain ⟨hin, _⟩ := nodes_in f x t c hx
    have hfl := flat_len f
    refine ⟨_, rfl, _, rfl, v, f.flat, x, rfl, hv, by omega, ?_⟩
    obtain ⟨a, xs, rfl, ha, hd⟩ := dp_tup hv
    have hxl : xs.length = f.size := by rw [dpa_len hd, List.length_map, flat_len]
    refine ⟨_, rfl, _, rfl, (x : Int), rfl, ?_⟩
    have hcut := cut_tree hx
    have hb1 : HT.sIx xs.length 0 (some (x : Int)) = x := by rw [HT.sIx_nat]; omega
    have hb2 : HT.sIx xs.length xs.length (some ((x + 1 + c.size : Nat) : Int)) = x + 1 + c.size := by rw [HT.sIx_nat]; omega
    have dcut : DpAll K H ((xs.drop x).take (x + 1 + c.size - x)) ((sub1 t c).flat.map ndD) := by
      rw [← hcut, List.map_take, List.map_drop]
      exact dpa_take _ (dpa_drop _ hd)
    refine ⟨_, rfl, _, rfl, _, f, x, t, c, rfl, hv, hx, _, rfl, ?_⟩
    refine ⟨a, xs, rfl, ha, ?_⟩
    rw [hb1, hb2]
    refine ⟨fun h => ?_, fun h p hp => ?_⟩
    · refine k _ _ (Same.refl H) (.tup ha ?_)
      have e : (xs.drop x).take (x + 1 + c.size - x) = xs := by
        rw [h.1, List.drop_zero, List.take_of_length_le (by omega)]
      rw [e] at dcut
      exact dcut
    · refine k _ _ (sm_new hp) (.tup (SqT.of upd_same) ?_)
      unfold cutV
      rw [hb1, hb2]
      exact dpa_same (sm_new hp) dcut
def sp_check_rows (T : Txt K mg) : Sp := fun vs H Q _ => ∃ (v u : V) (f g : F), vs = [v, u] ∧ Dp K H v (rowD f.flat) ∧ Dp K H u (rowD g.flat) ∧ f.good = true ∧ g.good = true ∧ f.size < 100001 ∧ g.size < 100001 ∧ f.size * g.size ≤ 100000 ∧ ∀ H', Same H H' → Q .non H'
theorem big_lt : 100001 ≤ sizeLine := by rw [sizeLine_eq]; decide
theorem ok_check_rows (T : Txt K mg) : FnOk P w K mg base CX0 7 T.a_check_rows T.d_check_rows P_check_rows (sp_check_rows T) := by
  have G_is_row := ok_is_row (P := P) (w := w) (base := base) T
  refine T.F_check_rows.ok sc_check_rows (fun vs H Q E h => ?_) (fun cdv A outer s H vs Q E hr h => ?_)
  · obtain ⟨v, u, f, g, rfl, hv, hu, gf, gg, h1, h2, h3, k⟩ := h
    rfl
  · obtain ⟨v, u, f, g, rfl, hv, hu, gf, gg, h1, h2, h3, k⟩ := h
    refine ⟨_, (pss_cons (ps_if (PW.pt (pw_or (pt_not (pt_val (pe_call G_is_row (hr.mono (by decide)) (by rfl) T.m_is_row T.F_is_row.kp T.b_is_row .nil pass0 (pa_cons (pv 0) pa_nil)))) (pw_or1 (pt_not (pt_val (pe_call G_is_row (hr.mono (by decide)) (by rfl) T.m_is_row T.F_is_row.kp T.b_is_row .nil pass0 (pa_cons (pv 1) pa_nil))))))) (pss_one ps_never) pss_nil)
      (pss_one (ps_if (pt_cmpR op_gt (pe_op op_mul (pe_callB call_len_seq (by rfl) T.n_len (by decide +kernel) (pa_cons (pv 0) pa_nil)) (pe_callB call_len_seq (by rfl) T.n_len (by decide +kernel) (pa_cons (pv 1) pa_nil))) (pe_gi rfl T.m_MOST_COUPLES) (nomark _)) (pss_one ps_never) pss_nil))), ?_⟩
    have hb := big_lt
    refine ⟨_, rfl, v, f.flat, rfl, hv, by rw [flat_len]; omega, fun n hn => name_size (good_names gf n hn), fun H1 s1 => ?_⟩
    rw [rowOk_flat gf]
    refine ⟨_, rfl, ?_⟩
    refine ⟨_, rfl, u, g.flat, rfl, dp_same s1 hu, by rw [flat_len]; omega, fun n hn => name_size (good_names gg n hn), fun H2 s2 => ?_⟩
    rw [rowOk_flat gg]
    refine ⟨_, rfl, ?_⟩
    obtain ⟨a, xs, rfl, ha, hxl, _⟩ := row_at hv
    obtain ⟨b, ys, rfl, hb', hyl, _⟩ := row_at hu
    rw [flat_len] at hxl hyl
    refine ⟨_, rfl, a, xs, rfl, .inr (sm_st (s1.trans s2) ha), _, rfl, b, ys, rfl, .inr (sm_st (s1.trans s2) hb'), _, _, rfl, rfl, .inl ⟨by omega, by omega⟩, _, _, rfl, rfl, _, rfl, ?_⟩
    rw [hxl, hyl, decide_eq_false (by have : ((f.size : Nat) : Int) * ((g.size : Nat) : Int) = ((f.size * g.size : Nat) : Int) := by rw [Int.natCast_mul]
                                      omega)]
    exact k _ (s1.trans s2)

end Pp

set_option Elab.async false
set_option linter.all false
set_option autoImplicit false
set_option maxRecDepth 100000
set_option maxHeartbeats 4000000
namespace Pp
open PySem PySem.Spec L2
variable {P : Program} {w : World} {K : PySem.W.Frag} {mg : Str → Option Value} {base : Heap}
/-! ### suffixes of a row: the trees that begin at a node or behind it -/
def suf : F → Nat → List (Str × F)
  | .nil, _ => []
  | .snoc a t c, x => if x < a.size + 1 then suf a x ++ [(t, c)] else suf c (x - a.size - 1)
theorem suf_end : ∀ f : F, suf f f.size = []
  | .nil => rfl
  | .snoc a t c => by
    show (if a.size + (1 + c.size) < a.size + 1 then _ else suf c (a.size + (1 + c.size) - a.size - 1)) = []
    rw [if_neg (by omega), show a.size + (1 + c.size) - a.size - 1 = c.size by omega]
    exact suf_end c
theorem suf_zero : ∀ f : F, suf f 0 = f.trees
  | .nil => rfl
  | .snoc a t c => by
    show (if 0 < a.size + 1 then suf a 0 ++ [(t, c)] else _) = a.trees ++ [(t, c)]
    rw [if_pos (by omega), suf_zero a]
theorem suf_node : ∀ (f : F) (x : Nat) (t : Str) (c : F), f.nodes[x]? = some (t, c) → ∃ R, suf f x = (t, c) :: R ∧ suf f (x + 1) = c.trees ++ R
  | .nil, _, _, _, h => by simp [F.nodes] at h
  | .snoc a u e, x, t, c, h => by
    have h' : (a.nodes ++ (u, e) :: e.nodes)[x]? = some (t, c) := h
    have hn := nodes_len a
    show ∃ R, (if x < a.size + 1 then suf a x ++ [(u, e)] else suf e (x - a.size - 1)) = (t, c) :: R ∧ (if x + 1 < a.size + 1 then suf a (x + 1) ++ [(u, e)] else suf e (x + 1 - a.size - 1)) = c.trees ++ R
    by_cases hx : x < a.size
    · rw [List.getElem?_append_left (by omega)] at h'
      obtain ⟨R, h1, h2⟩ := suf_node a x t c h'
      refine ⟨R ++ [(u, e)], ?_, ?_⟩
      · rw [if_pos (by omega), h1]; rfl
      · rw [if_pos (by omega), h2, List.append_assoc]
    · rw [List.getElem?_append_right (by omega)] at h'
      cases q : x - a.nodes.length with
      | zero =>
        rw [q] at h'
        cases (Option.some.inj h')
        have : x = a.size := by omega
        subst this
        refine ⟨[], ?_, ?_⟩
        · rw [if_pos (by omega), suf_end]; rfl
        · rw [if_neg (by omega), show a.size + 1 - a.size - 1 = 0 by omega, suf_zero, List.append_nil]
      | succ y =>
        rw [q] at h'
        obtain ⟨R, h1, h2⟩ := suf_node e y t c (by simpa using h')
        refine ⟨R, ?_, ?_⟩
        · rw [if_neg (by omega), show x - a.size - 1 = y by omega, h1]
        · rw [if_neg (by omega), show x + 1 - a.size - 1 = y + 1 by omega, h2]
theorem suf_len : ∀ (f : F) (x : Nat), (suf f x).length ≤ f.size
  | .nil, _ => Nat.le_refl _
  | .snoc a t c, x => by
    show (if x < a.size + 1 then suf a x ++ [(t, c)] else suf c (x - a.size - 1)).length ≤ a.size + (1 + c.size)
    split
    · have := suf_len a x
      rw [List.length_append, List.length_singleton]; omega
    · have := suf_len c (x - a.size - 1); omega
theorem size_trees : ∀ f : F, (f.trees.map szT).sum = f.size
  | .nil => rfl
  | .snoc a t c => by
    show ((a.trees ++ [(t, c)]).map szT).sum = a.size + (1 + c.size)
    rw [List.map_append, List.sum_append, size_trees a]
    show a.size + ((1 + c.size) + 0) = _
    omega
/-- [l.pop() for _ in range(n)] -/
theorem lc_pop {σ : L2.St} {H1 : Hp} {l D : Addr} {j i0 : Nat} {vs : List Nat} {n : Nat} {Qd : Hp → Prop} {base zs : List V} (hn : zs.length = n) (hl : H1 l = some (.lst (base ++ zs.reverse))) (hD : H1 D = none)
    (hw : ∀ x, wipe ((wipe σ vs).set j (some x)) vs = wipe σ vs) (hs : ∀ x, ((wipe σ vs).set j (some x))[i0]? = some (some (.ref l))) (hz : zs.length < sizeLine)
    (hd : ∀ H, (∀ b, b ≠ l → b ≠ D → H b = H1 b) → H l = some (.lst base) → H D = some (.lst zs) → Qd H) :
    ∃ W : Nat → Nat → Hp → Prop, (∃ m, W 0 m (upd H1 D (.lst []))) ∧ ∀ i m H, W i m H →
      ((Itr 0 n).stop i H ∧ Qd H) ∨ ((Itr 0 n).go i H ∧ ∃ Nx : Hp → Prop, (∀ H', Nx H' → ∃ m', m' < m ∧ W (i + 1) m' H') ∧ ∀ x H', (Itr 0 n).yld i H x H' → gName j x (wipe σ vs) H' fun σ2 H2 => wipe σ2 vs = wipe σ vs ∧ tYes σ2 H2 fun b H3 =>
        if b = true then tBM0 K "list" rPop (tVar i0) σ2 H3 fun y H4 => ∃ acc, H4 D = some (.lst acc) ∧ acc.length < sizeLine ∧ Nx (upd H4 D (.lst (acc ++ [y]))) else Nx H3) := by
  have ne : l ≠ D := ne_of_none hl hD
  refine lc_it (walk_range (lo := 0) (n := n)) (fun i H => (∀ b, b ≠ l → b ≠ D → H b = H1 b) ∧ H l = some (.lst (base ++ (zs.drop i).reverse)) ∧ H D = some (.lst (zs.take i))) ⟨fun b _ h2 => upd_ne h2, ?_, upd_same⟩ (fun _ _ _ _ => True.intro) ?_ ?_
  · rw [upd_ne ne]; exact hl
  · rintro i x H H' hi ⟨h1, h2, h3⟩ ⟨rfl, rfl⟩
    obtain ⟨z, hz'⟩ : ∃ z, zs[i]? = some z := ⟨_, List.getElem?_eq_getElem (by omega)⟩
    have hdr : zs.drop i = z :: zs.drop (i + 1) := by
      rw [List.drop_eq_getElem_cons (by omega)]
      rw [List.getElem?_eq_getElem (by omega)] at hz'
      rw [Option.some.inj hz']
    rw [hdr, List.reverse_cons, ← List.append_assoc] at h2
    refine ⟨hw _, _, hs _, .inl ⟨rfl, _, SqL.of h2⟩, l, _, z, rfl, rfl, h2, ?_, _, (upd_ne (Ne.symm ne)).trans h3, ?_, fun b b1 b2 => ?_, ?_, ?_⟩
    · rw [List.length_append, List.length_singleton, Nat.add_sub_cancel, List.getElem?_append_right (Nat.le_refl _), Nat.sub_self]; rfl
    · rw [List.length_take]; omega
    · rw [upd_ne b2, upd_ne b1]; exact h1 b b1 b2
    · rw [upd_ne ne, upd_same, List.dropLast_concat]
    · rw [upd_same, List.take_add_one, hz']; rfl
  · rintro H ⟨h1, h2, h3⟩
    rw [List.drop_eq_nil_of_le (by omega)] at h2
    rw [List.take_of_length_le (by omega)] at h3
    exact hd H h1 (by simpa using h2) h3

end Pp

set_option Elab.async false
set_option linter.all false
set_option autoImplicit false
set_option maxRecDepth 100000
set_option maxHeartbeats 4000000
namespace Pp
open PySem PySem.Spec L2
variable {P : Program} {w : World} {K : PySem.W.Frag} {mg : Str → Option Value} {base : Heap}
theorem rep1 {α : Type} (v : α) : ∀ n : Nat, (List.replicate n [v]).flatten = List.replicate n v
  | 0 => rfl
  | n + 1 => by rw [List.replicate_succ, List.flatten_cons, rep1 v n]; rfl
theorem iv_rep (n m : Nat) : List.replicate n (V.int (m : Nat)) = iv (List.replicate n m) := by
  unfold iv; rw [List.map_replicate]
theorem iv_rev (s : List Nat) : (iv s).reverse = iv s.reverse := by unfold iv; rw [List.map_reverse]
theorem line_lt (n : Nat) (h : n < sizeLine) : (n : Int) < 2 ^ 62 := by
  rw [sizeLine_eq] at h; omega
def nints (s : List Nat) : List Int := s.map fun (n : Nat) => (n : Int)
theorem iv_ints (s : List Nat) : iv s = (nints s).map V.int := by unfold iv nints; rw [List.map_map]; rfl
theorem sum_ints : ∀ s : List Nat, (nints s).sum = ((s.sum : Nat) : Int)
  | [] => rfl
  | n :: s => by
    show ((n : Nat) : Int) + (nints s).sum = _
    rw [List.sum_cons, sum_ints s]; omega
theorem ixN_nat {n i : Nat} (h : i < n) : ixN n (i : Int) = some i := by
  unfold ixN; rw [if_pos (by omega), if_pos (by omega)]; simp
theorem set_mid {α : Type} (y : α) : ∀ (n : Nat) (x : α) (r : List α), (List.replicate (n + 1) x ++ r).set n y = List.replicate n x ++ y :: r
  | 0, x, r => rfl
  | n + 1, x, r => by
    show x :: ((List.replicate (n + 1) x ++ r).set n y) = x :: (List.replicate n x ++ y :: r)
    rw [set_mid y n x r]
def sp_sizes_of (T : Txt K mg) : Sp := fun vs H Q _ => ∃ (v : V) (f : F), vs = [v] ∧ Dp K H v (rowD f.flat) ∧ f.size < sizeLine ∧ RetL (iv (f.nodes.map szT)) H Q
theorem ok_sizes_of (T : Txt K mg) : FnOk P w K mg base CX0 1 T.a_sizes_of T.d_sizes_of P_sizes_of (sp_sizes_of T) := by
  refine T.F_sizes_of.ok sc_sizes_of (fun vs H Q E h => ?_) (fun cdv A outer s H vs Q E hr h => ?_)
  · obtain ⟨v, f, rfl, hv, hz, k⟩ := h
    rfl
  · obtain ⟨v, f, rfl, hv, hz, k⟩ := h
    refine ⟨_, (pss_cons (ps_asg (pe_tup (pa_cons (pe_op op_rep (pe_lst (pa_cons pe_int pa_nil)) (pe_callB call_len_seq (by rfl) T.n_len (by decide +kernel) (pa_cons (pv 0) pa_nil))) (pa_cons (pe_lst pa_nil) pa_nil))) (pg_tup rfl (pgs_cons (pg_name (i := 1) sc_sizes_of.nd rfl (Or.inl rfl)) (pgs_cons (pg_name (i := 2) sc_sizes_of.nd rfl (Or.inr rfl)) pgs_nil))))
      (pss_cons (ps_for PassesOwn.never rfl (pi_range3 (by rfl) T.n_range (pa_cons (pe_op op_sub (pe_callB call_len_seq (by rfl) T.n_len (by decide +kernel) (pa_cons (pv 0) pa_nil)) pe_int) (pa_cons (pe_un un_neg pe_int) (pa_cons (pe_un un_neg pe_int) pa_nil)))) (pg_name (i := 3) sc_sizes_of.nd rfl (Or.inl rfl)) (pss_cons (ps_setLc (i := 4) (own := [("_child", 5)]) rfl sc_sizes_of.nd rfl rfl (sw_true rfl rfl rfl (by decide +kernel)) (pi_range1 (by rfl) T.n_range (pa_cons (pe_ix ix_tup (pe_ix ix_tup (pv 0) (pv 3) (fun _ _ => rfl)) pe_int (fun _ _ => rfl)) pa_nil)) (blkOk_by (N := N_sizes_of) (sc := defScope s_sizes_of) (by decide +kernel)) (fun _ _ _ _ _ => (pg_name (i := 5) sc_sizes_of.nd rfl (Or.inl rfl))) (fun _ _ _ _ _ => pts_te (by exact pts_nil) (by first | rfl | (dsimp only <;> rfl))) (fun _ _ _ _ _ => pe_te (by exact (pe_bm0 PySem.F.plainAttrs_list PySem.F.slot_list_pop PySem.F.type_list_pop mt_pop (pv 2))) (by first | rfl | (dsimp only <;> rfl))))
        (pss_cons (ps_asg (pe_op op_add pe_int (pe_callB (cr_sum rfl) (by rfl) T.n_sum (by decide +kernel) (pa_cons (pv 4) pa_nil))) (pg_sub (pv 1) (pv 3) set_list))
        (pss_one (ps_expr (pe_bm PySem.F.plainAttrs_list PySem.F.slot_list_append PySem.F.type_list_append mt_append (pv 2) (pa_cons (pe_ix ix_list (pv 1) (pv 3) (fun _ _ => rfl)) pa_nil)))))))
      (pss_one (ps_ret (pv 1))))), ?_⟩
    obtain ⟨a, xs, rfl, ha, hxl, hget⟩ := row_at hv
    rw [flat_len] at hxl
    have h62 := line_lt _ hz
    refine ⟨by show 1 ≤ sizeLine; have := big_lt; omega, fun p1 hp1 => ?_⟩
    have s1 := sm_new hp1 (o := .lst [.int 0])
    refine ⟨_, rfl, a, xs, rfl, .inr (sm_st s1 ha), p1, _, _, rfl, rfl, upd_same, by omega, by omega, (by show 1 * _ ≤ _; omega), fun p2 hp2 => ?_⟩
    have s2 := sm_put s1 (s1.free hp2) (o := .lst (List.replicate ((xs.length : Nat) : Int).toNat [V.int 0]).flatten)
    refine ⟨Nat.zero_le _, fun p3 hp3 => ?_⟩
    have n32 : p2 ≠ p3 := ne_of_none upd_same hp3
    have s3 := sm_put s2 (s2.free hp3) (o := .lst [])
    refine ⟨by show 2 ≤ sizeLine; have := big_lt; omega, fun p4 hp4 => ?_⟩
    have n42 : p2 ≠ p4 := ne_of_none ((upd_ne n32).trans upd_same) hp4
    have n43 : p3 ≠ p4 := ne_of_none upd_same hp4
    have s4 := sm_put s3 (s3.free hp4) (o := .tup [.ref p2, .ref p3])
    refine ⟨p4, _, rfl, SqT.of upd_same, rfl, _, _, rfl, _, _, rfl, rfl, ?_⟩
    have f2 := s1.free hp2
    have f3 := s2.free hp3
    have e2 : (upd (upd (upd (upd H p1 (.lst [.int 0])) p2 (.lst (List.replicate ((xs.length : Nat) : Int).toNat [V.int 0]).flatten)) p3 (.lst [])) p4 (.tup [.ref p2, .ref p3])) p2 = some (.lst (iv (List.replicate f.size 0))) := by
      rw [upd_ne n42, upd_ne n32, upd_same, Int.toNat_natCast, rep1, hxl]; exact congrArg (fun z => some (HO.lst z)) (iv_rep _ 0)
    have e3 : (upd (upd (upd (upd H p1 (.lst [.int 0])) p2 (.lst (List.replicate ((xs.length : Nat) : Int).toNat [V.int 0]).flatten)) p3 (.lst [])) p4 (.tup [.ref p2, .ref p3])) p3 = some (.lst []) := by
      rw [upd_ne n43, upd_same]
    generalize (upd (upd (upd (upd H p1 (.lst [.int 0])) p2 (.lst (List.replicate ((xs.length : Nat) : Int).toNat [V.int 0]).flatten)) p3 (.lst [])) p4 (.tup [.ref p2, .ref p3])) = H4 at *
    refine ⟨_, rfl, a, xs, rfl, .inr (sm_st s4 ha), _, _, rfl, rfl, 1, rfl, 1, rfl, _, _, _, _, rfl, RgC.neg (by omega) (by omega) (by decide) (by decide), ?_⟩
    rw [hxl, show (((f.size : Nat) : Int) - 1 - -1).toNat = f.size by omega]
    refine for_it walk_rangeC (fun i σ' H' => ∃ x3 x4, σ' = [some (.ref a), some (.ref p2), some (.ref p3), x3, x4, none] ∧ Same H H' ∧
      H' p2 = some (.lst (iv (List.replicate (f.size - i) 0 ++ (f.nodes.drop (f.size - i)).map szT))) ∧ H' p3 = some (.lst (iv ((suf f (f.size - i)).map szT).reverse))) ⟨none, none, rfl, s4, ?_, ?_⟩ (fun _ _ _ _ _ => True.intro) ?_ ?_
    · rw [e2, Nat.sub_zero, List.drop_eq_nil_of_le (Nat.le_of_eq (nodes_len f))]; simp
    · rw [e3, Nat.sub_zero, suf_end]; rfl
    · rintro i y σ' H1 H2 hi ⟨x3, x4, rfl, q1, q2, q3⟩ ⟨rfl, hy⟩
      obtain ⟨x, hx⟩ : ∃ x, f.size - i = x + 1 := ⟨f.size - i - 1, by omega⟩
      have hat : ((f.size : Nat) : Int) - 1 + (i : Nat) * -1 = (x : Nat) := by omega
      have hy' : y = V.int (x : Nat) := by rw [hy]; show V.int _ = _; rw [hat]
      subst hy'
      rw [hx] at q2 q3
      rw [show f.size - (i + 1) = x by omega]
      obtain ⟨⟨t, c⟩, hn⟩ : ∃ n, f.nodes[x]? = some n := ⟨_, List.getElem?_eq_getElem (by rw [nodes_len]; omega)⟩
      obtain ⟨R, r1, r2⟩ := suf_node f x t c hn
      obtain ⟨p, hp1', hp⟩ := hget x (t, c.len) (by rw [flat_nodes, List.getElem?_map, hn]; rfl)
      obtain ⟨hin, _⟩ := nodes_in f x t c hn
      have hcl := len_le_size c
      have htl := trees_len c
      refine ⟨_, rfl, _, rfl, a, _, _, _, rfl, rfl, sm_st q1 ha, atI_nat hp1', p, _, _, _, rfl, rfl, sm_st q1 hp, rfl, _, rfl, by omega, by omega, fun D hD => ?_⟩
      have hnD2 : p2 ≠ D := ne_of_none q2 hD
      have hnD3 : p3 ≠ D := ne_of_none q3 hD
      have hzs : (iv (c.trees.map szT)).length = c.len := by rw [iv_len, List.length_map, htl]
      rw [r2, List.map_append, List.reverse_append, iv_app] at q3
      have q3' : H2 p3 = some (.lst (iv (R.map szT).reverse ++ (iv (c.trees.map szT)).reverse)) := by
        rw [q3, iv_rev]
      refine lc_pop (l := p3) (D := D) (n := c.len) (zs := iv (c.trees.map szT)) (base := iv (R.map szT).reverse) hzs q3' hD (fun _ => rfl) (fun _ => rfl) (by omega) ?_
      intro H3 g1 g2 g3
      have e2' : H3 p2 = some (.lst (iv (List.replicate (x + 1) 0 ++ (f.nodes.drop (x + 1)).map szT))) := (g1 p2 n32 hnD2).trans q2
      have s5 : Same H H3 := fun b o e => by
        by_cases b3 : b = p3
        · rw [b3, f3] at e; cases e
        · by_cases bD : b = D
          · rw [bD, q1.free hD] at e; cases e
          · rw [g1 b b3 bD]; exact q1 b o e
      refine ⟨_, rfl, D, _, rfl, (by rw [← iv_ints]; exact SqL.of g3), _, _, rfl, rfl, ?_⟩
      rw [sum_ints, size_trees]
      have hlen : (iv (List.replicate (x + 1) 0 ++ (f.nodes.drop (x + 1)).map szT)).length = f.size := by
        rw [iv_len, List.length_append, List.length_replicate, List.length_map, List.length_drop, nodes_len]; omega
      refine ⟨_, rfl, _, rfl, p2, _, _, x, rfl, rfl, e2', by rw [hlen]; exact ixN_nat (by omega), ?_⟩
      have hset : (iv (List.replicate (x + 1) 0 ++ (f.nodes.drop (x + 1)).map szT)).set x (V.int (1 + ((c.size : Nat) : Int))) = iv (List.replicate x 0 ++ (f.nodes.drop x).map szT) := by
        have hd : f.nodes.drop x = (t, c) :: f.nodes.drop (x + 1) := by
          rw [List.drop_eq_getElem_cons (by rw [nodes_len]; omega)]
          rw [List.getElem?_eq_getElem (by rw [nodes_len]; omega)] at hn
          rw [Option.some.inj hn]
        rw [hd, List.map_cons, iv_app, ← iv_rep, iv_app, ← iv_rep, set_mid]
        show _ ++ V.int (1 + ((c.size : Nat) : Int)) :: _ = _ ++ V.int ((szT (t, c) : Nat) : Int) :: _
        have : (1 + ((c.size : Nat) : Int)) = ((szT (t, c) : Nat) : Int) := by show (1 + ((c.size : Nat) : Int)) = ((1 + c.size : Nat) : Int); omega
        rw [this]
        rfl
      rw [hset]
      have e2n : upd H3 p2 (.lst (iv (List.replicate x 0 ++ (f.nodes.drop x).map szT))) p2 = some (.lst (iv (List.replicate x 0 ++ (f.nodes.drop x).map szT))) := upd_same
      have hgetx : (iv (List.replicate x 0 ++ (f.nodes.drop x).map szT))[x]? = some (.int ((szT (t, c) : Nat) : Nat)) := by
        refine iv_get ?_
        rw [List.getElem?_append_right (by rw [List.length_replicate]; exact Nat.le_refl _), List.length_replicate, Nat.sub_self, List.getElem?_map, List.getElem?_drop, Nat.add_zero, hn]; rfl
      have e3n : upd H3 p2 (.lst (iv (List.replicate x 0 ++ (f.nodes.drop x).map szT))) p3 = some (.lst (iv (R.map szT).reverse)) := (upd_ne (Ne.symm n32)).trans g2
      have hRl : (iv (R.map szT).reverse).length < sizeLine := by
        rw [iv_len, List.length_reverse, List.length_map]
        have h1 := suf_len f x
        rw [r1, List.length_cons] at h1
        omega
      refine ⟨_, rfl, .inl ⟨rfl, _, SqL.of e3n⟩, _, rfl, _, rfl, p2, _, _, _, rfl, rfl, SqL.of e2n, atI_nat hgetx, p3, _, _, rfl, rfl, e3n, hRl, ?_⟩
      refine ⟨_, _, rfl, sm_put (sm_put s5 f2) f3, (upd_ne n32).trans e2n, ?_⟩
      rw [upd_same, r1, List.map_cons, List.reverse_cons, iv_app]; rfl
    · rintro σ' H1 ⟨x3, x4, rfl, q1, q2, q3⟩
      rw [Nat.sub_self] at q2
      exact ⟨_, rfl, k p2 _ q1 f2 q2⟩

end Pp

set_option Elab.async false
set_option linter.all false
set_option autoImplicit false
set_option maxRecDepth 100000
set_option maxHeartbeats 4000000
namespace Pp
open PySem PySem.Spec L2
variable {P : Program} {w : World} {K : PySem.W.Frag} {mg : Str → Option Value} {base : Heap}
/-- the numbers of the children of the node x, of all nodes -/
def kidsT (x : Nat) (n : Str × F) : List Nat := n.2.roots (x + 1)
def kidsFrom : List (Str × F) → Nat → List (List Nat)
  | [], _ => []
  | n :: l, x => kidsT x n :: kidsFrom l (x + 1)
theorem kidsFrom_len : ∀ (l : List (Str × F)) (x : Nat), (kidsFrom l x).length = l.length
  | [], _ => rfl
  | n :: l, x => by
    show (kidsFrom l (x + 1)).length + 1 = l.length + 1
    rw [kidsFrom_len l]
theorem kidsFrom_get : ∀ (l : List (Str × F)) (x i : Nat) (n : Str × F), l[i]? = some n → (kidsFrom l x)[i]? = some (kidsT (x + i) n)
  | [], _, _, _, h => by simp at h
  | m :: l, x, 0, n, h => by
    simp at h; subst h; rfl
  | m :: l, x, i + 1, n, h => by
    show (kidsFrom l (x + 1))[i]? = _
    rw [kidsFrom_get l (x + 1) i n (by simpa using h), show x + 1 + i = x + (i + 1) by omega]
/-- a list of tuples of numbers -/
def TupsAt (K : PySem.W.Frag) (H : Hp) (vs : List V) (ks : List (List Nat)) : Prop := DpAll K H vs (ks.map fun k => PyData.tuple (idt k))
theorem idt_vals {H : Hp} {xs : List V} : ∀ {s : List Nat}, DpAll K H xs (idt s) → xs = iv s
  | [], h => by cases h; rfl
  | n :: s, h => by
    cases h with
    | cons h1 t => rw [dp_int h1, idt_vals t]; rfl
theorem tups_get {H : Hp} {vs : List V} {ks : List (List Nat)} {i : Nat} {k : List Nat} (h : TupsAt K H vs ks) (hk : ks[i]? = some k) : ∃ p, vs[i]? = some (.ref p) ∧ SqT K H p (iv k) := by
  obtain ⟨v, h1, h2⟩ := dpa_get h (i := i) (d := .tuple (idt k)) (by rw [List.getElem?_map, hk]; rfl)
  obtain ⟨p, xs, rfl, hp, hx⟩ := dp_tup h2
  rw [idt_vals hx] at hp
  exact ⟨p, h1, hp⟩
theorem nl_idt : ∀ s : List Nat, nlA (idt s) = true := fun s => nlA_map (fun n => PyData.int (n : Nat)) (fun _ => rfl) s
theorem nl_tups (ks : List (List Nat)) : nlA (ks.map fun k => PyData.tuple (idt k)) = true := nlA_map _ (fun k => by rw [nl]; exact nl_idt k) ks
/-- the numbers of roots of the suffix -/
def sufN : F → Nat → Nat → List Nat
  | .nil, _, _ => []
  | .snoc a t c, o, x => if x < a.size + 1 then sufN a o x ++ [o + a.size] else sufN c (o + a.size + 1) (x - a.size - 1)
theorem sufN_end : ∀ (f : F) (o : Nat), sufN f o f.size = []
  | .nil, _ => rfl
  | .snoc a t c, o => by
    show (if a.size + (1 + c.size) < a.size + 1 then _ else sufN c (o + a.size + 1) (a.size + (1 + c.size) - a.size - 1)) = []
    rw [if_neg (by omega), show a.size + (1 + c.size) - a.size - 1 = c.size by omega]
    exact sufN_end c _
theorem sufN_zero : ∀ (f : F) (o : Nat), sufN f o 0 = f.roots o
  | .nil, _ => rfl
  | .snoc a t c, o => by
    show (if 0 < a.size + 1 then sufN a o 0 ++ [o + a.size] else _) = a.roots o ++ [o + a.size]
    rw [if_pos (by omega), sufN_zero a]
theorem sufN_node : ∀ (f : F) (o x : Nat) (t : Str) (c : F), f.nodes[x]? = some (t, c) → ∃ R, sufN f o x = (o + x) :: R ∧ sufN f o (x + 1) = c.roots (o + x + 1) ++ R
  | .nil, _, _, _, _, h => by simp [F.nodes] at h
  | .snoc a u e, o, x, t, c, h => by
    have h' : (a.nodes ++ (u, e) :: e.nodes)[x]? = some (t, c) := h
    have hn := nodes_len a
    show ∃ R, (if x < a.size + 1 then sufN a o x ++ [o + a.size] else sufN e (o + a.size + 1) (x - a.size - 1)) = (o + x) :: R ∧ (if x + 1 < a.size + 1 then sufN a o (x + 1) ++ [o + a.size] else sufN e (o + a.size + 1) (x + 1 - a.size - 1)) = c.roots (o + x + 1) ++ R
    by_cases hx : x < a.size
    · rw [List.getElem?_append_left (by omega)] at h'
      obtain ⟨R, h1, h2⟩ := sufN_node a o x t c h'
      refine ⟨R ++ [o + a.size], ?_, ?_⟩
      · rw [if_pos (by omega), h1]; rfl
      · rw [if_pos (by omega), h2, List.append_assoc]
    · rw [List.getElem?_append_right (by omega)] at h'
      cases q : x - a.nodes.length with
      | zero =>
        rw [q] at h'
        cases (Option.some.inj h')
        have : x = a.size := by omega
        subst this
        refine ⟨[], ?_, ?_⟩
        · rw [if_pos (by omega), sufN_end]; rfl
        · rw [if_neg (by omega), show a.size + 1 - a.size - 1 = 0 by omega, sufN_zero, List.append_nil]
      | succ y =>
        rw [q] at h'
        obtain ⟨R, h1, h2⟩ := sufN_node e (o + a.size + 1) y t c (by simpa using h')
        refine ⟨R, ?_, ?_⟩
        · rw [if_neg (by omega), show x - a.size - 1 = y by omega, h1]
          congr 1; omega
        · rw [if_neg (by omega), show x + 1 - a.size - 1 = y + 1 by omega, h2]
          congr 2; omega
theorem sufN_len : ∀ (f : F) (o x : Nat), (sufN f o x).length ≤ f.size
  | .nil, _, _ => Nat.le_refl _
  | .snoc a t c, o, x => by
    show (if x < a.size + 1 then sufN a o x ++ [o + a.size] else sufN c (o + a.size + 1) (x - a.size - 1)).length ≤ a.size + (1 + c.size)
    split
    · have := sufN_len a o x
      rw [List.length_append, List.length_singleton]; omega
    · have := sufN_len c (o + a.size + 1) (x - a.size - 1); omega
def RetI (ks : List (List Nat)) (K : PySem.W.Frag) (H : Hp) (Q : VK) : Prop := ∀ p vs H', Same H H' → H p = none → H' p = some (.lst vs) → TupsAt K H' vs ks → Q (.ref p) H'
def innerL (f : F) : List (List Nat) := kidsFrom f.nodes 0
theorem kids_drop : ∀ (l : List (Str × F)) (x k : Nat), (kidsFrom l x).drop k = kidsFrom (l.drop k) (x + k)
  | l, x, 0 => rfl
  | [], x, k + 1 => rfl
  | n :: l, x, k + 1 => by
    show (kidsFrom l (x + 1)).drop k = kidsFrom (l.drop k) (x + (k + 1))
    rw [kids_drop l (x + 1) k, show x + 1 + k = x + (k + 1) by omega]
def sp_inner_of (T : Txt K mg) : Sp := fun vs H Q _ => ∃ (v : V) (f : F), vs = [v] ∧ Dp K H v (rowD f.flat) ∧ f.size < sizeLine ∧ RetI (innerL f) K H Q
theorem ok_inner_of (T : Txt K mg) : FnOk P w K mg base CX0 1 T.a_inner_of T.d_inner_of P_inner_of (sp_inner_of T) := by
  refine T.F_inner_of.ok sc_inner_of (fun vs H Q E h => ?_) (fun cdv A outer s H vs Q E hr h => ?_)
  · obtain ⟨v, f, rfl, hv, hz, k⟩ := h
    rfl
  · obtain ⟨v, f, rfl, hv, hz, k⟩ := h
    refine ⟨_, (pss_cons (ps_asg (pe_tup (pa_cons (pe_op op_rep (pe_lst (pa_cons (pe_tup pa_nil) pa_nil)) (pe_callB call_len_seq (by rfl) T.n_len (by decide +kernel) (pa_cons (pv 0) pa_nil))) (pa_cons (pe_lst pa_nil) pa_nil))) (pg_tup rfl (pgs_cons (pg_name (i := 1) sc_inner_of.nd rfl (Or.inl rfl)) (pgs_cons (pg_name (i := 2) sc_inner_of.nd rfl (Or.inr rfl)) pgs_nil))))
      (pss_cons (ps_for PassesOwn.never rfl (pi_range3 (by rfl) T.n_range (pa_cons (pe_op op_sub (pe_callB call_len_seq (by rfl) T.n_len (by decide +kernel) (pa_cons (pv 0) pa_nil)) pe_int) (pa_cons (pe_un un_neg pe_int) (pa_cons (pe_un un_neg pe_int) pa_nil)))) (pg_name (i := 3) sc_inner_of.nd rfl (Or.inl rfl)) (pss_cons (ps_asg (pe_callTy call_tuple_of (by rfl) T.n_tuple (by decide +kernel) (pa_cons (pe_lc (own := [("_child", 4)]) rfl sc_inner_of.nd (pi_range1 (by rfl) T.n_range (pa_cons (pe_ix ix_tup (pe_ix ix_tup (pv 0) (pv 3) (fun _ _ => rfl)) pe_int (fun _ _ => rfl)) pa_nil)) (blkOk_by (N := N_inner_of) (sc := defScope s_inner_of) (by decide +kernel)) (fun _ _ _ _ _ => (pg_name (i := 4) sc_inner_of.nd rfl (Or.inl rfl))) (fun _ _ _ _ _ => pts_te (by exact pts_nil) (by first | rfl | (dsimp only <;> rfl))) (fun _ _ _ _ _ => pe_te (by exact (pe_bm0 PySem.F.plainAttrs_list PySem.F.slot_list_pop PySem.F.type_list_pop mt_pop (pv 2))) (by first | rfl | (dsimp only <;> rfl)))) pa_nil)) (pg_sub (pv 1) (pv 3) set_list))
        (pss_one (ps_expr (pe_bm PySem.F.plainAttrs_list PySem.F.slot_list_append PySem.F.type_list_append mt_append (pv 2) (pa_cons (pv 3) pa_nil))))))
      (pss_one (ps_ret (pv 1))))), ?_⟩
    obtain ⟨a, xs, rfl, ha, hxl, hget⟩ := row_at hv
    rw [flat_len] at hxl
    have h62 := line_lt _ hz
    refine ⟨by show 0 ≤ sizeLine; omega, fun p0 hp0 => ?_⟩
    have s0 := sm_new hp0 (o := .tup [])
    refine ⟨by show 1 ≤ sizeLine; have := big_lt; omega, fun p1 hp1 => ?_⟩
    have s1 := sm_put s0 (s0.free hp1) (o := .lst [.ref p0])
    have n01 : p0 ≠ p1 := ne_of_none upd_same hp1
    refine ⟨_, rfl, a, xs, rfl, .inr (sm_st s1 ha), p1, _, _, rfl, rfl, upd_same, by omega, by omega, (by show 1 * _ ≤ _; omega), fun p2 hp2 => ?_⟩
    have s2 := sm_put s1 (s1.free hp2) (o := .lst (List.replicate ((xs.length : Nat) : Int).toNat [V.ref p0]).flatten)
    have n02 : p0 ≠ p2 := ne_of_none ((upd_ne n01).trans upd_same) hp2
    refine ⟨Nat.zero_le _, fun p3 hp3 => ?_⟩
    have n32 : p2 ≠ p3 := ne_of_none upd_same hp3
    have n03 : p0 ≠ p3 := ne_of_none ((upd_ne n02).trans ((upd_ne n01).trans upd_same)) hp3
    have s3 := sm_put s2 (s2.free hp3) (o := .lst [])
    refine ⟨by show 2 ≤ sizeLine; have := big_lt; omega, fun p4 hp4 => ?_⟩
    have n42 : p2 ≠ p4 := ne_of_none ((upd_ne n32).trans upd_same) hp4
    have n43 : p3 ≠ p4 := ne_of_none upd_same hp4
    have n04 : p0 ≠ p4 := ne_of_none ((upd_ne n03).trans ((upd_ne n02).trans ((upd_ne n01).trans upd_same))) hp4
    have s4 := sm_put s3 (s3.free hp4) (o := .tup [.ref p2, .ref p3])
    refine ⟨p4, _, rfl, SqT.of upd_same, rfl, _, _, rfl, _, _, rfl, rfl, ?_⟩
    have f2 := s1.free hp2
    have f3 := s2.free hp3
    have hrep : (List.replicate ((xs.length : Nat) : Int).toNat [V.ref p0]).flatten = List.replicate f.size (V.ref p0) := by rw [Int.toNat_natCast, rep1, hxl]
    rw [hrep] at hp3 s2 s3 hp4 s4 ⊢
    have e2 : (upd (upd (upd (upd (upd H p0 (.tup [])) p1 (.lst [.ref p0])) p2 (.lst (List.replicate f.size (V.ref p0)))) p3 (.lst [])) p4 (.tup [.ref p2, .ref p3])) p2 = some (.lst (List.replicate f.size (V.ref p0))) := by
      rw [upd_ne n42, upd_ne n32, upd_same]
    have e3 : (upd (upd (upd (upd (upd H p0 (.tup [])) p1 (.lst [.ref p0])) p2 (.lst (List.replicate f.size (V.ref p0)))) p3 (.lst [])) p4 (.tup [.ref p2, .ref p3])) p3 = some (.lst []) := by
      rw [upd_ne n43, upd_same]
    generalize (upd (upd (upd (upd (upd H p0 (.tup [])) p1 (.lst [.ref p0])) p2 (.lst (List.replicate f.size (V.ref p0)))) p3 (.lst [])) p4 (.tup [.ref p2, .ref p3])) = H4 at *
    refine ⟨_, rfl, a, xs, rfl, .inr (sm_st s4 ha), _, _, rfl, rfl, 1, rfl, 1, rfl, _, _, _, _, rfl, RgC.neg (by omega) (by omega) (by decide) (by decide), ?_⟩
    rw [hxl, show (((f.size : Nat) : Int) - 1 - -1).toNat = f.size by omega]
    refine for_it walk_rangeC (fun i σ' H' => ∃ x3, σ' = [some (.ref a), some (.ref p2), some (.ref p3), x3, none] ∧ Same H H' ∧
      (∃ vs, vs.length = i ∧ H' p2 = some (.lst (List.replicate (f.size - i) (.ref p0) ++ vs)) ∧ TupsAt K H' vs ((innerL f).drop (f.size - i))) ∧ H' p3 = some (.lst (iv (sufN f 0 (f.size - i)).reverse))) ⟨none, rfl, s4, ⟨[], rfl, ?_, ?_⟩, ?_⟩ (fun _ _ _ _ _ => True.intro) ?_ ?_
    · rw [e2, Nat.sub_zero, List.append_nil]
    · have : (innerL f).drop (f.size - 0) = [] := List.drop_eq_nil_of_le (by unfold innerL; rw [kidsFrom_len, nodes_len]; exact Nat.le_refl _)
      rw [this]; exact .nil
    · rw [e3, Nat.sub_zero, sufN_end]; rfl
    · rintro i y σ' H1 H2 hi ⟨x3, rfl, q1, ⟨vs, vl, q2, qt⟩, q3⟩ ⟨rfl, hy⟩
      obtain ⟨x, hx⟩ : ∃ x, f.size - i = x + 1 := ⟨f.size - i - 1, by omega⟩
      have hat : ((f.size : Nat) : Int) - 1 + (i : Nat) * -1 = (x : Nat) := by omega
      have hy' : y = V.int (x : Nat) := by rw [hy]; show V.int _ = _; rw [hat]
      subst hy'
      rw [hx] at q2 q3 qt
      rw [show f.size - (i + 1) = x by omega]
      obtain ⟨⟨t, c⟩, hn⟩ : ∃ n, f.nodes[x]? = some n := ⟨_, List.getElem?_eq_getElem (by rw [nodes_len]; omega)⟩
      obtain ⟨R, r1, r2⟩ := sufN_node f 0 x t c hn
      rw [Nat.zero_add] at r1 r2
      obtain ⟨p, hp1', hp⟩ := hget x (t, c.len) (by rw [flat_nodes, List.getElem?_map, hn]; rfl)
      obtain ⟨hin, _⟩ := nodes_in f x t c hn
      have hcl := len_le_size c
      have htl := roots_len c (x + 1)
      refine ⟨_, rfl, _, rfl, a, _, _, _, rfl, rfl, sm_st q1 ha, atI_nat hp1', p, _, _, _, rfl, rfl, sm_st q1 hp, rfl, _, rfl, by omega, by omega, fun D hD => ?_⟩
      have hnD2 : p2 ≠ D := ne_of_none q2 hD
      have hzs : (iv (c.roots (x + 1))).length = c.len := by rw [iv_len, htl]
      rw [r2, List.reverse_append, iv_app, ← iv_rev (c.roots (x + 1))] at q3
      refine lc_pop (l := p3) (D := D) (n := c.len) (zs := iv (c.roots (x + 1))) (base := iv R.reverse) hzs q3 hD (fun _ => rfl) (fun _ => rfl) (by omega) ?_
      intro H3 g1 g2 g3
      have e2' : H3 p2 = some (.lst (List.replicate (x + 1) (.ref p0) ++ vs)) := (g1 p2 n32 hnD2).trans q2
      have s5 : Same H H3 := fun b o e => by
        by_cases b3 : b = p3
        · rw [b3, f3] at e; cases e
        · by_cases bD : b = D
          · rw [bD, q1.free hD] at e; cases e
          · rw [g1 b b3 bD]; exact q1 b o e
      have kp : Kp H2 H3 := fun b ys hb => by
        have nb3 : b ≠ p3 := rd_ne hb q3 True.intro
        have nbD : b ≠ D := fun z => by
          rw [z] at hb
          rcases hb with hb | ⟨_, hb⟩
          · rw [hD] at hb; cases hb
          · rw [hD] at hb; cases hb
        rcases hb with hb | ⟨o, hb⟩
        · exact .inl ((g1 b nb3 nbD).trans hb)
        · exact .inr ⟨o, (g1 b nb3 nbD).trans hb⟩
      refine ⟨D, _, rfl, .inl ⟨SqL.of g3, fun q hq => ?_⟩⟩
      have nq2 : p2 ≠ q := ne_of_none e2' hq
      have nq3 : p3 ≠ q := ne_of_none g2 hq
      have e2q : upd H3 q (.tup (iv (c.roots (x + 1)))) p2 = some (.lst (List.replicate (x + 1) (.ref p0) ++ vs)) := (upd_ne nq2).trans e2'
      refine ⟨_, rfl, _, rfl, p2, _, _, x, rfl, rfl, e2q, ixN_nat (by rw [List.length_append, List.length_replicate]; omega), ?_⟩
      rw [set_mid]
      have e3q : upd (upd H3 q (.tup (iv (c.roots (x + 1))))) p2 (.lst (List.replicate x (.ref p0) ++ .ref q :: vs)) p3 = some (.lst (iv R.reverse)) := (upd_ne (Ne.symm n32)).trans ((upd_ne nq3).trans g2)
      have hRl : (iv R.reverse).length < sizeLine := by
        rw [iv_len, List.length_reverse]
        have h1 := sufN_len f 0 x
        rw [r1, List.length_cons] at h1
        omega
      refine ⟨_, rfl, .inl ⟨rfl, _, SqL.of e3q⟩, _, rfl, p3, _, _, rfl, rfl, e3q, hRl, ?_⟩
      refine ⟨_, rfl, sm_put (sm_put (sm_put s5 (s5.free hq)) f2) f3, ⟨.ref q :: vs, by rw [List.length_cons, vl], (upd_ne n32).trans upd_same, ?_⟩, ?_⟩
      · have hdr : (innerL f).drop x = c.roots (x + 1) :: (innerL f).drop (x + 1) := by
          unfold innerL
          have hd : f.nodes.drop x = (t, c) :: f.nodes.drop (x + 1) := by
            rw [List.drop_eq_getElem_cons (by rw [nodes_len]; omega)]
            rw [List.getElem?_eq_getElem (by rw [nodes_len]; omega)] at hn
            rw [Option.some.inj hn]
          rw [kids_drop, kids_drop, hd, Nat.zero_add, Nat.zero_add]; rfl
        rw [hdr]
        have kp2 : Kp H3 (upd H3 q (.tup (iv (c.roots (x + 1))))) := Kp.new hq
        have kp3 : Kp (upd H3 q (.tup (iv (c.roots (x + 1))))) (upd (upd H3 q (.tup (iv (c.roots (x + 1))))) p2 (.lst (List.replicate x (.ref p0) ++ .ref q :: vs))) := Kp.lst e2q
        have kp4 := kp3.trans (Kp.lst e3q (o := .lst (iv R.reverse ++ [V.int (x : Nat)])))
        refine .cons (.tup (kp4.st (SqT.of upd_same)) (dpa_iv _)) ?_
        exact dpa_kp (kp.trans (kp2.trans kp4)) (nl_tups _) qt
      · rw [upd_same, r1, List.reverse_cons, iv_app]; rfl
    · rintro σ' H1 ⟨x3, rfl, q1, ⟨vs, vl, q2, qt⟩, q3⟩
      rw [Nat.sub_self] at q2 qt
      exact ⟨_, rfl, k p2 vs _ q1 f2 q2 qt⟩

end Pp

set_option Elab.async false
set_option linter.all false
set_option autoImplicit false
set_option maxRecDepth 100000
set_option maxHeartbeats 4000000
namespace Pp
open PySem PySem.Spec L2
variable {P : Program} {w : World} {K : PySem.W.Frag} {mg : Str → Option Value} {base : Heap}
/-! ### least sums -/
def tab (sa sb : Nat → Nat) (bt : Nat → Nat → Nat) : Nat → Nat → Nat
  | 0, 0 => 0
  | 0, j + 1 => tab sa sb bt 0 j + sb j
  | i + 1, 0 => tab sa sb bt i 0 + sa i
  | i + 1, j + 1 => min (min (tab sa sb bt i (j + 1) + sa i) (tab sa sb bt (i + 1) j + sb j)) (tab sa sb bt i j + bt i j)
termination_by i j => i + j
theorem tab_00 (sa sb : Nat → Nat) (bt : Nat → Nat → Nat) : tab sa sb bt 0 0 = 0 := by rw [tab]
theorem tab_0s (sa sb : Nat → Nat) (bt : Nat → Nat → Nat) (j : Nat) : tab sa sb bt 0 (j + 1) = tab sa sb bt 0 j + sb j := by rw [tab]
theorem tab_s0 (sa sb : Nat → Nat) (bt : Nat → Nat → Nat) (i : Nat) : tab sa sb bt (i + 1) 0 = tab sa sb bt i 0 + sa i := by rw [tab]
theorem tab_ss (sa sb : Nat → Nat) (bt : Nat → Nat → Nat) (i j : Nat) : tab sa sb bt (i + 1) (j + 1) = min (min (tab sa sb bt i (j + 1) + sa i) (tab sa sb bt (i + 1) j + sb j)) (tab sa sb bt i j + bt i j) := by rw [tab]
def rowOf (m : Nat) (g : Nat → Nat) : List Nat := (List.range (m + 1)).map g
theorem map_const_rep {α β : Type} (v : β) : ∀ l : List α, l.map (fun _ => v) = List.replicate l.length v
  | [] => rfl
  | _ :: l => by rw [List.map_cons, map_const_rep v l]; rfl
theorem rowOf_len (m : Nat) (g : Nat → Nat) : (rowOf m g).length = m + 1 := by unfold rowOf; rw [List.length_map, List.length_range]
theorem rowOf_get {m j : Nat} (g : Nat → Nat) (h : j ≤ m) : (rowOf m g)[j]? = some (g j) := by
  unfold rowOf; rw [List.getElem?_map, List.getElem?_range (by omega)]; rfl
def upd2 (g : Nat → Nat → Nat) (i j v : Nat) : Nat → Nat → Nat := fun a b => if a = i ∧ b = j then v else g a b
theorem rowOf_set {m j : Nat} (g : Nat → Nat → Nat) (i v : Nat) (h : j ≤ m) : (iv (rowOf m (g i))).set j (.int (v : Nat)) = iv (rowOf m (upd2 g i j v i)) := by
  apply List.ext_getElem?
  intro k
  rw [List.getElem?_set]
  have hl : (iv (rowOf m (g i))).length = m + 1 := by rw [iv_len, rowOf_len]
  by_cases hk : k ≤ m
  · rw [iv_get (rowOf_get _ hk), iv_get (rowOf_get _ hk)]
    by_cases e : j = k
    · subst e
      rw [if_pos rfl, if_pos (by omega)]
      unfold upd2; rw [if_pos ⟨rfl, rfl⟩]
    · rw [if_neg e]
      unfold upd2; rw [if_neg (fun z => e z.2.symm)]
  · have e1 : (iv (rowOf m (g i)))[k]? = none := List.getElem?_eq_none_iff.mpr (by omega)
    have e2 : (iv (rowOf m (upd2 g i j v i)))[k]? = none := List.getElem?_eq_none_iff.mpr (by rw [iv_len, rowOf_len]; omega)
    rw [e1, e2, if_neg (by omega)]
/-- a table of numbers: rows of their own -/
structure MatOk (H : Hp) (p : Addr) (rs : List Addr) (m : Nat) (g : Nat → Nat → Nat) : Prop where
  top : H p = some (.lst (rs.map V.ref))
  nd : rs.Nodup
  row : ∀ (i : Nat) (a : Addr), rs[i]? = some a → H a = some (.lst (iv (rowOf m (g i))))
theorem MatOk.ne {H : Hp} {p : Addr} {rs : List Addr} {m : Nat} {g : Nat → Nat → Nat} {i : Nat} {a : Addr} (M : MatOk H p rs m g) (h : rs[i]? = some a) : p ≠ a := fun z => by
  have h1 := M.row i a h
  rw [← z, M.top] at h1
  have h2 := HO.lst.inj (Option.some.inj h1)
  have hm : V.ref a ∈ rs.map V.ref := List.mem_map.mpr ⟨a, List.mem_of_getElem? h, rfl⟩
  rw [h2] at hm
  obtain ⟨n, _, hn⟩ := List.mem_map.mp hm
  cases hn
theorem MatOk.same {H H' : Hp} {p : Addr} {rs : List Addr} {m : Nat} {g : Nat → Nat → Nat} (M : MatOk H p rs m g) (s : Same H H') : MatOk H' p rs m g :=
  ⟨s _ _ M.top, M.nd, fun i a h => s _ _ (M.row i a h)⟩
theorem MatOk.store {H : Hp} {p : Addr} {rs : List Addr} {m : Nat} {g : Nat → Nat → Nat} {i j : Nat} {a : Addr} (M : MatOk H p rs m g) (h : rs[i]? = some a) (hj : j ≤ m) (v : Nat) :
    MatOk (upd H a (.lst ((iv (rowOf m (g i))).set j (.int (v : Nat))))) p rs m (upd2 g i j v) := by
  refine ⟨(upd_ne (M.ne h)).trans M.top, M.nd, fun k b hk => ?_⟩
  by_cases e : b = a
  · subst e
    have : k = i := nd_ix M.nd hk h
    subst this
    rw [upd_same, rowOf_set g k v hj]
  · have nk : k ≠ i := fun z => by subst z; rw [h] at hk; cases hk; exact e rfl
    rw [upd_ne e, M.row k b hk]
    have : rowOf m (g k) = rowOf m (upd2 g i j v k) := by
      unfold rowOf upd2
      exact List.map_congr_left fun x _ => (if_neg (fun z => nk z.1)).symm
    rw [this]
theorem MatOk.ext {H : Hp} {p : Addr} {rs : List Addr} {m : Nat} {g g' : Nat → Nat → Nat} (M : MatOk H p rs m g) (e : ∀ i, i < rs.length → ∀ j, j ≤ m → g i j = g' i j) : MatOk H p rs m g' :=
  ⟨M.top, M.nd, fun i a h => by
    have hi := (List.getElem?_eq_some_iff.mp h).1
    have : rowOf m (g i) = rowOf m (g' i) := by
      unfold rowOf
      exact List.map_congr_left fun x hx => e i hi x (by have := List.mem_range.mp hx; omega)
    rw [M.row i a h, this]⟩
/-- a list of pairs of numbers -/
def PairsAt (K : PySem.W.Frag) (H : Hp) (l : Addr) (xs : List (Nat × Nat)) : Prop := ∃ vs, SqL K H l vs ∧ vs.length = xs.length ∧ ∀ (i : Nat) (n : Nat × Nat), xs[i]? = some n → ∃ p, vs[i]? = some (.ref p) ∧ SqT K H p [.int (n.1 : Nat), .int (n.2 : Nat)]
theorem PairsAt.same {H H' : Hp} {l : Addr} {xs : List (Nat × Nat)} (h : PairsAt K H l xs) (s : Same H H') : PairsAt K H' l xs := by
  obtain ⟨vs, h1, h2, h3⟩ := h
  exact ⟨vs, sm_sl s h1, h2, fun i n hn => by obtain ⟨p, q1, q2⟩ := h3 i n hn; exact ⟨p, q1, sm_st s q2⟩⟩
def k2 (x y : Nat) : List Key := [Sum.inl (x : Int), Sum.inl (y : Int)]
theorem k2_kV (x y : Nat) : (k2 x y).map kV = [V.int (x : Nat), V.int (y : Nat)] := rfl
/-- the dict of the numbers between -/
def BetAt (H : Hp) (d : Addr) (b : Nat → Nat → Nat) (ok : Nat → Nat → Prop) : Prop := ∃ kvs, H d = some (.dT kvs) ∧ ∀ x y, ok x y → valV kvs (k2 x y) = some (.int (b x y : Nat))
def fst0 (xs : List (Nat × Nat)) (i : Nat) : Nat := (xs.getD i (0, 0)).1
def snd0 (xs : List (Nat × Nat)) (i : Nat) : Nat := (xs.getD i (0, 0)).2
def sums (xs ys : List (Nat × Nat)) (b : Nat → Nat → Nat) : Nat → Nat → Nat := tab (snd0 xs) (snd0 ys) (fun i j => b (fst0 xs i) (fst0 ys j))
theorem get0 {xs : List (Nat × Nat)} {i : Nat} {n : Nat × Nat} (h : xs[i]? = some n) : fst0 xs i = n.1 ∧ snd0 xs i = n.2 := by
  unfold fst0 snd0
  rw [List.getD_eq_getElem?_getD, h]
  exact ⟨rfl, rfl⟩
def RetM (n m : Nat) (g : Nat → Nat → Nat) (H : Hp) (Q : VK) : Prop := ∀ p rs H', Same H H' → H p = none → rs.length = n + 1 → MatOk H' p rs m g → Q (.ref p) H'
def sp_least_sums (T : Txt K mg) : Sp := fun vs H Q _ => ∃ (a l d : Addr) (xs ys : List (Nat × Nat)) (b : Nat → Nat → Nat), vs = [.ref a, .ref l, .ref d] ∧ PairsAt K H a xs ∧ PairsAt K H l ys ∧
  BetAt H d b (fun x y => x ∈ xs.map Prod.fst ∧ y ∈ ys.map Prod.fst) ∧ xs.length < 1000000 ∧ ys.length < 1000000 ∧ RetM xs.length ys.length (sums xs ys b) H Q
theorem mil_lt : 1000001 ≤ sizeLine := by rw [sizeLine_eq]; decide
theorem ok_least_sums (T : Txt K mg) : FnOk P w K mg base CX0 1 T.a_least_sums T.d_least_sums P_least_sums (sp_least_sums T) := by
  refine T.F_least_sums.ok sc_least_sums (fun vs H Q E h => ?_) (fun cdv A outer s H vs Q E hr h => ?_)
  · obtain ⟨a, l, d, xs, ys, b, rfl, hxs, hys, hbt, hn, hm, k⟩ := h
    rfl
  · obtain ⟨a, l, d, xs, ys, b, rfl, hxs, hys, hbt, hn, hm, k⟩ := h
    refine ⟨_, (pss_cons (ps_setLc (i := 3) (own := [("_row", 13)]) rfl sc_least_sums.nd rfl rfl (sw_true rfl rfl rfl (by decide +kernel)) (pi_range1 (by rfl) T.n_range (pa_cons (pe_op op_add (pe_callB call_len_seq (by rfl) T.n_len (by decide +kernel) (pa_cons (pv 0) pa_nil)) pe_int) pa_nil)) (blkOk_by (N := N_least_sums) (sc := defScope s_least_sums) (by decide +kernel)) (fun _ _ _ _ _ => (pg_name (i := 13) sc_least_sums.nd rfl (Or.inl rfl))) (fun _ _ _ _ _ => pts_te (by exact pts_nil) (by first | rfl | (dsimp only <;> rfl))) (fun _ _ _ _ _ => pe_te (by exact (pe_op op_rep (pe_lst (pa_cons pe_int pa_nil)) (pe_op op_add (pe_callB call_len_seq (by rfl) T.n_len (by decide +kernel) (pa_cons (pv 1) pa_nil)) pe_int))) (by first | rfl | (dsimp only <;> rfl))))
      (pss_cons (ps_for PassesOwn.never rfl (pi_enum (by rfl) T.n_enumerate (pa_cons (pv 1) pa_nil)) (pg_tup rfl (pgs_cons (pg_name (i := 4) sc_least_sums.nd rfl (Or.inl rfl)) (pgs_cons (pg_tup rfl (pgs_cons (pg_name (i := 5) sc_least_sums.nd rfl (Or.inl rfl)) (pgs_cons (pg_name (i := 6) sc_least_sums.nd rfl (Or.inl rfl)) pgs_nil))) pgs_nil))) (pss_one (ps_asg (pe_op op_add (pe_ix ix_list (pe_ix ix_list (pv 3) pe_int (fun _ _ => rfl)) (pv 4) (fun _ _ => rfl)) (pv 6)) (pg_sub (pe_ix ix_list (pv 3) pe_int (fun _ _ => rfl)) (pe_op op_add (pv 4) pe_int) set_list))))
      (pss_cons (ps_for PassesOwn.never rfl (pi_enum (by rfl) T.n_enumerate (pa_cons (pv 0) pa_nil)) (pg_tup rfl (pgs_cons (pg_name (i := 7) sc_least_sums.nd rfl (Or.inl rfl)) (pgs_cons (pg_tup rfl (pgs_cons (pg_name (i := 8) sc_least_sums.nd rfl (Or.inl rfl)) (pgs_cons (pg_name (i := 9) sc_least_sums.nd rfl (Or.inl rfl)) pgs_nil))) pgs_nil))) (pss_cons (ps_asg (pe_op op_add (pe_ix ix_list (pe_ix ix_list (pv 3) (pv 7) (fun _ _ => rfl)) pe_int (fun _ _ => rfl)) (pv 9)) (pg_sub (pe_ix ix_list (pv 3) (pe_op op_add (pv 7) pe_int) (fun _ _ => rfl)) pe_int set_list))
        (pss_one (ps_for PassesOwn.never rfl (pi_enum (by rfl) T.n_enumerate (pa_cons (pv 1) pa_nil)) (pg_tup rfl (pgs_cons (pg_name (i := 4) sc_least_sums.nd rfl (Or.inl rfl)) (pgs_cons (pg_tup rfl (pgs_cons (pg_name (i := 10) sc_least_sums.nd rfl (Or.inl rfl)) (pgs_cons (pg_name (i := 11) sc_least_sums.nd rfl (Or.inl rfl)) pgs_nil))) pgs_nil))) (pss_cons (ps_set (i := 12) sc_least_sums.nd rfl (Or.inl rfl) (pe_op op_add (pe_ix ix_list (pe_ix ix_list (pv 3) (pv 7) (fun _ _ => rfl)) (pv 4) (fun _ _ => rfl)) (pe_dget (hu_of hr) (pv 2) (pe_tup (pa_cons (pv 8) (pa_cons (pv 10) pa_nil))) (fun _ _ => rfl))))
          (pss_one (ps_asg (pe_callB (call_min3I rfl) (by rfl) T.n_min (by decide +kernel) (pa_cons (pe_op op_add (pe_ix ix_list (pe_ix ix_list (pv 3) (pv 7) (fun _ _ => rfl)) (pe_op op_add (pv 4) pe_int) (fun _ _ => rfl)) (pv 9)) (pa_cons (pe_op op_add (pe_ix ix_list (pe_ix ix_list (pv 3) (pe_op op_add (pv 7) pe_int) (fun _ _ => rfl)) (pv 4) (fun _ _ => rfl)) (pv 11)) (pa_cons (pv 12) pa_nil)))) (pg_sub (pe_ix ix_list (pv 3) (pe_op op_add (pv 7) pe_int) (fun _ _ => rfl)) (pe_op op_add (pv 4) pe_int) set_list))))))))
      (pss_one (ps_ret (pv 3)))))), ?_⟩
    have hM := mil_lt
    obtain ⟨us, hu, hul, huget⟩ := id hxs
    obtain ⟨ws, hw, hwl, hwget⟩ := id hys
    refine ⟨_, rfl, a, us, rfl, .inl hu, _, _, rfl, rfl, _, rfl, by omega, by omega, fun D hD => ?_⟩
    rw [hul, show (((xs.length : Nat) : Int) + 1).toNat = xs.length + 1 by omega]
    refine lc_it walk_range (fun i H' => Same H H' ∧ ∃ rs : List Addr, rs.length = i ∧ H' D = some (.lst (rs.map V.ref)) ∧ rs.Nodup ∧ (∀ r ∈ rs, H r = none ∧ D ≠ r) ∧ ∀ r ∈ rs, H' r = some (.lst (iv (rowOf ys.length (fun _ => 0))))) ⟨sm_new hD, [], rfl, upd_same, List.nodup_nil, (fun _ h => by cases h), (fun _ h => by cases h)⟩ (fun _ _ _ _ => True.intro) ?_ ?_
    · rintro i y H1 H2 hi ⟨s1, rs, r1, r2, r3, r4, r5⟩ ⟨rfl, rfl⟩
      refine ⟨rfl, by show 1 ≤ sizeLine; omega, fun p1 hp1 => ?_⟩
      have s2 := sm_put s1 (s1.free hp1) (o := .lst [.int 0])
      refine ⟨_, rfl, l, ws, rfl, .inl (sm_sl s2 hw), _, _, rfl, rfl, p1, _, _, rfl, rfl, upd_same, by omega, by omega, by show 1 * _ ≤ _; omega, fun p2 hp2 => ?_⟩
      have hrep : (List.replicate (((ws.length : Nat) : Int) + 1).toNat [V.int 0]).flatten = iv (rowOf ys.length (fun _ => 0)) := by
        rw [hwl, show (((ys.length : Nat) : Int) + 1).toNat = ys.length + 1 by omega, rep1]
        unfold iv rowOf
        rw [List.map_map, show ((fun (n : Nat) => V.int (n : Nat)) ∘ fun (_ : Nat) => 0) = (fun _ => V.int 0) from rfl, map_const_rep, List.length_range]
      rw [hrep]
      have s3 := sm_put s2 (s2.free hp2) (o := .lst (iv (rowOf ys.length (fun _ => 0))))
      have nD1 : D ≠ p1 := ne_of_none r2 hp1
      have nD2 : D ≠ p2 := ne_of_none ((upd_ne nD1).trans r2) hp2
      have nr : ∀ r ∈ rs, r ≠ p2 ∧ r ≠ p1 := fun r hr => by
        have h1 := ne_of_none (r5 r hr) hp1
        exact ⟨ne_of_none ((upd_ne h1).trans (r5 r hr)) hp2, h1⟩
      refine ⟨rs.map V.ref, (upd_ne nD2).trans ((upd_ne nD1).trans r2), by rw [List.length_map]; omega, sm_put s3 hD, rs ++ [p2], by rw [List.length_append, r1]; rfl, by rw [upd_same, List.map_append]; rfl, ?_, ?_, ?_⟩
      · rw [List.nodup_append]
        exact ⟨r3, by simp, fun x hx y hy => by rw [List.mem_singleton] at hy; subst hy; exact (nr x hx).1⟩
      · intro r hr
        rcases List.mem_append.mp hr with h | h
        · exact r4 r h
        · rw [List.mem_singleton] at h; subst h
          exact ⟨s2.free hp2, nD2⟩
      · intro r hr
        rcases List.mem_append.mp hr with h | h
        · rw [upd_ne (Ne.symm (r4 r h).2), upd_ne (nr r h).1, upd_ne (nr r h).2]; exact r5 r h
        · rw [List.mem_singleton] at h; subst h
          rw [upd_ne (Ne.symm nD2), upd_same]
    · rintro H1 ⟨s1, rs, r1, r2, r3, r4, r5⟩
      have M0 : MatOk H1 D rs ys.length (fun _ _ => 0) := ⟨r2, r3, fun i r hr => r5 r (List.mem_of_getElem? hr)⟩
      have rget : ∀ i, i < xs.length + 1 → ∃ r, rs[i]? = some r ∧ H r = none ∧ (rs.map V.ref)[i]? = some (.ref r) := fun i hi => by
        have h : rs[i]? = some (rs[i]'(by omega)) := List.getElem?_eq_getElem _
        exact ⟨_, h, (r4 _ (List.mem_of_getElem? h)).1, by rw [List.getElem?_map, h]; rfl⟩
      clear r5 r2
      refine ⟨_, rfl, l, ws, rfl, sm_sl s1 hw, ?_⟩
      obtain ⟨ra, hra, fra, hra'⟩ := rget 0 (by omega)
      refine for_it walk_enum (fun j σ' H' => ∃ x4 x5 x6 g, σ' = [some (.ref a), some (.ref l), some (.ref d), some (.ref D), x4, x5, x6, none, none, none, none, none, none, none] ∧ Same H H' ∧ MatOk H' D rs ys.length g ∧ ∀ j', j' ≤ j → g 0 j' = sums xs ys b 0 j')
        ⟨none, none, none, _, rfl, s1, M0, fun j' hj => by have : j' = 0 := by omega
                                                           subst this; unfold sums; rw [tab_00]⟩ (fun i σ' H' _ p => by obtain ⟨_, _, _, _, _, q, _⟩ := p; exact sm_sl q hw) ?_ ?_
      · rintro j y σ' H2 H3 hj ⟨x4, x5, x6, g, rfl, q1, M, qg⟩ ⟨t, u, z, rfl, ht, rfl, hu', hz⟩
        obtain rfl : V.int (j : Nat) = u := Option.some.inj hu'
        obtain ⟨n, hn'⟩ : ∃ n, ys[j]? = some n := ⟨_, List.getElem?_eq_getElem (by omega)⟩
        obtain ⟨p, hp1, hp2⟩ := hwget j n hn'
        have hz' : ws[j]? = some z := hz
        rw [hz'] at hp1; cases hp1
        have q2 := sm_put q1 (q1.free ht) (o := .tup [V.int (j : Nat), .ref p])
        have M2 := M.same (sm_new ht (o := .tup [V.int (j : Nat), .ref p]))
        have hj2 : j < ys.length := by omega
        refine ⟨t, _, rfl, SqT.of upd_same, rfl, _, _, rfl, _, _, rfl, ⟨p, _, rfl, sm_st q2 hp2, rfl, _, _, rfl, _, _, rfl, rfl, ?_⟩⟩
        refine ⟨rfl, _, rfl, D, _, 0, _, rfl, rfl, SqL.of M2.top, atI_nat (j := 0) hra', _, rfl, ra, _, _, _, rfl, rfl, SqL.of (M2.row 0 ra hra), atI_nat (iv_get (rowOf_get (g 0) (show j ≤ ys.length by omega))), _, rfl, _, _, rfl, rfl, ?_⟩
        have hval : sums xs ys b 0 (j + 1) = g 0 j + n.2 := by
          unfold sums; rw [tab_0s]
          have := qg j (Nat.le_refl _)
          unfold sums at this
          rw [this, (get0 hn').2]
        refine ⟨_, rfl, D, _, 0, _, rfl, rfl, SqL.of M2.top, atI_nat (j := 0) hra', _, rfl, _, _, rfl, rfl, ra, _, _, j + 1, rfl, rfl, M2.row 0 ra hra, ?_, ?_⟩
        · rw [iv_len, rowOf_len, show ((j : Int) + 1) = ((j + 1 : Nat) : Int) by omega]; exact ixN_nat (by omega)
        · dsimp only
          rw [show (((g 0 j : Nat) : Int) + ((n.2 : Nat) : Int)) = ((g 0 j + n.2 : Nat) : Int) by omega]
          refine ⟨_, _, _, _, rfl, sm_put q2 fra, M2.store hra (show j + 1 ≤ ys.length by omega) _, fun j' hj' => ?_⟩
          unfold upd2
          by_cases e : j' = j + 1
          · subst e; rw [if_pos ⟨rfl, rfl⟩, hval]
          · rw [if_neg (fun z => e z.2)]; exact qg j' (by omega)
      · rintro σ' H2 ⟨x4, x5, x6, g, rfl, q1, M, qg⟩
        rw [hwl] at qg
        refine ⟨_, rfl, a, us, rfl, sm_sl q1 hu, ?_⟩
        refine for_it walk_enum (fun i σ' H' => ∃ x4 x5 x6 x7 x8 x9 x10 x11 x12 g, σ' = [some (.ref a), some (.ref l), some (.ref d), some (.ref D), x4, x5, x6, x7, x8, x9, x10, x11, x12, none] ∧ Same H H' ∧ MatOk H' D rs ys.length g ∧ ∀ i', i' ≤ i → ∀ j', j' ≤ ys.length → g i' j' = sums xs ys b i' j')
          ⟨_, _, _, _, _, _, _, _, _, _, rfl, q1, M, fun i' hi' j' hj' => by have : i' = 0 := by omega
                                                                             subst this; exact qg j' hj'⟩ (fun i σ' H' _ p => by obtain ⟨_, _, _, _, _, _, _, _, _, _, _, q, _⟩ := p; exact sm_sl q hu) ?_ ?_
        · rintro i y σ' H3 H4 hi ⟨x4, x5, x6, x7, x8, x9, x10, x11, x12, g2, rfl, q2, M2, qg2⟩ ⟨t, u, z, rfl, ht, rfl, hu', hz⟩
          obtain rfl : V.int (i : Nat) = u := Option.some.inj hu'
          obtain ⟨n, hn'⟩ : ∃ n, xs[i]? = some n := ⟨_, List.getElem?_eq_getElem (by omega)⟩
          obtain ⟨p, hp1, hp2⟩ := huget i n hn'
          have hz' : us[i]? = some z := hz
          rw [hz'] at hp1; cases hp1
          have q3 := sm_put q2 (q2.free ht) (o := .tup [V.int (i : Nat), .ref p])
          have M3 := M2.same (sm_new ht (o := .tup [V.int (i : Nat), .ref p]))
          obtain ⟨r0, hr0, fr0, hr0'⟩ := rget i (by omega)
          obtain ⟨r1', hr1, fr1, hr1'⟩ := rget (i + 1) (by omega)
          refine ⟨t, _, rfl, SqT.of upd_same, rfl, _, _, rfl, _, _, rfl, ⟨p, _, rfl, sm_st q3 hp2, rfl, _, _, rfl, _, _, rfl, rfl, ?_⟩⟩
          refine ⟨rfl, _, rfl, _, rfl, D, _, _, _, rfl, rfl, SqL.of M3.top, atI_nat hr0', r0, _, 0, _, rfl, rfl, SqL.of (M3.row i r0 hr0), atI_nat (j := 0) (iv_get (rowOf_get (g2 i) (Nat.zero_le _))), _, rfl, _, _, rfl, rfl, ?_⟩
          have hval : sums xs ys b (i + 1) 0 = g2 i 0 + n.2 := by
            unfold sums; rw [tab_s0]
            have := qg2 i (Nat.le_refl _) 0 (Nat.zero_le _)
            unfold sums at this
            rw [this, (get0 hn').2]
          refine ⟨_, rfl, _, rfl, _, _, rfl, rfl, D, _, _, _, rfl, rfl, SqL.of M3.top, by rw [show ((i : Int) + 1) = ((i + 1 : Nat) : Int) by omega]; exact atI_nat hr1', r1', _, 0, 0, rfl, rfl, M3.row (i + 1) r1' hr1, ?_, ?_⟩
          · rw [iv_len, rowOf_len]; exact ixN_nat (i := 0) (by omega)
          dsimp only
          rw [show (((g2 i 0 : Nat) : Int) + ((n.2 : Nat) : Int)) = ((g2 i 0 + n.2 : Nat) : Int) by omega]
          have q4 := sm_put q3 fr1 (o := .lst ((iv (rowOf ys.length (g2 (i + 1)))).set 0 (.int ((g2 i 0 + n.2 : Nat) : Nat))))
          have M4 := M3.store hr1 (Nat.zero_le _) (g2 i 0 + n.2)
          generalize upd (upd H3 t (.tup [V.int (i : Nat), .ref p])) r1' (.lst ((iv (rowOf ys.length (g2 (i + 1)))).set 0 (.int ((g2 i 0 + n.2 : Nat) : Nat)))) = H5 at *
          refine ⟨_, rfl, l, ws, rfl, sm_sl q4 hw, ?_⟩
          refine for_it walk_enum (fun j σ' H' => ∃ x4 x5 x6 x10 x11 x12 g, σ' = [some (.ref a), some (.ref l), some (.ref d), some (.ref D), x4, x5, x6, some (.int (i : Nat)), some (.int (n.1 : Nat)), some (.int (n.2 : Nat)), x10, x11, x12, none] ∧ Same H H' ∧ MatOk H' D rs ys.length g ∧
              (∀ i', i' ≤ i → ∀ j', j' ≤ ys.length → g i' j' = sums xs ys b i' j') ∧ ∀ j', j' ≤ j → g (i + 1) j' = sums xs ys b (i + 1) j')
            ⟨_, _, _, _, _, _, _, rfl, q4, M4, fun i' hi' j' hj' => ?_, fun j' hj' => ?_⟩ (fun i σ' H' _ p => by obtain ⟨_, _, _, _, _, _, _, _, q, _⟩ := p; exact sm_sl q hw) ?_ ?_
          · unfold upd2; rw [if_neg (fun z => by omega)]; exact qg2 i' hi' j' hj'
          · have : j' = 0 := by omega
            subst this
            unfold upd2; rw [if_pos ⟨rfl, rfl⟩, hval]
          · rintro j y σ' H6 H7 hj ⟨x4, x5, x6, x10, x11, x12, g3, rfl, q5, M5, ga, gb⟩ ⟨t2, u2, z2, rfl, ht2, rfl, hu2, hz2⟩
            obtain rfl : V.int (j : Nat) = u2 := Option.some.inj hu2
            obtain ⟨n2, hn2⟩ : ∃ n, ys[j]? = some n := ⟨_, List.getElem?_eq_getElem (by omega)⟩
            obtain ⟨p2, hp3, hp4⟩ := hwget j n2 hn2
            have hz3 : ws[j]? = some z2 := hz2
            rw [hz3] at hp3; cases hp3
            have q6 := sm_put q5 (q5.free ht2) (o := .tup [V.int (j : Nat), .ref p2])
            have M6 := M5.same (sm_new ht2 (o := .tup [V.int (j : Nat), .ref p2]))
            have hjm : j < ys.length := by omega
            refine ⟨t2, _, rfl, SqT.of upd_same, rfl, _, _, rfl, _, _, rfl, ⟨p2, _, rfl, sm_st q6 hp4, rfl, _, _, rfl, _, _, rfl, rfl, ?_⟩⟩
            refine ⟨rfl, _, rfl, _, rfl, D, _, _, _, rfl, rfl, SqL.of M6.top, atI_nat hr0', _, rfl, r0, _, _, _, rfl, rfl, SqL.of (M6.row i r0 hr0), atI_nat (iv_get (rowOf_get (g3 i) (show j ≤ ys.length by omega))), ?_⟩
            refine ⟨_, rfl, _, rfl, _, rfl, by show 2 ≤ sizeLine; omega, fun t3 ht3 => ?_⟩
            have q7 := sm_put q6 (q6.free ht3) (o := .tup [V.int (n.1 : Nat), V.int (n2.1 : Nat)])
            have M7 := M6.same (sm_new ht3 (o := .tup [V.int (n.1 : Nat), V.int (n2.1 : Nat)]))
            obtain ⟨kvs, hk1, hk2⟩ := id hbt
            have hget := hk2 n.1 n2.1 ⟨List.mem_map.mpr ⟨n, List.mem_of_getElem? hn', rfl⟩, List.mem_map.mpr ⟨n2, List.mem_of_getElem? hn2, rfl⟩⟩
            refine ⟨d, .int (b n.1 n2.1 : Nat), rfl, by rw [← hget]; exact DGet.t (q7 _ _ hk1) (k := k2 n.1 n2.1) upd_same, _, _, rfl, rfl, ?_⟩
            generalize upd (upd H6 t2 (.tup [V.int (j : Nat), .ref p2])) t3 (.tup [V.int (n.1 : Nat), V.int (n2.1 : Nat)]) = H8 at *
            have e1 : ((i : Int) + 1) = ((i + 1 : Nat) : Int) := by omega
            have e2 : ((j : Int) + 1) = ((j + 1 : Nat) : Int) := by omega
            refine ⟨_, rfl, _, rfl, D, _, _, _, rfl, rfl, SqL.of M7.top, atI_nat hr0', _, rfl, _, _, rfl, rfl, r0, _, _, _, rfl, rfl, SqL.of (M7.row i r0 hr0), by rw [e2]; exact atI_nat (iv_get (rowOf_get (g3 i) (show j + 1 ≤ ys.length by omega))), _, rfl, _, _, rfl, rfl, ?_⟩
            refine ⟨_, rfl, _, rfl, _, _, rfl, rfl, D, _, _, _, rfl, rfl, SqL.of M7.top, by rw [e1]; exact atI_nat hr1', _, rfl, r1', _, _, _, rfl, rfl, SqL.of (M7.row (i + 1) r1' hr1), atI_nat (iv_get (rowOf_get (g3 (i + 1)) (show j ≤ ys.length by omega))), _, rfl, _, _, rfl, rfl, ?_⟩
            refine ⟨_, rfl, _, _, _, rfl, ?_⟩
            refine ⟨_, rfl, _, rfl, _, _, rfl, rfl, D, _, _, _, rfl, rfl, SqL.of M7.top, by rw [e1]; exact atI_nat hr1', _, rfl, _, _, rfl, rfl, r1', _, _, j + 1, rfl, rfl, M7.row (i + 1) r1' hr1, ?_, ?_⟩
            · rw [e2, iv_len, rowOf_len]; exact ixN_nat (by omega)
            have hv : min (min (((g3 i (j + 1) : Nat) : Int) + ((n.2 : Nat) : Int)) (((g3 (i + 1) j : Nat) : Int) + ((n2.2 : Nat) : Int))) (((g3 i j : Nat) : Int) + ((b n.1 n2.1 : Nat) : Int)) = ((sums xs ys b (i + 1) (j + 1) : Nat) : Int) := by
              have h1 := ga i (Nat.le_refl _) (j + 1) hjm
              have h2 := gb j (Nat.le_refl _)
              have h3 := ga i (Nat.le_refl _) j (by omega)
              rw [h1, h2, h3]
              unfold sums
              rw [tab_ss, (get0 hn').2, (get0 hn2).2, (get0 hn').1, (get0 hn2).1]
              omega
            rw [hv]
            refine ⟨_, _, _, _, _, _, _, rfl, sm_put q7 fr1, M7.store hr1 (show j + 1 ≤ ys.length by omega) _, fun i' hi' j' hj' => ?_, fun j' hj' => ?_⟩
            · unfold upd2; rw [if_neg (fun z => by omega)]; exact ga i' hi' j' hj'
            · unfold upd2
              by_cases e : j' = j + 1
              · subst e; rw [if_pos ⟨rfl, rfl⟩]
              · rw [if_neg (fun z => e z.2)]; exact gb j' (by omega)
          · rintro σ' H6 ⟨x4, x5, x6, x10, x11, x12, g3, rfl, q5, M5, ga, gb⟩
            rw [hwl] at gb
            refine ⟨_, _, _, _, _, _, _, _, _, _, rfl, q5, M5, fun i' hi' j' hj' => ?_⟩
            by_cases e : i' = i + 1
            · subst e; exact gb j' hj'
            · exact ga i' (by omega) j' hj'
        · rintro σ' H3 ⟨x4, x5, x6, x7, x8, x9, x10, x11, x12, g2, rfl, q2, M2, qg2⟩
          rw [hul] at qg2
          exact ⟨_, rfl, k D rs _ q2 hD r1 (M2.ext fun i hi j hj => qg2 i (by omega) j hj)⟩

end Pp

set_option Elab.async false
set_option linter.all false
set_option autoImplicit false
set_option maxRecDepth 100000
set_option maxHeartbeats 4000000
namespace Pp
open PySem PySem.Spec L2
variable {P : Program} {w : World} {K : PySem.W.Frag} {mg : Str → Option Value} {base : Heap}
/-! ### distances of rows -/
def ne1 (t u : Str) : Nat := if t = u then 0 else 1
def dF : F → F → Nat
  | .nil, .nil => 0
  | .nil, .snoc b _ e => dF .nil b + (1 + e.size)
  | .snoc a _ c, .nil => dF a .nil + (1 + c.size)
  | .snoc a t c, .snoc b u e => min (min (dF a (.snoc b u e) + (1 + c.size)) (dF (.snoc a t c) b + (1 + e.size))) (dF a b + (ne1 t u + dF c e))
termination_by f g => sizeOf f + sizeOf g
theorem dF_nn : dF .nil .nil = 0 := by rw [dF]
theorem dF_ns (b : F) (u : Str) (e : F) : dF .nil (.snoc b u e) = dF .nil b + (1 + e.size) := by rw [dF]
theorem dF_sn (a : F) (t : Str) (c : F) : dF (.snoc a t c) .nil = dF a .nil + (1 + c.size) := by rw [dF]
theorem dF_ss (a : F) (t : Str) (c : F) (b : F) (u : Str) (e : F) : dF (.snoc a t c) (.snoc b u e) = min (min (dF a (.snoc b u e) + (1 + c.size)) (dF (.snoc a t c) b + (1 + e.size))) (dF a b + (ne1 t u + dF c e)) := by rw [dF]
/-- the node x -/
def nodeN (f : F) (x : Nat) : Str × F := f.nodes.getD x ("", .nil)
theorem nodeN_of {f : F} {x : Nat} {n : Str × F} (h : f.nodes[x]? = some n) : nodeN f x = n := by
  unfold nodeN; rw [List.getD_eq_getElem?_getD, h]; rfl
def szN (f : F) (x : Nat) : Nat := szT (nodeN f x)
def dT (n m : Str × F) : Nat := ne1 n.1 m.1 + dF n.2 m.2
def dN (f g : F) (x y : Nat) : Nat := dT (nodeN f x) (nodeN g y)
def pairsN (f : F) (ks : List Nat) : List (Nat × Nat) := ks.map fun k => (k, szN f k)
/-- the row c stands in f from o on -/
def Sits (f c : F) (o : Nat) : Prop := ∀ i, i < c.size → f.nodes[o + i]? = c.nodes[i]?
theorem sits_self (f : F) : Sits f f 0 := fun i _ => by rw [Nat.zero_add]
theorem sits_kids {f : F} {x : Nat} {t : Str} {c : F} (h : f.nodes[x]? = some (t, c)) : Sits f c (x + 1) := (nodes_in f x t c h).2
theorem sits_root {f c : F} {o i : Nat} (h : Sits f c o) (hi : i < c.len) : ∃ t k x, c.trees[i]? = some (t, k) ∧ (c.roots o)[i]? = some x ∧ f.nodes[x]? = some (t, k) ∧ c.pre (i + 1) = .snoc (c.pre i) t k := by
  obtain ⟨t, k, h1, h2, h3⟩ := tree_get c i hi
  have hs := pre_lt hi
  exact ⟨t, k, _, h1, roots_pre c o i hi, (h _ hs).trans h2, pre_succ c i t k h1⟩
theorem sums_dF {f g c e : F} {o q : Nat} (hc : Sits f c o) (he : Sits g e q) : ∀ (n i j : Nat), i + j ≤ n → i ≤ c.len → j ≤ e.len →
    sums (pairsN f (c.roots o)) (pairsN g (e.roots q)) (dN f g) i j = dF (c.pre i) (e.pre j) := by
  intro n
  induction n with
  | zero =>
    intro i j h _ _
    have hi : i = 0 := by omega
    have hj : j = 0 := by omega
    subst hi hj
    unfold sums
    rw [tab_00, pre_zero, pre_zero, dF_nn]
  | succ n ih =>
    intro i j h hi hj
    have geta : ∀ i, i < c.len → ∃ t k x, c.pre (i + 1) = .snoc (c.pre i) t k ∧ snd0 (pairsN f (c.roots o)) i = 1 + k.size ∧ fst0 (pairsN f (c.roots o)) i = x ∧ nodeN f x = (t, k) := by
      intro i hi
      obtain ⟨t, k, x, h1, h2, h3, h4⟩ := sits_root hc hi
      have hp : (pairsN f (c.roots o))[i]? = some (x, szN f x) := by unfold pairsN; rw [List.getElem?_map, h2]; rfl
      obtain ⟨q1, q2⟩ := get0 hp
      refine ⟨t, k, x, h4, ?_, q1, nodeN_of h3⟩
      rw [q2]; show szT (nodeN f x) = _; rw [nodeN_of h3]; rfl
    have getb : ∀ i, i < e.len → ∃ t k x, e.pre (i + 1) = .snoc (e.pre i) t k ∧ snd0 (pairsN g (e.roots q)) i = 1 + k.size ∧ fst0 (pairsN g (e.roots q)) i = x ∧ nodeN g x = (t, k) := by
      intro i hi
      obtain ⟨t, k, x, h1, h2, h3, h4⟩ := sits_root he hi
      have hp : (pairsN g (e.roots q))[i]? = some (x, szN g x) := by unfold pairsN; rw [List.getElem?_map, h2]; rfl
      obtain ⟨q1, q2⟩ := get0 hp
      refine ⟨t, k, x, h4, ?_, q1, nodeN_of h3⟩
      rw [q2]; show szT (nodeN g x) = _; rw [nodeN_of h3]; rfl
    cases i with
    | zero =>
      cases j with
      | zero => unfold sums; rw [tab_00, pre_zero, pre_zero, dF_nn]
      | succ j =>
        obtain ⟨u, k, y, b1, b2, b3, b4⟩ := getb j (by omega)
        have h1 := ih 0 j (by omega) hi (by omega)
        unfold sums at h1 ⊢
        rw [tab_0s, h1, b1, b2, pre_zero, dF_ns]
    | succ i =>
      obtain ⟨t, k, x, a1, a2, a3, a4⟩ := geta i (by omega)
      cases j with
      | zero =>
        have h1 := ih i 0 (by omega) (by omega) hj
        unfold sums at h1 ⊢
        rw [tab_s0, h1, a1, a2, pre_zero, dF_sn]
      | succ j =>
        obtain ⟨u, m, y, b1, b2, b3, b4⟩ := getb j (by omega)
        have h1 := ih i (j + 1) (by omega) (by omega) hj
        have h2 := ih (i + 1) j (by omega) hi (by omega)
        have h3 := ih i j (by omega) (by omega) (by omega)
        unfold sums at h1 h2 h3 ⊢
        rw [tab_ss, h1, h2, h3, a2, b2, a3, b3, a1, b1, dF_ss]
        have hd : dN f g x y = ne1 t u + dF k m := by
          show dT (nodeN f x) (nodeN g y) = _
          rw [a4, b4]; rfl
        rw [hd]
theorem sums_all {f g c e : F} {o q : Nat} (hc : Sits f c o) (he : Sits g e q) : sums (pairsN f (c.roots o)) (pairsN g (e.roots q)) (dN f g) c.len e.len = dF c e := by
  rw [sums_dF hc he _ _ _ (Nat.le_refl _) (Nat.le_refl _) (Nat.le_refl _), pre_all, pre_all]
/-! levels -/
def kidsN (f : F) (x : Nat) : List Nat := kidsT x (nodeN f x)
def lev (f : F) : Nat → List Nat
  | 0 => f.roots 0
  | k + 1 => (lev f k).flatMap (kidsN f)
theorem kidsN_of {f : F} {x : Nat} {t : Str} {c : F} (h : f.nodes[x]? = some (t, c)) : kidsN f x = c.roots (x + 1) := by
  unfold kidsN; rw [nodeN_of h]; rfl
theorem kidsN_lt {f : F} {x y : Nat} (hx : x < f.size) (hy : y ∈ kidsN f x) : x < y ∧ y < f.size := by
  obtain ⟨⟨t, c⟩, hn⟩ : ∃ n, f.nodes[x]? = some n := ⟨_, List.getElem?_eq_getElem (by rw [nodes_len]; exact hx)⟩
  rw [kidsN_of hn] at hy
  have h1 := roots_lt c (x + 1) y hy
  have h2 := (nodes_in f x t c hn).1
  omega
theorem lev_lt (f : F) : ∀ (k x : Nat), x ∈ lev f k → k ≤ x ∧ x < f.size
  | 0, x, h => by
    have := roots_lt f 0 x h; omega
  | k + 1, x, h => by
    obtain ⟨y, h1, h2⟩ := List.mem_flatMap.mp h
    obtain ⟨q1, q2⟩ := lev_lt f k y h1
    have := kidsN_lt q2 h2
    omega
def wt (f : F) (ks : List Nat) : Nat := (ks.map (szN f)).sum
theorem wt_app (f : F) (a b : List Nat) : wt f (a ++ b) = wt f a + wt f b := by unfold wt; rw [List.map_append, List.sum_append]
theorem wt_len (f : F) : ∀ ks : List Nat, ks.length ≤ wt f ks
  | [] => Nat.zero_le _
  | k :: ks => by
    have := wt_len f ks
    have h : 1 ≤ szN f k := by unfold szN szT; omega
    show ks.length + 1 ≤ ((k :: ks).map (szN f)).sum
    rw [List.map_cons, List.sum_cons]
    unfold wt at this; omega
theorem wt_roots {f : F} : ∀ (c : F) (o : Nat), Sits f c o → wt f (c.roots o) = c.size
  | .nil, _, _ => rfl
  | .snoc a t c, o, h => by
    have hn := nodes_len a
    have ha : Sits f a o := fun i hi => by
      rw [h i (by show i < a.size + (1 + c.size); omega)]
      show (a.nodes ++ (t, c) :: c.nodes)[i]? = _
      rw [List.getElem?_append_left (by omega)]
    show wt f (a.roots o ++ [o + a.size]) = a.size + (1 + c.size)
    rw [wt_app, wt_roots a o ha]
    have hx : f.nodes[o + a.size]? = some (t, c) := by
      rw [h a.size (by show a.size < a.size + (1 + c.size); omega)]
      show (a.nodes ++ (t, c) :: c.nodes)[a.size]? = _
      rw [List.getElem?_append_right (by omega), hn, Nat.sub_self]; rfl
    have : wt f [o + a.size] = 1 + c.size := by
      show szN f (o + a.size) + 0 = _
      unfold szN; rw [nodeN_of hx]; rfl
    rw [this]
theorem wt_kids {f : F} {x : Nat} (hx : x < f.size) : wt f (kidsN f x) + 1 = szN f x := by
  obtain ⟨⟨t, c⟩, hn⟩ : ∃ n, f.nodes[x]? = some n := ⟨_, List.getElem?_eq_getElem (by rw [nodes_len]; exact hx)⟩
  rw [kidsN_of hn, wt_roots c _ (sits_kids hn)]
  unfold szN; rw [nodeN_of hn]
  show c.size + 1 = 1 + c.size
  omega
theorem wt_flat (f : F) : ∀ ks : List Nat, (∀ k ∈ ks, k < f.size) → wt f (ks.flatMap (kidsN f)) ≤ wt f ks
  | [], _ => Nat.le_refl _
  | k :: ks, h => by
    have h1 := wt_flat f ks fun y hy => h y (List.mem_cons_of_mem _ hy)
    have h2 := wt_kids (h k List.mem_cons_self)
    rw [List.flatMap_cons, wt_app]
    show _ ≤ ((k :: ks).map (szN f)).sum
    rw [List.map_cons, List.sum_cons]
    unfold wt at h1 h2 ⊢; omega
theorem wt_lev (f : F) : ∀ k : Nat, wt f (lev f k) ≤ f.size
  | 0 => Nat.le_of_eq (wt_roots f 0 (sits_self f))
  | k + 1 => Nat.le_trans (wt_flat f (lev f k) fun x hx => (lev_lt f k x hx).2) (wt_lev f k)
theorem lev_len (f : F) (k : Nat) : (lev f k).length ≤ f.size := Nat.le_trans (wt_len f _) (wt_lev f k)
/-- known couples: of a level from k on -/
def okFrom (f g : F) (k : Nat) (x y : Nat) : Prop := ∃ j, k ≤ j ∧ x ∈ lev f j ∧ y ∈ lev g j
theorem ok_kids {f g : F} {k x y x' y' : Nat} (h : x ∈ lev f k ∧ y ∈ lev g k) (hx : x' ∈ kidsN f x) (hy : y' ∈ kidsN g y) : okFrom f g (k + 1) x' y' :=
  ⟨k + 1, Nat.le_refl _, List.mem_flatMap.mpr ⟨x, h.1, hx⟩, List.mem_flatMap.mpr ⟨y, h.2, hy⟩⟩

end Pp

set_option Elab.async false
set_option linter.all false
set_option autoImplicit false
set_option maxRecDepth 100000
set_option maxHeartbeats 4000000
namespace Pp
open PySem PySem.Spec L2
variable {P : Program} {w : World} {K : PySem.W.Frag} {mg : Str → Option Value} {base : Heap}
/-! ### Distances: the object -/
structure DAd where
  dx : Addr
  ar : Addr
  as : Addr
  ai : Addr
  ad : Addr
  s1 : Addr
  s2 : Addr
  i1 : Addr
  i2 : Addr
  va : V
  vb : V
  v1 : List V
  v2 : List V
def dfs (A : DAd) : List (Str × V) := [("rows", .ref A.ar), ("sizes", .ref A.as), ("inner", .ref A.ai), ("between", .ref A.ad)]
structure DistAt (T : Txt K mg) (H : Hp) (p : Addr) (A : DAd) (f g : F) (ok : Nat → Nat → Prop) : Prop where
  ob : H p = some (.ins T.c_Distances A.dx (dfs A))
  rows : SqT K H A.ar [A.va, A.vb]
  ra : Dp K H A.va (rowD f.flat)
  rb : Dp K H A.vb (rowD g.flat)
  szs : SqT K H A.as [.ref A.s1, .ref A.s2]
  s1 : H A.s1 = some (.lst (iv (f.nodes.map szT)))
  s2 : H A.s2 = some (.lst (iv (g.nodes.map szT)))
  inn : SqT K H A.ai [.ref A.i1, .ref A.i2]
  i1 : H A.i1 = some (.lst A.v1)
  i2 : H A.i2 = some (.lst A.v2)
  t1 : TupsAt K H A.v1 (innerL f)
  t2 : TupsAt K H A.v2 (innerL g)
  bet : BetAt H A.ad (dN f g) ok
  lf : f.size < 1000000
  lg : g.size < 1000000
theorem BetAt.same {H H' : Hp} {d : Addr} {b : Nat → Nat → Nat} {ok : Nat → Nat → Prop} (h : BetAt H d b ok) (s : Same H H') : BetAt H' d b ok := by
  obtain ⟨kvs, h1, h2⟩ := h
  exact ⟨kvs, s _ _ h1, h2⟩
theorem BetAt.sub {H : Hp} {d : Addr} {b : Nat → Nat → Nat} {ok ok' : Nat → Nat → Prop} (h : BetAt H d b ok) (s : ∀ x y, ok' x y → ok x y) : BetAt H d b ok' := by
  obtain ⟨kvs, h1, h2⟩ := h
  exact ⟨kvs, h1, fun x y q => h2 x y (s x y q)⟩
theorem DistAt.same {T : Txt K mg} {H H' : Hp} {p : Addr} {A : DAd} {f g : F} {ok : Nat → Nat → Prop} (D : DistAt T H p A f g ok) (s : Same H H') : DistAt T H' p A f g ok :=
  ⟨s _ _ D.ob, sm_st s D.rows, dp_same s D.ra, dp_same s D.rb, sm_st s D.szs, s _ _ D.s1, s _ _ D.s2, sm_st s D.inn, s _ _ D.i1, s _ _ D.i2, dpa_same s D.t1, dpa_same s D.t2, D.bet.same s, D.lf, D.lg⟩
def pairD (n : Nat × Nat) : PyData := .tuple [.int (n.1 : Nat), .int (n.2 : Nat)]
theorem pairs_of {H : Hp} {l : Addr} {vs : List V} {xs : List (Nat × Nat)} (h : H l = some (.lst vs)) (hd : DpAll K H vs (xs.map pairD)) : PairsAt K H l xs := by
  refine ⟨vs, SqL.of h, by rw [dpa_len hd, List.length_map], fun i n hn => ?_⟩
  obtain ⟨v, h1, h2⟩ := dpa_get hd (i := i) (d := pairD n) (by rw [List.getElem?_map, hn]; rfl)
  obtain ⟨p, ws, rfl, hp, hw⟩ := dp_tup h2
  cases hw with
  | cons q1 t =>
    cases t with
    | cons q2 t =>
      cases t
      rw [dp_int q1, dp_int q2] at hp
      exact ⟨p, h1, hp⟩
theorem nl_pairs (xs : List (Nat × Nat)) : nlA (xs.map pairD) = true := nlA_map pairD (fun n => by simp [pairD, nl, nlA]) xs
def pick (b : Bool) (f g : F) : F := if b then g else f
def bI (b : Bool) : Int := if b then 1 else 0
def RetP (xs : List (Nat × Nat)) (K : PySem.W.Frag) (H : Hp) (Q : VK) : Prop := ∀ l H', Same H H' → H l = none → PairsAt K H' l xs → Q (.ref l) H'
def sp_Distances_with_sizes (T : Txt K mg) : Sp := fun vs H Q _ => ∃ (p : Addr) (A : DAd) (f g : F) (ok : Nat → Nat → Prop) (b : Bool) (a : Addr) (ks : List Nat), vs = [.ref p, .int (bI b), .ref a] ∧ DistAt T H p A f g ok ∧ SqT K H a (iv ks) ∧
  (∀ k ∈ ks, k < (pick b f g).size) ∧ ks.length < 1000000 ∧ RetP (pairsN (pick b f g) ks) K H Q
theorem dist_sizes {T : Txt K mg} {H : Hp} {p : Addr} {A : DAd} {f g : F} {ok : Nat → Nat → Prop} (D : DistAt T H p A f g ok) (b : Bool) :
    ∃ s, atI [V.ref A.s1, V.ref A.s2] (bI b) = some (.ref s) ∧ H s = some (.lst (iv ((pick b f g).nodes.map szT))) := by
  cases b with
  | true => exact ⟨A.s2, rfl, D.s2⟩
  | false => exact ⟨A.s1, rfl, D.s1⟩
theorem szs_get {f : F} {x : Nat} (h : x < f.size) : (iv (f.nodes.map szT))[x]? = some (.int (szN f x : Nat)) := by
  refine iv_get ?_
  have h1 : f.nodes[x]? = some (f.nodes[x]'(by rw [nodes_len]; exact h)) := List.getElem?_eq_getElem _
  rw [List.getElem?_map, h1]
  show some (szT _) = some (szN f x)
  unfold szN; rw [nodeN_of h1]
theorem ok_Distances_with_sizes (T : Txt K mg) : FnOk P w K mg base CX0 1 T.a_Distances_with_sizes T.d_Distances_with_sizes P_Distances_with_sizes (sp_Distances_with_sizes T) := by
  refine T.F_Distances_with_sizes.ok sc_Distances_with_sizes (fun vs H Q E h => ?_) (fun cdv A outer s H vs Q E hr h => ?_)
  · obtain ⟨p, A, f, g, ok, b, a, ks, rfl, D0, ha, hk, hl, k⟩ := h
    rfl
  · obtain ⟨p, A, f, g, ok, b, a, ks, rfl, D0, ha, hk, hl, k⟩ := h
    refine ⟨_, (pss_one (ps_ret (pe_lc (own := [("at", 3)]) rfl sc_Distances_with_sizes.nd (pi_tup (pv 2)) (blkOk_by (N := N_Distances_with_sizes) (sc := defScope s_Distances_with_sizes) (by decide +kernel)) (fun _ _ _ _ _ => (pg_name (i := 3) sc_Distances_with_sizes.nd rfl (Or.inl rfl))) (fun _ _ _ _ _ => pts_te (by exact pts_nil) (by first | rfl | (dsimp only <;> rfl))) (fun _ _ _ _ _ => pe_te (by exact (pe_tup (pa_cons (pv 3) (pa_cons (pe_ix ix_list (pe_ix ix_tup (pe_fld (pv 0) rfl) (pv 1) (fun _ _ => rfl)) (pv 3) (fun _ _ => rfl)) pa_nil)))) (by first | rfl | (dsimp only <;> rfl)))))), ?_⟩
    have hM := mil_lt
    refine ⟨_, rfl, a, rfl, ⟨_, ha⟩, fun D hD => ?_⟩
    refine lc_it (walk_tup (xs := iv ks)) (fun i H' => Same H H' ∧ ∃ vs, H' D = some (.lst vs) ∧ DpAll K H' vs ((pairsN (pick b f g) (ks.take i)).map pairD)) ⟨sm_new hD, [], upd_same, .nil⟩ (fun _ _ _ q => sm_st q.1 ha) ?_ ?_
    · rintro i y H1 H2 hi ⟨s1, vs, e1, d1⟩ ⟨rfl, hy⟩
      rw [iv_len] at hi
      obtain ⟨x, hx⟩ : ∃ x, ks[i]? = some x := ⟨_, List.getElem?_eq_getElem hi⟩
      rw [iv_get hx] at hy
      cases hy
      have hxl := hk x (List.mem_of_getElem? hx)
      have D1 := D0.same s1
      obtain ⟨sA, q1, q2⟩ := dist_sizes D1 b
      refine ⟨rfl, _, rfl, _, rfl, p, T.c_Distances, _, _, _, rfl, D1.ob, T.cl_Distances, T.na_Distances_sizes, rfl, _, rfl, A.as, _, _, _, rfl, rfl, D1.szs, q1, _, rfl, sA, _, _, _, rfl, rfl, SqL.of q2, atI_nat (szs_get hxl), by show 2 ≤ sizeLine; omega, fun t ht => ?_⟩
      have nDt : D ≠ t := ne_of_none e1 ht
      have e2 := (upd_ne nDt (H := H2) (o := .tup [V.int (x : Nat), V.int (szN (pick b f g) x : Nat)])).trans e1
      have dl := dpa_len d1
      rw [List.length_map] at dl
      unfold pairsN at dl
      rw [List.length_map, List.length_take] at dl
      refine ⟨vs, e2, by omega, sm_put (sm_put s1 (s1.free ht)) hD, _, upd_same, ?_⟩
      have kp := (Kp.new (o := .tup [V.int (x : Nat), V.int (szN (pick b f g) x : Nat)]) ht).trans (Kp.lst e2 (o := .lst (vs ++ [V.ref t])))
      rw [List.take_add_one, hx]
      unfold pairsN
      rw [List.map_append, List.map_append]
      refine dpa_app (dpa_kp kp (nl_pairs _) d1) (.cons (.tup ((Kp.lst e2).st (SqT.of upd_same)) (.cons (.int _) (.cons (.int _) .nil))) .nil)
    · rintro H1 ⟨s1, vs, e1, d1⟩
      rw [iv_len, List.take_length] at d1
      exact k D H1 s1 hD (pairs_of e1 d1)
def sp_Distances_table (T : Txt K mg) : Sp := fun vs H Q _ => ∃ (p : Addr) (A : DAd) (f g : F) (ok : Nat → Nat → Prop) (a c : Addr) (ks ms : List Nat), vs = [.ref p, .ref a, .ref c] ∧ DistAt T H p A f g ok ∧ SqT K H a (iv ks) ∧ SqT K H c (iv ms) ∧
  (∀ k ∈ ks, k < f.size) ∧ (∀ m ∈ ms, m < g.size) ∧ ks.length < 1000000 ∧ ms.length < 1000000 ∧ (∀ x ∈ ks, ∀ y ∈ ms, ok x y) ∧ RetM ks.length ms.length (sums (pairsN f ks) (pairsN g ms) (dN f g)) H Q
theorem pairsN_len (f : F) (ks : List Nat) : (pairsN f ks).length = ks.length := List.length_map _
theorem pairsN_fst (f : F) (ks : List Nat) : (pairsN f ks).map Prod.fst = ks := by
  unfold pairsN; rw [List.map_map]; exact List.map_id'' (fun _ => rfl) ks
theorem dfs_none (A : DAd) {m : Str} (h : ¬ m = "rows") (h2 : ¬ m = "sizes") (h3 : ¬ m = "inner") (h4 : ¬ m = "between") : (dfs A).lookup m = none := by
  unfold dfs
  simp [List.lookup, beq_eq_false_iff_ne.mpr h, beq_eq_false_iff_ne.mpr h2, beq_eq_false_iff_ne.mpr h3, beq_eq_false_iff_ne.mpr h4]
theorem ok_Distances_table (T : Txt K mg) : FnOk P w K mg base CX0 2 T.a_Distances_table T.d_Distances_table P_Distances_table (sp_Distances_table T) := by
  have G_Distances_with_sizes := ok_Distances_with_sizes (P := P) (w := w) (base := base) T
  have G_least_sums := ok_least_sums (P := P) (w := w) (base := base) T
  refine T.F_Distances_table.ok sc_Distances_table (fun vs H Q E h => ?_) (fun cdv A outer s H vs Q E hr h => ?_)
  · obtain ⟨p, A, f, g, ok, a, c, ks, ms, rfl, D0, ha, hc, hk, hm, lk, lm, hok, k⟩ := h
    rfl
  · obtain ⟨p, A, f, g, ok, a, c, ks, ms, rfl, D0, ha, hc, hk, hm, lk, lm, hok, k⟩ := h
    refine ⟨_, (pss_one (ps_ret (pe_call G_least_sums (hr.mono (by decide)) (by rfl) T.m_least_sums T.F_least_sums.kp T.b_least_sums .nil pass0 (pa_cons (pe_meth (pv 0) T.cl_Distances T.M_Distances_with_sizes G_Distances_with_sizes (hr.mono (by decide)) T.b_Distances_with_sizes .nil pass0 (pa_cons pe_int (pa_cons (pv 1) pa_nil))) (pa_cons (pe_meth (pv 0) T.cl_Distances T.M_Distances_with_sizes G_Distances_with_sizes (hr.mono (by decide)) T.b_Distances_with_sizes .nil pass0 (pa_cons pe_int (pa_cons (pv 2) pa_nil))) (pa_cons (pe_fld (pv 0) rfl) pa_nil)))))), ?_⟩
    refine ⟨_, rfl, p, _, _, rfl, D0.ob, rfl, _, rfl, p, A, f, g, ok, false, a, ks, rfl, D0, ha, hk, lk, fun l1 H1 s1 n1 P1 => ?_⟩
    refine ⟨_, rfl, p, _, _, rfl, s1 _ _ D0.ob, rfl, _, rfl, p, A, f, g, ok, true, c, ms, rfl, D0.same s1, sm_st s1 hc, hm, lm, fun l2 H2 s2 n2 P2 => ?_⟩
    have D2 := D0.same (s1.trans s2)
    refine ⟨_, rfl, p, _, _, _, _, rfl, D2.ob, T.cl_Distances, T.na_Distances_between, rfl, l1, l2, A.ad, _, _, dN f g, rfl, P1.same s2, P2, ?_, ?_, ?_, fun q rs H' s' nq hr M => ?_⟩
    · rw [pairsN_fst, pairsN_fst]
      exact D2.bet.sub fun x y h => hok x h.1 y h.2
    · rw [pairsN_len]; exact lk
    · rw [pairsN_len]; exact lm
    · rw [pairsN_len] at hr M
      exact k q rs H' ((s1.trans s2).trans s') ((s1.trans s2).free nq) hr M

end Pp

set_option Elab.async false
set_option linter.all false
set_option autoImplicit false
set_option maxRecDepth 100000
set_option maxHeartbeats 4000000
namespace Pp
open PySem PySem.Spec L2
variable {P : Program} {w : World} {K : PySem.W.Frag} {mg : Str → Option Value} {base : Heap}
theorem atI_neg1 {α : Type} {xs : List α} {n : Nat} {v : α} (hl : xs.length = n + 1) (h : xs[n]? = some v) : atI xs (-1) = some v := by
  have e : ixN xs.length (-1) = some n := by
    unfold ixN
    rw [hl, if_neg (by decide), if_pos (by omega)]
    exact congrArg some (by omega)
  unfold atI
  rw [e]
  exact h
theorem node_ex {f : F} {x : Nat} (h : x < f.size) : ∃ t c, f.nodes[x]? = some (t, c) := ⟨_, _, List.getElem?_eq_getElem (by rw [nodes_len]; exact h)⟩
theorem innerL_get {f : F} {x : Nat} (h : x < f.size) : (innerL f)[x]? = some (kidsN f x) := by
  have h1 : f.nodes[x]? = some (f.nodes[x]'(by rw [nodes_len]; exact h)) := List.getElem?_eq_getElem _
  unfold innerL kidsN
  rw [kidsFrom_get _ 0 x _ h1, nodeN_of h1, Nat.zero_add]
theorem dist_inner {T : Txt K mg} {H : Hp} {p : Addr} {A : DAd} {f g : F} {ok : Nat → Nat → Prop} (D : DistAt T H p A f g ok) (b : Bool) :
    ∃ s vs, atI [V.ref A.i1, V.ref A.i2] (bI b) = some (.ref s) ∧ H s = some (.lst vs) ∧ TupsAt K H vs (innerL (pick b f g)) := by
  cases b with
  | true => exact ⟨A.i2, A.v2, rfl, D.i2, D.t2⟩
  | false => exact ⟨A.i1, A.v1, rfl, D.i1, D.t1⟩
theorem dist_row {T : Txt K mg} {H : Hp} {p : Addr} {A : DAd} {f g : F} {ok : Nat → Nat → Prop} (D : DistAt T H p A f g ok) (b : Bool) :
    ∃ v, atI [A.va, A.vb] (bI b) = some v ∧ Dp K H v (rowD (pick b f g).flat) := by
  cases b with
  | true => exact ⟨A.vb, rfl, D.rb⟩
  | false => exact ⟨A.va, rfl, D.ra⟩
theorem row_tag {H : Hp} {v : V} {f : F} {x : Nat} (h : Dp K H v (rowD f.flat)) (hx : x < f.size) :
    ∃ a xs q, v = .ref a ∧ SqT K H a xs ∧ atI xs (x : Int) = some (.ref q) ∧ SqT K H q [.str (nodeN f x).1, .int ((nodeN f x).2.len : Nat)] := by
  obtain ⟨a, xs, rfl, ha, hl, hg⟩ := row_at h
  have h1 : f.nodes[x]? = some (f.nodes[x]'(by rw [nodes_len]; exact hx)) := List.getElem?_eq_getElem _
  obtain ⟨q, q1, q2⟩ := hg x ((nodeN f x).1, (nodeN f x).2.len) (by rw [flat_nodes, List.getElem?_map, h1, nodeN_of h1]; rfl)
  exact ⟨a, xs, q, rfl, ha, atI_nat q1, q2⟩
def sp_Distances_told (T : Txt K mg) : Sp := fun vs H Q _ => ∃ (p : Addr) (A : DAd) (f g : F) (ok : Nat → Nat → Prop) (x y : Nat), vs = [.ref p, .int (x : Nat), .int (y : Nat)] ∧ DistAt T H p A f g ok ∧ x < f.size ∧ y < g.size ∧
  (∀ x' ∈ kidsN f x, ∀ y' ∈ kidsN g y, ok x' y') ∧ ∀ H', Same H H' → Q (.int (dN f g x y : Nat)) H'
theorem kidsN_len {f : F} {x : Nat} (h : x < f.size) : (kidsN f x).length = (nodeN f x).2.len ∧ (kidsN f x).length < f.size := by
  obtain ⟨t, c, h1⟩ := node_ex h
  have h4 := (nodes_in f x _ _ h1).1
  refine ⟨by unfold kidsN kidsT; rw [roots_len], ?_⟩
  unfold kidsN kidsT
  rw [roots_len, nodeN_of h1]
  have := len_le_size c
  show c.len < _
  omega
theorem dN_sums {f g : F} {x y : Nat} (hx : x < f.size) (hy : y < g.size) :
    dN f g x y = ne1 (nodeN f x).1 (nodeN g y).1 + sums (pairsN f (kidsN f x)) (pairsN g (kidsN g y)) (dN f g) (kidsN f x).length (kidsN g y).length := by
  obtain ⟨t, c, h1⟩ := node_ex hx
  obtain ⟨u, e, h2⟩ := node_ex hy
  have e1 := kidsN_of h1
  have e2 := kidsN_of h2
  rw [(kidsN_len hx).1, (kidsN_len hy).1]
  have := sums_all (sits_kids h1) (sits_kids h2)
  rw [← e1, ← e2] at this
  rw [nodeN_of h1, nodeN_of h2]
  show _ = ne1 t u + sums _ _ _ c.len e.len
  rw [this]
  show dT (nodeN f x) (nodeN g y) = _
  rw [nodeN_of h1, nodeN_of h2]; rfl
theorem ok_Distances_told (T : Txt K mg) : FnOk P w K mg base CX0 3 T.a_Distances_told T.d_Distances_told P_Distances_told (sp_Distances_told T) := by
  have G_Distances_table := ok_Distances_table (P := P) (w := w) (base := base) T
  refine T.F_Distances_told.ok sc_Distances_told (fun vs H Q E h => ?_) (fun cdv A outer s H vs Q E hr h => ?_)
  · obtain ⟨p, A, f, g, ok, x, y, rfl, D0, hx, hy, hok, k⟩ := h
    rfl
  · obtain ⟨p, A, f, g, ok, x, y, rfl, D0, hx, hy, hok, k⟩ := h
    refine ⟨_, (pss_cons (ps_set (i := 3) sc_Distances_told.nd rfl (Or.inl rfl) (pe_ifExp (pt_cmpR op_eq (pe_ix ix_tup (pe_ix ix_tup (pe_ix ix_tup (pe_fld (pv 0) rfl) pe_int (fun _ _ => rfl)) (pv 1) (fun _ _ => rfl)) pe_int (fun _ _ => rfl)) (pe_ix ix_tup (pe_ix ix_tup (pe_ix ix_tup (pe_fld (pv 0) rfl) pe_int (fun _ _ => rfl)) (pv 2) (fun _ _ => rfl)) pe_int (fun _ _ => rfl)) (nomark _)) pe_int pe_int))
      (pss_one (ps_ret (pe_op op_add (pv 3) (pe_ix ix_list (pe_ix ix_list (pe_meth (pv 0) T.cl_Distances T.M_Distances_table G_Distances_table (hr.mono (by decide)) T.b_Distances_table .nil pass0 (pa_cons (pe_ix ix_list (pe_ix ix_tup (pe_fld (pv 0) rfl) pe_int (fun _ _ => rfl)) (pv 1) (fun _ _ => rfl)) (pa_cons (pe_ix ix_list (pe_ix ix_tup (pe_fld (pv 0) rfl) pe_int (fun _ _ => rfl)) (pv 2) (fun _ _ => rfl)) pa_nil))) (pe_un un_neg pe_int) (fun _ _ => rfl)) (pe_un un_neg pe_int) (fun _ _ => rfl)))))), ?_⟩
    obtain ⟨v1, r1, r2⟩ := dist_row D0 false
    obtain ⟨v2, r3, r4⟩ := dist_row D0 true
    obtain ⟨a1, xs1, q1, rfl, t1, t2, t3⟩ := row_tag r2 hx
    obtain ⟨a2, xs2, q2, rfl, t4, t5, t6⟩ := row_tag r4 hy
    have lx := kidsN_len hx
    have ly := kidsN_len hy
    have bf := D0.lf
    have bg := D0.lg
    have fin : ∀ (tv : Int), tv = (ne1 (nodeN f x).1 (nodeN g y).1 : Nat) → (tRet (tOp (rI0 fun i j => V.int (i + j)) (tVar 3)
        (tOp (rIxL K) (tOp (rIxL K) (tMeth T.c_Distances "table" (sp_Distances_table T) [] E0 (tVar 0) (tCons (tOp (rIxL K) (tOp (rIxT K) (tFld K (tVar 0) "inner") (tC (.int 0))) (tVar 1)) (tCons (tOp (rIxL K) (tOp (rIxT K) (tFld K (tVar 0) "inner") (tC (.int 1))) (tVar 2)) tNil)))
          (tUn (rU fun i => .int (-i)) (tC (.int 1)))) (tUn (rU fun i => .int (-i)) (tC (.int 1)))))) { nx := fun _ H' => Q .non H', rt := Q } [some (.ref p), some (.int (x : Nat)), some (.int (y : Nat)), some (.int tv)] H := by
      rintro tv rfl
      obtain ⟨i1, w1, b1, b2, b3⟩ := dist_inner D0 false
      obtain ⟨i2, w2, b4, b5, b6⟩ := dist_inner D0 true
      obtain ⟨c1, d1, d2⟩ := tups_get b3 (innerL_get hx)
      obtain ⟨c2, d3, d4⟩ := tups_get b6 (innerL_get hy)
      have d2' : SqT K H c1 (iv (kidsN f x)) := d2
      have d4' : SqT K H c2 (iv (kidsN g y)) := d4
      refine ⟨_, rfl, _, rfl, p, _, _, rfl, D0.ob, rfl, ?_⟩
      refine ⟨_, rfl, p, T.c_Distances, _, _, _, rfl, D0.ob, T.cl_Distances, T.na_Distances_inner, rfl, A.ai, _, _, _, rfl, rfl, D0.inn, b1, _, rfl, i1, _, _, _, rfl, rfl, SqL.of b2, atI_nat d1, ?_⟩
      refine ⟨_, rfl, p, T.c_Distances, _, _, _, rfl, D0.ob, T.cl_Distances, T.na_Distances_inner, rfl, A.ai, _, _, _, rfl, rfl, D0.inn, b4, _, rfl, i2, _, _, _, rfl, rfl, SqL.of b5, atI_nat d3, ?_⟩
      refine ⟨p, A, f, g, ok, c1, c2, kidsN f x, kidsN g y, rfl, D0, d2', d4', fun z hz => (kidsN_lt hx hz).2, fun z hz => (kidsN_lt hy hz).2, by omega, by omega, hok, fun P rs H' s' np hr M => ?_⟩
      have h1 : rs[(kidsN f x).length]? = some (rs[(kidsN f x).length]'(by omega)) := List.getElem?_eq_getElem _
      refine ⟨1, rfl, P, _, _, _, rfl, rfl, SqL.of M.top, atI_neg1 (n := (kidsN f x).length) (by rw [List.length_map]; exact hr) (by rw [List.getElem?_map, h1]; rfl), 1, rfl, _, _, _, _, rfl, rfl, SqL.of (M.row _ _ h1), atI_neg1 (n := (kidsN g y).length) (by rw [iv_len, rowOf_len]) (iv_get (rowOf_get _ (Nat.le_refl _))), _, _, rfl, rfl, ?_⟩
      have := k H' s'
      rw [dN_sums hx hy] at this
      show Q (V.int (((ne1 (nodeN f x).1 (nodeN g y).1 : Nat) : Int) + ((sums (pairsN f (kidsN f x)) (pairsN g (kidsN g y)) (dN f g) (kidsN f x).length (kidsN g y).length : Nat) : Int))) H'
      rw [show (((ne1 (nodeN f x).1 (nodeN g y).1 : Nat) : Int) + ((sums (pairsN f (kidsN f x)) (pairsN g (kidsN g y)) (dN f g) (kidsN f x).length (kidsN g y).length : Nat) : Int)) = ((ne1 (nodeN f x).1 (nodeN g y).1 + sums (pairsN f (kidsN f x)) (pairsN g (kidsN g y)) (dN f g) (kidsN f x).length (kidsN g y).length : Nat) : Int) by omega]
      exact this
    refine ⟨_, rfl, p, T.c_Distances, _, _, _, rfl, D0.ob, T.cl_Distances, T.na_Distances_rows, rfl, A.ar, _, _, _, rfl, rfl, D0.rows, r1, _, rfl, a1, _, _, _, rfl, rfl, t1, t2, q1, _, 0, _, rfl, rfl, t3, rfl, ?_⟩
    refine ⟨_, rfl, p, T.c_Distances, _, _, _, rfl, D0.ob, T.cl_Distances, T.na_Distances_rows, rfl, A.ar, _, _, _, rfl, rfl, D0.rows, r3, _, rfl, a2, _, _, _, rfl, rfl, t4, t5, q2, _, 0, _, rfl, rfl, t6, rfl, ?_⟩
    refine ⟨rfl, _, rfl, ?_⟩
    refine ite2 (fun c => ?_) (fun c => ?_)
    · exact fin 0 (by have e : (nodeN f x).1 = (nodeN g y).1 := V.str.inj (of_decide_eq_true c)
                      unfold ne1; rw [if_pos e]; rfl)
    · exact fin 1 (by have e : ¬ (nodeN f x).1 = (nodeN g y).1 := fun z => c (decide_eq_true (congrArg V.str z))
                      unfold ne1; rw [if_neg e]; rfl)
def sp_Distances_whole (T : Txt K mg) : Sp := fun vs H Q _ => ∃ (p : Addr) (A : DAd) (f g : F) (ok : Nat → Nat → Prop), vs = [.ref p] ∧ DistAt T H p A f g ok ∧ (∀ x ∈ lev f 0, ∀ y ∈ lev g 0, ok x y) ∧ ∀ H', Same H H' → Q (.int (dF f g : Nat)) H'
theorem ok_Distances_whole (T : Txt K mg) : FnOk P w K mg base CX0 3 T.a_Distances_whole T.d_Distances_whole P_Distances_whole (sp_Distances_whole T) := by
  have G_Distances_table := ok_Distances_table (P := P) (w := w) (base := base) T
  have G_roots := ok_roots (P := P) (w := w) (base := base) T
  refine T.F_Distances_whole.ok sc_Distances_whole (fun vs H Q E h => ?_) (fun cdv A outer s H vs Q E hr h => ?_)
  · obtain ⟨p, A, f, g, ok, rfl, D0, hok, k⟩ := h
    rfl
  · obtain ⟨p, A, f, g, ok, rfl, D0, hok, k⟩ := h
    refine ⟨_, (pss_one (ps_ret (pe_ix ix_list (pe_ix ix_list (pe_meth (pv 0) T.cl_Distances T.M_Distances_table G_Distances_table (hr.mono (by decide)) T.b_Distances_table .nil pass0 (pa_cons (pe_call G_roots (hr.mono (by decide)) (by rfl) T.m_roots T.F_roots.kp T.b_roots .nil pass0 (pa_cons (pe_ix ix_tup (pe_fld (pv 0) rfl) pe_int (fun _ _ => rfl)) pa_nil)) (pa_cons (pe_call G_roots (hr.mono (by decide)) (by rfl) T.m_roots T.F_roots.kp T.b_roots .nil pass0 (pa_cons (pe_ix ix_tup (pe_fld (pv 0) rfl) pe_int (fun _ _ => rfl)) pa_nil)) pa_nil))) (pe_un un_neg pe_int) (fun _ _ => rfl)) (pe_un un_neg pe_int) (fun _ _ => rfl)))), ?_⟩
    obtain ⟨v1, r1, r2⟩ := dist_row D0 false
    obtain ⟨v2, r3, r4⟩ := dist_row D0 true
    have bf := D0.lf
    have bg := D0.lg
    have hM := mil_lt
    have lf := roots_len f 0
    have lg := roots_len g 0
    have l1 := len_le_size f
    have l2 := len_le_size g
    refine ⟨_, rfl, p, _, _, rfl, D0.ob, rfl, ?_⟩
    refine ⟨_, rfl, p, T.c_Distances, _, _, _, rfl, D0.ob, T.cl_Distances, T.na_Distances_rows, rfl, A.ar, _, _, _, rfl, rfl, D0.rows, r1, v1, f, rfl, r2, by omega, fun a1 H1 s1 n1 e1 => ?_⟩
    have D1 := D0.same s1
    refine ⟨_, rfl, p, T.c_Distances, _, _, _, rfl, D1.ob, T.cl_Distances, T.na_Distances_rows, rfl, A.ar, _, _, _, rfl, rfl, D1.rows, r3, v2, g, rfl, dp_same s1 r4, by omega, fun a2 H2 s2 n2 e2 => ?_⟩
    have D2 := D1.same s2
    refine ⟨p, A, f, g, ok, a1, a2, _, _, rfl, D2, SqT.of (s2 _ _ e1), SqT.of e2, fun z hz => by have := roots_lt f 0 z hz; omega, fun z hz => by have := roots_lt g 0 z hz; omega, by omega, by omega, hok, fun P rs H' s' np hr M => ?_⟩
    have h1 : rs[(f.roots 0).length]? = some (rs[(f.roots 0).length]'(by omega)) := List.getElem?_eq_getElem _
    refine ⟨1, rfl, P, _, _, _, rfl, rfl, SqL.of M.top, atI_neg1 (n := (f.roots 0).length) (by rw [List.length_map]; exact hr) (by rw [List.getElem?_map, h1]; rfl), 1, rfl, _, _, _, _, rfl, rfl, SqL.of (M.row _ _ h1), atI_neg1 (n := (g.roots 0).length) (by rw [iv_len, rowOf_len]) (iv_get (rowOf_get _ (Nat.le_refl _))), ?_⟩
    rw [lf, lg, sums_all (sits_self f) (sits_self g)]
    exact k H' ((s1.trans s2).trans s')
def sp_Distances_below (T : Txt K mg) : Sp := fun vs H Q _ => ∃ (p : Addr) (A : DAd) (f g : F) (b : Bool) (a : Addr) (ks : List Nat), vs = [.ref p, .int (bI b), .ref a] ∧
  (∃ dfs', H p = some (.ins T.c_Distances A.dx dfs') ∧ dfs'.lookup ("inner" : Str) = some (V.ref A.ai)) ∧ SqT K H A.ai [.ref A.i1, .ref A.i2] ∧
  (∃ s vs, atI [V.ref A.i1, V.ref A.i2] (bI b) = some (.ref s) ∧ H s = some (.lst vs) ∧ TupsAt K H vs (innerL (pick b f g))) ∧
  SqT K H a (iv ks) ∧ (∀ k ∈ ks, k < (pick b f g).size) ∧ (ks.flatMap (kidsN (pick b f g))).length < 1000000 ∧ RetT (iv (ks.flatMap (kidsN (pick b f g)))) H Q
theorem take_one {α : Type} {l : List α} {i : Nat} {x : α} (h : l[i]? = some x) : l.take (i + 1) = l.take i ++ [x] := by rw [List.take_add_one, h]; rfl
theorem ok_Distances_below (T : Txt K mg) : FnOk P w K mg base CX0 1 T.a_Distances_below T.d_Distances_below P_Distances_below (sp_Distances_below T) := by
  refine T.F_Distances_below.ok sc_Distances_below (fun vs H Q E h => ?_) (fun cdv A outer s H vs Q E hr h => ?_)
  · obtain ⟨p, A, f, g, b, a, ks, rfl, ⟨fs, o1, o2⟩, inn, ⟨sA, ws, b1, b2, b3⟩, ha, hk, hl, k⟩ := h
    rfl
  · obtain ⟨p, A, f, g, b, a, ks, rfl, ⟨fs, o1, o2⟩, inn, ⟨sA, ws, b1, b2, b3⟩, ha, hk, hl, k⟩ := h
    refine ⟨_, (pss_cons (ps_set (i := 3) sc_Distances_below.nd rfl (Or.inl rfl) (pe_lst pa_nil))
      (pss_cons (ps_for PassesOwn.never rfl (pi_tup (pv 2)) (pg_name (i := 4) sc_Distances_below.nd rfl (Or.inl rfl)) (pss_one (ps_expr (pe_bm PySem.F.plainAttrs_list PySem.F.slot_list_extend PySem.F.type_list_extend mt_extend (pv 3) (pa_cons (pe_callTy call_list_of (by rfl) T.n_list (by decide +kernel) (pa_cons (pe_ix ix_list (pe_ix ix_tup (pe_fld (pv 0) rfl) (pv 1) (fun _ _ => rfl)) (pv 4) (fun _ _ => rfl)) pa_nil)) pa_nil)))))
      (pss_one (ps_ret (pe_callTy call_tuple_of (by rfl) T.n_tuple (by decide +kernel) (pa_cons (pv 3) pa_nil)))))), ?_⟩
    have hM := mil_lt
    refine ⟨Nat.zero_le _, fun l hl0 => ?_⟩
    have s0 := sm_new hl0 (o := .lst [])
    refine ⟨_, rfl, a, rfl, ⟨_, sm_st s0 ha⟩, ?_⟩
    refine for_it (walk_tup (xs := iv ks)) (fun i σ' H' => ∃ x4, σ' = [some (.ref p), some (.int (bI b)), some (.ref a), some (.ref l), x4] ∧ Same H H' ∧ H' l = some (.lst (iv ((ks.take i).flatMap (kidsN (pick b f g)))))) ⟨none, rfl, s0, upd_same⟩ (fun _ _ _ _ q => by obtain ⟨_, _, q, _⟩ := q; exact sm_st q ha) ?_ ?_
    · rintro i y σ' H1 H2 hi ⟨x4, rfl, s1, e1⟩ ⟨rfl, hy⟩
      rw [iv_len] at hi
      obtain ⟨x, hx⟩ : ∃ x, ks[i]? = some x := ⟨_, List.getElem?_eq_getElem hi⟩
      rw [iv_get hx] at hy
      cases hy
      have hxl := hk x (List.mem_of_getElem? hx)
      obtain ⟨q, q1, q2⟩ := tups_get b3 (innerL_get hxl)
      refine ⟨_, rfl, .inl ⟨rfl, _, SqL.of e1⟩, _, rfl, p, T.c_Distances, _, _, _, rfl, s1 _ _ o1, T.cl_Distances, T.na_Distances_inner, o2, _, rfl, A.ai, _, _, _, rfl, rfl, sm_st s1 inn, b1, _, rfl, sA, _, _, _, rfl, rfl, SqL.of (s1 _ _ b2), atI_nat q1, q, _, rfl, .inr (sm_st s1 q2), fun l2 hl2 => ?_⟩
      have n12 : l ≠ l2 := ne_of_none e1 hl2
      have hsub : (ks.take (i + 1)).flatMap (kidsN (pick b f g)) = (ks.take i).flatMap (kidsN (pick b f g)) ++ kidsN (pick b f g) x := by
        rw [take_one hx, List.flatMap_append]; simp
      have hle : ((ks.take (i + 1)).flatMap (kidsN (pick b f g))).length ≤ (ks.flatMap (kidsN (pick b f g))).length := by
        conv => rhs; rw [← List.take_append_drop (i + 1) ks, List.flatMap_append, List.length_append]
        omega
      rw [hsub, List.length_append] at hle
      refine ⟨l, l2, _, _, rfl, rfl, (upd_ne n12).trans e1, upd_same, by rw [iv_len, iv_len]; omega, _, rfl, sm_put (sm_put s1 (s1.free hl2)) hl0, ?_⟩
      rw [upd_same, hsub, iv_app]
    · rintro σ' H1 ⟨x4, rfl, s1, e1⟩
      rw [iv_len, List.take_length] at e1
      exact ⟨_, rfl, l, _, rfl, .inl ⟨SqL.of e1, fun q hq => k q _ (sm_put s1 (s1.free hq)) (s1.free hq) upd_same⟩⟩

end Pp

set_option Elab.async false
set_option linter.all false
set_option autoImplicit false
set_option maxRecDepth 100000
set_option maxHeartbeats 4000000
namespace Pp
open PySem PySem.Spec L2
variable {P : Program} {w : World} {K : PySem.W.Frag} {mg : Str → Option Value} {base : Heap}
/-- all but p is kept -/
def SX (p : Addr) (H H' : Hp) : Prop := ∀ b o, b ≠ p → H b = some o → H' b = some o
theorem SX.refl (p : Addr) (H : Hp) : SX p H H := fun _ _ _ h => h
theorem SX.trans {p : Addr} {H H1 H2 : Hp} (x : SX p H H1) (y : SX p H1 H2) : SX p H H2 := fun b o n h => y b o n (x b o n h)
theorem SX.of {p : Addr} {H H' : Hp} (s : Same H H') : SX p H H' := fun b o _ h => s b o h
theorem SX.put {p q : Addr} {H H' : Hp} {o : HO} (s : SX p H H') (n : H q = none) : SX p H (upd H' q o) := fun b u nb e => by
  rw [upd_ne (ne_of_none e n)]; exact s b u nb e
theorem SX.self {p : Addr} {H H' : Hp} {o : HO} (s : SX p H H') : SX p H (upd H' p o) := fun b u nb e => by
  rw [upd_ne nb]; exact s b u nb e
theorem SX.kp {p : Addr} {H H' : Hp} {w : HO} (s : SX p H H') (e : H p = some w) (m : Mut (some w)) : Kp H H' := fun c xs h => by
  have n := rd_ne h e m
  rcases h with h | ⟨z, h⟩
  · exact .inl (s _ _ n h)
  · exact .inr ⟨z, s _ _ n h⟩
theorem wt_flat_eq (f : F) : ∀ ks : List Nat, (∀ k ∈ ks, k < f.size) → wt f (ks.flatMap (kidsN f)) + ks.length = wt f ks
  | [], _ => rfl
  | k :: ks, h => by
    have h1 := wt_flat_eq f ks fun y hy => h y (List.mem_cons_of_mem _ hy)
    have h2 := wt_kids (h k List.mem_cons_self)
    rw [List.flatMap_cons, wt_app, List.length_cons]
    show _ = ((k :: ks).map (szN f)).sum
    rw [List.map_cons, List.sum_cons]
    unfold wt at h1 h2 ⊢; omega
theorem wt_lev_eq (f : F) (k : Nat) : wt f (lev f (k + 1)) + (lev f k).length = wt f (lev f k) := wt_flat_eq f (lev f k) fun x hx => (lev_lt f k x hx).2
theorem lev_nil {f : F} {k : Nat} (h : lev f k = []) : ∀ j, k ≤ j → lev f j = [] := by
  intro j hj
  induction j with
  | zero => rw [show (0 : Nat) = k by omega]; exact h
  | succ j ih =>
    by_cases e : k = j + 1
    · rw [← e]; exact h
    · show (lev f j).flatMap (kidsN f) = []
      rw [ih (by omega)]; rfl
def levD (f g : F) (j : Nat) : PyData := .tuple [.tuple (idt (lev f j)), .tuple (idt (lev g j))]
theorem nl_lev (f g : F) (l : List Nat) : nlA (l.map (levD f g)) = true := nlA_map _ (fun j => by simp [levD, nl, nlA, nl_idt]) l
theorem lev_parts {H : Hp} {v : V} {f g : F} {j : Nat} (h : Dp K H v (levD f g j)) : ∃ t a b, v = .ref t ∧ SqT K H t [.ref a, .ref b] ∧ SqT K H a (iv (lev f j)) ∧ SqT K H b (iv (lev g j)) := by
  obtain ⟨t, xs, rfl, ht, hd⟩ := dp_tup h
  cases hd with
  | cons h1 r =>
    cases r with
    | cons h2 r =>
      cases r
      obtain ⟨a, ws, rfl, ha, hw⟩ := dp_tup h1
      obtain ⟨b, zs, rfl, hb, hz⟩ := dp_tup h2
      rw [idt_vals hw] at ha
      rw [idt_vals hz] at hb
      exact ⟨t, a, b, rfl, ht, ha, hb⟩
theorem lev_mk {H : Hp} {t a b : Addr} {f g : F} {j : Nat} (ht : SqT K H t [.ref a, .ref b]) (ha : SqT K H a (iv (lev f j))) (hb : SqT K H b (iv (lev g j))) : Dp K H (.ref t) (levD f g j) :=
  .tup ht (.cons (.tup ha (dpa_iv _)) (.cons (.tup hb (dpa_iv _)) .nil))
/-- another dict at the same place -/
theorem DistAt.store {T : Txt K mg} {H : Hp} {p : Addr} {A : DAd} {f g : F} {ok ok' : Nat → Nat → Prop} {kvs kvs' : List (List Key × V)} (D : DistAt T H p A f g ok) (e : H A.ad = some (.dT kvs)) (b : ∀ x y, ok' x y → valV kvs' (k2 x y) = some (.int (dN f g x y : Nat))) :
    DistAt T (upd H A.ad (.dT kvs')) p A f g ok' := by
  have nl : ∀ {q : Addr} {u : HO}, H q = some u → u ≠ .dT kvs → q ≠ A.ad := fun h n z => by rw [z, e] at h; exact n (Option.some.inj h).symm
  have kp : Kp H (upd H A.ad (.dT kvs')) := Kp.mu e True.intro
  exact ⟨(upd_ne (nl D.ob (by intro z; cases z))).trans D.ob, kp.st D.rows, dp_kp kp (nl_row _) D.ra, dp_kp kp (nl_row _) D.rb, kp.st D.szs, (upd_ne (nl D.s1 (by intro z; cases z))).trans D.s1, (upd_ne (nl D.s2 (by intro z; cases z))).trans D.s2,
    kp.st D.inn, (upd_ne (nl D.i1 (by intro z; cases z))).trans D.i1, (upd_ne (nl D.i2 (by intro z; cases z))).trans D.i2, dpa_kp kp (nl_tups _) D.t1, dpa_kp kp (nl_tups _) D.t2, ⟨kvs', upd_same, b⟩, D.lf, D.lg⟩
theorem DistAt.sub {T : Txt K mg} {H : Hp} {p : Addr} {A : DAd} {f g : F} {ok ok' : Nat → Nat → Prop} (D : DistAt T H p A f g ok) (s : ∀ x y, ok' x y → ok x y) : DistAt T H p A f g ok' :=
  { D with bet := D.bet.sub s }
theorem k2_inj {x y x' y' : Nat} (h : k2 x y = k2 x' y') : x = x' ∧ y = y' := by
  unfold k2 at h
  simp only [List.cons.injEq, Sum.inl.injEq, and_true] at h
  omega
def sp_Distances___init__ (T : Txt K mg) : Sp := fun vs H Q _ => ∃ (p dx : Addr) (va vb : V) (f g : F), vs = [.ref p, va, vb] ∧ H p = some (.ins T.c_Distances dx []) ∧ Dp K H va (rowD f.flat) ∧ Dp K H vb (rowD g.flat) ∧ f.size < 1000000 ∧ g.size < 1000000 ∧ f.size * g.size ≤ 100000 ∧
  ∀ H' A, DistAt T H' p A f g (okFrom f g 0) → SX p H H' → Q .non H'

end Pp

set_option Elab.async false
set_option linter.all false
set_option autoImplicit false
set_option maxRecDepth 100000
set_option maxHeartbeats 4000000
namespace Pp
open PySem PySem.Spec L2
variable {P : Program} {w : World} {K : PySem.W.Frag} {mg : Str → Option Value} {base : Heap}
theorem ok_Distances___init__ (T : Txt K mg) : FnOk P w K mg base CX0 4 T.a_Distances___init__ T.d_Distances___init__ P_Distances___init__ (sp_Distances___init__ T) := by
  have G_Distances_below := ok_Distances_below (P := P) (w := w) (base := base) T
  have G_Distances_told := ok_Distances_told (P := P) (w := w) (base := base) T
  have G_inner_of := ok_inner_of (P := P) (w := w) (base := base) T
  have G_roots := ok_roots (P := P) (w := w) (base := base) T
  have G_sizes_of := ok_sizes_of (P := P) (w := w) (base := base) T
  refine T.F_Distances___init__.ok sc_Distances___init__ (fun vs H Q E h => ?_) (fun cdv A outer s H vs Q E hr h => ?_)
  · obtain ⟨p, dx, va, vb, f, g, rfl, hp, hva, hvb, hf, hg, hfg, k⟩ := h
    rfl
  · obtain ⟨p, dx, va, vb, f, g, rfl, hp, hva, hvb, hf, hg, hfg, k⟩ := h
    refine ⟨_, (pss_cons (ps_fld (pv 0) (pe_tup (pa_cons (pv 1) (pa_cons (pv 2) pa_nil))) rfl)
      (pss_cons (ps_fld (pv 0) (pe_tup (pa_cons (pe_call G_sizes_of (hr.mono (by decide)) (by rfl) T.m_sizes_of T.F_sizes_of.kp T.b_sizes_of .nil pass0 (pa_cons (pv 1) pa_nil)) (pa_cons (pe_call G_sizes_of (hr.mono (by decide)) (by rfl) T.m_sizes_of T.F_sizes_of.kp T.b_sizes_of .nil pass0 (pa_cons (pv 2) pa_nil)) pa_nil))) rfl)
      (pss_cons (ps_fld (pv 0) (pe_tup (pa_cons (pe_call G_inner_of (hr.mono (by decide)) (by rfl) T.m_inner_of T.F_inner_of.kp T.b_inner_of .nil pass0 (pa_cons (pv 1) pa_nil)) (pa_cons (pe_call G_inner_of (hr.mono (by decide)) (by rfl) T.m_inner_of T.F_inner_of.kp T.b_inner_of .nil pass0 (pa_cons (pv 2) pa_nil)) pa_nil))) rfl)
      (pss_cons (ps_fld (pv 0) pe_dnewT rfl)
      (pss_cons (ps_set (i := 3) sc_Distances___init__.nd rfl (Or.inr rfl) (pe_lst (pa_cons (pe_tup (pa_cons (pe_call G_roots (hr.mono (by decide)) (by rfl) T.m_roots T.F_roots.kp T.b_roots .nil pass0 (pa_cons (pv 1) pa_nil)) (pa_cons (pe_call G_roots (hr.mono (by decide)) (by rfl) T.m_roots T.F_roots.kp T.b_roots .nil pass0 (pa_cons (pv 2) pa_nil)) pa_nil))) pa_nil)))
      (Evl.pss_cut (ps_while PassesOwn.never (PW.pt (pw_and (pt_cmpR (op_neD hr.units) (pe_ix ix_tup (pe_ix ix_list (pv 3) (pe_un un_neg pe_int) (fun _ _ => rfl)) pe_int (fun _ _ => rfl)) (pe_tup pa_nil) (nomark _)) (pw_and1 (pt_cmpR (op_neD hr.units) (pe_ix ix_tup (pe_ix ix_list (pv 3) (pe_un un_neg pe_int) (fun _ _ => rfl)) pe_int (fun _ _ => rfl)) (pe_tup pa_nil) (nomark _))))) (pss_one (ps_expr (pe_bm PySem.F.plainAttrs_list PySem.F.slot_list_append PySem.F.type_list_append mt_append (pv 3) (pa_cons (pe_callTy call_tuple_of (by rfl) T.n_tuple (by decide +kernel) (pa_cons (pe_lc (own := [("which", 8)]) rfl sc_Distances___init__.nd (pi_tup (pe_tup (pa_cons pe_int (pa_cons pe_int pa_nil)))) (blkOk_by (N := N_Distances___init__) (sc := defScope s_Distances___init__) (by decide +kernel)) (fun _ _ _ _ _ => (pg_name (i := 8) sc_Distances___init__.nd rfl (Or.inl rfl))) (fun _ _ _ _ _ => pts_te (by exact pts_nil) (by first | rfl | (dsimp only <;> rfl))) (fun _ _ _ _ _ => pe_te (by exact (pe_meth (pv 0) T.cl_Distances T.M_Distances_below G_Distances_below (hr.mono (by decide)) T.b_Distances_below .nil pass0 (pa_cons (pv 8) (pa_cons (pe_ix ix_tup (pe_ix ix_list (pv 3) (pe_un un_neg pe_int) (fun _ _ => rfl)) (pv 8) (fun _ _ => rfl)) pa_nil)))) (by first | rfl | (dsimp only <;> rfl)))) pa_nil)) pa_nil)))))
      (pss_one (ps_for PassesOwn.never rfl (pi_list (pe_revL (pv 3))) (pg_tup rfl (pgs_cons (pg_name (i := 4) sc_Distances___init__.nd rfl (Or.inl rfl)) (pgs_cons (pg_name (i := 5) sc_Distances___init__.nd rfl (Or.inl rfl)) pgs_nil))) (pss_one (ps_for PassesOwn.never rfl (pi_tup (pv 4)) (pg_name (i := 6) sc_Distances___init__.nd rfl (Or.inl rfl)) (pss_one (ps_for PassesOwn.never rfl (pi_tup (pv 5)) (pg_name (i := 7) sc_Distances___init__.nd rfl (Or.inl rfl)) (pss_one (ps_dput (hu_of hr) (pe_fld (pv 0) rfl) (pe_tup (pa_cons (pv 6) (pa_cons (pv 7) pa_nil))) (pe_meth (pv 0) T.cl_Distances T.M_Distances_told G_Distances_told (hr.mono (by decide)) T.b_Distances_told .nil pass0 (pa_cons (pv 6) (pa_cons (pv 7) pa_nil))) rfl)))))))))))))), ?_⟩
    have hM := mil_lt
    -- self.rows
    refine ⟨_, rfl, _, rfl, by show 2 ≤ sizeLine; omega, fun ar har => ?_⟩
    have n1 : p ≠ ar := ne_of_none hp har
    have c1 : SX p H (upd H ar (.tup [va, vb])) := (SX.refl p H).put har
    have o1 := (upd_ne n1 (H := H) (o := .tup [va, vb])).trans hp
    refine ⟨_, rfl, p, _, dx, [], rfl, o1, T.cl_Distances, T.na_Distances_rows, by show 0 < 1000; decide, ?_⟩
    have c2 : SX p H (upd (upd H ar (.tup [va, vb])) p (.ins T.c_Distances dx [("rows", .ref ar)])) := c1.self
    have k2' : Kp H (upd (upd H ar (.tup [va, vb])) p (.ins T.c_Distances dx [("rows", .ref ar)])) := c2.kp hp True.intro
    have o2 : (upd (upd H ar (.tup [va, vb])) p (.ins T.c_Distances dx [("rows", .ref ar)])) p = some (.ins T.c_Distances dx [("rows", .ref ar)]) := upd_same
    have r2 : (upd (upd H ar (.tup [va, vb])) p (.ins T.c_Distances dx [("rows", .ref ar)])) ar = some (.tup [va, vb]) := (upd_ne (Ne.symm n1)).trans upd_same
    show tSeq _ _ _ _ (upd (upd H ar (.tup [va, vb])) p (.ins T.c_Distances dx [("rows", .ref ar)]))
    generalize (upd (upd H ar (.tup [va, vb])) p (.ins T.c_Distances dx [("rows", .ref ar)])) = H2 at *
    -- self.sizes
    refine ⟨_, rfl, va, f, rfl, dp_kp k2' (nl_row _) hva, by omega, fun s1 H3 m3 ns1 es1 => ?_⟩
    refine ⟨_, rfl, vb, g, rfl, dp_kp (k2'.trans (sm_kp m3)) (nl_row _) hvb, by omega, fun s2 H4 m4 ns2 es2 => ?_⟩
    refine ⟨by show 2 ≤ sizeLine; omega, fun as has => ?_⟩
    have m5 : Same H2 (upd H4 as (.tup [.ref s1, .ref s2])) := sm_put (m3.trans m4) ((m3.trans m4).free has)
    have o5 := m5 _ _ o2
    refine ⟨_, rfl, p, _, dx, _, rfl, o5, T.cl_Distances, T.na_Distances_sizes, by show 1 < 1000; decide, ?_⟩
    show tSeq _ _ _ _ (upd (upd H4 as (.tup [.ref s1, .ref s2])) p (.ins T.c_Distances dx [("rows", .ref ar), ("sizes", .ref as)]))
    have c6 : SX p H2 (upd (upd H4 as (.tup [.ref s1, .ref s2])) p (.ins T.c_Distances dx [("rows", .ref ar), ("sizes", .ref as)])) := (SX.of m5).self
    have o6 : (upd (upd H4 as (.tup [.ref s1, .ref s2])) p (.ins T.c_Distances dx [("rows", .ref ar), ("sizes", .ref as)])) p = _ := upd_same
    have nps1 : s1 ≠ p := fun z => by rw [z, o2] at ns1; cases ns1
    have nps2 : s2 ≠ p := fun z => by rw [z, m3 _ _ o2] at ns2; cases ns2
    have npas : as ≠ p := fun z => by rw [z, m4 _ _ (m3 _ _ o2)] at has; cases has
    have e6a : (upd (upd H4 as (.tup [.ref s1, .ref s2])) p (.ins T.c_Distances dx [("rows", .ref ar), ("sizes", .ref as)])) as = some (.tup [.ref s1, .ref s2]) := (upd_ne npas).trans upd_same
    have e6b : (upd (upd H4 as (.tup [.ref s1, .ref s2])) p (.ins T.c_Distances dx [("rows", .ref ar), ("sizes", .ref as)])) s1 = some (.lst (iv (f.nodes.map szT))) := (upd_ne nps1).trans ((upd_ne (ne_of_none (m4 _ _ es1) has)).trans (m4 _ _ es1))
    have e6c : (upd (upd H4 as (.tup [.ref s1, .ref s2])) p (.ins T.c_Distances dx [("rows", .ref ar), ("sizes", .ref as)])) s2 = some (.lst (iv (g.nodes.map szT))) := (upd_ne nps2).trans ((upd_ne (ne_of_none es2 has)).trans es2)
    generalize (upd (upd H4 as (.tup [.ref s1, .ref s2])) p (.ins T.c_Distances dx [("rows", .ref ar), ("sizes", .ref as)])) = H6 at *
    have k6 : Kp H H6 := k2'.trans (c6.kp o2 True.intro)
    -- self.inner
    refine ⟨_, rfl, va, f, rfl, dp_kp k6 (nl_row _) hva, by omega, fun i1 v1 H7 m7 ni1 ei1 ti1 => ?_⟩
    refine ⟨_, rfl, vb, g, rfl, dp_kp (k6.trans (sm_kp m7)) (nl_row _) hvb, by omega, fun i2 v2 H8 m8 ni2 ei2 ti2 => ?_⟩
    refine ⟨by show 2 ≤ sizeLine; omega, fun ai hai => ?_⟩
    have m9 : Same H6 (upd H8 ai (.tup [.ref i1, .ref i2])) := sm_put (m7.trans m8) ((m7.trans m8).free hai)
    have o9 := m9 _ _ o6
    refine ⟨_, rfl, p, _, dx, _, rfl, o9, T.cl_Distances, T.na_Distances_inner, by show 2 < 1000; decide, ?_⟩
    show tSeq _ _ _ _ (upd (upd H8 ai (.tup [.ref i1, .ref i2])) p (.ins T.c_Distances dx [("rows", .ref ar), ("sizes", .ref as), ("inner", .ref ai)]))
    have c10 : SX p H6 (upd (upd H8 ai (.tup [.ref i1, .ref i2])) p (.ins T.c_Distances dx [("rows", .ref ar), ("sizes", .ref as), ("inner", .ref ai)])) := (SX.of m9).self
    have o10 : (upd (upd H8 ai (.tup [.ref i1, .ref i2])) p (.ins T.c_Distances dx [("rows", .ref ar), ("sizes", .ref as), ("inner", .ref ai)])) p = _ := upd_same
    have npi1 : i1 ≠ p := fun z => by rw [z, o6] at ni1; cases ni1
    have npi2 : i2 ≠ p := fun z => by rw [z, m7 _ _ o6] at ni2; cases ni2
    have npai : ai ≠ p := fun z => by rw [z, m8 _ _ (m7 _ _ o6)] at hai; cases hai
    have e10a : (upd (upd H8 ai (.tup [.ref i1, .ref i2])) p (.ins T.c_Distances dx [("rows", .ref ar), ("sizes", .ref as), ("inner", .ref ai)])) ai = some (.tup [.ref i1, .ref i2]) := (upd_ne npai).trans upd_same
    have e10b : (upd (upd H8 ai (.tup [.ref i1, .ref i2])) p (.ins T.c_Distances dx [("rows", .ref ar), ("sizes", .ref as), ("inner", .ref ai)])) i1 = some (.lst v1) := (upd_ne npi1).trans ((upd_ne (ne_of_none (m8 _ _ ei1) hai)).trans (m8 _ _ ei1))
    have e10c : (upd (upd H8 ai (.tup [.ref i1, .ref i2])) p (.ins T.c_Distances dx [("rows", .ref ar), ("sizes", .ref as), ("inner", .ref ai)])) i2 = some (.lst v2) := (upd_ne npi2).trans ((upd_ne (ne_of_none ei2 hai)).trans ei2)
    have k10a : Kp (upd H8 ai (.tup [.ref i1, .ref i2])) (upd (upd H8 ai (.tup [.ref i1, .ref i2])) p (.ins T.c_Distances dx [("rows", .ref ar), ("sizes", .ref as), ("inner", .ref ai)])) := Kp.mu o9 True.intro
    have t10a := dpa_kp ((sm_kp m8).trans ((Kp.new hai).trans k10a)) (nl_tups _) ti1
    have t10b := dpa_kp ((Kp.new hai).trans k10a) (nl_tups _) ti2
    generalize (upd (upd H8 ai (.tup [.ref i1, .ref i2])) p (.ins T.c_Distances dx [("rows", .ref ar), ("sizes", .ref as), ("inner", .ref ai)])) = H10 at *
    -- self.between
    intro ad had
    have o11 := (upd_ne (ne_of_none o10 had) (H := H10) (o := .dT [])).trans o10
    refine ⟨_, rfl, p, _, dx, _, rfl, o11, T.cl_Distances, T.na_Distances_between, by show 3 < 1000; decide, ?_⟩
    let A : DAd := ⟨dx, ar, as, ai, ad, s1, s2, i1, i2, va, vb, v1, v2⟩
    show tSeq _ _ _ _ (upd (upd H10 ad (.dT [])) p (.ins T.c_Distances dx (dfs A)))
    have npad : ad ≠ p := fun z => by rw [z, o10] at had; cases had
    have c12 : SX p H10 (upd (upd H10 ad (.dT [])) p (.ins T.c_Distances dx (dfs A))) := ((SX.refl p H10).put had).self
    have k12 : Kp H10 (upd (upd H10 ad (.dT [])) p (.ins T.c_Distances dx (dfs A))) := c12.kp o10 True.intro
    have D0 : DistAt T (upd (upd H10 ad (.dT [])) p (.ins T.c_Distances dx (dfs A))) p A f g (fun _ _ => False) := by
      have k610 : Kp H6 H10 := c10.kp o6 True.intro
      have cp : ∀ b o, b ≠ p → H6 b = some o → (upd (upd H10 ad (.dT [])) p (.ins T.c_Distances dx (dfs A))) b = some o := fun b o nb e => c12 b o nb (c10 b o nb e)
      have nar : ar ≠ p := Ne.symm n1
      exact ⟨upd_same, SqT.of (cp _ _ nar (c6 _ _ nar r2)), dp_kp (k6.trans (k610.trans k12)) (nl_row _) hva, dp_kp (k6.trans (k610.trans k12)) (nl_row _) hvb, SqT.of (cp _ _ npas e6a), cp _ _ nps1 e6b, cp _ _ nps2 e6c,
        SqT.of (c12 _ _ npai e10a), c12 _ _ npi1 e10b, c12 _ _ npi2 e10c, dpa_kp k12 (nl_tups _) t10a, dpa_kp k12 (nl_tups _) t10b, ⟨[], (upd_ne npad).trans upd_same, fun _ _ z => z.elim⟩, hf, hg⟩
    have cAll : SX p H (upd (upd H10 ad (.dT [])) p (.ins T.c_Distances dx (dfs A))) := c2.trans (c6.trans (c10.trans c12))
    have ead : (upd (upd H10 ad (.dT [])) p (.ins T.c_Distances dx (dfs A))) A.ad = some (.dT []) := (upd_ne npad).trans upd_same
    generalize (upd (upd H10 ad (.dT [])) p (.ins T.c_Distances dx (dfs A))) = H12 at *
    have lf := roots_len f 0
    have lg := roots_len g 0
    have q1 := len_le_size f
    have q2 := len_le_size g
    -- levels
    refine ⟨_, rfl, va, f, rfl, D0.ra, by omega, fun a1 H13 m13 na1 ea1 => ?_⟩
    refine ⟨_, rfl, vb, g, rfl, dp_same m13 D0.rb, by omega, fun a2 H14 m14 na2 ea2 => ?_⟩
    refine ⟨by show 2 ≤ sizeLine; omega, fun t0 ht0 => ?_⟩
    refine ⟨by show 1 ≤ sizeLine; omega, fun L hL => ?_⟩
    have m15 : Same H12 (upd (upd H14 t0 (.tup [.ref a1, .ref a2])) L (.lst [.ref t0])) := sm_put (sm_put (m13.trans m14) ((m13.trans m14).free ht0)) ((sm_put (m13.trans m14) ((m13.trans m14).free ht0)).free hL)
    have nL12 : H12 L = none := (sm_put (m13.trans m14) ((m13.trans m14).free ht0)).free hL
    have dL0 : DpAll K (upd (upd H14 t0 (.tup [.ref a1, .ref a2])) L (.lst [.ref t0])) [.ref t0] ((List.range 1).map (levD f g)) := by
      refine .cons (dp_same (sm_new hL) (lev_mk (SqT.of upd_same) ?_ ?_)) .nil
      · exact sm_st ((m14.trans (sm_new ht0))) (SqT.of ea1)
      · exact sm_st (sm_new ht0) (SqT.of ea2)
    have eL0 : (upd (upd H14 t0 (.tup [.ref a1, .ref a2])) L (.lst [.ref t0])) L = some (.lst [.ref t0]) := upd_same
    generalize (upd (upd H14 t0 (.tup [.ref a1, .ref a2])) L (.lst [.ref t0])) = H15 at *
    refine ⟨fun σ' H' => ∃ (n : Nat) (lv : List V), σ' = [some (.ref p), some va, some vb, some (.ref L), none, none, none, none, none] ∧ Same H12 H' ∧ H' L = some (.lst lv) ∧ DpAll K H' lv ((List.range (n + 1)).map (levD f g)) ∧ n ≤ f.size ∧ (lev f n = [] ∨ lev g n = []), ?_, ?_⟩
    · refine ⟨fun m σ' H' => ∃ (n : Nat) (lv : List V), m = f.size + 1 - n ∧ σ' = [some (.ref p), some va, some vb, some (.ref L), none, none, none, none, none] ∧ Same H12 H' ∧ H' L = some (.lst lv) ∧ DpAll K H' lv ((List.range (n + 1)).map (levD f g)) ∧ n ≤ f.size, ⟨_, 0, [.ref t0], rfl, rfl, m15, eL0, dL0, Nat.zero_le _⟩, ?_⟩
      rintro m σ' H1 ⟨n, lv, rfl, rfl, s1', eL, dL, hn⟩
      have lvl := dpa_len dL
      rw [List.length_map, List.length_range] at lvl
      obtain ⟨vt, hvt, dvt⟩ := dpa_get dL (i := n) (d := levD f g n) (by rw [List.getElem?_map, List.getElem?_range (by omega)]; rfl)
      obtain ⟨t, a, b, rfl, ht, ha, hb⟩ := lev_parts dvt
      have hat := atI_neg1 lvl hvt
      refine ⟨_, rfl, 1, rfl, L, _, _, _, rfl, rfl, SqL.of eL, hat, t, _, 0, _, rfl, rfl, ht, rfl, Nat.zero_le _, fun z1 hz1 => ?_⟩
      have s2' := sm_put s1' (s1'.free hz1) (o := .tup [])
      have u1 := sm_new hz1 (o := .tup [])
      refine ⟨_, _, .tup (sm_st u1 ha) (dpa_iv _), .tup (SqT.of upd_same) .nil, Sh.ok (sh_idt _), Sh.ok sh_nilT, _, rfl, ?_⟩
      rw [eqv_tnil, idt_empty]
      cases hlf : lev f n with
      | nil => exact ⟨n, lv, rfl, s2', u1 _ _ eL, dpa_same u1 dL, hn, .inl hlf⟩
      | cons x0 xs0 =>
        have hnl : n < f.size := by
          have := lev_lt f n x0 (by rw [hlf]; exact List.mem_cons_self); omega
        refine ⟨_, rfl, 1, rfl, L, _, _, _, rfl, rfl, SqL.of (u1 _ _ eL), hat, t, _, 1, _, rfl, rfl, sm_st u1 ht, rfl, Nat.zero_le _, fun z2 hz2 => ?_⟩
        have s3' := sm_put s2' (s2'.free hz2) (o := .tup [])
        have u2 : Same H1 (upd (upd H1 z1 (.tup [])) z2 (.tup [])) := sm_put u1 (u1.free hz2)
        refine ⟨_, _, .tup (sm_st u2 hb) (dpa_iv _), .tup (SqT.of upd_same) .nil, Sh.ok (sh_idt _), Sh.ok sh_nilT, _, rfl, ?_⟩
        rw [eqv_tnil, idt_empty]
        cases hlg : lev g n with
        | nil => exact ⟨n, lv, rfl, s3', u2 _ _ eL, dpa_same u2 dL, hn, .inr hlg⟩
        | cons y0 ys0 =>
          refine ⟨fun σ' H' => ∃ (n' : Nat) (lv : List V), f.size + 1 - n' < f.size + 1 - n ∧ σ' = [some (.ref p), some va, some vb, some (.ref L), none, none, none, none, none] ∧ Same H12 H' ∧ H' L = some (.lst lv) ∧ DpAll K H' lv ((List.range (n' + 1)).map (levD f g)) ∧ n' ≤ f.size, fun σ' H' ⟨n', lv', z1, z2⟩ => ⟨_, z1, n', lv', rfl, z2⟩, ?_⟩
          have eL2 := u2 _ _ eL
          have dL2 := dpa_same u2 dL
          have ht2 := sm_st u2 ht
          have ha2 := sm_st u2 ha
          have hb2 := sm_st u2 hb
          generalize (upd (upd H1 z1 (.tup [])) z2 (.tup [])) = H16 at *
          refine ⟨_, rfl, .inl ⟨rfl, _, SqL.of eL2⟩, ?_⟩
          refine ⟨by show 2 ≤ sizeLine; omega, fun w hw => ⟨w, rfl, ⟨_, SqT.of upd_same⟩, fun D hD => ?_⟩⟩
          have u3 := sm_new hw (o := .tup [.int 0, .int 1])
          have s4' := s3'.trans u3
          have ew : upd H16 w (.tup [.int 0, .int 1]) w = some (.tup [.int 0, .int 1]) := upd_same
          have eL3 := u3 _ _ eL2
          have dL3 := dpa_same u3 dL2
          have ht3 := sm_st u3 ht2
          have ha3 := sm_st u3 ha2
          have hb3 := sm_st u3 hb2
          generalize upd H16 w (.tup [.int 0, .int 1]) = H17 at *
          have bound : ∀ (b : Bool), ((lev (pick b f g) n).flatMap (kidsN (pick b f g))).length < 1000000 ∧ ∀ z ∈ lev (pick b f g) n, z < (pick b f g).size := fun b => by
            have h1 := lev_len (pick b f g) (n + 1)
            have h2 : (pick b f g).size < 1000000 := by cases b <;> assumption
            exact ⟨by show (lev (pick b f g) (n + 1)).length < _; omega, fun z hz => (lev_lt _ n z hz).2⟩
          refine lc_it (walk_tup (xs := [.int 0, .int 1])) (fun i H' => Same H17 H' ∧ ∃ vs, H' D = some (.lst vs) ∧ DpAll K H' vs (([.tuple (idt (lev f (n + 1))), .tuple (idt (lev g (n + 1)))] : List PyData).take i)) ⟨sm_new hD, [], upd_same, .nil⟩ (fun _ _ _ q => sm_st q.1 (SqT.of ew)) ?_ ?_
          · rintro i y H2' H3' hi ⟨g1, vs, e1, d1⟩ ⟨rfl, hy⟩
            have D1 := (D0.same s4').same g1
            obtain ⟨b', a', rfl, hat', ha', htk⟩ : ∃ (b' : Bool) (a' : Addr), y = .int (bI b') ∧ atI [V.ref a, V.ref b] (bI b') = some (.ref a') ∧ SqT K H17 a' (iv (lev (pick b' f g) n)) ∧
                (([.tuple (idt (lev f (n + 1))), .tuple (idt (lev g (n + 1)))] : List PyData).take (i + 1) = ([.tuple (idt (lev f (n + 1))), .tuple (idt (lev g (n + 1)))] : List PyData).take i ++ [.tuple (idt (lev (pick b' f g) (n + 1)))]) := by
              match i, hi, hy with
              | 0, _, hy => exact ⟨false, a, (Option.some.inj hy).symm, rfl, ha3, rfl⟩
              | 1, _, hy => exact ⟨true, b, (Option.some.inj hy).symm, rfl, hb3, rfl⟩
              | i + 2, hi, _ => exact absurd hi (by show ¬ i + 2 < 2; omega)
            refine ⟨rfl, _, rfl, p, _, _, rfl, D1.ob, rfl, _, rfl, _, rfl, 1, rfl, L, _, _, _, rfl, rfl, SqL.of (g1 _ _ eL3), hat, _, rfl, t, _, _, _, rfl, rfl, sm_st g1 ht3, hat', p, A, f, g, b', a', _, rfl, ⟨_, D1.ob, rfl⟩, D1.inn, dist_inner D1 b', sm_st g1 ha', (bound b').2, (bound b').1, fun q H4' g2 nq eq => ?_⟩
            have dl := dpa_len d1
            rw [List.length_take] at dl
            have hi2 : ([PyData.tuple (idt (lev f (n + 1))), .tuple (idt (lev g (n + 1)))] : List PyData).length = 2 := rfl
            refine ⟨vs, g2 _ _ e1, by omega, sm_put (g1.trans g2) hD, _, upd_same, ?_⟩
            rw [htk]
            have kp := Kp.lst (g2 _ _ e1) (o := .lst (vs ++ [V.ref q]))
            have hnl : nlA (([PyData.tuple (idt (lev f (n + 1))), .tuple (idt (lev g (n + 1)))] : List PyData).take i) = true := by
              match i with
              | 0 => rfl
              | 1 => simp [nlA, nl, nl_idt]
              | i + 2 => simp [nlA, nl, nl_idt]
            exact dpa_app (dpa_kp kp hnl (dpa_same g2 d1)) (.cons (.tup (kp.st (SqT.of eq)) (dpa_iv _)) .nil)
          · rintro H2' ⟨g1, vs, e1, d1⟩
            obtain ⟨q1', w1, w2, z1, z2, z3⟩ : ∃ (q1' : vs = vs) (w1 w2 : Addr), vs = [.ref w1, .ref w2] ∧ SqT K H2' w1 (iv (lev f (n + 1))) ∧ SqT K H2' w2 (iv (lev g (n + 1))) := by
              have d2 : DpAll K H2' vs [.tuple (idt (lev f (n + 1))), .tuple (idt (lev g (n + 1)))] := d1
              cases d2 with
              | cons h1 r =>
                cases r with
                | cons h2 r =>
                  cases r
                  obtain ⟨w1, ws1, rfl, hw1, hx1⟩ := dp_tup h1
                  obtain ⟨w2, ws2, rfl, hw2, hx2⟩ := dp_tup h2
                  rw [idt_vals hx1] at hw1
                  rw [idt_vals hx2] at hw2
                  exact ⟨rfl, w1, w2, rfl, hw1, hw2⟩
            subst z1
            refine ⟨D, _, rfl, .inl ⟨SqL.of e1, fun q hq => ?_⟩⟩
            have u4 := sm_new hq (o := .tup [V.ref w1, V.ref w2])
            have eL4 := u4 _ _ (g1 _ _ eL3)
            refine ⟨L, lv, _, rfl, rfl, eL4, by omega, n + 1, lv ++ [V.ref q], by omega, rfl, sm_put (s4'.trans (g1.trans u4)) nL12, upd_same, ?_, hnl⟩
            have kp := Kp.lst eL4 (o := .lst (lv ++ [V.ref q]))
            rw [List.range_succ, List.map_append]
            exact dpa_app (dpa_kp kp (nl_lev f g _) (dpa_same (g1.trans u4) dL3)) (.cons (lev_mk (kp.st (SqT.of upd_same)) (kp.st (sm_st u4 z2)) (kp.st (sm_st u4 z3))) .nil)
    · rintro σ' H1 ⟨n, lv, rfl, s1', eL, dL, hn, hend⟩
      have lvl := dpa_len dL
      rw [List.length_map, List.length_range] at lvl
      refine ⟨_, rfl, L, lv, rfl, SqL.of eL, fun R hR => ?_⟩
      have u1 := sm_new hR (o := .lst lv.reverse)
      have eR : upd H1 R (.lst lv.reverse) R = some (.lst lv.reverse) := upd_same
      have s2' := s1'.trans u1
      have dL2 := dpa_same u1 dL
      generalize upd H1 R (.lst lv.reverse) = H2' at *
      have D2 := D0.same s2'
      have ead2 := s2' _ _ ead
      have nRad : R ≠ A.ad := fun z => by rw [z, ead2] at eR; cases eR
      refine ⟨R, rfl, ⟨_, SqL.of eR⟩, ?_⟩
      have lastOk : ∀ x y, okFrom f g (n + 1) x y → False := fun x y ⟨j, hj, h1, h2⟩ => by
        rcases hend with h | h
        · rw [lev_nil h j (by omega)] at h1; cases h1
        · rw [lev_nil h j (by omega)] at h2; cases h2
      refine for_it (walk_list (xs := lv.reverse)) (fun i σ' H' => ∃ x4 x5 x6 x7, σ' = [some (.ref p), some va, some vb, some (.ref L), x4, x5, x6, x7, none] ∧ SX A.ad H2' H' ∧ DistAt T H' p A f g (okFrom f g (n + 1 - i)) ∧
          ∃ kvs, H' A.ad = some (.dT kvs) ∧ kvs.length ≤ wt f (lev f (n + 1 - i)) * g.size) ⟨none, none, none, none, rfl, SX.refl _ _, D2.sub (fun x y z => (lastOk x y z).elim), [], ead2, Nat.zero_le _⟩
        (fun i σ' H' _ q => by obtain ⟨_, _, _, _, _, q, _⟩ := q; exact SqL.of (q _ _ nRad eR)) ?_ ?_
      · rintro i y σ' H3' H4' hi ⟨x4, x5, x6, x7, rfl, q1, D3, kvs, ek, lk⟩ ⟨rfl, hy⟩
        rw [List.length_reverse, lvl] at hi
        obtain ⟨j, hj⟩ : ∃ j, n + 1 - i = j + 1 := ⟨n - i, by omega⟩
        rw [List.getElem?_reverse (by omega), lvl, show n + 1 - 1 - i = j by omega] at hy
        rw [hj] at D3 lk
        rw [show n + 1 - (i + 1) = j by omega]
        obtain ⟨vt, hvt, dvt⟩ := dpa_get dL2 (i := j) (d := levD f g j) (by rw [List.getElem?_map, List.getElem?_range (by omega)]; rfl)
        rw [hy] at hvt
        cases hvt
        obtain ⟨t, a, b, rfl, ht, ha, hb⟩ := lev_parts dvt
        have kp1 := q1.kp ead2 True.intro
        have wle := wt_lev f j
        have weq := wt_lev_eq f j
        have lgl := lev_len g j
        refine ⟨t, _, rfl, kp1.st ht, rfl, _, _, rfl, _, _, rfl, rfl, ?_⟩
        refine ⟨_, rfl, a, rfl, ⟨_, kp1.st ha⟩, ?_⟩
        refine for_it (walk_tup (xs := iv (lev f j))) (fun i1 σ' H' => ∃ x6 x7, σ' = [some (.ref p), some va, some vb, some (.ref L), some (.ref a), some (.ref b), x6, x7, none] ∧ SX A.ad H2' H' ∧ DistAt T H' p A f g (fun x y => okFrom f g (j + 1) x y ∨ (x ∈ (lev f j).take i1 ∧ y ∈ lev g j)) ∧
            ∃ kvs, H' A.ad = some (.dT kvs) ∧ kvs.length ≤ (wt f (lev f (j + 1)) + i1) * g.size) ⟨x6, x7, rfl, q1, D3.sub (fun x y z => by
              rcases z with z | z
              · exact z
              · rw [List.take_zero] at z; cases z.1), kvs, ek, lk⟩ (fun _ _ _ _ q => by obtain ⟨_, _, _, q, _⟩ := q; exact (q.kp ead2 True.intro).st ha) ?_ ?_
        · rintro i1 y1 σ' H5 H6' hi1 ⟨x6, x7, rfl, q2, D5, kvs, ek, lk⟩ ⟨rfl, hy1⟩
          rw [iv_len] at hi1
          obtain ⟨x, hx⟩ : ∃ x, (lev f j)[i1]? = some x := ⟨_, List.getElem?_eq_getElem hi1⟩
          rw [iv_get hx] at hy1
          cases hy1
          have kp2 := q2.kp ead2 True.intro
          have hxl := List.mem_of_getElem? hx
          refine ⟨_, rfl, b, rfl, ⟨_, kp2.st hb⟩, ?_⟩
          refine for_it (walk_tup (xs := iv (lev g j))) (fun i2 σ' H' => ∃ x7, σ' = [some (.ref p), some va, some vb, some (.ref L), some (.ref a), some (.ref b), some (.int (x : Nat)), x7, none] ∧ SX A.ad H2' H' ∧
              DistAt T H' p A f g (fun x' y => (okFrom f g (j + 1) x' y ∨ (x' ∈ (lev f j).take i1 ∧ y ∈ lev g j)) ∨ (x' = x ∧ y ∈ (lev g j).take i2)) ∧
              ∃ kvs, H' A.ad = some (.dT kvs) ∧ kvs.length ≤ (wt f (lev f (j + 1)) + i1) * g.size + i2) ⟨x7, rfl, q2, D5.sub (fun x y z => by
                rcases z with z | z
                · exact z
                · rw [List.take_zero] at z; cases z.2), kvs, ek, lk⟩ (fun _ _ _ _ q => by obtain ⟨_, _, q, _⟩ := q; exact (q.kp ead2 True.intro).st hb) ?_ ?_
          · rintro i2 y2 σ' H7 H8' hi2 ⟨x7, rfl, q3, D7, kvs, ek, lk⟩ ⟨rfl, hy2⟩
            rw [iv_len] at hi2
            obtain ⟨y, hy'⟩ : ∃ y, (lev g j)[i2]? = some y := ⟨_, List.getElem?_eq_getElem hi2⟩
            rw [iv_get hy'] at hy2
            cases hy2
            have hyl := List.mem_of_getElem? hy'
            refine ⟨_, rfl, p, _, _, rfl, D7.ob, rfl, _, rfl, _, rfl, p, A, f, g, _, x, y, rfl, D7, (lev_lt f j x hxl).2, (lev_lt g j y hyl).2, fun x' hx' y' hy'' => .inl (.inl (ok_kids ⟨hxl, hyl⟩ hx' hy'')), fun H9 s9 => ?_⟩
            have D9 := D7.same s9
            refine ⟨_, rfl, p, T.c_Distances, _, _, _, rfl, D9.ob, T.cl_Distances, T.na_Distances_between, rfl, _, rfl, _, rfl, by show 2 ≤ sizeLine; omega, fun t' ht' => ?_⟩
            have u9 := sm_new ht' (o := .tup [V.int (x : Nat), V.int (y : Nat)])
            have hsz : (wt f (lev f (j + 1)) + i1 + 1) * g.size ≤ f.size * g.size := Nat.mul_le_mul_right _ (by omega)
            rw [Nat.succ_mul] at hsz
            refine ⟨A.ad, _, rfl, DPut.t (k := k2 x y) (u9 _ _ (s9 _ _ ek)) upd_same (by omega), ?_⟩
            have D10 := (D9.same u9)
            have ek10 := u9 _ _ (s9 _ _ ek)
            refine ⟨_, rfl, (q3.trans ((SX.of s9).trans (SX.of u9))).self, D10.store ek10 (fun x' y' h => ?_), _, upd_same, ?_⟩
            · rw [valV_put]
              by_cases e : k2 x' y' = k2 x y
              · obtain ⟨e1, e2⟩ := k2_inj e
                rw [if_pos e, e1, e2]
              · rw [if_neg e]
                obtain ⟨kvs2, b1, b2⟩ := D10.bet
                rw [ek10] at b1
                cases b1
                refine b2 x' y' ?_
                rcases h with h | ⟨h1, h2⟩
                · exact .inl h
                · refine .inr ⟨h1, ?_⟩
                  rw [take_one hy', List.mem_append, List.mem_singleton] at h2
                  rcases h2 with h2 | h2
                  · exact h2
                  · exact absurd (by rw [h1, h2]) e
            · have := length_putK kvs (k2 x y) (V.int (dN f g x y : Nat))
              omega
          · rintro σ' H7 ⟨x7, rfl, q3, D7, kvs, ek, lk⟩
            rw [iv_len] at D7 lk
            refine ⟨_, _, rfl, q3, D7.sub (fun x' y' h => ?_), kvs, ek, ?_⟩
            · rcases h with h | ⟨h1, h2⟩
              · exact .inl (.inl h)
              · rw [take_one hx, List.mem_append, List.mem_singleton] at h1
                rcases h1 with h1 | h1
                · exact .inl (.inr ⟨h1, h2⟩)
                · exact .inr ⟨h1, by rw [List.take_length]; exact h2⟩
            · rw [show wt f (lev f (j + 1)) + (i1 + 1) = wt f (lev f (j + 1)) + i1 + 1 by omega, Nat.succ_mul]
              omega
        · rintro σ' H5 ⟨x6, x7, rfl, q2, D5, kvs, ek, lk⟩
          rw [iv_len] at D5 lk
          refine ⟨_, _, _, _, rfl, q2, D5.sub (fun x' y' h => ?_), kvs, ek, ?_⟩
          · obtain ⟨j', h1, h2, h3⟩ := h
            by_cases e : j' = j
            · subst e; exact .inr ⟨by rw [List.take_length]; exact h2, h3⟩
            · exact .inl ⟨j', by omega, h2, h3⟩
          · rw [weq] at lk; exact lk
      · rintro σ' H3' ⟨x4, x5, x6, x7, rfl, q1, D3, _⟩
        rw [List.length_reverse, lvl, Nat.sub_self] at D3
        refine k H3' A D3 fun b o nb e => ?_
        have hb10 := c10 b o nb (c6 b o nb (c2 b o nb e))
        have nba : b ≠ A.ad := ne_of_none hb10 had
        exact q1 b o nba (s2' b o (c12 b o nb hb10))

end Pp

set_option Elab.async false
set_option linter.all false
set_option autoImplicit false
set_option maxRecDepth 100000
set_option maxHeartbeats 4000000
namespace Pp
open PySem PySem.Spec L2
variable {P : Program} {w : World} {K : PySem.W.Frag} {mg : Str → Option Value} {base : Heap}
theorem dF_le : ∀ (f g : F), dF f g ≤ f.size + g.size
  | .nil, .nil => by rw [dF_nn]; exact Nat.zero_le _
  | .nil, .snoc b u e => by
    rw [dF_ns]
    have := dF_le .nil b
    show _ ≤ 0 + (b.size + (1 + e.size))
    have h0 : (F.nil).size = 0 := rfl
    omega
  | .snoc a t c, .nil => by
    rw [dF_sn]
    have := dF_le a .nil
    show _ ≤ (a.size + (1 + c.size)) + 0
    have h0 : (F.nil).size = 0 := rfl
    omega
  | .snoc a t c, .snoc b u e => by
    rw [dF_ss]
    have := dF_le a (.snoc b u e)
    show _ ≤ (a.size + (1 + c.size)) + (b.size + (1 + e.size))
    have h0 : (F.snoc b u e).size = b.size + (1 + e.size) := rfl
    omega
termination_by f g => sizeOf f + sizeOf g
theorem dF_one (t u : Str) (c e : F) : dF (sub1 t c) (sub1 u e) = ne1 t u + dF c e := by
  unfold sub1
  rw [dF_ss, dF_ns, dF_sn, dF_nn]
  have := dF_le c e
  have : ne1 t u ≤ 1 := by unfold ne1; split <;> omega
  omega
theorem len_one {f : F} (h : f.len = 1) : ∃ t c, f = sub1 t c := by
  cases f with
  | nil => cases h
  | snoc a t c =>
    have : a.len + 1 = 1 := h
    cases a with
    | nil => exact ⟨t, c, rfl⟩
    | snoc a' t' c' =>
      have : a'.len + 1 + 1 = 1 := h
      omega
def sp_row_distance (T : Txt K mg) : Sp := fun vs H Q _ => ∃ (va vb : V) (f g : F), vs = [va, vb] ∧ Dp K H va (rowD f.flat) ∧ Dp K H vb (rowD g.flat) ∧ f.good = true ∧ g.good = true ∧ f.size < 100001 ∧ g.size < 100001 ∧ f.size * g.size ≤ 100000 ∧ ∀ H', Same H H' → Q (.int (dF f g : Nat)) H'
theorem made_same {H H' : Hp} {x dx C : Addr} (h1 : H x = none) (h2 : H dx = none) (s : SX x (upd (upd H dx (.own x)) x (.ins C dx [])) H') : Same H H' := fun b o e => by
  have n1 : b ≠ x := ne_of_none e h1
  have n2 : b ≠ dx := ne_of_none e h2
  exact s b o n1 (by rw [upd_ne n1, upd_ne n2]; exact e)
theorem same_made {H : Hp} {x dx C : Addr} (h1 : H x = none) (h2 : H dx = none) : Same H (upd (upd H dx (.own x)) x (.ins C dx [])) := made_same h1 h2 (SX.refl _ _)
theorem ok_row_distance (T : Txt K mg) : FnOk P w K mg base CX0 8 T.a_row_distance T.d_row_distance P_row_distance (sp_row_distance T) := by
  have G_Distances___init__ := ok_Distances___init__ (P := P) (w := w) (base := base) T
  have G_Distances_whole := ok_Distances_whole (P := P) (w := w) (base := base) T
  have G_check_rows := ok_check_rows (P := P) (w := w) (base := base) T
  refine T.F_row_distance.ok sc_row_distance (fun vs H Q E h => ?_) (fun cdv A outer s H vs Q E hr h => ?_)
  · obtain ⟨va, vb, f, g, rfl, hva, hvb, gf, gg, h1, h2, h3, k⟩ := h
    rfl
  · obtain ⟨va, vb, f, g, rfl, hva, hvb, gf, gg, h1, h2, h3, k⟩ := h
    refine ⟨_, (pss_cons (ps_expr (pe_call G_check_rows (hr.mono (by decide)) (by rfl) T.m_check_rows T.F_check_rows.kp T.b_check_rows .nil pass0 (pa_cons (pv 0) (pa_cons (pv 1) pa_nil))))
      (pss_one (ps_ret (pe_meth0 (pe_make T.mk_Distances G_Distances___init__ (hr.mono (by decide)) (by rfl) T.m_Distances T.b_Distances___init__ .nil pass0 (pa_cons (pv 0) (pa_cons (pv 1) pa_nil))) T.cl_Distances T.M_Distances_whole G_Distances_whole (hr.mono (by decide)) T.b_Distances_whole .nil pass0)))), ?_⟩
    refine ⟨_, rfl, _, rfl, va, vb, f, g, rfl, hva, hvb, gf, gg, h1, h2, h3, fun H1 s1 => ?_⟩
    refine ⟨_, rfl, _, rfl, fun x dx hx hdx hne => ?_⟩
    have s2 := same_made (C := T.c_Distances) hx hdx
    refine ⟨x, dx, va, vb, f, g, rfl, upd_same, dp_same (s1.trans s2) hva, dp_same (s1.trans s2) hvb, by omega, by omega, h3, fun H2 A D sx => ⟨rfl, ?_⟩⟩
    have s3 := made_same hx hdx sx
    refine ⟨x, _, _, rfl, D.ob, rfl, x, A, f, g, _, rfl, D, fun x' hx' y' hy' => ⟨0, Nat.le_refl _, hx', hy'⟩, fun H3 s4 => ?_⟩
    exact k H3 ((s1.trans s3).trans s4)
def sp_tree_distance (T : Txt K mg) : Sp := fun vs H Q _ => ∃ (va vb : V) (f g : F), vs = [va, vb] ∧ Dp K H va (rowD f.flat) ∧ Dp K H vb (rowD g.flat) ∧ f.good = true ∧ g.good = true ∧ f.size < 100001 ∧ g.size < 100001 ∧ f.size * g.size ≤ 100000 ∧ f.len = 1 ∧ g.len = 1 ∧ ∀ H', Same H H' → Q (.int (dF f g : Nat)) H'
theorem ok_tree_distance (T : Txt K mg) : FnOk P w K mg base CX0 8 T.a_tree_distance T.d_tree_distance P_tree_distance (sp_tree_distance T) := by
  have G_Distances___init__ := ok_Distances___init__ (P := P) (w := w) (base := base) T
  have G_Distances_told := ok_Distances_told (P := P) (w := w) (base := base) T
  have G_check_rows := ok_check_rows (P := P) (w := w) (base := base) T
  have G_is_tree := ok_is_tree (P := P) (w := w) (base := base) T
  refine T.F_tree_distance.ok sc_tree_distance (fun vs H Q E h => ?_) (fun cdv A outer s H vs Q E hr h => ?_)
  · obtain ⟨va, vb, f, g, rfl, hva, hvb, gf, gg, h1, h2, h3, l1, l2, k⟩ := h
    rfl
  · obtain ⟨va, vb, f, g, rfl, hva, hvb, gf, gg, h1, h2, h3, l1, l2, k⟩ := h
    refine ⟨_, (pss_cons (ps_if (PW.pt (pw_or (pt_not (pt_val (pe_call G_is_tree (hr.mono (by decide)) (by rfl) T.m_is_tree T.F_is_tree.kp T.b_is_tree .nil pass0 (pa_cons (pv 0) pa_nil)))) (pw_or1 (pt_not (pt_val (pe_call G_is_tree (hr.mono (by decide)) (by rfl) T.m_is_tree T.F_is_tree.kp T.b_is_tree .nil pass0 (pa_cons (pv 1) pa_nil))))))) (pss_one ps_never) pss_nil)
      (pss_cons (ps_expr (pe_call G_check_rows (hr.mono (by decide)) (by rfl) T.m_check_rows T.F_check_rows.kp T.b_check_rows .nil pass0 (pa_cons (pv 0) (pa_cons (pv 1) pa_nil))))
      (pss_one (ps_ret (pe_meth (pe_make T.mk_Distances G_Distances___init__ (hr.mono (by decide)) (by rfl) T.m_Distances T.b_Distances___init__ .nil pass0 (pa_cons (pv 0) (pa_cons (pv 1) pa_nil))) T.cl_Distances T.M_Distances_told G_Distances_told (hr.mono (by decide)) T.b_Distances_told .nil pass0 (pa_cons pe_int (pa_cons pe_int pa_nil))))))), ?_⟩
    have hb := big_lt
    refine ⟨_, rfl, va, f, rfl, hva, by omega, gf, fun H1 s1 => ?_⟩
    rw [decide_eq_true l1]
    refine ⟨_, rfl, ?_⟩
    refine ⟨_, rfl, vb, g, rfl, dp_same s1 hvb, by omega, gg, fun H2 s2 => ?_⟩
    rw [decide_eq_true l2]
    refine ⟨_, rfl, ?_⟩
    have s12 := s1.trans s2
    refine ⟨_, rfl, _, rfl, va, vb, f, g, rfl, dp_same s12 hva, dp_same s12 hvb, gf, gg, h1, h2, h3, fun H3 s3 => ?_⟩
    have s13 := s12.trans s3
    refine ⟨_, rfl, _, rfl, fun x dx hx hdx hne => ?_⟩
    have s4 := same_made (C := T.c_Distances) hx hdx
    refine ⟨x, dx, va, vb, f, g, rfl, upd_same, dp_same (s13.trans s4) hva, dp_same (s13.trans s4) hvb, by omega, by omega, h3, fun H4 A D sx => ⟨rfl, ?_⟩⟩
    have s5 := made_same hx hdx sx
    obtain ⟨t, c, rfl⟩ := len_one l1
    obtain ⟨u, e, rfl⟩ := len_one l2
    have n1 : (sub1 t c).nodes[0]? = some (t, c) := rfl
    have n2 : (sub1 u e).nodes[0]? = some (u, e) := rfl
    have hdn : dN (sub1 t c) (sub1 u e) 0 0 = dF (sub1 t c) (sub1 u e) := by
      rw [dF_one]; show dT (nodeN _ 0) (nodeN _ 0) = _
      rw [nodeN_of n1, nodeN_of n2]; rfl
    have hmem : ∀ (t : Str) (c : F), 0 ∈ lev (sub1 t c) 0 := fun t c => by show 0 ∈ [0 + 0]; exact List.mem_singleton.mpr rfl
    refine ⟨x, _, _, rfl, D.ob, rfl, x, A, _, _, _, 0, 0, rfl, D, by show 0 < 0 + (1 + c.size); omega, by show 0 < 0 + (1 + e.size); omega, fun x' hx' y' hy' => ?_, fun H5 s6 => ?_⟩
    · obtain ⟨j, q1, q2, q3⟩ := ok_kids (k := 0) ⟨hmem t c, hmem u e⟩ hx' hy'
      exact ⟨j, Nat.zero_le _, q2, q3⟩
    · rw [hdn]
      exact k H5 ((s13.trans s5).trans s6)

end Pp

set_option Elab.async false
set_option linter.all false
set_option autoImplicit false
set_option maxRecDepth 100000
set_option maxHeartbeats 4000000
namespace Pp
open PySem PySem.Spec L2
variable {P : Program} {w : World} {K : PySem.W.Frag} {mg : Str → Option Value} {base : Heap}
/-! ### steps and ways -/
inductive Step where
  | out
  | up
  | ins (f : F)
  | turn (o : Option Str)
  deriving DecidableEq
def oD : Option Str → PyData
  | none => .none
  | some x => .str x
def oS : Option Str → V
  | none => .non
  | some x => .str x
def stD : Step → PyData
  | .out => .tuple [.str "out"]
  | .up => .tuple [.str "up"]
  | .ins f => .tuple [.str "in", rowD f.flat]
  | .turn o => .tuple [.str "turn", oD o]
def wayD (w : List Step) : PyData := .tuple (w.map stD)
/-- what is handed in as a step here -/
def StIn : Step → Prop
  | .out => True
  | .up => True
  | .ins f => f.good = true ∧ f.size < 100001
  | .turn none => True
  | .turn (some x) => PyData.strOk x = true ∧ x.length ≤ sizeLine
def okS : Step → Bool
  | .out => true
  | .up => true
  | .ins f => decide (f.len = 1)
  | .turn none => true
  | .turn (some x) => isName x
def deepGo : Nat → List Step → Bool
  | d, [] => d == 0
  | d, .turn _ :: w => deepGo (d + 1) w
  | 0, .up :: _ => false
  | d + 1, .up :: w => deepGo d w
  | d, _ :: w => deepGo d w
def wayOk (w : List Step) : Bool := w.all okS && deepGo 0 w
theorem sh_st {s : Step} (h : StIn s) : Sh 3 (stD s) := by
  have hs : ∀ x : Str, PyData.strOk x = true → Sh 2 (.str x) := fun x hx => sh_str hx
  cases s with
  | out => exact sh_tup fun d hd => by rw [List.mem_singleton] at hd; rw [hd]; exact hs _ (by decide +kernel)
  | up => exact sh_tup fun d hd => by rw [List.mem_singleton] at hd; rw [hd]; exact hs _ (by decide +kernel)
  | ins f =>
    refine sh_tup fun d hd => ?_
    simp only [List.mem_cons, List.not_mem_nil, or_false] at hd
    rcases hd with rfl | rfl
    · exact hs _ (by decide +kernel)
    · exact sh_row fun n hn => isName_ok (good_names h.1 n hn)
  | turn o =>
    refine sh_tup fun d hd => ?_
    simp only [List.mem_cons, List.not_mem_nil, or_false] at hd
    rcases hd with rfl | rfl
    · exact hs _ (by decide +kernel)
    · cases o with
      | none => exact sh_non
      | some x => exact hs _ h.1
theorem sh_out : Sh 1 (.tuple [.str "out"]) := sh_tup fun d hd => by rw [List.mem_singleton] at hd; rw [hd]; exact sh_str (by decide +kernel)
theorem sh_up : Sh 1 (.tuple [.str "up"]) := sh_tup fun d hd => by rw [List.mem_singleton] at hd; rw [hd]; exact sh_str (by decide +kernel)
theorem eqv_str1 (x y : Str) : PyData.eqv (.tuple [.str x]) (.tuple [.str y]) = (x == y) := by simp [PyData.eqv, PyData.eqvAll]
theorem eqv_21 (a b c : PyData) : PyData.eqv (.tuple [a, b]) (.tuple [c]) = false := by simp [PyData.eqv, PyData.eqvAll]
def isUp : Step → Bool
  | .up => true
  | _ => false
def isOut : Step → Bool
  | .out => true
  | _ => false
theorem eqv_up (s : Step) : PyData.eqv (stD s) (.tuple [.str "up"]) = isUp s := by
  cases s with
  | out => rw [stD, eqv_str1]; decide +kernel
  | up => rw [stD, eqv_str1]; decide +kernel
  | ins f => rw [stD, eqv_21]; rfl
  | turn o => rw [stD, eqv_21]; rfl
theorem eqv_out (s : Step) : PyData.eqv (stD s) (.tuple [.str "out"]) = isOut s := by
  cases s with
  | out => rw [stD, eqv_str1]; decide +kernel
  | up => rw [stD, eqv_str1]; decide +kernel
  | ins f => rw [stD, eqv_21]; rfl
  | turn o => rw [stD, eqv_21]; rfl
theorem eqv_comm_up (s : Step) : PyData.eqv (.tuple [.str "up"]) (stD s) = isUp s := by
  cases s with
  | out => rw [stD, eqv_str1]; decide +kernel
  | up => rw [stD, eqv_str1]; decide +kernel
  | ins f => simp [stD, PyData.eqv, PyData.eqvAll, isUp]
  | turn o => simp [stD, PyData.eqv, PyData.eqvAll, isUp]
theorem eqv_comm_out (s : Step) : PyData.eqv (.tuple [.str "out"]) (stD s) = isOut s := by
  cases s with
  | out => rw [stD, eqv_str1]; decide +kernel
  | up => rw [stD, eqv_str1]; decide +kernel
  | ins f => simp [stD, PyData.eqv, PyData.eqvAll, isOut]
  | turn o => simp [stD, PyData.eqv, PyData.eqvAll, isOut]
theorem nl_st (s : Step) : nl (stD s) = true := by
  cases s with
  | out => simp [stD, nl, nlA]
  | up => simp [stD, nl, nlA]
  | ins f => simp [stD, nl, nlA, nl_row]
  | turn o => cases o <;> simp [stD, nl, nlA, oD]
theorem nl_way (w : List Step) : nl (wayD w) = true := by unfold wayD; rw [nl]; exact nlA_map stD nl_st w
theorem q_out (T : Txt K mg) {H : Hp} : SqT K H T.a_OUT [.str "out"] := .inr T.q_OUT
theorem q_up (T : Txt K mg) {H : Hp} : SqT K H T.a_UP [.str "up"] := .inr T.q_UP
theorem d_out (T : Txt K mg) {H : Hp} : Dp K H (.ref T.a_OUT) (.tuple [.str "out"]) := .tup (q_out T) (.cons (.str _) .nil)
theorem d_up (T : Txt K mg) {H : Hp} : Dp K H (.ref T.a_UP) (.tuple [.str "up"]) := .tup (q_up T) (.cons (.str _) .nil)
theorem dp_pair {H : Hp} {v : V} {x : Str} {d : PyData} (h : Dp K H v (.tuple [.str x, d])) : ∃ a u, v = .ref a ∧ SqT K H a [.str x, u] ∧ Dp K H u d := by
  obtain ⟨a, xs, rfl, ha, hd⟩ := dp_tup h
  cases hd with
  | cons h1 r =>
    cases r with
    | cons h2 r =>
      cases r
      rw [dp_str h1] at ha
      exact ⟨a, _, rfl, ha, h2⟩
def sp_is_step (T : Txt K mg) : Sp := fun vs H Q _ => ∃ (v : V) (s : Step), vs = [v] ∧ Dp K H v (stD s) ∧ StIn s ∧ ∀ H', Same H H' → Q (.bl (okS s)) H'
theorem ok_is_step (T : Txt K mg) : FnOk P w K mg base CX0 8 T.a_is_step T.d_is_step P_is_step (sp_is_step T) := by
  have G_is_name := ok_is_name (P := P) (w := w) (base := base) T
  have G_is_tree := ok_is_tree (P := P) (w := w) (base := base) T
  refine T.F_is_step.ok sc_is_step (fun vs H Q E h => ?_) (fun cdv A outer s H vs Q E hr h => ?_)
  · obtain ⟨v, s0, rfl, hv, hs, k⟩ := h
    rfl
  · obtain ⟨v, s0, rfl, hv, hs, k⟩ := h
    refine ⟨_, (pss_cons (ps_if (pt_cmpR (op_inDT (hu65 hr)) (pv 0) (pe_tup (pa_cons (pe_gr rfl T.m_OUT) (pa_cons (pe_gr rfl T.m_UP) pa_nil))) (by rfl)) (pss_one (ps_ret (pe_callB call_isi (by rfl) T.n_isinstance (by decide +kernel) (pa_cons (pv 0) (pa_cons (pe_bltn (v := .ty "tuple") (by rfl) T.n_tuple (by decide +kernel) rfl) pa_nil))))) pss_nil)
      (pss_cons (ps_if (PW.pt (pw_or (pt_not (pt_val (pe_callB call_isi (by rfl) T.n_isinstance (by decide +kernel) (pa_cons (pv 0) (pa_cons (pe_bltn (v := .ty "tuple") (by rfl) T.n_tuple (by decide +kernel) rfl) pa_nil))))) (pw_or1 (pt_cmpR op_ne (pe_callB call_len_seq (by rfl) T.n_len (by decide +kernel) (pa_cons (pv 0) pa_nil)) pe_int (nomark _))))) (pss_one (ps_ret pe_bl)) pss_nil)
      (pss_cons (ps_if (pt_cmpR op_eq (pe_ix ix_tup (pv 0) pe_int (fun _ _ => rfl)) pe_str (nomark _)) (pss_one (ps_ret (pe_call G_is_tree (hr.mono (by decide)) (by rfl) T.m_is_tree T.F_is_tree.kp T.b_is_tree .nil pass0 (pa_cons (pe_ix ix_tup (pv 0) pe_int (fun _ _ => rfl)) pa_nil)))) pss_nil)
      (pss_one (ps_ret (pe_and (pe_cmpR op_eq (pe_ix ix_tup (pv 0) pe_int (fun _ _ => rfl)) pe_str (nomark _)) (pe_one (pe_or (pe_cmpR op_isN (pe_ix ix_tup (pv 0) pe_int (fun _ _ => rfl)) pe_non (nomark _)) (pe_one (pe_call G_is_name (hr.mono (by decide)) (by rfl) T.m_is_name T.F_is_name.kp T.b_is_name .nil pass0 (pa_cons (pe_ix ix_tup (pv 0) pe_int (fun _ _ => rfl)) pa_nil))))))))))), ?_⟩
    have hb := big_lt
    refine ⟨_, rfl, by show 2 ≤ sizeLine; omega, fun t1 ht1 => ?_⟩
    have u1 := sm_new ht1 (o := .tup [.ref T.a_OUT, .ref T.a_UP])
    refine ⟨stD s0, [.tuple [.str "out"], .tuple [.str "up"]], dp_same u1 hv, .tup (SqT.of upd_same) (.cons (d_out T) (.cons (d_up T) .nil)), Sh.ok (sh_st hs), Sh.ok (n := 2) (sh_tup fun d hd => by
      simp only [List.mem_cons, List.not_mem_nil, or_false] at hd
      rcases hd with rfl | rfl
      · exact sh_out
      · exact sh_up), _, rfl, ?_⟩
    have hany : ([PyData.tuple [.str "out"], .tuple [.str "up"]].any fun z => PyData.eqv z (stD s0)) = (isOut s0 || isUp s0) := by
      rw [List.any_cons, List.any_cons, List.any_nil, Bool.or_false, eqv_comm_out, eqv_comm_up]
    rw [hany]
    obtain ⟨a, xs, rfl, ha, hd⟩ := dp_tup (show Dp K H v (.tuple (match s0 with | .out => [.str "out"] | .up => [.str "up"] | .ins f => [.str "in", rowD f.flat] | .turn o => [.str "turn", oD o])) by cases s0 <;> exact hv)
    cases s0 with
    | out => exact ⟨_, rfl, _, _, _, _, _, rfl, .ty _, tyx_tup (sm_st u1 ha), k_tt, k _ u1⟩
    | up => exact ⟨_, rfl, _, _, _, _, _, rfl, .ty _, tyx_tup (sm_st u1 ha), k_tt, k _ u1⟩
    | ins f =>
      obtain ⟨a', u, e1, ha', hu⟩ := dp_pair hv
      cases e1
      refine ⟨_, rfl, _, _, _, _, _, rfl, .ty _, tyx_tup (sm_st u1 ha), k_tt, _, rfl, ?_⟩
      refine ⟨_, rfl, a, _, rfl, .inr (sm_st u1 ha'), rfl, _, rfl, ?_⟩
      refine ⟨_, rfl, a, _, 0, _, rfl, rfl, sm_st u1 ha', rfl, rfl, _, rfl, ?_⟩
      refine ⟨_, rfl, a, _, 1, u, rfl, rfl, sm_st u1 ha', rfl, u, f, rfl, dp_same u1 hu, by have := hs.2; omega, hs.1, fun H2 s2 => ?_⟩
      exact k _ (u1.trans s2)
    | turn o =>
      obtain ⟨a', u, e1, ha', hu⟩ := dp_pair hv
      cases e1
      refine ⟨_, rfl, _, _, _, _, _, rfl, .ty _, tyx_tup (sm_st u1 ha), k_tt, _, rfl, ?_⟩
      refine ⟨_, rfl, a, _, rfl, .inr (sm_st u1 ha'), rfl, _, rfl, ?_⟩
      refine ⟨_, rfl, a, _, 0, _, rfl, rfl, sm_st u1 ha', rfl, rfl, _, rfl, ?_⟩
      refine ⟨_, rfl, a, _, 0, _, rfl, rfl, sm_st u1 ha', rfl, rfl, _, rfl, ?_⟩
      refine ⟨_, rfl, a, _, 1, u, rfl, rfl, sm_st u1 ha', rfl, rfl, _, rfl, ?_⟩
      cases o with
      | none =>
        have e2 := dp_non hu
        subst e2
        exact k _ u1
      | some x =>
        have e2 := dp_str hu
        subst e2
        refine ⟨_, rfl, a, _, 1, _, rfl, rfl, sm_st u1 ha', rfl, x, rfl, hs.2, fun H2 s2 => ?_⟩
        exact k _ (u1.trans s2)

end Pp

set_option Elab.async false
set_option linter.all false
set_option autoImplicit false
set_option maxRecDepth 100000
set_option maxHeartbeats 4000000
namespace Pp
open PySem PySem.Spec L2
variable {P : Program} {w : World} {K : PySem.W.Frag} {mg : Str → Option Value} {base : Heap}
theorem way_at {H : Hp} {v : V} {w : List Step} (h : Dp K H v (wayD w)) : ∃ a xs, v = .ref a ∧ SqT K H a xs ∧ xs.length = w.length ∧ ∀ (i : Nat) (s : Step), w[i]? = some s → ∃ u, xs[i]? = some u ∧ Dp K H u (stD s) := by
  obtain ⟨a, xs, rfl, ha, hd⟩ := dp_tup h
  refine ⟨a, xs, rfl, ha, by rw [dpa_len hd, List.length_map], fun i s hs => ?_⟩
  exact dpa_get hd (i := i) (d := stD s) (by rw [List.getElem?_map, hs]; rfl)
/-- the word of a step -/
def wordS : Step → Str
  | .out => "out"
  | .up => "up"
  | .ins _ => "in"
  | .turn _ => "turn"
theorem st_word {H : Hp} {u : V} {s : Step} (h : Dp K H u (stD s)) : ∃ a r, u = .ref a ∧ SqT K H a (.str (wordS s) :: r) := by
  cases s with
  | out =>
    obtain ⟨a, xs, rfl, ha, hd⟩ := dp_tup h
    cases hd with
    | cons h1 r => rw [dp_str h1] at ha; exact ⟨a, _, rfl, ha⟩
  | up =>
    obtain ⟨a, xs, rfl, ha, hd⟩ := dp_tup h
    cases hd with
    | cons h1 r => rw [dp_str h1] at ha; exact ⟨a, _, rfl, ha⟩
  | ins f => obtain ⟨a, u, rfl, ha, _⟩ := dp_pair h; exact ⟨a, _, rfl, ha⟩
  | turn o => obtain ⟨a, u, rfl, ha, _⟩ := dp_pair h; exact ⟨a, _, rfl, ha⟩
def isTurn : Step → Bool
  | .turn _ => true
  | _ => false
def isIns : Step → Bool
  | .ins _ => true
  | _ => false
theorem atI_hd {α : Type} (v : α) (r : List α) : atI (v :: r) 0 = some v := atI_nat (j := 0) rfl
theorem word_turn (s : Step) : decide (V.str (wordS s) = V.str "turn") = isTurn s := by
  cases s with
  | out => exact decide_eq_false (by decide +kernel)
  | up => exact decide_eq_false (by decide +kernel)
  | ins f => exact decide_eq_false (show ¬ V.str "in" = V.str "turn" by decide +kernel)
  | turn o => exact decide_eq_true rfl
theorem word_in (s : Step) : decide (V.str (wordS s) = V.str "in") = isIns s := by
  cases s with
  | out => exact decide_eq_false (by decide +kernel)
  | up => exact decide_eq_false (by decide +kernel)
  | ins f => exact decide_eq_true rfl
  | turn o => exact decide_eq_false (show ¬ V.str "turn" = V.str "in" by decide +kernel)
def sp_is_way (T : Txt K mg) : Sp := fun vs H Q _ => ∃ (v : V) (w : List Step), vs = [v] ∧ Dp K H v (wayD w) ∧ (∀ s ∈ w, StIn s) ∧ w.length < sizeLine ∧ ∀ H', Same H H' → Q (.bl (wayOk w)) H'
theorem deepGo_cons (d : Nat) (s : Step) (w : List Step) : deepGo d (s :: w) = if isTurn s then deepGo (d + 1) w else if isUp s then (match d with | 0 => false | d + 1 => deepGo d w) else deepGo d w := by
  cases s with
  | out => cases d <;> rfl
  | up => cases d <;> rfl
  | ins f => cases d <;> rfl
  | turn o => cases d <;> rfl
theorem ok_is_way (T : Txt K mg) : FnOk P w K mg base CX0 9 T.a_is_way T.d_is_way P_is_way (sp_is_way T) := by
  have G_is_step := ok_is_step (P := P) (w := w) (base := base) T
  refine T.F_is_way.ok sc_is_way (fun vs H Q E h => ?_) (fun cdv A outer s H vs Q E hr h => ?_)
  · obtain ⟨v, w, rfl, hv, hs, hl, k⟩ := h
    rfl
  · obtain ⟨v, w, rfl, hv, hs, hl, k⟩ := h
    refine ⟨_, (pss_cons (ps_if (PW.pt (pw_or (pt_not (pt_val (pe_callB call_isi (by rfl) T.n_isinstance (by decide +kernel) (pa_cons (pv 0) (pa_cons (pe_bltn (v := .ty "tuple") (by rfl) T.n_tuple (by decide +kernel) rfl) pa_nil))))) (pw_or1 (pt_not (pt_val (pe_callB (cr_all rfl) (by rfl) T.n_all (by decide +kernel) (pa_cons (pe_lc (own := [("one", 3)]) rfl sc_is_way.nd (pi_tup (pv 0)) (blkOk_by (N := N_is_way) (sc := defScope s_is_way) (by decide +kernel)) (fun _ _ _ _ _ => (pg_name (i := 3) sc_is_way.nd rfl (Or.inl rfl))) (fun _ _ _ _ _ => pts_te (by exact pts_nil) (by first | rfl | (dsimp only <;> rfl))) (fun _ _ _ _ _ => pe_te (by exact (pe_call G_is_step (hr.mono (by decide)) (by rfl) T.m_is_step T.F_is_step.kp T.b_is_step .nil pass0 (pa_cons (pv 3) pa_nil))) (by first | rfl | (dsimp only <;> rfl)))) pa_nil))))))) (pss_one (ps_ret pe_bl)) pss_nil)
      (pss_cons (ps_set (i := 1) sc_is_way.nd rfl (Or.inl rfl) pe_int)
      (pss_cons (ps_for PassesOwn.never rfl (pi_tup (pv 0)) (pg_name (i := 2) sc_is_way.nd rfl (Or.inl rfl)) (pss_cons (ps_aug (i := 1) sc_is_way.nd rfl (Or.inl rfl) (pe_ifExp (pt_cmpR op_eq (pe_ix ix_tup (pv 2) pe_int (fun _ _ => rfl)) pe_str (nomark _)) pe_int (pe_ifExp (pt_cmpR (op_eqD hr.units) (pv 2) (pe_gr rfl T.m_UP) (nomark _)) (pe_un un_neg pe_int) pe_int)) ip_add)
        (pss_one (ps_if (pt_cmpR op_lt (pv 1) pe_int (nomark _)) (pss_one (ps_ret pe_bl)) pss_nil))))
      (pss_one (ps_ret (pe_cmpR op_eq (pv 1) pe_int (nomark _))))))), ?_⟩
    obtain ⟨a, xs, rfl, ha, hxl, hget⟩ := way_at hv
    refine ⟨_, rfl, _, _, _, _, _, rfl, .ty _, tyx_tup ha, k_tt, _, rfl, ?_⟩
    refine ⟨_, rfl, a, rfl, ⟨_, ha⟩, fun D hD => ?_⟩
    refine lc_it (walk_tup (xs := xs)) (fun i H' => Same H H' ∧ H' D = some (.lst (((w.take i).map okS).map V.bl))) ⟨sm_new hD, upd_same⟩ (fun _ _ _ p => sm_st p.1 ha) ?_ ?_
    · rintro i y H1 H2 hi ⟨s1, e1⟩ ⟨rfl, hy⟩
      obtain ⟨s0, hs0⟩ : ∃ s, w[i]? = some s := ⟨_, List.getElem?_eq_getElem (by omega)⟩
      obtain ⟨u, hu1, hu2⟩ := hget i s0 hs0
      rw [hy] at hu1; cases hu1
      refine ⟨rfl, _, rfl, y, s0, rfl, dp_same s1 hu2, hs s0 (List.mem_of_getElem? hs0), fun H3 s3 => ?_⟩
      refine ⟨_, s3 _ _ e1, ?_, sm_put (s1.trans s3) hD, ?_⟩
      · rw [List.length_map, List.length_map, List.length_take]; omega
      · rw [upd_same, take_one hs0, List.map_append, List.map_append]; rfl
    · rintro H1 ⟨s1, e1⟩
      refine ⟨D, _, rfl, .inl (.inl e1), _, rfl, ?_⟩
      rw [hxl, List.take_length, List.all_map]
      have hok : (w.all (id ∘ okS)) = w.all okS := rfl
      rw [hok]
      cases hw : w.all okS with
      | false =>
        have := k _ s1
        unfold wayOk at this
        rw [hw] at this
        exact this
      | true =>
        refine ⟨_, rfl, a, rfl, ⟨_, sm_st s1 ha⟩, ?_⟩
        refine for_it (walk_tup (xs := xs)) (fun i σ' H' => ∃ (d : Nat) (x2 : Option V), σ' = [some (.ref a), some (.int (d : Nat)), x2, none] ∧ Same H H' ∧ deepGo 0 w = deepGo d (w.drop i)) ⟨0, none, rfl, s1, rfl⟩ (fun _ _ _ _ q => by obtain ⟨_, _, _, q, _⟩ := q; exact sm_st q ha) ?_ ?_
        · rintro i y σ' H2 H3 hi ⟨d, x2, rfl, q1, qd⟩ ⟨rfl, hy⟩
          obtain ⟨s0, hs0⟩ : ∃ s, w[i]? = some s := ⟨_, List.getElem?_eq_getElem (by omega)⟩
          obtain ⟨u, hu1, hu2⟩ := hget i s0 hs0
          rw [hy] at hu1; cases hu1
          obtain ⟨b, r, rfl, hb⟩ := st_word hu2
          have hdr : w.drop i = s0 :: w.drop (i + 1) := by
            rw [List.drop_eq_getElem_cons (by omega)]
            rw [List.getElem?_eq_getElem (by omega)] at hs0
            rw [Option.some.inj hs0]
          rw [hdr, deepGo_cons] at qd
          refine ⟨_, rfl, ?_⟩
          refine ⟨_, rfl, b, _, 0, _, rfl, rfl, sm_st q1 hb, atI_hd _ _, rfl, _, rfl, ?_⟩
          rw [word_turn]
          cases ht : isTurn s0 with
          | true =>
            rw [ht] at qd
            refine ⟨_, _, rfl, rfl, ?_⟩
            refine ⟨_, rfl, _, _, rfl, rfl, _, rfl, ?_⟩
            dsimp only
            rw [decide_eq_false (by omega)]
            exact ⟨d + 1, _, rfl, q1, qd⟩
          | false =>
            rw [ht] at qd
            refine ⟨_, rfl, _, _, dp_same q1 hu2, d_up T, Sh.ok (sh_st (hs s0 (List.mem_of_getElem? hs0))), Sh.ok sh_up, _, rfl, ?_⟩
            rw [eqv_up]
            cases hu : isUp s0 with
            | true =>
              rw [hu] at qd
              refine ⟨1, rfl, _, _, rfl, rfl, ?_⟩
              refine ⟨_, rfl, _, _, rfl, rfl, _, rfl, ?_⟩
              cases d with
              | zero =>
                have := k _ q1
                unfold wayOk at this
                rw [hw, qd] at this
                exact this
              | succ d =>
                dsimp only
                rw [decide_eq_false (by omega)]
                refine ⟨d, some (V.ref b), ?_, q1, qd⟩
                show [some (V.ref a), some (V.int (((d + 1 : Nat) : Int) + -1)), some (V.ref b), none] = _
                rw [show (((d + 1 : Nat) : Int) + -1) = (d : Nat) by omega]
            | false =>
              rw [hu] at qd
              refine ⟨_, _, rfl, rfl, ?_⟩
              refine ⟨_, rfl, _, _, rfl, rfl, _, rfl, ?_⟩
              dsimp only
              rw [decide_eq_false (by omega)]
              refine ⟨d, some (V.ref b), ?_, q1, qd⟩
              show [some (V.ref a), some (V.int (((d : Nat) : Int) + 0)), some (V.ref b), none] = _
              rw [Int.add_zero]
        · rintro σ' H2 ⟨d, x2, rfl, q1, qd⟩
          rw [hxl, List.drop_eq_nil_of_le (Nat.le_refl _)] at qd
          refine ⟨_, rfl, rfl, ?_⟩
          have := k _ q1
          unfold wayOk at this
          rw [hw, qd] at this
          have e : decide (V.int ((d : Nat) : Int) = V.int 0) = (d == 0) := by
            cases d with
            | zero => rfl
            | succ d => exact decide_eq_false (by intro z; have := V.int.inj z; omega)
          rw [e]
          exact this

end Pp

set_option Elab.async false
set_option linter.all false
set_option autoImplicit false
set_option maxRecDepth 100000
set_option maxHeartbeats 4000000
namespace Pp
open PySem PySem.Spec L2
variable {P : Program} {w : World} {K : PySem.W.Frag} {mg : Str → Option Value} {base : Heap}
/-! ### ways as scripts, and going along -/
abbrev Fr := Option Nat × List Nat
structure GoSt where
  cost : Nat
  back : List Step
  tags : List Str
  counts : List Nat
  frames : List Fr
def bump (c : List Nat) (i k : Nat) : List Nat := c.set i (c.getD i 0 + k)
def cnt (i : Option Nat) (k : Nat) (c : List Nat) : List Nat := match i with
  | none => c
  | some i => bump c i k
def goS (W : F) (st : GoSt) : Step → Option GoSt
  | .ins g => match st.frames with
    | [] => none
    | fr :: fs => some ⟨st.cost + g.size, st.back ++ [.out], st.tags ++ g.flat.map (·.1), cnt fr.1 1 st.counts ++ g.flat.map (·.2), fr :: fs⟩
  | .up => match st.frames with
    | (_, []) :: fr :: fs => some ⟨st.cost, st.back ++ [.up], st.tags, st.counts, fr :: fs⟩
    | _ => none
  | .out => match st.frames with
    | (i, x :: r) :: fs => some ⟨st.cost + szN W x, st.back ++ [.ins (sub1 (nodeN W x).1 (nodeN W x).2)], st.tags, st.counts, (i, r) :: fs⟩
    | _ => none
  | .turn o => match st.frames with
    | (i, x :: r) :: fs => if o = some (nodeN W x).1 then none else
        some ⟨st.cost + (if o = none then 0 else 1), st.back ++ [.turn (o.map fun _ => (nodeN W x).1)], st.tags ++ [o.getD (nodeN W x).1], cnt i 1 st.counts ++ [0], (some st.tags.length, kidsN W x) :: (i, r) :: fs⟩
    | _ => none
def runS (W : F) : GoSt → List Step → Option GoSt
  | st, [] => some st
  | st, s :: w => match goS W st s with
    | none => none
    | some st' => runS W st' w
theorem runS_app (W : F) : ∀ (a b : List Step) (st st' : GoSt), runS W st a = some st' → runS W st (a ++ b) = runS W st' b
  | [], b, st, st', h => by
    cases (Option.some.inj h); rfl
  | s :: a, b, st, st', h => by
    show (match goS W st s with | none => none | some st' => runS W st' (a ++ b)) = _
    have h' : (match goS W st s with | none => none | some st' => runS W st' a) = some st' := h
    cases e : goS W st s with
    | none => rw [e] at h'; cases h'
    | some st2 => rw [e] at h'; exact runS_app W a b st2 st' h'
theorem runS_one (W : F) (s : Step) (st : GoSt) : runS W st [s] = goS W st s := by
  show (match goS W st s with | none => none | some st' => runS W st' []) = _
  cases goS W st s <;> rfl
inductive E where
  | nil
  | out (r : E)
  | ins (r : E) (t : Str) (c : F)
  | keep (r : E) (o : Option Str) (w : E)
  deriving DecidableEq
def okO : Option Str → Bool
  | none => true
  | some x => isName x
namespace E
def steps : E → List Step
  | nil => []
  | out r => r.steps ++ [.out]
  | ins r t c => r.steps ++ [.ins (sub1 t c)]
  | keep r o w => r.steps ++ (.turn o :: (w.steps ++ [.up]))
def along : E → F → Option F
  | nil, .nil => some .nil
  | out r, .snoc a _ _ => r.along a
  | ins r t c, f => (r.along f).map fun g => .snoc g t c
  | keep r o w, .snoc a t c => if o = some t then none else
      match r.along a, w.along c with
      | some g, some e => some (.snoc g (o.getD t) e)
      | _, _ => none
  | _, _ => none
def cost : E → F → Nat
  | out r, .snoc a _ c => r.cost a + (1 + c.size)
  | ins r _ c, f => r.cost f + (1 + c.size)
  | keep r o w, .snoc a _ c => r.cost a + ((if o = none then 0 else 1) + w.cost c)
  | _, _ => 0
def back : E → F → E
  | out r, .snoc a t c => ins (r.back a) t c
  | ins r _ _, f => out (r.back f)
  | keep r o w, .snoc a t c => keep (r.back a) (o.map fun _ => t) (w.back c)
  | _, _ => nil
def good : E → Bool
  | nil => true
  | out r => r.good
  | ins r t c => r.good && (isName t && c.good)
  | keep r o w => r.good && (okO o && w.good)
end E
theorem bump_len (c : List Nat) (i k : Nat) : (bump c i k).length = c.length := by unfold bump; rw [List.length_set]
theorem cnt_len (i : Option Nat) (k : Nat) (c : List Nat) : (cnt i k c).length = c.length := by
  cases i with
  | none => rfl
  | some i => exact bump_len c i k
theorem bump_app {c d : List Nat} {i : Nat} (h : i < c.length) (j k : Nat) : bump (bump c i j ++ d) i k = bump c i (j + k) ++ d := by
  have h1 : (bump c i j).length = c.length := bump_len c i j
  have hg : (bump c i j ++ d).getD i 0 = c.getD i 0 + j := by
    rw [List.getD_eq_getElem?_getD, List.getElem?_append_left (by omega)]
    unfold bump
    rw [List.getElem?_set_self h]; rfl
  show (bump c i j ++ d).set i ((bump c i j ++ d).getD i 0 + k) = _
  rw [hg, List.set_append_left _ _ (by omega)]
  unfold bump
  rw [List.set_set, Nat.add_assoc]
theorem cnt_app {i : Option Nat} {c d : List Nat} (h : ∀ n, i = some n → n < c.length) (j k : Nat) : cnt i k (cnt i j c ++ d) = cnt i (j + k) c ++ d := by
  cases i with
  | none => rfl
  | some i => exact bump_app (h i rfl) j k
theorem cnt_zero {i : Option Nat} {c : List Nat} (h : ∀ n, i = some n → n < c.length) : cnt i 0 c = c := by
  cases i with
  | none => rfl
  | some i =>
    show c.set i (c.getD i 0 + 0) = c
    rw [Nat.add_zero, List.getD_eq_getElem?_getD, List.getElem?_eq_getElem (h i rfl)]
    exact List.set_getElem_self _
theorem bump_last (c : List Nat) (k : Nat) : bump (c ++ [0]) c.length k = c ++ [k] := by
  unfold bump
  rw [List.getD_eq_getElem?_getD, List.getElem?_append_right (Nat.le_refl _), Nat.sub_self, List.set_append_right _ _ (Nat.le_refl _), Nat.sub_self]
  show c ++ [0 + k] = _
  rw [Nat.zero_add]
theorem sits_a {W a c : F} {t : Str} {o : Nat} (h : Sits W (.snoc a t c) o) : Sits W a o ∧ W.nodes[o + a.size]? = some (t, c) := by
  have hn := nodes_len a
  refine ⟨fun i hi => ?_, ?_⟩
  · rw [h i (by show i < a.size + (1 + c.size); omega)]
    show (a.nodes ++ (t, c) :: c.nodes)[i]? = _
    rw [List.getElem?_append_left (by omega)]
  · rw [h a.size (by show a.size < a.size + (1 + c.size); omega)]
    show (a.nodes ++ (t, c) :: c.nodes)[a.size]? = _
    rw [List.getElem?_append_right (by omega), hn, Nat.sub_self]; rfl
theorem run_E (W : F) : ∀ (e : E) (f g : F) (o : Nat), Sits W f o → e.along f = some g → ∀ (st : GoSt) (idx : Option Nat) (rem : List Nat) (fs : List Fr), st.frames = (idx, f.roots o ++ rem) :: fs → (∀ n, idx = some n → n < st.counts.length) → st.counts.length = st.tags.length →
    runS W st e.steps = some ⟨st.cost + e.cost f, st.back ++ (e.back f).steps, st.tags ++ g.flat.map (·.1), cnt idx g.len st.counts ++ g.flat.map (·.2), (idx, rem) :: fs⟩ := by
  intro e
  induction e with
  | nil =>
    intro f g o hs ha st idx rem fs hf hi hl
    cases f with
    | snoc a t c => cases ha
    | nil =>
      cases ha
      obtain ⟨c0, b0, t0, n0, f0⟩ := st
      have hf' : f0 = (idx, rem) :: fs := hf
      subst hf'
      show some _ = some _
      congr 2
      · exact (List.append_nil _).symm
      · exact (List.append_nil _).symm
      · show n0 = cnt idx 0 n0 ++ []
        rw [List.append_nil, cnt_zero hi]
  | out r ih =>
    intro f g o hs ha st idx rem fs hf hi hl
    cases f with
    | nil => cases ha
    | snoc a t c =>
      obtain ⟨hs1, hn⟩ := sits_a hs
      have hf' : st.frames = (idx, a.roots o ++ ((o + a.size) :: rem)) :: fs := by
        rw [hf]
        show (idx, (a.roots o ++ [o + a.size]) ++ rem) :: fs = _
        rw [List.append_assoc]; rfl
      have h1 := ih a g o hs1 ha st idx ((o + a.size) :: rem) fs hf' hi hl
      show runS W st (r.steps ++ [.out]) = _
      rw [runS_app W _ _ _ _ h1, runS_one]
      show some _ = some _
      congr 2
      · show _ + szN W (o + a.size) = st.cost + (r.cost a + (1 + c.size))
        unfold szN; rw [nodeN_of hn]
        show st.cost + r.cost a + (1 + c.size) = _
        omega
      · show (st.back ++ (r.back a).steps) ++ [Step.ins (sub1 (nodeN W (o + a.size)).1 (nodeN W (o + a.size)).2)] = st.back ++ ((r.back a).steps ++ [Step.ins (sub1 t c)])
        rw [nodeN_of hn, List.append_assoc]
  | ins r t c ih =>
    intro f g o hs ha st idx rem fs hf hi hl
    have ha' : (r.along f).map (fun g => F.snoc g t c) = some g := by cases f <;> exact ha
    cases hr : r.along f with
    | none => rw [hr] at ha'; cases ha'
    | some g' =>
      rw [hr] at ha'
      cases (Option.some.inj ha')
      have h1 := ih f g' o hs hr st idx rem fs hf hi hl
      show runS W st (r.steps ++ [.ins (sub1 t c)]) = _
      rw [runS_app W _ _ _ _ h1, runS_one]
      show some _ = some _
      have hc : (E.ins r t c).cost f = r.cost f + (1 + c.size) := by cases f <;> rfl
      have hb : (E.ins r t c).back f = .out (r.back f) := by cases f <;> rfl
      rw [hc, hb]
      congr 2
      · show st.cost + r.cost f + (sub1 t c).size = _
        have : (sub1 t c).size = 1 + c.size := by show 0 + (1 + c.size) = _; omega
        rw [this]; omega
      · show (st.back ++ (r.back f).steps) ++ [Step.out] = st.back ++ ((r.back f).steps ++ [Step.out])
        rw [List.append_assoc]
      · show (st.tags ++ g'.flat.map (·.1)) ++ (sub1 t c).flat.map (·.1) = st.tags ++ (g'.flat ++ (t, c.len) :: c.flat).map (·.1)
        rw [List.map_append, List.append_assoc]; rfl
      · show cnt idx 1 (cnt idx g'.len st.counts ++ g'.flat.map (·.2)) ++ (sub1 t c).flat.map (·.2) = cnt idx (g'.len + 1) st.counts ++ (g'.flat ++ (t, c.len) :: c.flat).map (·.2)
        rw [cnt_app hi, List.map_append, List.append_assoc]; rfl
  | keep r o' w ih1 ih2 =>
    intro f g o hs ha st idx rem fs hf hi hl
    cases f with
    | nil => cases ha
    | snoc a t c =>
      obtain ⟨hs1, hn⟩ := sits_a hs
      have ha' : (if o' = some t then none else match r.along a, w.along c with
        | some g, some e => some (F.snoc g (o'.getD t) e)
        | _, _ => none) = some g := ha
      by_cases ho : o' = some t
      · rw [if_pos ho] at ha'; cases ha'
      rw [if_neg ho] at ha'
      cases hr : r.along a with
      | none => rw [hr] at ha'; cases ha'
      | some g' =>
        cases hw : w.along c with
        | none => rw [hr, hw] at ha'; cases ha'
        | some e' =>
          rw [hr, hw] at ha'
          cases (Option.some.inj ha')
          have hf' : st.frames = (idx, a.roots o ++ ((o + a.size) :: rem)) :: fs := by
            rw [hf]
            show (idx, (a.roots o ++ [o + a.size]) ++ rem) :: fs = _
            rw [List.append_assoc]; rfl
          have h1 := ih1 a g' o hs1 hr st idx ((o + a.size) :: rem) fs hf' hi hl
          show runS W st (r.steps ++ (.turn o' :: (w.steps ++ [.up]))) = _
          rw [runS_app W _ _ _ _ h1]
          have hgo : goS W ⟨st.cost + r.cost a, st.back ++ (r.back a).steps, st.tags ++ g'.flat.map (·.1), cnt idx g'.len st.counts ++ g'.flat.map (·.2), (idx, (o + a.size) :: rem) :: fs⟩ (.turn o') =
              some ⟨st.cost + r.cost a + (if o' = none then 0 else 1), (st.back ++ (r.back a).steps) ++ [.turn (o'.map fun _ => t)], (st.tags ++ g'.flat.map (·.1)) ++ [o'.getD t], cnt idx 1 (cnt idx g'.len st.counts ++ g'.flat.map (·.2)) ++ [0], (some (st.tags ++ g'.flat.map (·.1)).length, c.roots (o + a.size + 1) ++ []) :: (idx, rem) :: fs⟩ := by
            show (if o' = some (nodeN W (o + a.size)).1 then none else _) = _
            rw [nodeN_of hn, if_neg ho, kidsN_of hn, List.append_nil]
          have hlen : (cnt idx 1 (cnt idx g'.len st.counts ++ g'.flat.map (fun n : Nd => n.2)) ++ [0]).length = ((st.tags ++ g'.flat.map (fun n : Nd => n.1)) ++ [o'.getD t]).length := by
            rw [List.length_append, List.length_append, List.length_append, cnt_len, List.length_append, cnt_len, List.length_map, List.length_map, hl]; rfl
          have h2 := ih2 c e' (o + a.size + 1) (sits_kids hn) hw ⟨st.cost + r.cost a + (if o' = none then 0 else 1), (st.back ++ (r.back a).steps) ++ [.turn (o'.map fun _ => t)], (st.tags ++ g'.flat.map (fun n : Nd => n.1)) ++ [o'.getD t], cnt idx 1 (cnt idx g'.len st.counts ++ g'.flat.map (fun n : Nd => n.2)) ++ [0], (some (st.tags ++ g'.flat.map (fun n : Nd => n.1)).length, c.roots (o + a.size + 1) ++ []) :: (idx, rem) :: fs⟩
            (some (st.tags ++ g'.flat.map (fun n : Nd => n.1)).length) [] ((idx, rem) :: fs) rfl (fun n hn' => by
              cases hn'
              show _ < (cnt idx 1 (cnt idx g'.len st.counts ++ g'.flat.map (fun n : Nd => n.2)) ++ [0]).length
              rw [hlen, List.length_append (as := st.tags ++ g'.flat.map (fun n : Nd => n.1))]
              exact Nat.lt_succ_self _) hlen
          show (match goS W _ (.turn o') with | none => none | some st' => runS W st' (w.steps ++ [Step.up])) = _
          rw [hgo]
          show runS W _ (w.steps ++ [Step.up]) = _
          rw [runS_app W _ _ _ _ h2, runS_one]
          show some _ = some _
          congr 2
          · show st.cost + r.cost a + (if o' = none then 0 else 1) + w.cost c = st.cost + (r.cost a + ((if o' = none then 0 else 1) + w.cost c))
            omega
          · show ((((st.back ++ (r.back a).steps) ++ [Step.turn (o'.map fun _ => t)]) ++ (w.back c).steps) ++ [Step.up]) = st.back ++ ((r.back a).steps ++ (Step.turn (o'.map fun _ => t) :: ((w.back c).steps ++ [Step.up])))
            simp only [List.append_assoc, List.singleton_append, List.cons_append, List.nil_append]
          · show (((st.tags ++ g'.flat.map (·.1)) ++ [o'.getD t]) ++ e'.flat.map (·.1)) = st.tags ++ (g'.flat ++ (o'.getD t, e'.len) :: e'.flat).map (·.1)
            rw [List.map_append, List.map_cons]
            simp only [List.append_assoc, List.singleton_append]
          · show cnt (some (st.tags ++ g'.flat.map (·.1)).length) e'.len (cnt idx 1 (cnt idx g'.len st.counts ++ g'.flat.map (·.2)) ++ [0]) ++ e'.flat.map (·.2) = cnt idx (g'.len + 1) st.counts ++ (g'.flat ++ (o'.getD t, e'.len) :: e'.flat).map (·.2)
            have hl2 : (st.tags ++ g'.flat.map (·.1)).length = (cnt idx 1 (cnt idx g'.len st.counts ++ g'.flat.map (·.2))).length := by
              rw [List.length_append, cnt_len, List.length_append, cnt_len, List.length_map, List.length_map, hl]
            show bump (_ ++ [0]) _ e'.len ++ _ = _
            rw [hl2, bump_last, cnt_app hi, List.map_append, List.map_cons]
            simp only [List.append_assoc, List.singleton_append]
/-- the way back -/
theorem back_E : ∀ (e : E) (f g : F), e.along f = some g → (e.back f).along g = some f ∧ (e.back f).cost g = e.cost f ∧ (e.back f).back g = e := by
  intro e
  induction e with
  | nil =>
    intro f g ha
    cases f with
    | snoc a t c => cases ha
    | nil => cases ha; exact ⟨rfl, rfl, rfl⟩
  | out r ih =>
    intro f g ha
    cases f with
    | nil => cases ha
    | snoc a t c =>
      have ha' : r.along a = some g := ha
      obtain ⟨h1, h2, h3⟩ := ih a g ha'
      have e1 : (E.out r).back (.snoc a t c) = .ins (r.back a) t c := rfl
      rw [e1]
      have e2 : (E.ins (r.back a) t c).along g = ((r.back a).along g).map fun g => F.snoc g t c := by cases g <;> rfl
      have e3 : (E.ins (r.back a) t c).cost g = (r.back a).cost g + (1 + c.size) := by cases g <;> rfl
      have e4 : (E.ins (r.back a) t c).back g = .out ((r.back a).back g) := by cases g <;> rfl
      rw [e2, e3, e4, h1, h2, h3]
      exact ⟨rfl, rfl, rfl⟩
  | ins r t c ih =>
    intro f g ha
    have ha' : (r.along f).map (fun g => F.snoc g t c) = some g := by cases f <;> exact ha
    cases hr : r.along f with
    | none => rw [hr] at ha'; cases ha'
    | some g' =>
      rw [hr] at ha'
      cases (Option.some.inj ha')
      obtain ⟨h1, h2, h3⟩ := ih f g' hr
      have e1 : (E.ins r t c).back f = .out (r.back f) := by cases f <;> rfl
      have e2 : (E.ins r t c).cost f = r.cost f + (1 + c.size) := by cases f <;> rfl
      rw [e1, e2]
      refine ⟨h1, ?_, ?_⟩
      · show (r.back f).cost g' + (1 + c.size) = _
        rw [h2]
      · show E.ins ((r.back f).back g') t c = _
        rw [h3]
  | keep r o w ih1 ih2 =>
    intro f g ha
    cases f with
    | nil => cases ha
    | snoc a t c =>
      have ha' : (if o = some t then none else match r.along a, w.along c with
        | some g, some e => some (F.snoc g (o.getD t) e)
        | _, _ => none) = some g := ha
      by_cases ho : o = some t
      · rw [if_pos ho] at ha'; cases ha'
      rw [if_neg ho] at ha'
      cases hr : r.along a with
      | none => rw [hr] at ha'; cases ha'
      | some g' =>
        cases hw : w.along c with
        | none => rw [hr, hw] at ha'; cases ha'
        | some e' =>
          rw [hr, hw] at ha'
          cases (Option.some.inj ha')
          obtain ⟨h1, h2, h3⟩ := ih1 a g' hr
          obtain ⟨q1, q2, q3⟩ := ih2 c e' hw
          refine ⟨?_, ?_, ?_⟩
          · show (if (o.map fun _ => t) = some (o.getD t) then none else match (r.back a).along g', (w.back c).along e' with
              | some g, some e => some (F.snoc g ((o.map fun _ => t).getD (o.getD t)) e)
              | _, _ => none) = _
            rw [h1, q1]
            cases o with
            | none => rfl
            | some x =>
              have : ¬ some t = some x := fun z => ho z.symm
              show (if some t = some x then none else some (F.snoc a t c)) = _
              rw [if_neg this]
          · show (r.back a).cost g' + ((if (o.map fun _ => t) = none then 0 else 1) + (w.back c).cost e') = r.cost a + ((if o = none then 0 else 1) + w.cost c)
            rw [h2, q2]
            cases o <;> rfl
          · show E.keep ((r.back a).back g') ((o.map fun _ => t).map fun _ => o.getD t) ((w.back c).back e') = _
            rw [h3, q3]
            cases o <;> rfl
/-- least ways -/
def best : F → F → E
  | .nil, .nil => .nil
  | .nil, .snoc b u e => .ins (best .nil b) u e
  | .snoc a _ _, .nil => .out (best a .nil)
  | .snoc a t c, .snoc b u e =>
    if dF (.snoc a t c) (.snoc b u e) = dF a (.snoc b u e) + (1 + c.size) then .out (best a (.snoc b u e))
    else if dF (.snoc a t c) (.snoc b u e) = dF (.snoc a t c) b + (1 + e.size) then .ins (best (.snoc a t c) b) u e
    else .keep (best a b) (if t = u then none else some u) (best c e)
termination_by f g => sizeOf f + sizeOf g
theorem best_ok : ∀ (f g : F), (best f g).along f = some g ∧ (best f g).cost f = dF f g
  | .nil, .nil => by rw [best, dF_nn]; exact ⟨rfl, rfl⟩
  | .nil, .snoc b u e => by
    obtain ⟨h1, h2⟩ := best_ok .nil b
    rw [best, dF_ns]
    show ((best .nil b).along .nil).map _ = _ ∧ (best .nil b).cost .nil + (1 + e.size) = _
    rw [h1, h2]; exact ⟨rfl, rfl⟩
  | .snoc a t c, .nil => by
    obtain ⟨h1, h2⟩ := best_ok a .nil
    rw [best, dF_sn]
    show (best a .nil).along a = _ ∧ (best a .nil).cost a + (1 + c.size) = _
    rw [h1, h2]; exact ⟨rfl, rfl⟩
  | .snoc a t c, .snoc b u e => by
    rw [best]
    by_cases c1 : dF (.snoc a t c) (.snoc b u e) = dF a (.snoc b u e) + (1 + c.size)
    · rw [if_pos c1]
      obtain ⟨h1, h2⟩ := best_ok a (.snoc b u e)
      show (best a (.snoc b u e)).along a = _ ∧ (best a (.snoc b u e)).cost a + (1 + c.size) = _
      rw [h1, h2, c1]; exact ⟨rfl, rfl⟩
    · rw [if_neg c1]
      by_cases c2 : dF (.snoc a t c) (.snoc b u e) = dF (.snoc a t c) b + (1 + e.size)
      · rw [if_pos c2]
        obtain ⟨h1, h2⟩ := best_ok (.snoc a t c) b
        show ((best (.snoc a t c) b).along (.snoc a t c)).map _ = _ ∧ (best (.snoc a t c) b).cost (.snoc a t c) + (1 + e.size) = _
        rw [h1, h2, c2]; exact ⟨rfl, rfl⟩
      · rw [if_neg c2]
        obtain ⟨h1, h2⟩ := best_ok a b
        obtain ⟨q1, q2⟩ := best_ok c e
        have hd : dF (.snoc a t c) (.snoc b u e) = dF a b + (ne1 t u + dF c e) := by
          rw [dF_ss] at c1 c2 ⊢
          omega
        show (if (if t = u then none else some u) = some t then none else match (best a b).along a, (best c e).along c with
          | some g, some e => some (F.snoc g ((if t = u then none else some u).getD t) e)
          | _, _ => none) = _ ∧ (best a b).cost a + ((if (if t = u then none else some u) = none then 0 else 1) + (best c e).cost c) = _
        rw [h1, h2, q1, q2, hd]
        by_cases htu : t = u
        · subst htu
          rw [if_pos rfl, if_neg (by intro z; cases z)]
          refine ⟨rfl, ?_⟩
          unfold ne1; rw [if_pos rfl, if_pos rfl]
        · rw [if_neg htu, if_neg (fun z => htu (Option.some.inj z).symm)]
          refine ⟨rfl, ?_⟩
          unfold ne1; rw [if_neg htu, if_neg (by intro z; cases z)]
termination_by f g => sizeOf f + sizeOf g
/-! names, depth -/
theorem best_good : ∀ (f g : F), f.good = true → g.good = true → (best f g).good = true
  | .nil, .nil, _, _ => by rw [best]; rfl
  | .nil, .snoc b u e, hf, hg => by
    rw [best]
    have hg' : (b.good && (isName u && e.good)) = true := hg
    simp only [Bool.and_eq_true] at hg'
    show ((best .nil b).good && (isName u && e.good)) = true
    rw [best_good .nil b hf hg'.1, hg'.2.1, hg'.2.2]; rfl
  | .snoc a t c, .nil, hf, hg => by
    rw [best]
    have hf' : (a.good && (isName t && c.good)) = true := hf
    simp only [Bool.and_eq_true] at hf'
    exact best_good a .nil hf'.1 hg
  | .snoc a t c, .snoc b u e, hf, hg => by
    rw [best]
    have hf' : (a.good && (isName t && c.good)) = true := hf
    have hg' : (b.good && (isName u && e.good)) = true := hg
    simp only [Bool.and_eq_true] at hf' hg'
    split
    · exact best_good a _ hf'.1 hg
    · split
      · show ((best (.snoc a t c) b).good && (isName u && e.good)) = true
        rw [best_good _ b hf hg'.1, hg'.2.1, hg'.2.2]; rfl
      · show ((best a b).good && (okO (if t = u then none else some u) && (best c e).good)) = true
        rw [best_good a b hf'.1 hg'.1, best_good c e hf'.2.2 hg'.2.2]
        by_cases htu : t = u
        · rw [if_pos htu]; rfl
        · rw [if_neg htu]
          show (true && (isName u && true)) = true
          rw [hg'.2.1]; rfl
termination_by f g => sizeOf f + sizeOf g
theorem back_good : ∀ (e : E) (f : F), e.good = true → f.good = true → (e.back f).good = true := by
  intro e
  induction e with
  | nil => intro f _ _; cases f <;> rfl
  | out r ih =>
    intro f he hf
    cases f with
    | nil => rfl
    | snoc a t c =>
      have hf' : (a.good && (isName t && c.good)) = true := hf
      simp only [Bool.and_eq_true] at hf'
      show ((r.back a).good && (isName t && c.good)) = true
      rw [ih a he hf'.1, hf'.2.1, hf'.2.2]; rfl
  | ins r t c ih =>
    intro f he hf
    have he' : (r.good && (isName t && c.good)) = true := he
    simp only [Bool.and_eq_true] at he'
    have e1 : (E.ins r t c).back f = .out (r.back f) := by cases f <;> rfl
    rw [e1]
    exact ih f he'.1 hf
  | keep r o w ih1 ih2 =>
    intro f he hf
    cases f with
    | nil => rfl
    | snoc a t c =>
      have hf' : (a.good && (isName t && c.good)) = true := hf
      have he' : (r.good && (okO o && w.good)) = true := he
      simp only [Bool.and_eq_true] at hf' he'
      show ((r.back a).good && (okO (o.map fun _ => t) && (w.back c).good)) = true
      rw [ih1 a he'.1 hf'.1, ih2 c he'.2.2 hf'.2.2]
      cases o with
      | none => rfl
      | some x => show (true && (isName t && true)) = true; rw [hf'.2.1]; rfl
theorem deep_E : ∀ (e : E) (d : Nat) (w : List Step), deepGo d (e.steps ++ w) = deepGo d w := by
  intro e
  induction e with
  | nil => intro d w; rfl
  | out r ih =>
    intro d w
    show deepGo d ((r.steps ++ [.out]) ++ w) = _
    rw [List.append_assoc, ih]
    cases d <;> rfl
  | ins r t c ih =>
    intro d w
    show deepGo d ((r.steps ++ [.ins (sub1 t c)]) ++ w) = _
    rw [List.append_assoc, ih]
    cases d <;> rfl
  | keep r o x ih1 ih2 =>
    intro d w
    show deepGo d ((r.steps ++ (.turn o :: (x.steps ++ [.up]))) ++ w) = _
    rw [List.append_assoc, ih1]
    show deepGo d (.turn o :: ((x.steps ++ [.up]) ++ w)) = _
    rw [List.append_assoc]
    have : deepGo d (.turn o :: (x.steps ++ ([.up] ++ w))) = deepGo (d + 1) (x.steps ++ ([.up] ++ w)) := by cases d <;> rfl
    rw [this, ih2]; rfl
theorem okS_E : ∀ (e : E), e.good = true → e.steps.all okS = true := by
  intro e
  induction e with
  | nil => intro _; rfl
  | out r ih =>
    intro h
    show (r.steps ++ [Step.out]).all okS = true
    rw [List.all_append, ih h]; rfl
  | ins r t c ih =>
    intro h
    have h' : (r.good && (isName t && c.good)) = true := h
    simp only [Bool.and_eq_true] at h'
    show (r.steps ++ [Step.ins (sub1 t c)]).all okS = true
    rw [List.all_append, ih h'.1]; rfl
  | keep r o w ih1 ih2 =>
    intro h
    have h' : (r.good && (okO o && w.good)) = true := h
    simp only [Bool.and_eq_true] at h'
    show (r.steps ++ (Step.turn o :: (w.steps ++ [Step.up]))).all okS = true
    rw [List.all_append, ih1 h'.1, List.all_cons, List.all_append, ih2 h'.2.2]
    cases o with
    | none => rfl
    | some x => show (true && (isName x && (true && _))) = true; rw [show isName x = true from h'.2.1]; rfl
theorem way_E {e : E} (h : e.good = true) : wayOk e.steps = true := by
  unfold wayOk
  rw [okS_E e h]
  have := deep_E e 0 []
  rw [List.append_nil] at this
  rw [this]; rfl

end Pp

set_option Elab.async false
set_option linter.all false
set_option autoImplicit false
set_option maxRecDepth 100000
set_option maxHeartbeats 4000000
namespace Pp
open PySem PySem.Spec L2
variable {P : Program} {w : World} {K : PySem.W.Frag} {mg : Str → Option Value} {base : Heap}
/-! ### Going: the object -/
structure GAd where
  dx : Addr
  gi : Addr
  gs : Addr
  gb : Addr
  gt : Addr
  gc : Addr
  gf : Addr
  va : V
  gv : List V
def gfs (A : GAd) (c : Nat) : List (Str × V) := [("row", A.va), ("inner", .ref A.gi), ("sizes", .ref A.gs), ("cost", .int (c : Nat)), ("back", .ref A.gb), ("tags", .ref A.gt), ("counts", .ref A.gc), ("frames", .ref A.gf)]
def oN : Option Nat → V
  | none => .non
  | some n => .int (n : Nat)
def FrAt (K : PySem.W.Frag) (H : Hp) : List Addr → List Addr → List Fr → Prop
  | [], [], [] => True
  | t :: ts, l :: ls, fr :: fs => SqT K H t [oN fr.1, .ref l] ∧ H l = some (.lst (iv fr.2.reverse)) ∧ FrAt K H ts ls fs
  | _, _, _ => False
theorem FrAt.move {H H' : Hp} (kp : Kp H H') : ∀ {ts ls : List Addr} {fs : List Fr}, (∀ l ∈ ls, ∀ o, H l = some o → H' l = some o) → FrAt K H ts ls fs → FrAt K H' ts ls fs
  | [], [], [], _, _ => True.intro
  | t :: ts, l :: ls, fr :: fs, h, ⟨h1, h2, h3⟩ => ⟨kp.st h1, h l List.mem_cons_self _ h2, FrAt.move kp (fun q hq => h q (List.mem_cons_of_mem _ hq)) h3⟩
  | [], [], _ :: _, _, h => h.elim
  | [], _ :: _, _, _, h => h.elim
  | _ :: _, [], _, _, h => h.elim
  | _ :: _, _ :: _, [], _, h => h.elim
theorem FrAt.len {H : Hp} : ∀ {ts ls : List Addr} {fs : List Fr}, FrAt K H ts ls fs → ts.length = fs.length ∧ ls.length = fs.length
  | [], [], [], _ => ⟨rfl, rfl⟩
  | t :: ts, l :: ls, fr :: fs, ⟨_, _, h3⟩ => by
    have := FrAt.len h3
    exact ⟨by rw [List.length_cons, List.length_cons, this.1], by rw [List.length_cons, List.length_cons, this.2]⟩
  | [], [], _ :: _, h => h.elim
  | [], _ :: _, _, h => h.elim
  | _ :: _, [], _, h => h.elim
  | _ :: _, _ :: _, [], h => h.elim
theorem FrAt.cons {H : Hp} {ts ls : List Addr} {fr : Fr} {fs : List Fr} (h : FrAt K H ts ls (fr :: fs)) : ∃ t ts' l ls', ts = t :: ts' ∧ ls = l :: ls' ∧ SqT K H t [oN fr.1, .ref l] ∧ H l = some (.lst (iv fr.2.reverse)) ∧ FrAt K H ts' ls' fs := by
  cases ts with
  | nil => cases ls <;> exact h.elim
  | cons t ts' =>
    cases ls with
    | nil => exact h.elim
    | cons l ls' => exact ⟨t, ts', l, ls', rfl, rfl, h.1, h.2.1, h.2.2⟩
def own (A : GAd) (ls : List Addr) : List Addr := A.gi :: A.gs :: A.gb :: A.gt :: A.gc :: A.gf :: ls
structure GoIn (T : Txt K mg) (H0 H : Hp) (p : Addr) (A : GAd) (W : F) (st : GoSt) (ts ls : List Addr) (bv : List V) : Prop where
  s0 : Same H0 H
  p0 : H0 p = none
  fr0 : ∀ q ∈ own A ls, H0 q = none
  ob : H p = some (.ins T.c_Going A.dx (gfs A st.cost))
  row : Dp K H A.va (rowD W.flat)
  inn : H A.gi = some (.lst A.gv)
  ti : TupsAt K H A.gv (innerL W)
  szs : H A.gs = some (.lst (iv (W.nodes.map szT)))
  back : H A.gb = some (.lst bv)
  bd : DpAll K H bv (st.back.map stD)
  tags : H A.gt = some (.lst (st.tags.map V.str))
  counts : H A.gc = some (.lst (iv st.counts))
  frs : H A.gf = some (.lst (ts.map V.ref).reverse)
  fra : FrAt K H ts ls st.frames
  nd : (own A ls).Nodup
theorem nl_sts (w : List Step) : nlA (w.map stD) = true := nlA_map stD nl_st w
section
variable {T : Txt K mg} {H0 H H' : Hp} {p : Addr} {A : GAd} {W : F} {st : GoSt} {ts ls : List Addr} {bv : List V}
theorem GoIn.lsk (G : GoIn T H0 H p A W st ts ls bv) : ∀ l ∈ ls, ∃ xs, H l = some (.lst xs) := by
  have : ∀ {ts ls : List Addr} {fs : List Fr}, FrAt K H ts ls fs → ∀ l ∈ ls, ∃ xs, H l = some (.lst xs) := by
    intro ts ls fs
    induction ts generalizing ls fs with
    | nil =>
      intro h l hl
      cases ls with
      | nil => cases hl
      | cons _ _ => cases fs <;> exact h.elim
    | cons t ts ih =>
      intro h l hl
      cases ls with
      | nil => cases hl
      | cons l' ls =>
        cases fs with
        | nil => exact h.elim
        | cons fr fs =>
          rcases List.mem_cons.mp hl with rfl | hl
          · exact ⟨_, h.2.1⟩
          · exact ih h.2.2 l hl
  exact this G.fra
theorem GoIn.same (G : GoIn T H0 H p A W st ts ls bv) (s : Same H H') : GoIn T H0 H' p A W st ts ls bv :=
  ⟨G.s0.trans s, G.p0, G.fr0, s _ _ G.ob, dp_same s G.row, s _ _ G.inn, dpa_same s G.ti, s _ _ G.szs, s _ _ G.back, dpa_same s G.bd, s _ _ G.tags, s _ _ G.counts, s _ _ G.frs, FrAt.move (sm_kp s) (fun _ _ o h => s _ o h) G.fra, G.nd⟩
/-- the lists are none of the object -/
theorem GoIn.np (G : GoIn T H0 H p A W st ts ls bv) : ∀ q ∈ own A ls, q ≠ p := by
  intro q hq z
  subst z
  have hl : ∃ xs, H q = some (.lst xs) := by
    unfold own at hq
    simp only [List.mem_cons] at hq
    rcases hq with h | h | h | h | h | h | h
    · exact ⟨_, h ▸ G.inn⟩
    · exact ⟨_, h ▸ G.szs⟩
    · exact ⟨_, h ▸ G.back⟩
    · exact ⟨_, h ▸ G.tags⟩
    · exact ⟨_, h ▸ G.counts⟩
    · exact ⟨_, h ▸ G.frs⟩
    · exact G.lsk q h
  obtain ⟨xs, h⟩ := hl
  rw [G.ob] at h
  cases h
theorem GoIn.own_lst (G : GoIn T H0 H p A W st ts ls bv) : ∀ q ∈ own A ls, ∃ xs, H q = some (.lst xs) := by
  intro q hq
  unfold own at hq
  simp only [List.mem_cons] at hq
  rcases hq with h | h | h | h | h | h | h
  · exact ⟨_, h ▸ G.inn⟩
  · exact ⟨_, h ▸ G.szs⟩
  · exact ⟨_, h ▸ G.back⟩
  · exact ⟨_, h ▸ G.tags⟩
  · exact ⟨_, h ▸ G.counts⟩
  · exact ⟨_, h ▸ G.frs⟩
  · exact G.lsk q h
/-- the object's own fields are changed -/
theorem GoIn.setCost (G : GoIn T H0 H p A W st ts ls bv) (c : Nat) : GoIn T H0 (upd H p (.ins T.c_Going A.dx (gfs A c))) p A W { st with cost := c } ts ls bv := by
  have kp : Kp H (upd H p (.ins T.c_Going A.dx (gfs A c))) := Kp.mu G.ob True.intro
  have n : ∀ q ∈ own A ls, ∀ o, H q = some o → (upd H p (.ins T.c_Going A.dx (gfs A c))) q = some o := fun q hq o h => (upd_ne (G.np q hq)).trans h
  have m : ∀ q, q ∈ [A.gi, A.gs, A.gb, A.gt, A.gc, A.gf] → q ∈ own A ls := fun q hq => by
    unfold own; simp only [List.mem_cons, List.not_mem_nil, or_false] at hq ⊢
    rcases hq with h | h | h | h | h | h <;> simp [h]
  exact ⟨sm_put G.s0 G.p0, G.p0, G.fr0, upd_same, dp_kp kp (nl_row _) G.row, n _ (m _ (by simp)) _ G.inn, dpa_kp kp (nl_tups _) G.ti, n _ (m _ (by simp)) _ G.szs, n _ (m _ (by simp)) _ G.back, dpa_kp kp (nl_sts _) G.bd, n _ (m _ (by simp)) _ G.tags, n _ (m _ (by simp)) _ G.counts, n _ (m _ (by simp)) _ G.frs,
    FrAt.move kp (fun l hl o h => n l (by unfold own; simp [hl]) o h) G.fra, G.nd⟩
/-- one of the lists is changed: all else stays -/
theorem GoIn.keep (G : GoIn T H0 H p A W st ts ls bv) {q : Addr} (hq : q ∈ own A ls) (o : HO) : Kp H (upd H q o) ∧ Same H0 (upd H q o) ∧ (upd H q o) p = some (.ins T.c_Going A.dx (gfs A st.cost)) ∧ ∀ b, b ≠ q → ∀ u, H b = some u → (upd H q o) b = some u := by
  have hl : ∃ xs, H q = some (.lst xs) := by
    unfold own at hq
    simp only [List.mem_cons] at hq
    rcases hq with h | h | h | h | h | h | h
    · exact ⟨_, h ▸ G.inn⟩
    · exact ⟨_, h ▸ G.szs⟩
    · exact ⟨_, h ▸ G.back⟩
    · exact ⟨_, h ▸ G.tags⟩
    · exact ⟨_, h ▸ G.counts⟩
    · exact ⟨_, h ▸ G.frs⟩
    · exact G.lsk q h
  obtain ⟨xs, h⟩ := hl
  exact ⟨Kp.lst h, sm_put G.s0 (G.fr0 q hq), (upd_ne (Ne.symm (G.np q hq))).trans G.ob, fun b nb u hb => (upd_ne nb).trans hb⟩
theorem own_ne {A : GAd} {ls : List Addr} (nd : (own A ls).Nodup) : (A.gi ≠ A.gb ∧ A.gi ≠ A.gt ∧ A.gi ≠ A.gc ∧ A.gi ≠ A.gf ∧ A.gi ∉ ls) ∧ (A.gs ≠ A.gb ∧ A.gs ≠ A.gt ∧ A.gs ≠ A.gc ∧ A.gs ≠ A.gf ∧ A.gs ∉ ls) ∧ (A.gb ≠ A.gt ∧ A.gb ≠ A.gc ∧ A.gb ≠ A.gf ∧ A.gb ∉ ls) ∧ (A.gt ≠ A.gc ∧ A.gt ≠ A.gf ∧ A.gt ∉ ls) ∧ (A.gc ≠ A.gf ∧ A.gc ∉ ls) ∧ A.gf ∉ ls ∧ ls.Nodup := by
  unfold own at nd
  simp only [List.nodup_cons, List.mem_cons, not_or] at nd
  obtain ⟨⟨_, a1, a2, a3, a4, a5⟩, ⟨b1, b2, b3, b4, b5⟩, ⟨c1, c2, c3, c4⟩, ⟨d1, d2, d3⟩, ⟨e1, e2⟩, f1, f2⟩ := nd
  exact ⟨⟨a1, a2, a3, a4, a5⟩, ⟨b1, b2, b3, b4, b5⟩, ⟨c1, c2, c3, c4⟩, ⟨d1, d2, d3⟩, ⟨e1, e2⟩, f1, f2⟩
theorem mem_own {A : GAd} {ls : List Addr} : A.gb ∈ own A ls ∧ A.gt ∈ own A ls ∧ A.gc ∈ own A ls ∧ A.gf ∈ own A ls := by
  unfold own; simp
theorem GoIn.addBack (G : GoIn T H0 H p A W st ts ls bv) {v : V} {s : Step} (h : Dp K H v (stD s)) : GoIn T H0 (upd H A.gb (.lst (bv ++ [v]))) p A W { st with back := st.back ++ [s] } ts ls (bv ++ [v]) := by
  obtain ⟨kp, s1, o1, n⟩ := G.keep mem_own.1 (.lst (bv ++ [v]))
  obtain ⟨⟨a1, a2, a3, a4, a5⟩, ⟨b1, b2, b3, b4, b5⟩, ⟨c1, c2, c3, c4⟩, ⟨d1, d2, d3⟩, ⟨e1, e2⟩, f1, f2⟩ := own_ne G.nd
  refine ⟨s1, G.p0, G.fr0, o1, dp_kp kp (nl_row _) G.row, n _ a1 _ G.inn, dpa_kp kp (nl_tups _) G.ti, n _ b1 _ G.szs, upd_same, ?_, n _ (Ne.symm c1) _ G.tags, n _ (Ne.symm c2) _ G.counts, n _ (Ne.symm c3) _ G.frs, FrAt.move kp (fun l hl o h => n l (fun z => c4 (z ▸ hl)) o h) G.fra, G.nd⟩
  rw [List.map_append]
  exact dpa_app (dpa_kp kp (nl_sts _) G.bd) (.cons (dp_kp kp (nl_st s) h) .nil)
theorem GoIn.setTags (G : GoIn T H0 H p A W st ts ls bv) (tg : List Str) : GoIn T H0 (upd H A.gt (.lst (tg.map V.str))) p A W { st with tags := tg } ts ls bv := by
  obtain ⟨kp, s1, o1, n⟩ := G.keep mem_own.2.1 (.lst (tg.map V.str))
  obtain ⟨⟨a1, a2, a3, a4, a5⟩, ⟨b1, b2, b3, b4, b5⟩, ⟨c1, c2, c3, c4⟩, ⟨d1, d2, d3⟩, ⟨e1, e2⟩, f1, f2⟩ := own_ne G.nd
  exact ⟨s1, G.p0, G.fr0, o1, dp_kp kp (nl_row _) G.row, n _ a2 _ G.inn, dpa_kp kp (nl_tups _) G.ti, n _ b2 _ G.szs, n _ c1 _ G.back, dpa_kp kp (nl_sts _) G.bd, upd_same, n _ (Ne.symm d1) _ G.counts, n _ (Ne.symm d2) _ G.frs, FrAt.move kp (fun l hl o h => n l (fun z => d3 (z ▸ hl)) o h) G.fra, G.nd⟩
theorem GoIn.setCounts (G : GoIn T H0 H p A W st ts ls bv) (c : List Nat) : GoIn T H0 (upd H A.gc (.lst (iv c))) p A W { st with counts := c } ts ls bv := by
  obtain ⟨kp, s1, o1, n⟩ := G.keep mem_own.2.2.1 (.lst (iv c))
  obtain ⟨⟨a1, a2, a3, a4, a5⟩, ⟨b1, b2, b3, b4, b5⟩, ⟨c1, c2, c3, c4⟩, ⟨d1, d2, d3⟩, ⟨e1, e2⟩, f1, f2⟩ := own_ne G.nd
  exact ⟨s1, G.p0, G.fr0, o1, dp_kp kp (nl_row _) G.row, n _ a3 _ G.inn, dpa_kp kp (nl_tups _) G.ti, n _ b3 _ G.szs, n _ c2 _ G.back, dpa_kp kp (nl_sts _) G.bd, n _ d1 _ G.tags, upd_same, n _ (Ne.symm e1) _ G.frs, FrAt.move kp (fun l hl o h => n l (fun z => e2 (z ▸ hl)) o h) G.fra, G.nd⟩
/-- the innermost frame is left -/
theorem GoIn.popFr {t l : Addr} {fr : Fr} {fs : List Fr} (G : GoIn T H0 H p A W st (t :: ts) (l :: ls) bv) (hf : st.frames = fr :: fs) : GoIn T H0 (upd H A.gf (.lst (ts.map V.ref).reverse)) p A W { st with frames := fs } ts ls bv := by
  obtain ⟨kp, s1, o1, n⟩ := G.keep mem_own.2.2.2 (.lst (ts.map V.ref).reverse)
  obtain ⟨⟨a1, a2, a3, a4, a5⟩, ⟨b1, b2, b3, b4, b5⟩, ⟨c1, c2, c3, c4⟩, ⟨d1, d2, d3⟩, ⟨e1, e2⟩, f1, f2⟩ := own_ne G.nd
  have fa : FrAt K H (t :: ts) (l :: ls) (fr :: fs) := hf ▸ G.fra
  have sub : ∀ q ∈ own A ls, q ∈ own A (l :: ls) := fun q hq => by
    unfold own at hq ⊢; simp only [List.mem_cons] at hq ⊢
    rcases hq with h | h | h | h | h | h | h <;> simp [h]
  have nd2 : (own A ls).Nodup := by
    have := G.nd
    unfold own at this ⊢
    simp only [List.nodup_cons, List.mem_cons, not_or] at this ⊢
    obtain ⟨⟨z1, z2, z3, z4, z5, _, z6⟩, ⟨y1, y2, y3, y4, _, y5⟩, ⟨x1, x2, x3, _, x4⟩, ⟨w1, w2, _, w3⟩, ⟨v1, _, v2⟩, ⟨_, u1⟩, _, u2⟩ := this
    exact ⟨⟨z1, z2, z3, z4, z5, z6⟩, ⟨y1, y2, y3, y4, y5⟩, ⟨x1, x2, x3, x4⟩, ⟨w1, w2, w3⟩, ⟨v1, v2⟩, u1, u2⟩
  exact ⟨s1, G.p0, fun q hq => G.fr0 q (sub q hq), o1, dp_kp kp (nl_row _) G.row, n _ a4 _ G.inn, dpa_kp kp (nl_tups _) G.ti, n _ b4 _ G.szs, n _ c3 _ G.back, dpa_kp kp (nl_sts _) G.bd, n _ d2 _ G.tags, n _ e1 _ G.counts, upd_same,
    FrAt.move kp (fun q hq o h => n q (fun z => f1 (z ▸ List.mem_cons_of_mem _ hq)) o h) fa.2.2, nd2⟩
/-- the innermost frame's next node is taken -/
theorem GoIn.popNode {t l : Addr} {i : Option Nat} {x : Nat} {r : List Nat} {fs : List Fr} (G : GoIn T H0 H p A W st (t :: ts) (l :: ls) bv) (hf : st.frames = (i, x :: r) :: fs) : GoIn T H0 (upd H l (.lst (iv r.reverse))) p A W { st with frames := (i, r) :: fs } (t :: ts) (l :: ls) bv := by
  have hlm : l ∈ own A (l :: ls) := by unfold own; simp
  obtain ⟨kp, s1, o1, n⟩ := G.keep hlm (.lst (iv r.reverse))
  obtain ⟨⟨a1, a2, a3, a4, a5⟩, ⟨b1, b2, b3, b4, b5⟩, ⟨c1, c2, c3, c4⟩, ⟨d1, d2, d3⟩, ⟨e1, e2⟩, f1, f2⟩ := own_ne G.nd
  have fa : FrAt K H (t :: ts) (l :: ls) ((i, x :: r) :: fs) := hf ▸ G.fra
  have nl' : ∀ {q : Addr}, q ∉ l :: ls → q ≠ l := fun h z => h (by rw [z]; exact List.mem_cons_self)
  exact ⟨s1, G.p0, G.fr0, o1, dp_kp kp (nl_row _) G.row, n _ (nl' a5) _ G.inn, dpa_kp kp (nl_tups _) G.ti, n _ (nl' b5) _ G.szs, n _ (nl' c4) _ G.back, dpa_kp kp (nl_sts _) G.bd, n _ (nl' d3) _ G.tags, n _ (nl' e2) _ G.counts, n _ (nl' f1) _ G.frs,
    ⟨kp.st fa.1, upd_same, FrAt.move kp (fun q hq o h => n q (fun z => (List.nodup_cons.mp f2).1 (z ▸ hq)) o h) fa.2.2⟩, G.nd⟩
/-- a frame more: its tuple, its list -/
theorem GoIn.pushFr {t l : Addr} {fr : Fr} (G : GoIn T H0 H p A W st ts ls bv) (ht : SqT K H t [oN fr.1, .ref l]) (hl : H l = some (.lst (iv fr.2.reverse))) (h0 : H0 l = none) (hn : l ∉ own A ls) :
    GoIn T H0 (upd H A.gf (.lst ((ts.map V.ref).reverse ++ [.ref t]))) p A W { st with frames := fr :: st.frames } (t :: ts) (l :: ls) bv := by
  obtain ⟨kp, s1, o1, n⟩ := G.keep mem_own.2.2.2 (.lst ((ts.map V.ref).reverse ++ [.ref t]))
  obtain ⟨⟨a1, a2, a3, a4, a5⟩, ⟨b1, b2, b3, b4, b5⟩, ⟨c1, c2, c3, c4⟩, ⟨d1, d2, d3⟩, ⟨e1, e2⟩, f1, f2⟩ := own_ne G.nd
  have hn' := hn
  unfold own at hn'
  simp only [List.mem_cons, not_or] at hn'
  obtain ⟨m1, m2, m3, m4, m5, m6, m7⟩ := hn'
  refine ⟨s1, G.p0, fun q hq => ?_, o1, dp_kp kp (nl_row _) G.row, n _ a4 _ G.inn, dpa_kp kp (nl_tups _) G.ti, n _ b4 _ G.szs, n _ c3 _ G.back, dpa_kp kp (nl_sts _) G.bd, n _ d2 _ G.tags, n _ e1 _ G.counts, ?_,
    ⟨kp.st ht, n l m6 _ hl, FrAt.move kp (fun q hq o h => n q (fun z => f1 (z ▸ hq)) o h) G.fra⟩, ?_⟩
  · by_cases e : q = l
    · rw [e]; exact h0
    · refine G.fr0 q ?_
      unfold own at hq ⊢
      simp only [List.mem_cons] at hq ⊢
      rcases hq with h | h | h | h | h | h | h | h
      · simp [h]
      · simp [h]
      · simp [h]
      · simp [h]
      · simp [h]
      · simp [h]
      · exact absurd h e
      · simp [h]
  · rw [upd_same, List.map_cons, List.reverse_cons]
  · have := G.nd
    unfold own at this ⊢
    simp only [List.nodup_cons, List.mem_cons, not_or] at this ⊢
    obtain ⟨⟨z1, z2, z3, z4, z5, z6⟩, ⟨y1, y2, y3, y4, y5⟩, ⟨x1, x2, x3, x4⟩, ⟨w1, w2, w3⟩, ⟨v1, v2⟩, u1, u2⟩ := this
    exact ⟨⟨z1, z2, z3, z4, z5, Ne.symm m1, z6⟩, ⟨y1, y2, y3, y4, Ne.symm m2, y5⟩, ⟨x1, x2, x3, Ne.symm m3, x4⟩, ⟨w1, w2, Ne.symm m4, w3⟩, ⟨v1, Ne.symm m5, v2⟩, ⟨Ne.symm m6, u1⟩, m7, u2⟩
end

end Pp

set_option Elab.async false
set_option linter.all false
set_option autoImplicit false
set_option maxRecDepth 100000
set_option maxHeartbeats 4000000
namespace Pp
open PySem PySem.Spec L2
variable {P : Program} {w : World} {K : PySem.W.Frag} {mg : Str → Option Value} {base : Heap}
theorem iv_set (c : List Nat) (i v : Nat) : (iv c).set i (.int (v : Nat)) = iv (c.set i v) := by unfold iv; rw [List.map_set]
theorem rev_last {t : Addr} {ts : List Addr} : ((t :: ts).map V.ref).reverse = (ts.map V.ref).reverse ++ [V.ref t] := by rw [List.map_cons, List.reverse_cons]
theorem gfs_none (A : GAd) (c : Nat) : (gfs A c).lookup ("count" : Str) = none ∧ (gfs A c).lookup ("put_in" : Str) = none ∧ (gfs A c).lookup ("keep" : Str) = none ∧ (gfs A c).lookup ("go" : Str) = none ∧ (gfs A c).lookup ("behind" : Str) = none := ⟨rfl, rfl, rfl, rfl, rfl⟩
def sp_Going_count (T : Txt K mg) : Sp := fun vs H Q _ => ∃ (H0 : Hp) (p : Addr) (A : GAd) (W : F) (st : GoSt) (ts ls : List Addr) (bv : List V) (fr : Fr) (fs : List Fr), vs = [.ref p] ∧ GoIn T H0 H p A W st ts ls bv ∧ st.frames = fr :: fs ∧ (∀ i, fr.1 = some i → i < st.counts.length) ∧
  ∀ H', GoIn T H0 H' p A W { st with counts := cnt fr.1 1 st.counts } ts ls bv → Q .non H'
theorem ok_Going_count (T : Txt K mg) : FnOk P w K mg base CX0 1 T.a_Going_count T.d_Going_count P_Going_count (sp_Going_count T) := by
  refine T.F_Going_count.ok sc_Going_count (fun vs H Q E h => ?_) (fun cdv A outer s H vs Q E hr h => ?_)
  · obtain ⟨H0, p, A, W, st, ts, ls, bv, fr, fs, rfl, G, hf, hi, k⟩ := h
    rfl
  · obtain ⟨H0, p, A, W, st, ts, ls, bv, fr, fs, rfl, G, hf, hi, k⟩ := h
    refine ⟨_, (pss_cons (ps_set (i := 1) sc_Going_count.nd rfl (Or.inl rfl) (pe_ix ix_tup (pe_ix ix_list (pe_fld (pv 0) rfl) (pe_un un_neg pe_int) (fun _ _ => rfl)) pe_int (fun _ _ => rfl)))
      (pss_one (ps_if (pt_cmpR op_notN (pv 1) pe_non (nomark _)) (pss_one (ps_augS (pe_fld (pv 0) rfl) (pv 1) get_list pe_int ip_add set_list)) pss_nil))), ?_⟩
    have fa : FrAt K H ts ls (fr :: fs) := hf ▸ G.fra
    obtain ⟨t, ts', l, ls', rfl, rfl, h1, h2, h3⟩ := fa.cons
    have hfr := G.frs
    rw [rev_last] at hfr
    refine ⟨_, rfl, p, T.c_Going, _, _, _, rfl, G.ob, T.cl_Going, T.na_Going_frames, rfl, 1, rfl, A.gf, _, _, _, rfl, rfl, SqL.of hfr, atI_last _ _, t, _, 0, _, rfl, rfl, h1, rfl, ?_⟩
    refine ⟨_, rfl, rfl, _, rfl, ?_⟩
    obtain ⟨o, rm⟩ := fr
    cases o with
    | none =>
      have e : ({ st with counts := cnt none 1 st.counts } : GoSt) = st := rfl
      exact k H G
    | some i =>
      have hil := hi i rfl
      have hget : (iv st.counts)[i]? = some (.int (st.counts.getD i 0 : Nat)) := iv_get (by rw [List.getD_eq_getElem?_getD, List.getElem?_eq_getElem hil]; rfl)
      refine ⟨_, rfl, p, T.c_Going, _, _, _, rfl, G.ob, T.cl_Going, T.na_Going_counts, rfl, _, rfl, A.gc, _, _, _, rfl, rfl, SqL.of G.counts, atI_nat hget, _, _, rfl, rfl, A.gc, _, _, i, rfl, rfl, G.counts, ixN_nat (by rw [iv_len]; exact hil), ?_⟩
      have e : ((st.counts.getD i 0 : Nat) : Int) + 1 = ((st.counts.getD i 0 + 1 : Nat) : Int) := by omega
      dsimp only
      rw [e, iv_set]
      exact k _ (G.setCounts (bump st.counts i 1))
theorem gfs_cost (A : GAd) (c m : Nat) {z : Int} (h : z = (m : Nat)) : putF "cost" (V.int z) (gfs A c) = gfs A m := by subst h; rfl
theorem strs_app (tg : List Str) (x : Str) : tg.map V.str ++ [V.str x] = (tg ++ [x]).map V.str := by rw [List.map_append]; rfl
theorem iv_snoc (c : List Nat) (x : Nat) : iv c ++ [V.int (x : Nat)] = iv (c ++ [x]) := by rw [iv_app]; rfl
def sp_Going_put_in (T : Txt K mg) : Sp := fun vs H Q _ => ∃ (H0 : Hp) (p : Addr) (A : GAd) (W g : F) (v : V) (st st' : GoSt) (ts ls : List Addr) (bv : List V), vs = [.ref p, v] ∧ GoIn T H0 H p A W st ts ls bv ∧ Dp K H0 v (rowD g.flat) ∧ goS W st (.ins g) = some st' ∧
  (∀ fr ∈ st.frames, ∀ i, fr.1 = some i → i < st.counts.length) ∧ st.counts.length = st.tags.length ∧ st.tags.length + g.size < 1000000 ∧ bv.length < 1000000 ∧
  ∀ H' bv', bv'.length = bv.length + 1 → GoIn T H0 H' p A W st' ts ls bv' → Q .non H'
theorem ok_Going_put_in (T : Txt K mg) : FnOk P w K mg base CX0 2 T.a_Going_put_in T.d_Going_put_in P_Going_put_in (sp_Going_put_in T) := by
  have G_Going_count := ok_Going_count (P := P) (w := w) (base := base) T
  refine T.F_Going_put_in.ok sc_Going_put_in (fun vs H Q E h => ?_) (fun cdv A outer s H vs Q E hr h => ?_)
  · obtain ⟨H0, p, A, W, g, v, st, st', ts, ls, bv, rfl, G, hv, hgo, hi, hct, hlt, hlb, k⟩ := h
    rfl
  · obtain ⟨H0, p, A, W, g, v, st, st', ts, ls, bv, rfl, G, hv, hgo, hi, hct, hlt, hlb, k⟩ := h
    refine ⟨_, (pss_cons (ps_expr (pe_meth0 (pv 0) T.cl_Going T.M_Going_count G_Going_count (hr.mono (by decide)) T.b_Going_count .nil pass0))
      (pss_cons (ps_fldaug (pv 0) (pe_callB call_len_seq (by rfl) T.n_len (by decide +kernel) (pa_cons (pv 1) pa_nil)) in_add)
      (pss_cons (ps_expr (pe_bm PySem.F.plainAttrs_list PySem.F.slot_list_append PySem.F.type_list_append mt_append (pe_fld (pv 0) rfl) (pa_cons (pe_gr rfl T.m_OUT) pa_nil)))
      (pss_one (ps_for PassesOwn.never rfl (pi_tup (pv 1)) (pg_tup rfl (pgs_cons (pg_name (i := 2) sc_Going_put_in.nd rfl (Or.inl rfl)) (pgs_cons (pg_name (i := 3) sc_Going_put_in.nd rfl (Or.inl rfl)) pgs_nil))) (pss_cons (ps_expr (pe_bm PySem.F.plainAttrs_list PySem.F.slot_list_append PySem.F.type_list_append mt_append (pe_fld (pv 0) rfl) (pa_cons (pv 2) pa_nil)))
        (pss_one (ps_expr (pe_bm PySem.F.plainAttrs_list PySem.F.slot_list_append PySem.F.type_list_append mt_append (pe_fld (pv 0) rfl) (pa_cons (pv 3) pa_nil)))))))))), ?_⟩
    have hM := mil_lt
    cases hf : st.frames with
    | nil =>
      have : goS W st (.ins g) = none := by unfold goS; rw [hf]
      rw [this] at hgo; cases hgo
    | cons fr fs =>
      have hgo' : some (⟨st.cost + g.size, st.back ++ [Step.out], st.tags ++ g.flat.map (·.1), cnt fr.1 1 st.counts ++ g.flat.map (·.2), fr :: fs⟩ : GoSt) = some st' := by rw [← hgo]; unfold goS; rw [hf]
      cases (Option.some.inj hgo')
      refine ⟨_, rfl, p, _, _, rfl, G.ob, rfl, H0, p, A, W, st, ts, ls, bv, fr, fs, rfl, G, hf, fun i h => hi fr (by rw [hf]; exact List.mem_cons_self) i h, fun H1 G1 => ?_⟩
      obtain ⟨a, xs, rfl, ha, hxl, hget⟩ := row_at (dp_same G1.s0 hv)
      rw [flat_len] at hxl
      refine ⟨_, rfl, p, T.c_Going, _, _, _, rfl, G1.ob, T.cl_Going, T.na_Going_cost, rfl, _, rfl, a, xs, rfl, .inr ha, _, _, rfl, rfl, _, _, G1.ob, by show 8 < 1000; decide, ?_⟩
      dsimp only
      rw [gfs_cost A st.cost (st.cost + g.size) (by rw [hxl]; omega)]
      have G2 := G1.setCost (st.cost + g.size)
      refine ⟨_, rfl, p, T.c_Going, _, _, _, rfl, G2.ob, T.cl_Going, T.na_Going_back, rfl, .inl ⟨rfl, _, SqL.of G2.back⟩, A.gb, _, _, rfl, rfl, G2.back, by omega, ?_⟩
      have G3 := G2.addBack (v := .ref T.a_OUT) (s := .out) (d_out T)
      dsimp only at G3
      generalize (upd (upd H1 p (HO.ins T.c_Going A.dx (gfs A (st.cost + g.size)))) A.gb (.lst (bv ++ [V.ref T.a_OUT]))) = H3 at *
      obtain ⟨a', xs', e1, q1, q2, q3⟩ := row_at hv
      cases e1
      rw [flat_len] at q2
      refine ⟨_, rfl, a, rfl, ⟨xs', sm_st G3.s0 q1⟩, ?_⟩
      refine for_it (walk_tup (xs := xs')) (fun i σ' H' => ∃ x2 x3, σ' = [some (.ref p), some (.ref a), x2, x3] ∧ GoIn T H0 H' p A W ⟨st.cost + g.size, st.back ++ [.out], st.tags ++ (g.flat.take i).map (·.1), cnt fr.1 1 st.counts ++ (g.flat.take i).map (·.2), fr :: fs⟩ ts ls (bv ++ [V.ref T.a_OUT])) ⟨none, none, rfl, ?_⟩ (fun _ _ _ _ q => by obtain ⟨_, _, _, q⟩ := q; exact sm_st q.s0 q1) ?_ ?_
      · rw [List.take_zero, List.map_nil, List.map_nil, List.append_nil, List.append_nil, ← hf]; exact G3
      · rintro i y σ' H4 H5 hi ⟨x2, x3, rfl, G4⟩ ⟨rfl, hy⟩
        obtain ⟨n, hn⟩ : ∃ n, g.flat[i]? = some n := ⟨_, List.getElem?_eq_getElem (by rw [flat_len]; omega)⟩
        obtain ⟨q, hq1, hq⟩ := q3 i n hn
        rw [hy] at hq1; cases hq1
        have hgl := flat_len g
        refine ⟨q, _, rfl, sm_st G4.s0 hq, rfl, _, _, rfl, _, _, rfl, rfl, ?_⟩
        refine ⟨_, rfl, p, T.c_Going, _, _, _, rfl, G4.ob, T.cl_Going, T.na_Going_tags, rfl, .inl ⟨rfl, _, SqL.of G4.tags⟩, _, rfl, A.gt, _, _, rfl, rfl, G4.tags, ?_, ?_⟩
        · rw [List.length_map, List.length_append, List.length_map, List.length_take]; omega
        rw [strs_app]
        have G5 := G4.setTags ((st.tags ++ (g.flat.take i).map (·.1)) ++ [n.1])
        dsimp only at G5
        refine ⟨_, rfl, p, T.c_Going, _, _, _, rfl, G5.ob, T.cl_Going, T.na_Going_counts, rfl, .inl ⟨rfl, _, SqL.of G5.counts⟩, _, rfl, A.gc, _, _, rfl, rfl, G5.counts, ?_, ?_⟩
        · rw [iv_len, List.length_append, cnt_len, List.length_map, List.length_take]; omega
        rw [iv_snoc]
        have G6 := G5.setCounts ((cnt fr.1 1 st.counts ++ (g.flat.take i).map (·.2)) ++ [n.2])
        dsimp only at G6
        refine ⟨_, _, rfl, ?_⟩
        have eT : st.tags ++ (g.flat.take (i + 1)).map (fun n : Nd => n.1) = (st.tags ++ (g.flat.take i).map (fun n : Nd => n.1)) ++ [n.1] := by rw [take_one hn, List.map_append, List.append_assoc]; rfl
        have eC : cnt fr.1 1 st.counts ++ (g.flat.take (i + 1)).map (fun n : Nd => n.2) = (cnt fr.1 1 st.counts ++ (g.flat.take i).map (fun n : Nd => n.2)) ++ [n.2] := by rw [take_one hn, List.map_append, List.append_assoc]; rfl
        rw [eT, eC]
        exact G6
      · rintro σ' H4 ⟨x2, x3, rfl, G4⟩
        rw [q2, List.take_of_length_le (by rw [flat_len]; exact Nat.le_refl _)] at G4
        exact k H4 (bv ++ [V.ref T.a_OUT]) (by rw [List.length_append]; rfl) G4

end Pp

set_option Elab.async false
set_option linter.all false
set_option autoImplicit false
set_option maxRecDepth 100000
set_option maxHeartbeats 4000000
namespace Pp
open PySem PySem.Spec L2
variable {P : Program} {w : World} {K : PySem.W.Frag} {mg : Str → Option Value} {base : Heap}
/-! ### t[::-1], a tuple -/
section
open PyProof.Rows HT
variable {prog : Program} {A : Around} {E : Value → Shared → Prop} {s : Shared}
theorem adjust_rev (n : Nat) : Builtin.Slice.sliceAdjust none none (-1) (n : Int) = ((n : Int) - 1, -1) := by
  unfold Builtin.Slice.sliceAdjust
  rfl
theorem places_rev (n : Nat) : Builtin.Slice.slicePlaces ((n : Int) - 1) (-1) (-1) = n := by
  unfold Builtin.Slice.slicePlaces
  rw [if_neg (by decide)]
  by_cases h : (n : Int) - 1 > -1
  · rw [if_pos h, show (- -1 : Int) = 1 by decide, Int.ediv_one]; omega
  · rw [if_neg h]; omega
theorem sliceApplied_rev {sl : Addr} {vl vu vk : Value} {n : Nat} {Q : Int × Int × Nat → Shared → Prop} (hs : s.heap.IsSliceOf sl vl vu vk) (pl : IsPart vl none) (pu : IsPart vu none) (pk : IsPart vk (some (-1)))
    (h : Q ((n : Int) - 1, -1, n) s) : wpAny (model prog w) A (Builtin.Slice.sliceApplied (.ref sl) (pure (n : Int))) Q E s := by
  obtain ⟨os, hos, hcs, hds⟩ := id hs
  unfold Builtin.Slice.sliceApplied Builtin.Slice.sliceFields
  refine wpAny_bind (wpAny_bind (wpAny_field hos hds (x := vl) rfl (wpAny_bind (wpAny_field hos hds (x := vu) rfl (wpAny_bind (wpAny_field hos hds (x := vk) rfl (wpAny_pure ?_)))))))
  refine wpAny_bind (slicePart_ pk ?_)
  show wpAny _ _ (if ((-1 : Int) == 0) = true then _ else _) _ _ s
  rw [if_neg (by decide)]
  refine wpAny_bind (slicePart_ pl (wpAny_bind (slicePart_ pu (wpAny_bind (wpAny_pure ?_)))))
  show wpAny _ _ (match Builtin.Slice.sliceAdjust none none (-1) (n : Int) with | (lo, hi) => pure (lo, (-1 : Int), Builtin.Slice.slicePlaces lo hi (-1))) _ _ s
  rw [adjust_rev n]
  show wpAny _ _ (pure ((n : Int) - 1, (-1 : Int), Builtin.Slice.slicePlaces ((n : Int) - 1) (-1) (-1))) _ _ s
  rw [places_rev]
  exact wpAny_pure h
theorem pick_rev (xs : Array Value) : ((List.range xs.size).filterMap fun (m : Nat) => xs[(((xs.size : Int) - 1) + (m : Int) * -1).toNat]?).toArray = xs.toList.reverse.toArray := by
  have e : (fun (m : Nat) => xs[(((xs.size : Int) - 1) + (m : Int) * -1).toNat]?) = (fun k => xs[k]?) ∘ fun m => xs.size - 1 - m := by
    funext m
    have : (((xs.size : Int) - 1) + (m : Int) * -1).toNat = xs.size - 1 - m := by omega
    rw [this]; rfl
  rw [e, ← List.filterMap_map, PySem.W.krv_range, List.filterMap_reverse, PySem.W.krv_all]
theorem getItem_tuple_rev {t sl : Addr} {items : Array Value} {vl vu vk : Value} {Q : Value → Shared → Prop} (ht : IsTup s.heap t items) (hs : s.heap.IsSliceOf sl vl vu vk) (pl : IsPart vl none) (pu : IsPart vu none) (pk : IsPart vk (some (-1)))
    (h : Q (.ref s.heap.objs.size) { s with heap := s.heap.push { cls := .type "tuple", data := .seq items.toList.reverse.toArray } })
    (hsz : items.size ≤ sizeLine) : wpAny (model prog w) A (getItem (.ref t) (.ref sl)) Q E s := by
  have htake : sizeOk (.seq items.toList.reverse.toArray) := by
    show items.toList.reverse.toArray.size ≤ sizeLine
    rw [List.size_toArray, List.length_reverse, Array.length_toList]
    exact hsz
  obtain ⟨os, hos, hcs, hds⟩ := id hs
  have hTs : s.TypeIs (.ref sl) "slice" := ⟨os, hos, hcs⟩
  unfold getItem
  try with_reducible refine wpAny_holding ?_
  first | refine wpAny_bind (wpAny_pure ?_) | skip
  refine wpAny_bind (wpAny_sequenceKey ht.typeIs (by decide) ?_)
  refine wpAny_bind (wpAny_callSpecial?_slot (name := Str.ofString "__getitem__") ht.typeIs PyProof.Rows.slot_tuple_getitem
    (wpAny_call_entry PyProof.Rows.slot_tuple_getitem ht.typeIs entry_tuple_getitem ?_ (args_tuple_getitem _ _)))
  show wpAny _ _ (Builtin.Tuple.tupleItemsOf (.ref t) >>= _) _ _ s
  refine wpAny_bind (tupleItemsOf_ ht ?_)
  refine wpAny_bind (wpAny_typeOf hTs ?_)
  rw [if_pos (by decide)]
  refine wpAny_bind (sliceApplied_rev hs pl pu pk ?_)
  show wpAny _ _ (if ((((items.size : Int) - 1) == 0) && ((-1 : Int) == 1) && (items.size == items.size)) = true then _ else _) _ _ s
  rw [if_neg (by simp), pick_rev]
  first
    | exact wpAny_bind (m := Builtin.Tuple.tupleExact _) (wpAny_newObj_type (wpAny_pure ⟨_, rfl, wpAny_pure h⟩) htake)
    | exact wpAny_bind (m := Builtin.Tuple.tupleExact _) (wpAny_newObj_type (wpAny_bind (wpAny_pure (wpAny_pure ⟨_, rfl, wpAny_pure h⟩))) htake)
    | exact wpAny_bind (wpAny_bind (m := Builtin.Tuple.tupleExact _) (wpAny_newObj_type (wpAny_pure (wpAny_pure ⟨_, rfl, wpAny_pure h⟩)) htake))
    | exact wpAny_bind (wpAny_bind (m := Builtin.Tuple.tupleExact _) (wpAny_newObj_type (wpAny_pure ⟨_, rfl, wpAny_pure h⟩) htake))
end
def tRevT (K : PySem.W.Frag) (te : TE) : TE := fun σ H Q => te σ H fun x H1 => ∃ a xs, x = .ref a ∧ SqT K H1 a xs ∧ ∀ p, H1 p = none → Q (.ref p) (upd H1 p (.tup xs.reverse))
section
open PyProof.Rows
theorem pe_revT {X : Cx} {e : Expr} {te : TE} {k : Nat} {p1 p2 p3 pos : Pos} (he : PE X e te) : PE X (.Subscript e (.Slice none none (some (.UnaryOp .USub (.Constant (.int 1) k p1) p2)) p3) pos) (tRevT X.K te) := by
  refine ⟨fun pins s σ H Q I h => ?_⟩
  refine Subscript_ (thn (he.run pins s σ H _ I h) fun v s1 ⟨x, H1, I1, r1, q1⟩ => ?_)
  obtain ⟨a, xs, ex, hx, q⟩ := q1
  subst ex
  cases r1
  have hst : PO X (some (.UnaryOp .USub (.Constant (.int 1) k p1) p2)) (tPart (tUn (rU fun i => .int (-i)) (tC (.int 1)))) := po_some (pe_un un_neg pe_int)
  refine wpAny_Slice (thn (po_none.run pins s1 σ H1 (fun o H2 => o = none ∧ H2 = H1) I1 ⟨rfl, rfl⟩) fun vl s2 ⟨l, H2, I2, pl, el, e2⟩ => ?_)
  subst el e2
  refine thn (po_none.run pins s2 σ H2 (fun o H3 => o = none ∧ H3 = H2) I2 ⟨rfl, rfl⟩) fun vu s3 ⟨u, H3, I3, pu, eu, e3⟩ => ?_
  subst eu e3
  refine thn (hst.run pins s3 σ H3 (fun o H4 => o = some (-1) ∧ H4 = H3) I3 ⟨1, rfl, -1, rfl, rfl, rfl⟩) fun vs s4 ⟨o, H4, I4, ps, eo, e4⟩ => ?_
  subst eo e4
  have I5 : Inv X pins σ H4 { s4 with heap := s4.heap.push { cls := .type "slice", data := .fields #[vl, vu, vs] } } := I4.kept (t' := s4.toks) fun b ob q => Heap.get?_push_of_some _ q
  obtain ⟨its, r, ht, hz⟩ := I5.tuple hx
  have hlen := r.length
  show wpAny (model X.prog X.w) X.A (subscriptTail e (.Slice none none (some (.UnaryOp .USub (.Constant (.int 1) k p1) p2)) p3) (.ref a) (.ref s4.heap.objs.size)) (EP X pins σ Q) X.xe { s4 with heap := s4.heap.push { cls := .type "slice", data := .fields #[vl, vu, vs] } }
  refine tail_any (ops := [.ref a, .ref s4.heap.objs.size]) ht.typeIs (PyProof.Rows.slot_tuple_getitem.lookup) ?_ (by with_unfolding_all rfl)
  refine getItem_tuple_rev ht (Heap.IsSliceOf.new _ vl vu vs) pl pu ps ?_ (by rw [List.size_toArray]; omega)
  refine ⟨.ref _, _, I5.laid (t' := s4.toks) (o := .tup xs.reverse) (fun b ob q => Heap.get?_push_of_some _ q) (Nat.le_refl _) ?_, rfl, q _ (I5.hok.fresh (Nat.le_refl _))⟩
  exact ⟨by rw [List.length_reverse]; exact hz, _, r.reverse, IsTup.new _ _⟩
end

end Pp

set_option Elab.async false
set_option linter.all false
set_option autoImplicit false
set_option maxRecDepth 100000
set_option maxHeartbeats 4000000
namespace Pp
open PySem PySem.Spec L2
variable {P : Program} {w : World} {K : PySem.W.Frag} {mg : Str → Option Value} {base : Heap}
/-! ### Going.keep -/
def sp_Going_keep (T : Txt K mg) : Sp := fun vs H Q _ => ∃ (H0 : Hp) (p : Addr) (A : GAd) (W : F) (u : V) (s : Step) (st st' : GoSt) (ts ls : List Addr) (bv : List V) (i : Option Nat) (x : Nat) (r : List Nat) (fs : List Fr), vs = [.ref p, .int (x : Nat), u] ∧ GoIn T H0 H p A W st ts ls bv ∧ Dp K H0 u (stD s) ∧
  st.frames = (i, r) :: fs ∧ goS W { st with frames := (i, x :: r) :: fs } s = some st' ∧ (isOut s || isTurn s) = true ∧ x < W.size ∧ W.good = true ∧ W.size < 100001 ∧ StIn s ∧
  (∀ n, i = some n → n < st.counts.length) ∧ st.counts.length = st.tags.length ∧ st.tags.length < 1000000 ∧ bv.length < 1000000 ∧ st.frames.length < 1000000 ∧
  ∀ H' bv' ts' ls', bv'.length = bv.length + 1 → GoIn T H0 H' p A W st' ts' ls' bv' → Q .non H'
theorem ok_Going_keep (T : Txt K mg) : FnOk P w K mg base CX0 5 T.a_Going_keep T.d_Going_keep P_Going_keep (sp_Going_keep T) := by
  have G_Going_count := ok_Going_count (P := P) (w := w) (base := base) T
  have G_tree_at := ok_tree_at (P := P) (w := w) (base := base) T
  refine T.F_Going_keep.ok sc_Going_keep (fun vs H Q E h => ?_) (fun cdv A outer s H vs Q E hr h => ?_)
  · obtain ⟨H0, p, A, W, u, s, st, st', ts, ls, bv, i, x, r, fs, rfl, G, hu, hf, hgo, hsk, hx, hg, hW, hs, hi, hct, hlt, hlb, hlf, k⟩ := h
    rfl
  · obtain ⟨H0, p, A, W, u, s, st, st', ts, ls, bv, i, x, r, fs, rfl, G, hu, hf, hgo, hsk, hx, hg, hW, hs, hi, hct, hlt, hlb, hlf, k⟩ := h
    refine ⟨_, (pss_cons (ps_set (i := 3) sc_Going_keep.nd rfl (Or.inl rfl) (pe_ix ix_tup (pe_ix ix_tup (pe_fld (pv 0) rfl) (pv 1) (fun _ _ => rfl)) pe_int (fun _ _ => rfl)))
      (pss_cons (ps_if (pt_cmpR (op_eqD hr.units) (pv 2) (pe_gr rfl T.m_OUT) (nomark _)) (pss_cons (ps_fldaug (pv 0) (pe_ix ix_list (pe_fld (pv 0) rfl) (pv 1) (fun _ _ => rfl)) in_add)
        (pss_cons (ps_expr (pe_bm PySem.F.plainAttrs_list PySem.F.slot_list_append PySem.F.type_list_append mt_append (pe_fld (pv 0) rfl) (pa_cons (pe_tup (pa_cons pe_str (pa_cons (pe_call G_tree_at (hr.mono (by decide)) (by rfl) T.m_tree_at T.F_tree_at.kp T.b_tree_at .nil pass0 (pa_cons (pe_fld (pv 0) rfl) (pa_cons (pv 1) pa_nil))) pa_nil))) pa_nil)))
        (pss_one ps_retN))) pss_nil)
      (pss_cons (ps_if (pt_cmpR (op_eqD hr.units) (pe_ix ix_tup (pv 2) pe_int (fun _ _ => rfl)) (pv 3) (nomark _)) (pss_one ps_never) pss_nil)
      (pss_cons (ps_expr (pe_meth0 (pv 0) T.cl_Going T.M_Going_count G_Going_count (hr.mono (by decide)) T.b_Going_count .nil pass0))
      (pss_cons (ps_fldaug (pv 0) (pe_ifExp (pt_cmpR op_isN (pe_ix ix_tup (pv 2) pe_int (fun _ _ => rfl)) pe_non (nomark _)) pe_int pe_int) in_add)
      (pss_cons (ps_expr (pe_bm PySem.F.plainAttrs_list PySem.F.slot_list_append PySem.F.type_list_append mt_append (pe_fld (pv 0) rfl) (pa_cons (pe_tup (pa_cons pe_str (pa_cons (pe_ifExp (pt_cmpR op_isN (pe_ix ix_tup (pv 2) pe_int (fun _ _ => rfl)) pe_non (nomark _)) pe_non (pv 3)) pa_nil))) pa_nil)))
      (pss_cons (ps_expr (pe_bm PySem.F.plainAttrs_list PySem.F.slot_list_append PySem.F.type_list_append mt_append (pe_fld (pv 0) rfl) (pa_cons (pe_tup (pa_cons (pe_callB call_len_seq (by rfl) T.n_len (by decide +kernel) (pa_cons (pe_fld (pv 0) rfl) pa_nil)) (pa_cons (pe_callTy call_list_of (by rfl) T.n_list (by decide +kernel) (pa_cons (pe_revT (pe_ix ix_list (pe_fld (pv 0) rfl) (pv 1) (fun _ _ => rfl))) pa_nil)) pa_nil))) pa_nil)))
      (pss_cons (ps_expr (pe_bm PySem.F.plainAttrs_list PySem.F.slot_list_append PySem.F.type_list_append mt_append (pe_fld (pv 0) rfl) (pa_cons (pe_ifExp (pt_cmpR op_isN (pe_ix ix_tup (pv 2) pe_int (fun _ _ => rfl)) pe_non (nomark _)) (pv 3) (pe_ix ix_tup (pv 2) pe_int (fun _ _ => rfl))) pa_nil)))
      (pss_one (ps_expr (pe_bm PySem.F.plainAttrs_list PySem.F.slot_list_append PySem.F.type_list_append mt_append (pe_fld (pv 0) rfl) (pa_cons pe_int pa_nil)))))))))))), ?_⟩
    have hM := mil_lt
    have hb := big_lt
    obtain ⟨⟨t, c⟩, hn⟩ : ∃ n, W.nodes[x]? = some n := ⟨_, List.getElem?_eq_getElem (by rw [nodes_len]; exact hx)⟩
    have hnn := nodeN_of hn
    obtain ⟨a, xs, hva, ha, hxl, hget⟩ := row_at G.row
    obtain ⟨q, hq1, hq⟩ := hget x (t, c.len) (by rw [flat_nodes, List.getElem?_map, hn]; rfl)
    refine ⟨_, rfl, p, T.c_Going, _, _, _, rfl, G.ob, T.cl_Going, T.na_Going_row, rfl, _, rfl, a, _, _, _, hva, rfl, ha, atI_nat hq1, q, _, 0, _, rfl, rfl, hq, atI_hd _ _, ?_⟩
    refine ⟨_, rfl, _, _, dp_same G.s0 hu, d_out T, Sh.ok (sh_st hs), Sh.ok sh_out, _, rfl, ?_⟩
    rw [eqv_out]
    cases s with
    | up => cases hsk
    | ins f => cases hsk
    | out =>
      have hgo' : some (⟨st.cost + szN W x, st.back ++ [.ins (sub1 (nodeN W x).1 (nodeN W x).2)], st.tags, st.counts, (i, r) :: fs⟩ : GoSt) = some st' := hgo
      cases (Option.some.inj hgo')
      have hsz : (iv (W.nodes.map szT))[x]? = some (.int (szN W x : Nat)) := iv_get (by rw [List.getElem?_map, hn]; unfold szN; rw [hnn]; rfl)
      refine ⟨_, rfl, p, T.c_Going, _, _, _, rfl, G.ob, T.cl_Going, T.na_Going_cost, rfl, _, rfl, p, T.c_Going, _, _, _, rfl, G.ob, T.cl_Going, T.na_Going_sizes, rfl, _, rfl, A.gs, _, _, _, rfl, rfl, SqL.of G.szs, atI_nat hsz, _, _, rfl, rfl, _, _, G.ob, by show 8 < 1000; decide, ?_⟩
      dsimp only
      rw [gfs_cost A st.cost (st.cost + szN W x) (by omega)]
      have G2 := G.setCost (st.cost + szN W x)
      refine ⟨_, rfl, p, T.c_Going, _, _, _, rfl, G2.ob, T.cl_Going, T.na_Going_back, rfl, .inl ⟨rfl, _, SqL.of G2.back⟩, ?_⟩
      refine ⟨_, rfl, p, T.c_Going, _, _, _, rfl, G2.ob, T.cl_Going, T.na_Going_row, rfl, _, rfl, A.va, W, x, t, c, rfl, G2.row, hn, ?_⟩
      intro tv H3 s3 d3
      have G3 := G2.same s3
      refine ⟨by show 2 ≤ sizeLine; omega, fun t1 ht1 => ?_⟩
      have u1 := sm_new ht1 (o := .tup [.str "in", tv])
      have G4 := G3.same u1
      refine ⟨A.gb, _, _, rfl, rfl, G4.back, by omega, ?_⟩
      have G5 := G4.addBack (v := .ref t1) (s := .ins (sub1 t c)) (.tup (SqT.of upd_same) (.cons (.str _) (.cons (dp_same u1 d3) .nil)))
      rw [hnn] at k
      have e : ({ st with cost := st.cost + szN W x, back := st.back ++ [Step.ins (sub1 t c)] } : GoSt) = ⟨st.cost + szN W x, st.back ++ [Step.ins (sub1 t c)], st.tags, st.counts, (i, r) :: fs⟩ := by rw [← hf]
      dsimp only at G5
      rw [hf] at G5
      exact k _ _ _ _ (by rw [List.length_append]; rfl) G5
    | turn o =>
      cases o with
      | none =>
        have hbb : PyData.eqv .none (.str t) = false := by simp [PyData.eqv]
        obtain ⟨b, w0, e0, hb0, hd0⟩ := dp_pair hu
        cases e0
        have e1 := dp_non hd0
        subst e1
        have hgo' : (if (none : Option Str) = some (nodeN W x).1 then none else
          some (⟨st.cost + (if (none : Option Str) = none then 0 else 1), st.back ++ [.turn ((none : Option Str).map fun _ => (nodeN W x).1)], st.tags ++ [(none : Option Str).getD (nodeN W x).1], cnt i 1 st.counts ++ [0], (some st.tags.length, kidsN W x) :: (i, r) :: fs⟩ : GoSt)) = some st' := hgo
        rw [hnn, if_neg (by intro z; cases z)] at hgo'
        have hst := Option.some.inj hgo'
        refine ⟨_, rfl, b, _, 1, _, rfl, rfl, sm_st G.s0 hb0, rfl, _, rfl, _, _, .non, .str t, Sh.ok (n := 0) sh_non, Sh.ok (n := 0) (sh_str (isName_ok (good_nodes W hg _ (List.mem_of_getElem? hn)).1)), _, rfl, ?_⟩
        rw [hbb]
        refine ⟨_, rfl, p, _, _, rfl, G.ob, rfl, H0, p, A, W, st, ts, ls, bv, (i, r), fs, rfl, G, hf, hi, fun H1 G1 => ?_⟩
        refine ⟨_, rfl, p, T.c_Going, _, _, _, rfl, G1.ob, T.cl_Going, T.na_Going_cost, rfl, _, rfl, b, _, 1, _, rfl, rfl, sm_st G1.s0 hb0, rfl, rfl, _, rfl, ?_⟩
        refine ⟨_, _, rfl, rfl, _, _, G1.ob, by show 8 < 1000; decide, ?_⟩
        dsimp only
        rw [gfs_cost A st.cost (st.cost + 0) (by omega)]
        have G2 := G1.setCost (st.cost + 0)
        dsimp only at G2
        refine ⟨_, rfl, p, T.c_Going, _, _, _, rfl, G2.ob, T.cl_Going, T.na_Going_back, rfl, .inl ⟨rfl, _, SqL.of G2.back⟩, ?_⟩
        refine ⟨_, rfl, b, _, 1, _, rfl, rfl, sm_st G2.s0 hb0, rfl, rfl, _, rfl, ?_⟩
        refine ⟨by show 2 ≤ sizeLine; omega, fun t1 ht1 => ?_⟩
        have u1 := sm_new ht1 (o := .tup [.str "turn", .non])
        have G3 := G2.same u1
        refine ⟨A.gb, _, _, rfl, rfl, G3.back, by omega, ?_⟩
        have G4 := G3.addBack (v := .ref t1) (s := .turn ((none : Option Str).map fun _ => t)) (.tup (SqT.of upd_same) (.cons (.str _) (.cons .non .nil)))
        dsimp only at G4
        refine ⟨_, rfl, p, T.c_Going, _, _, _, rfl, G4.ob, T.cl_Going, T.na_Going_frames, rfl, .inl ⟨rfl, _, SqL.of G4.frs⟩, ?_⟩
        refine ⟨_, rfl, p, T.c_Going, _, _, _, rfl, G4.ob, T.cl_Going, T.na_Going_tags, rfl, A.gt, _, rfl, .inl (SqL.of G4.tags), ?_⟩
        have hkg : (innerL W)[x]? = some (kidsN W x) := by
          unfold innerL kidsN
          rw [kidsFrom_get _ _ _ _ hn, hnn, Nat.zero_add]
        obtain ⟨kp, hk1, hk2⟩ := tups_get G4.ti hkg
        refine ⟨_, rfl, p, T.c_Going, _, _, _, rfl, G4.ob, T.cl_Going, T.na_Going_inner, rfl, _, rfl, A.gi, _, _, _, rfl, rfl, SqL.of G4.inn, atI_nat hk1, kp, _, rfl, hk2, fun p5 hp5 => ?_⟩
        have u5 := sm_new hp5 (o := .tup (iv (kidsN W x)).reverse)
        have G5 := G4.same u5
        refine ⟨p5, _, rfl, .inr (SqT.of upd_same), fun p6 hp6 => ?_⟩
        have u6 := sm_new hp6 (o := .lst (iv (kidsN W x)).reverse)
        have G6 := G5.same u6
        have n6 : p6 ∉ own A ls := fun z => by
          obtain ⟨ys, hy⟩ := G5.own_lst p6 z
          rw [hp6] at hy; cases hy
        have f6 : H0 p6 = none := G5.s0.free hp6
        refine ⟨by show 2 ≤ sizeLine; omega, fun t7 ht7 => ?_⟩
        have u7 := sm_new ht7 (o := .tup [.int ((st.tags.map V.str).length : Nat), .ref p6])
        have G7 := G6.same u7
        refine ⟨A.gf, _, _, rfl, rfl, G7.frs, by rw [List.length_reverse, List.length_map, (FrAt.len G7.fra).1]; exact Nat.lt_trans hlf hM, ?_⟩
        have G8 := G7.pushFr (t := t7) (l := p6) (fr := (some st.tags.length, kidsN W x)) (by
          show SqT K _ t7 [V.int (st.tags.length : Nat), V.ref p6]
          rw [← List.length_map (f := V.str) (as := st.tags)]
          exact SqT.of upd_same) (u7 _ _ (by rw [upd_same]; rw [iv_rev])) f6 n6
        dsimp only at G8
        refine ⟨_, rfl, p, T.c_Going, _, _, _, rfl, G8.ob, T.cl_Going, T.na_Going_tags, rfl, .inl ⟨rfl, _, SqL.of G8.tags⟩, ?_⟩
        refine ⟨_, rfl, b, _, 1, _, rfl, rfl, sm_st G8.s0 hb0, rfl, rfl, _, rfl, ?_⟩
        refine ⟨_, rfl, A.gt, _, _, rfl, rfl, G8.tags, by rw [List.length_map]; exact Nat.lt_trans hlt hM, ?_⟩
        rw [strs_app]
        have G9 := G8.setTags (st.tags ++ [t])
        dsimp only at G9
        refine ⟨_, rfl, p, T.c_Going, _, _, _, rfl, G9.ob, T.cl_Going, T.na_Going_counts, rfl, .inl ⟨rfl, _, SqL.of G9.counts⟩, ?_⟩
        refine ⟨A.gc, _, _, rfl, rfl, G9.counts, by rw [iv_len, cnt_len, hct]; exact Nat.lt_trans hlt hM, ?_⟩
        have e0 : iv (cnt i 1 st.counts) ++ [V.int 0] = iv (cnt i 1 st.counts ++ [0]) := iv_snoc _ 0
        dsimp only
        rw [e0]
        have G10 := G9.setCounts (cnt i 1 st.counts ++ [0])
        dsimp only at G10
        rw [hf] at G10
        refine k _ (bv ++ [.ref t1]) (t7 :: ts) (p6 :: ls) (by rw [List.length_append]; rfl) ?_
        rw [← hst]
        exact G10
      | some y =>
        have hyt : ¬ y = t := fun z => by
          have h2 : (if (some y) = some (nodeN W x).1 then none else _) = some st' := hgo
          rw [hnn, if_pos (by rw [z])] at h2
          cases h2
        have hbb : PyData.eqv (.str y) (.str t) = false := by simp [PyData.eqv, hyt]
        obtain ⟨b, w0, e0, hb0, hd0⟩ := dp_pair hu
        cases e0
        have e1 := dp_str hd0
        subst e1
        have hgo' : (if (some y) = some (nodeN W x).1 then none else
          some (⟨st.cost + (if (some y) = none then 0 else 1), st.back ++ [.turn ((some y).map fun _ => (nodeN W x).1)], st.tags ++ [(some y).getD (nodeN W x).1], cnt i 1 st.counts ++ [0], (some st.tags.length, kidsN W x) :: (i, r) :: fs⟩ : GoSt)) = some st' := hgo
        rw [hnn, if_neg (fun z => hyt (Option.some.inj z))] at hgo'
        have hst := Option.some.inj hgo'
        refine ⟨_, rfl, b, _, 1, _, rfl, rfl, sm_st G.s0 hb0, rfl, _, rfl, _, _, .str y, .str t, Sh.ok (n := 0) (sh_str hs.1), Sh.ok (n := 0) (sh_str (isName_ok (good_nodes W hg _ (List.mem_of_getElem? hn)).1)), _, rfl, ?_⟩
        rw [hbb]
        refine ⟨_, rfl, p, _, _, rfl, G.ob, rfl, H0, p, A, W, st, ts, ls, bv, (i, r), fs, rfl, G, hf, hi, fun H1 G1 => ?_⟩
        refine ⟨_, rfl, p, T.c_Going, _, _, _, rfl, G1.ob, T.cl_Going, T.na_Going_cost, rfl, _, rfl, b, _, 1, _, rfl, rfl, sm_st G1.s0 hb0, rfl, rfl, _, rfl, ?_⟩
        refine ⟨_, _, rfl, rfl, _, _, G1.ob, by show 8 < 1000; decide, ?_⟩
        dsimp only
        rw [gfs_cost A st.cost (st.cost + 1) (by omega)]
        have G2 := G1.setCost (st.cost + 1)
        dsimp only at G2
        refine ⟨_, rfl, p, T.c_Going, _, _, _, rfl, G2.ob, T.cl_Going, T.na_Going_back, rfl, .inl ⟨rfl, _, SqL.of G2.back⟩, ?_⟩
        refine ⟨_, rfl, b, _, 1, _, rfl, rfl, sm_st G2.s0 hb0, rfl, rfl, _, rfl, ?_⟩
        refine ⟨_, rfl, ?_⟩
        refine ⟨by show 2 ≤ sizeLine; omega, fun t1 ht1 => ?_⟩
        have u1 := sm_new ht1 (o := .tup [.str "turn", .str t])
        have G3 := G2.same u1
        refine ⟨A.gb, _, _, rfl, rfl, G3.back, by omega, ?_⟩
        have G4 := G3.addBack (v := .ref t1) (s := .turn ((some y).map fun _ => t)) (.tup (SqT.of upd_same) (.cons (.str _) (.cons (.str _) .nil)))
        dsimp only at G4
        refine ⟨_, rfl, p, T.c_Going, _, _, _, rfl, G4.ob, T.cl_Going, T.na_Going_frames, rfl, .inl ⟨rfl, _, SqL.of G4.frs⟩, ?_⟩
        refine ⟨_, rfl, p, T.c_Going, _, _, _, rfl, G4.ob, T.cl_Going, T.na_Going_tags, rfl, A.gt, _, rfl, .inl (SqL.of G4.tags), ?_⟩
        have hkg : (innerL W)[x]? = some (kidsN W x) := by
          unfold innerL kidsN
          rw [kidsFrom_get _ _ _ _ hn, hnn, Nat.zero_add]
        obtain ⟨kp, hk1, hk2⟩ := tups_get G4.ti hkg
        refine ⟨_, rfl, p, T.c_Going, _, _, _, rfl, G4.ob, T.cl_Going, T.na_Going_inner, rfl, _, rfl, A.gi, _, _, _, rfl, rfl, SqL.of G4.inn, atI_nat hk1, kp, _, rfl, hk2, fun p5 hp5 => ?_⟩
        have u5 := sm_new hp5 (o := .tup (iv (kidsN W x)).reverse)
        have G5 := G4.same u5
        refine ⟨p5, _, rfl, .inr (SqT.of upd_same), fun p6 hp6 => ?_⟩
        have u6 := sm_new hp6 (o := .lst (iv (kidsN W x)).reverse)
        have G6 := G5.same u6
        have n6 : p6 ∉ own A ls := fun z => by
          obtain ⟨ys, hy⟩ := G5.own_lst p6 z
          rw [hp6] at hy; cases hy
        have f6 : H0 p6 = none := G5.s0.free hp6
        refine ⟨by show 2 ≤ sizeLine; omega, fun t7 ht7 => ?_⟩
        have u7 := sm_new ht7 (o := .tup [.int ((st.tags.map V.str).length : Nat), .ref p6])
        have G7 := G6.same u7
        refine ⟨A.gf, _, _, rfl, rfl, G7.frs, by rw [List.length_reverse, List.length_map, (FrAt.len G7.fra).1]; exact Nat.lt_trans hlf hM, ?_⟩
        have G8 := G7.pushFr (t := t7) (l := p6) (fr := (some st.tags.length, kidsN W x)) (by
          show SqT K _ t7 [V.int (st.tags.length : Nat), V.ref p6]
          rw [← List.length_map (f := V.str) (as := st.tags)]
          exact SqT.of upd_same) (u7 _ _ (by rw [upd_same]; rw [iv_rev])) f6 n6
        dsimp only at G8
        refine ⟨_, rfl, p, T.c_Going, _, _, _, rfl, G8.ob, T.cl_Going, T.na_Going_tags, rfl, .inl ⟨rfl, _, SqL.of G8.tags⟩, ?_⟩
        refine ⟨_, rfl, b, _, 1, _, rfl, rfl, sm_st G8.s0 hb0, rfl, rfl, _, rfl, ?_⟩
        refine ⟨_, rfl, b, _, 1, _, rfl, rfl, sm_st G8.s0 hb0, rfl, A.gt, _, _, rfl, rfl, G8.tags, by rw [List.length_map]; exact Nat.lt_trans hlt hM, ?_⟩
        rw [strs_app]
        have G9 := G8.setTags (st.tags ++ [y])
        dsimp only at G9
        refine ⟨_, rfl, p, T.c_Going, _, _, _, rfl, G9.ob, T.cl_Going, T.na_Going_counts, rfl, .inl ⟨rfl, _, SqL.of G9.counts⟩, ?_⟩
        refine ⟨A.gc, _, _, rfl, rfl, G9.counts, by rw [iv_len, cnt_len, hct]; exact Nat.lt_trans hlt hM, ?_⟩
        have e0 : iv (cnt i 1 st.counts) ++ [V.int 0] = iv (cnt i 1 st.counts ++ [0]) := iv_snoc _ 0
        dsimp only
        rw [e0]
        have G10 := G9.setCounts (cnt i 1 st.counts ++ [0])
        dsimp only at G10
        rw [hf] at G10
        refine k _ (bv ++ [.ref t1]) (t7 :: ts) (p6 :: ls) (by rw [List.length_append]; rfl) ?_
        rw [← hst]
        exact G10

end Pp

set_option Elab.async false
set_option linter.all false
set_option autoImplicit false
set_option maxRecDepth 100000
set_option maxHeartbeats 4000000
namespace Pp
open PySem PySem.Spec L2
variable {P : Program} {w : World} {K : PySem.W.Frag} {mg : Str → Option Value} {base : Heap}
/-! ### Going.go -/
def wS : Step → Nat
  | .ins g => g.size
  | .turn _ => 1
  | _ => 0
structure GB (W : F) (st : GoSt) : Prop where
  cl : st.counts.length = st.tags.length
  ix : ∀ fr ∈ st.frames, ∀ i, fr.1 = some i → i < st.counts.length
  nd : ∀ fr ∈ st.frames, ∀ x ∈ fr.2, x < W.size
def sp_Going_go (T : Txt K mg) : Sp := fun vs H Q _ => ∃ (H0 : Hp) (p : Addr) (A : GAd) (W : F) (u : V) (s : Step) (st st' : GoSt) (ts ls : List Addr) (bv : List V), vs = [.ref p, u] ∧ GoIn T H0 H p A W st ts ls bv ∧ Dp K H0 u (stD s) ∧
  goS W st s = some st' ∧ W.good = true ∧ W.size < 100001 ∧ StIn s ∧ GB W st ∧ st.tags.length + wS s < 1000000 ∧ bv.length < 1000000 ∧ st.frames.length < 1000000 ∧
  ∀ H' bv' ts' ls', bv'.length = bv.length + 1 → GoIn T H0 H' p A W st' ts' ls' bv' → Q .non H'
theorem ok_Going_go (T : Txt K mg) : FnOk P w K mg base CX0 6 T.a_Going_go T.d_Going_go P_Going_go (sp_Going_go T) := by
  have G_Going_keep := ok_Going_keep (P := P) (w := w) (base := base) T
  have G_Going_put_in := ok_Going_put_in (P := P) (w := w) (base := base) T
  refine T.F_Going_go.ok sc_Going_go (fun vs H Q E h => ?_) (fun cdv A outer s H vs Q E hr h => ?_)
  · obtain ⟨H0, p, A, W, u, s, st, st', ts, ls, bv, rfl, G, hu, hgo, hg, hW, hs, B, hlt, hlb, hlf, k⟩ := h
    rfl
  · obtain ⟨H0, p, A, W, u, s, st, st', ts, ls, bv, rfl, G, hu, hgo, hg, hW, hs, B, hlt, hlb, hlf, k⟩ := h
    refine ⟨_, (pss_one (ps_if (pt_cmpR op_eq (pe_ix ix_tup (pv 1) pe_int (fun _ _ => rfl)) pe_str (nomark _)) (pss_one (ps_expr (pe_meth (pv 0) T.cl_Going T.M_Going_put_in G_Going_put_in (hr.mono (by decide)) T.b_Going_put_in .nil pass0 (pa_cons (pe_ix ix_tup (pv 1) pe_int (fun _ _ => rfl)) pa_nil)))) (pss_one (ps_if (pt_cmpR (op_eqD hr.units) (pv 1) (pe_gr rfl T.m_UP) (nomark _)) (pss_cons (ps_if (PW.pt (pw_or (pt_cmpR op_eq (pe_callB call_len_seq (by rfl) T.n_len (by decide +kernel) (pa_cons (pe_fld (pv 0) rfl) pa_nil)) pe_int (nomark _)) (pw_or1 (pt_cmpR (op_neD hr.units) (pe_ix ix_tup (pe_bm0 PySem.F.plainAttrs_list PySem.F.slot_list_pop PySem.F.type_list_pop mt_pop (pe_fld (pv 0) rfl)) pe_int (fun _ _ => rfl)) (pe_lst pa_nil) (nomark _))))) (pss_one ps_never) pss_nil)
          (pss_one (ps_expr (pe_bm PySem.F.plainAttrs_list PySem.F.slot_list_append PySem.F.type_list_append mt_append (pe_fld (pv 0) rfl) (pa_cons (pe_gr rfl T.m_UP) pa_nil))))) (pss_cons (ps_if (pt_cmpR (op_eqD hr.units) (pe_ix ix_tup (pe_ix ix_list (pe_fld (pv 0) rfl) (pe_un un_neg pe_int) (fun _ _ => rfl)) pe_int (fun _ _ => rfl)) (pe_lst pa_nil) (nomark _)) (pss_one ps_never) pss_nil)
          (pss_one (ps_expr (pe_meth (pv 0) T.cl_Going T.M_Going_keep G_Going_keep (hr.mono (by decide)) T.b_Going_keep .nil pass0 (pa_cons (pe_bm0 PySem.F.plainAttrs_list PySem.F.slot_list_pop PySem.F.type_list_pop mt_pop (pe_ix ix_tup (pe_ix ix_list (pe_fld (pv 0) rfl) (pe_un un_neg pe_int) (fun _ _ => rfl)) pe_int (fun _ _ => rfl))) (pa_cons (pv 1) pa_nil)))))))))), ?_⟩
    have hM := mil_lt
    have hvs := dp_same G.s0 hu
    obtain ⟨b, w0, e0, hb⟩ := st_word hvs
    have hu' := hu
    rw [e0] at hu' hvs
    subst e0
    refine ⟨_, rfl, b, _, 0, _, rfl, rfl, hb, atI_hd _ _, rfl, _, rfl, ?_⟩
    rw [word_in]
    have shs := sh_st hs
    cases hf : st.frames with
    | nil =>
      exfalso
      cases s <;> (unfold goS at hgo; rw [hf] at hgo; cases hgo)
    | cons fr fs =>
    have fa : FrAt K H ts ls (fr :: fs) := hf ▸ G.fra
    obtain ⟨t, ts', l, ls', rfl, rfl, h1, h2, h3⟩ := fa.cons
    have hfr := G.frs
    rw [rev_last] at hfr
    obtain ⟨i, rm⟩ := fr
    cases s with
    | ins g =>
      obtain ⟨b', u, e1, hb1, hd1⟩ := dp_pair hu
      cases e1
      refine ⟨_, rfl, p, _, _, rfl, G.ob, rfl, _, rfl, b, _, 1, _, rfl, rfl, sm_st G.s0 hb1, rfl, ?_⟩
      exact ⟨H0, p, A, W, g, u, st, st', t :: ts', l :: ls', bv, rfl, G, hd1, hgo, B.ix, B.cl, hlt, hlb, fun H' bv' hb' G' => k H' bv' _ _ hb' G'⟩
    | up =>
      refine ⟨_, rfl, _, _, hvs, d_up T, Sh.ok shs, Sh.ok sh_up, _, rfl, ?_⟩
      rw [eqv_up]
      have hgo' : (match (i, rm) :: fs with
        | (_, []) :: fr :: fs => some (⟨st.cost, st.back ++ [.up], st.tags, st.counts, fr :: fs⟩ : GoSt)
        | _ => none) = some st' := by rw [← hgo]; unfold goS; rw [hf]; rfl
      cases rm with
      | cons x r => cases hgo'
      | nil =>
      cases fs with
      | nil => cases hgo'
      | cons fr2 fs =>
        have hst := Option.some.inj hgo'
        refine ⟨_, rfl, p, T.c_Going, _, _, _, rfl, G.ob, T.cl_Going, T.na_Going_frames, rfl, A.gf, _, rfl, .inl (SqL.of hfr), rfl, _, rfl, ?_⟩
        have hne : (((List.map V.ref ts').reverse ++ [V.ref t]).length : Int) ≠ 1 := by
          have := (FrAt.len h3).1
          rw [List.length_append, List.length_reverse, List.length_map, this, List.length_cons, List.length_singleton]; omega
        rw [decide_eq_false (fun z => hne (V.int.inj z))]
        have hlast : ((List.map V.ref ts').reverse ++ [V.ref t])[((List.map V.ref ts').reverse ++ [V.ref t]).length - 1]? = some (V.ref t) := by
          rw [List.length_append, List.length_singleton, Nat.add_sub_cancel, List.getElem?_append_right (Nat.le_refl _), Nat.sub_self]; rfl
        refine ⟨_, rfl, p, T.c_Going, _, _, _, rfl, G.ob, T.cl_Going, T.na_Going_frames, rfl, .inl ⟨rfl, _, SqL.of hfr⟩, A.gf, _, _, rfl, rfl, hfr, hlast, ?_⟩
        rw [List.dropLast_concat]
        have G2 := G.popFr hf
        have nlf : l ≠ A.gf := fun z => (own_ne G.nd).2.2.2.2.2.1 (by rw [z]; exact List.mem_cons_self)
        have hl2 : upd H A.gf (.lst (List.map V.ref ts').reverse) l = some (.lst (iv ([] : List Nat).reverse)) := (upd_ne nlf).trans h2
        refine ⟨t, _, 1, _, rfl, rfl, (Kp.lst hfr).st h1, atI_nat (j := 1) rfl, Nat.zero_le _, fun p2 hp2 => ?_⟩
        have u2 := sm_new hp2 (o := .lst [])
        have G3 := G2.same u2
        refine ⟨_, _, .lst (SqL.of (u2 _ _ hl2)) (dpa_iv _), .lst (SqL.of upd_same) .nil, Sh.ok (sh_idl _), Sh.ok sh_nil, _, rfl, ?_⟩
        rw [eqv_lnil]
        refine ⟨_, rfl, p, T.c_Going, _, _, _, rfl, G3.ob, T.cl_Going, T.na_Going_back, rfl, .inl ⟨rfl, _, SqL.of G3.back⟩, A.gb, _, _, rfl, rfl, G3.back, by omega, ?_⟩
        have G4 := G3.addBack (v := .ref T.a_UP) (s := .up) (d_up T)
        refine k _ (bv ++ [.ref T.a_UP]) ts' ls' (by rw [List.length_append]; rfl) ?_
        rw [← hst]
        exact G4
    | out =>
      refine ⟨_, rfl, _, _, hvs, d_up T, Sh.ok shs, Sh.ok sh_up, _, rfl, ?_⟩
      rw [eqv_up]
      cases rm with
      | nil => exfalso; unfold goS at hgo; rw [hf] at hgo; cases hgo
      | cons x r =>
      have hfr2 := hfr
      refine ⟨_, rfl, p, T.c_Going, _, _, _, rfl, G.ob, T.cl_Going, T.na_Going_frames, rfl, 1, rfl, A.gf, _, _, _, rfl, rfl, SqL.of hfr, atI_last _ _, t, _, 1, _, rfl, rfl, h1, atI_nat (j := 1) rfl, Nat.zero_le _, fun p2 hp2 => ?_⟩
      have u2 := sm_new hp2 (o := .lst [])
      have G3 := G.same u2
      refine ⟨_, _, .lst (SqL.of (u2 _ _ h2)) (dpa_iv _), .lst (SqL.of upd_same) .nil, Sh.ok (sh_idl _), Sh.ok sh_nil, _, rfl, ?_⟩
      rw [eqv_lnil, idt_empty, show (x :: r).reverse.isEmpty = false by simp]
      refine ⟨_, rfl, p, _, _, rfl, G3.ob, rfl, ?_⟩
      have hl3 := u2 _ _ h2
      have ee : iv (x :: r).reverse = iv r.reverse ++ [V.int (x : Nat)] := by rw [List.reverse_cons, iv_app]; rfl
      rw [ee] at hl3
      have hlast : (iv r.reverse ++ [V.int (x : Nat)])[(iv r.reverse ++ [V.int (x : Nat)]).length - 1]? = some (V.int (x : Nat)) := by
        rw [List.length_append, List.length_singleton, Nat.add_sub_cancel, List.getElem?_append_right (Nat.le_refl _), Nat.sub_self]; rfl
      refine ⟨_, rfl, p, T.c_Going, _, _, _, rfl, G3.ob, T.cl_Going, T.na_Going_frames, rfl, 1, rfl, A.gf, _, _, _, rfl, rfl, SqL.of (u2 _ _ hfr), atI_last _ _, t, _, 1, _, rfl, rfl, sm_st u2 h1, atI_nat (j := 1) rfl, .inl ⟨rfl, _, SqL.of hl3⟩, l, _, _, rfl, rfl, hl3, hlast, ?_⟩
      rw [List.dropLast_concat]
      have G4 := G3.popNode hf
      refine ⟨_, rfl, ?_⟩
      have hxW := B.nd (i, x :: r) (by rw [hf]; exact List.mem_cons_self) x List.mem_cons_self
      refine ⟨H0, p, A, W, _, _, _, st', t :: ts', l :: ls', bv, i, x, r, fs, rfl, G4, hu', rfl, ?_, rfl, hxW, hg, hW, hs, fun n hn => B.ix (i, x :: r) (by rw [hf]; exact List.mem_cons_self) n hn, B.cl, by show st.tags.length < _; omega, hlb, by show (fs.length + 1) < _; rw [hf] at hlf; exact hlf, k⟩
      rw [← hgo]
      unfold goS
      rw [hf]
    | turn o =>
      refine ⟨_, rfl, _, _, hvs, d_up T, Sh.ok shs, Sh.ok sh_up, _, rfl, ?_⟩
      rw [eqv_up]
      cases rm with
      | nil => exfalso; unfold goS at hgo; rw [hf] at hgo; cases hgo
      | cons x r =>
      have hfr2 := hfr
      refine ⟨_, rfl, p, T.c_Going, _, _, _, rfl, G.ob, T.cl_Going, T.na_Going_frames, rfl, 1, rfl, A.gf, _, _, _, rfl, rfl, SqL.of hfr, atI_last _ _, t, _, 1, _, rfl, rfl, h1, atI_nat (j := 1) rfl, Nat.zero_le _, fun p2 hp2 => ?_⟩
      have u2 := sm_new hp2 (o := .lst [])
      have G3 := G.same u2
      refine ⟨_, _, .lst (SqL.of (u2 _ _ h2)) (dpa_iv _), .lst (SqL.of upd_same) .nil, Sh.ok (sh_idl _), Sh.ok sh_nil, _, rfl, ?_⟩
      rw [eqv_lnil, idt_empty, show (x :: r).reverse.isEmpty = false by simp]
      refine ⟨_, rfl, p, _, _, rfl, G3.ob, rfl, ?_⟩
      have hl3 := u2 _ _ h2
      have ee : iv (x :: r).reverse = iv r.reverse ++ [V.int (x : Nat)] := by rw [List.reverse_cons, iv_app]; rfl
      rw [ee] at hl3
      have hlast : (iv r.reverse ++ [V.int (x : Nat)])[(iv r.reverse ++ [V.int (x : Nat)]).length - 1]? = some (V.int (x : Nat)) := by
        rw [List.length_append, List.length_singleton, Nat.add_sub_cancel, List.getElem?_append_right (Nat.le_refl _), Nat.sub_self]; rfl
      refine ⟨_, rfl, p, T.c_Going, _, _, _, rfl, G3.ob, T.cl_Going, T.na_Going_frames, rfl, 1, rfl, A.gf, _, _, _, rfl, rfl, SqL.of (u2 _ _ hfr), atI_last _ _, t, _, 1, _, rfl, rfl, sm_st u2 h1, atI_nat (j := 1) rfl, .inl ⟨rfl, _, SqL.of hl3⟩, l, _, _, rfl, rfl, hl3, hlast, ?_⟩
      rw [List.dropLast_concat]
      have G4 := G3.popNode hf
      refine ⟨_, rfl, ?_⟩
      have hxW := B.nd (i, x :: r) (by rw [hf]; exact List.mem_cons_self) x List.mem_cons_self
      refine ⟨H0, p, A, W, _, _, _, st', t :: ts', l :: ls', bv, i, x, r, fs, rfl, G4, hu', rfl, ?_, rfl, hxW, hg, hW, hs, fun n hn => B.ix (i, x :: r) (by rw [hf]; exact List.mem_cons_self) n hn, B.cl, by show st.tags.length < _; omega, hlb, by show (fs.length + 1) < _; rw [hf] at hlf; exact hlf, k⟩
      rw [← hgo]
      unfold goS
      rw [hf]

end Pp

set_option Elab.async false
set_option linter.all false
set_option autoImplicit false
set_option maxRecDepth 100000
set_option maxHeartbeats 4000000
namespace Pp
open PySem PySem.Spec L2
variable {P : Program} {w : World} {K : PySem.W.Frag} {mg : Str → Option Value} {base : Heap}
/-! ### Going.__init__ -/
theorem goS_tags {W : F} {st st' : GoSt} {s : Step} (h : goS W st s = some st') : st'.tags.length = st.tags.length + wS s ∧ st'.frames.length ≤ st.frames.length + 1 := by
  cases s with
  | ins g =>
    cases hf : st.frames with
    | nil => unfold goS at h; rw [hf] at h; cases h
    | cons fr fs =>
      unfold goS at h; rw [hf] at h
      cases (Option.some.inj h)
      refine ⟨?_, Nat.le_succ _⟩
      show (st.tags ++ g.flat.map (·.1)).length = st.tags.length + g.size
      rw [List.length_append, List.length_map, flat_len]
  | up =>
    cases hf : st.frames with
    | nil => unfold goS at h; rw [hf] at h; cases h
    | cons fr fs =>
      obtain ⟨i, rm⟩ := fr
      cases rm with
      | cons x r => unfold goS at h; rw [hf] at h; cases h
      | nil =>
        cases fs with
        | nil => unfold goS at h; rw [hf] at h; cases h
        | cons fr2 fs =>
          unfold goS at h; rw [hf] at h
          cases (Option.some.inj h)
          exact ⟨rfl, by show fs.length + 1 ≤ fs.length + 1 + 1 + 1; omega⟩
  | out =>
    cases hf : st.frames with
    | nil => unfold goS at h; rw [hf] at h; cases h
    | cons fr fs =>
      obtain ⟨i, rm⟩ := fr
      cases rm with
      | nil => unfold goS at h; rw [hf] at h; cases h
      | cons x r =>
        unfold goS at h; rw [hf] at h
        cases (Option.some.inj h)
        exact ⟨rfl, by show fs.length + 1 ≤ fs.length + 1 + 1; omega⟩
  | turn o =>
    cases hf : st.frames with
    | nil => unfold goS at h; rw [hf] at h; cases h
    | cons fr fs =>
      obtain ⟨i, rm⟩ := fr
      cases rm with
      | nil => unfold goS at h; rw [hf] at h; cases h
      | cons x r =>
        unfold goS at h; rw [hf] at h
        have h' : (if o = some (nodeN W x).1 then none else
          some (⟨st.cost + (if o = none then 0 else 1), st.back ++ [.turn (o.map fun _ => (nodeN W x).1)], st.tags ++ [o.getD (nodeN W x).1], cnt i 1 st.counts ++ [0], (some st.tags.length, kidsN W x) :: (i, r) :: fs⟩ : GoSt)) = some st' := h
        by_cases ho : o = some (nodeN W x).1
        · rw [if_pos ho] at h'; cases h'
        rw [if_neg ho] at h'
        cases (Option.some.inj h')
        refine ⟨?_, by show fs.length + 1 + 1 ≤ fs.length + 1 + 1; omega⟩
        show (st.tags ++ [_]).length = st.tags.length + 1
        rw [List.length_append]; rfl
theorem GB.step {W : F} {st st' : GoSt} {s : Step} (B : GB W st) (h : goS W st s = some st') : GB W st' := by
  cases s with
  | ins g =>
    cases hf : st.frames with
    | nil => unfold goS at h; rw [hf] at h; cases h
    | cons fr fs =>
      unfold goS at h; rw [hf] at h
      cases (Option.some.inj h)
      have h1 := B.ix; have h2 := B.nd; have h3 := B.cl
      rw [hf] at h1 h2
      refine ⟨?_, fun f hfm i hi => ?_, h2⟩
      · show (cnt fr.1 1 st.counts ++ g.flat.map (·.2)).length = (st.tags ++ g.flat.map (·.1)).length
        rw [List.length_append, List.length_append, cnt_len, List.length_map, List.length_map, h3]
      · show i < (cnt fr.1 1 st.counts ++ g.flat.map (·.2)).length
        rw [List.length_append, cnt_len]
        have := h1 f hfm i hi
        omega
  | up =>
    cases hf : st.frames with
    | nil => unfold goS at h; rw [hf] at h; cases h
    | cons fr fs =>
      obtain ⟨i, rm⟩ := fr
      cases rm with
      | cons x r => unfold goS at h; rw [hf] at h; cases h
      | nil =>
        cases fs with
        | nil => unfold goS at h; rw [hf] at h; cases h
        | cons fr2 fs =>
          unfold goS at h; rw [hf] at h
          cases (Option.some.inj h)
          have h1 := B.ix; have h2 := B.nd
          rw [hf] at h1 h2
          exact ⟨B.cl, fun f hm => h1 f (List.mem_cons_of_mem _ hm), fun f hm => h2 f (List.mem_cons_of_mem _ hm)⟩
  | out =>
    cases hf : st.frames with
    | nil => unfold goS at h; rw [hf] at h; cases h
    | cons fr fs =>
      obtain ⟨i, rm⟩ := fr
      cases rm with
      | nil => unfold goS at h; rw [hf] at h; cases h
      | cons x r =>
        unfold goS at h; rw [hf] at h
        cases (Option.some.inj h)
        have h1 := B.ix; have h2 := B.nd
        rw [hf] at h1 h2
        refine ⟨B.cl, fun f hm => ?_, fun f hm => ?_⟩
        · rcases List.mem_cons.mp hm with rfl | hm
          · exact h1 (i, x :: r) List.mem_cons_self
          · exact h1 f (List.mem_cons_of_mem _ hm)
        · rcases List.mem_cons.mp hm with rfl | hm
          · exact fun y hy => h2 (i, x :: r) List.mem_cons_self y (List.mem_cons_of_mem _ hy)
          · exact h2 f (List.mem_cons_of_mem _ hm)
  | turn o =>
    cases hf : st.frames with
    | nil => unfold goS at h; rw [hf] at h; cases h
    | cons fr fs =>
      obtain ⟨i, rm⟩ := fr
      cases rm with
      | nil => unfold goS at h; rw [hf] at h; cases h
      | cons x r =>
        unfold goS at h; rw [hf] at h
        have h' : (if o = some (nodeN W x).1 then none else
          some (⟨st.cost + (if o = none then 0 else 1), st.back ++ [.turn (o.map fun _ => (nodeN W x).1)], st.tags ++ [o.getD (nodeN W x).1], cnt i 1 st.counts ++ [0], (some st.tags.length, kidsN W x) :: (i, r) :: fs⟩ : GoSt)) = some st' := h
        by_cases ho : o = some (nodeN W x).1
        · rw [if_pos ho] at h'; cases h'
        rw [if_neg ho] at h'
        cases (Option.some.inj h')
        have h1 := B.ix; have h2 := B.nd; have h3 := B.cl
        rw [hf] at h1 h2
        have hxW : x < W.size := h2 (i, x :: r) List.mem_cons_self x List.mem_cons_self
        refine ⟨?_, fun f hm j hj => ?_, fun f hm y hy => ?_⟩
        · show (cnt i 1 st.counts ++ [0]).length = (st.tags ++ [_]).length
          rw [List.length_append, List.length_append, cnt_len, h3]; rfl
        · show j < (cnt i 1 st.counts ++ [0]).length
          rw [List.length_append, cnt_len, List.length_singleton]
          rcases List.mem_cons.mp hm with rfl | hm
          · cases hj; omega
          · rcases List.mem_cons.mp hm with rfl | hm
            · have := h1 (i, x :: r) List.mem_cons_self j hj; omega
            · have := h1 f (List.mem_cons_of_mem _ hm) j hj; omega
        · rcases List.mem_cons.mp hm with rfl | hm
          · exact (kidsN_lt hxW hy).2
          · rcases List.mem_cons.mp hm with rfl | hm
            · exact h2 (i, x :: r) List.mem_cons_self y (List.mem_cons_of_mem _ hy)
            · exact h2 f (List.mem_cons_of_mem _ hm) y hy
def wW (w : List Step) : Nat := (w.map wS).sum
/-- the beginning -/
def st0 (W : F) : GoSt := ⟨0, [], [], [], [(none, W.roots 0)]⟩
theorem gb0 (W : F) : GB W (st0 W) := by
  refine ⟨rfl, fun f hm i hi => ?_, fun f hm x hx => ?_⟩
  · have hm' : f ∈ [((none : Option Nat), W.roots 0)] := hm
    rw [List.mem_singleton] at hm'; subst hm'; cases hi
  · have hm' : f ∈ [((none : Option Nat), W.roots 0)] := hm
    rw [List.mem_singleton] at hm'; subst hm'
    have := roots_lt W 0 x hx; omega
theorem runS_take {W : F} : ∀ (w : List Step) (st st' : GoSt) (i : Nat) (s : Step), runS W st w = some st' → w[i]? = some s → ∃ s1 s2, runS W st (w.take i) = some s1 ∧ goS W s1 s = some s2 ∧ runS W st (w.take (i + 1)) = some s2
  | [], _, _, _, _, _, h => by simp at h
  | a :: w, st, st', 0, s, hr, h => by
    simp at h; subst h
    have hr' : (match goS W st a with | none => none | some st' => runS W st' w) = some st' := hr
    cases e : goS W st a with
    | none => rw [e] at hr'; cases hr'
    | some s2 =>
      refine ⟨st, s2, rfl, e, ?_⟩
      show (match goS W st a with | none => none | some st' => runS W st' (w.take 0)) = some s2
      rw [e, List.take_zero]; rfl
  | a :: w, st, st', i + 1, s, hr, h => by
    have hr' : (match goS W st a with | none => none | some st' => runS W st' w) = some st' := hr
    cases e : goS W st a with
    | none => rw [e] at hr'; cases hr'
    | some s0 =>
      rw [e] at hr'
      obtain ⟨s1, s2, q1, q2, q3⟩ := runS_take w s0 st' i s hr' (by simpa using h)
      refine ⟨s1, s2, ?_, q2, ?_⟩
      · show (match goS W st a with | none => none | some st' => runS W st' (w.take i)) = some s1
        rw [e]; exact q1
      · show (match goS W st a with | none => none | some st' => runS W st' (w.take (i + 1))) = some s2
        rw [e]; exact q3
theorem runS_len {W : F} : ∀ (w : List Step) (st st' : GoSt), runS W st w = some st' → st'.tags.length = st.tags.length + wW w ∧ st'.frames.length ≤ st.frames.length + w.length ∧ (GB W st → GB W st')
  | [], st, st', h => by cases (Option.some.inj h); exact ⟨rfl, Nat.le_refl _, id⟩
  | s :: w, st, st', h => by
    have hr' : (match goS W st s with | none => none | some st' => runS W st' w) = some st' := h
    cases e : goS W st s with
    | none => rw [e] at hr'; cases hr'
    | some s0 =>
      rw [e] at hr'
      obtain ⟨h1, h2, h3⟩ := runS_len w s0 st' hr'
      obtain ⟨q1, q2⟩ := goS_tags e
      refine ⟨?_, ?_, fun B => h3 (B.step e)⟩
      · have : wW (s :: w) = wS s + wW w := by unfold wW; rw [List.map_cons, List.sum_cons]
        omega
      · rw [List.length_cons]; omega
theorem wW_take (w : List Step) (i : Nat) (s : Step) (h : w[i]? = some s) : wW (w.take i) + wS s ≤ wW w := by
  have hi := (List.getElem?_eq_some_iff.mp h).1
  have e : w = w.take i ++ s :: w.drop (i + 1) := by
    rw [← (List.getElem?_eq_some_iff.mp h).2, ← List.drop_eq_getElem_cons hi, List.take_append_drop]
  have : wW w = wW (w.take i) + (wS s + wW (w.drop (i + 1))) := by
    conv => lhs; rw [e]
    unfold wW
    rw [List.map_append, List.sum_append, List.map_cons, List.sum_cons]
  omega
def less (H : Hp) (p : Addr) : Hp := fun b => if b = p then none else H b
theorem less_self {H : Hp} {p : Addr} : less H p p = none := if_pos rfl
theorem less_ne {H : Hp} {p b : Addr} (h : b ≠ p) : less H p b = H b := if_neg h
theorem less_kp {H : Hp} {p : Addr} {w : HO} (e : H p = some w) (m : Mut (some w)) : Kp H (less H p) := fun a xs h => by
  have n := rd_ne h e m
  rcases h with h | ⟨o, h⟩
  · exact .inl ((less_ne n).trans h)
  · exact .inr ⟨o, (less_ne n).trans h⟩
theorem less_same {H H' : Hp} {p : Addr} (s : SX p H H') : Same (less H p) H' := fun b o e => by
  by_cases nb : b = p
  · rw [nb, less_self] at e; cases e
  · rw [less_ne nb] at e; exact s b o nb e
theorem less_sx {H H' : Hp} {p : Addr} (s : Same (less H p) H') : SX p H H' := fun b o nb e => s b o ((less_ne nb).trans e)
theorem less_none {H H' : Hp} {p b : Addr} (s : SX p H H') (e : H' b = none) : less H p b = none := by
  by_cases nb : b = p
  · rw [nb]; exact less_self
  · rw [less_ne nb]
    cases h : H b with
    | none => rfl
    | some o => rw [s b o nb h] at e; cases e
def sp_Going___init__ (T : Txt K mg) : Sp := fun vs H Q _ => ∃ (p dx : Addr) (va wv : V) (W : F) (w : List Step) (st : GoSt) (fr : Option Nat), vs = [.ref p, va, wv] ∧ H p = some (.ins T.c_Going dx []) ∧ Dp K H va (rowD W.flat) ∧ W.good = true ∧ W.size < 100001 ∧ Dp K H wv (wayD w) ∧ (∀ s ∈ w, StIn s) ∧ w.length < 900000 ∧ wW w < 1000000 ∧
  runS W (st0 W) w = some st ∧ st.frames = [(fr, [])] ∧ ∀ H' A ts ls bv, GoIn T (less H p) H' p A W st ts ls bv → Q .non H'
theorem ok_Going___init__ (T : Txt K mg) : FnOk P w K mg base CX0 7 T.a_Going___init__ T.d_Going___init__ P_Going___init__ (sp_Going___init__ T) := by
  have G_Going_go := ok_Going_go (P := P) (w := w) (base := base) T
  have G_inner_of := ok_inner_of (P := P) (w := w) (base := base) T
  have G_roots := ok_roots (P := P) (w := w) (base := base) T
  have G_sizes_of := ok_sizes_of (P := P) (w := w) (base := base) T
  refine T.F_Going___init__.ok sc_Going___init__ (fun vs H Q E h => ?_) (fun cdv A outer s H vs Q E hr h => ?_)
  · obtain ⟨p, dx, va, wv, W, w, st, fr, rfl, hp, hv, hg, hW, hwv, hws, hwl, hwW, hrun, hfr, k⟩ := h
    rfl
  · obtain ⟨p, dx, va, wv, W, w, st, fr, rfl, hp, hv, hg, hW, hwv, hws, hwl, hwW, hrun, hfr, k⟩ := h
    refine ⟨_, (pss_cons (ps_fld (pv 0) (pv 1) rfl)
      (pss_cons (ps_fld (pv 0) (pe_call G_inner_of (hr.mono (by decide)) (by rfl) T.m_inner_of T.F_inner_of.kp T.b_inner_of .nil pass0 (pa_cons (pv 1) pa_nil)) rfl)
      (pss_cons (ps_fld (pv 0) (pe_call G_sizes_of (hr.mono (by decide)) (by rfl) T.m_sizes_of T.F_sizes_of.kp T.b_sizes_of .nil pass0 (pa_cons (pv 1) pa_nil)) rfl)
      (pss_cons (ps_fld (pv 0) pe_int rfl)
      (pss_cons (ps_fld (pv 0) (pe_lst pa_nil) rfl)
      (pss_cons (ps_fld (pv 0) (pe_lst pa_nil) rfl)
      (pss_cons (ps_fld (pv 0) (pe_lst pa_nil) rfl)
      (pss_cons (ps_fld (pv 0) (pe_lst (pa_cons (pe_tup (pa_cons pe_non (pa_cons (pe_callTy call_list_of (by rfl) T.n_list (by decide +kernel) (pa_cons (pe_revT (pe_call G_roots (hr.mono (by decide)) (by rfl) T.m_roots T.F_roots.kp T.b_roots .nil pass0 (pa_cons (pv 1) pa_nil))) pa_nil)) pa_nil))) pa_nil)) rfl)
      (pss_cons (ps_for PassesOwn.never rfl (pi_tup (pv 2)) (pg_name (i := 3) sc_Going___init__.nd rfl (Or.inl rfl)) (pss_one (ps_expr (pe_meth (pv 0) T.cl_Going T.M_Going_go G_Going_go (hr.mono (by decide)) T.b_Going_go .nil pass0 (pa_cons (pv 3) pa_nil)))))
      (pss_one (ps_if (PW.pt (pw_or (pt_cmpR op_gt (pe_callB call_len_seq (by rfl) T.n_len (by decide +kernel) (pa_cons (pe_fld (pv 0) rfl) pa_nil)) pe_int (nomark _)) (pw_or1 (pt_cmpR (op_neD hr.units) (pe_ix ix_tup (pe_ix ix_list (pe_fld (pv 0) rfl) pe_int (fun _ _ => rfl)) pe_int (fun _ _ => rfl)) (pe_lst pa_nil) (nomark _))))) (pss_one ps_never) pss_nil))))))))))), ?_⟩
    have hM := mil_lt
    have hb := big_lt
    -- row
    refine ⟨_, rfl, _, rfl, p, _, dx, [], rfl, hp, T.cl_Going, T.na_Going_row, by show 0 < 1000; decide, ?_⟩
    show tSeq _ _ _ _ (upd H p (.ins T.c_Going dx [("row", va)]))
    have c1 : SX p H (upd H p (.ins T.c_Going dx [("row", va)])) := (SX.refl p H).self
    have o1 : (upd H p (.ins T.c_Going dx [("row", va)])) p = some (.ins T.c_Going dx [("row", va)]) := upd_same
    have v1 := dp_kp (c1.kp hp True.intro) (nl_row _) hv
    generalize (upd H p (.ins T.c_Going dx [("row", va)])) = H1 at *
    -- inner
    refine ⟨_, rfl, va, W, rfl, v1, by omega, fun gi gv Hi mi ngi egi tgi => ?_⟩
    refine ⟨_, rfl, p, _, dx, _, rfl, mi _ _ o1, T.cl_Going, T.na_Going_inner, by show 1 < 1000; decide, ?_⟩
    show tSeq _ _ _ _ (upd Hi p (.ins T.c_Going dx [("row", va), ("inner", .ref gi)]))
    have c2 : SX p H1 (upd Hi p (.ins T.c_Going dx [("row", va), ("inner", .ref gi)])) := (SX.of mi).self
    have o2 : (upd Hi p (.ins T.c_Going dx [("row", va), ("inner", .ref gi)])) p = some (.ins T.c_Going dx [("row", va), ("inner", .ref gi)]) := upd_same
    have ngip : gi ≠ p := fun z => by rw [z, o1] at ngi; cases ngi
    have egi2 : (upd Hi p (.ins T.c_Going dx [("row", va), ("inner", .ref gi)])) gi = some (.lst gv) := (upd_ne ngip).trans egi
    have tgi2 := dpa_kp (Kp.mu (mi _ _ o1) True.intro (o := .ins T.c_Going dx [("row", va), ("inner", .ref gi)])) (nl_tups _) tgi
    have v2 := dp_kp (c2.kp o1 True.intro) (nl_row _) v1
    have C2 := c1.trans c2
    have f_gi : less H p gi = none := less_none c1 ngi
    generalize (upd Hi p (.ins T.c_Going dx [("row", va), ("inner", .ref gi)])) = H2 at *
    -- sizes
    refine ⟨_, rfl, va, W, rfl, v2, by omega, fun gs Hs ms ngs egs => ?_⟩
    refine ⟨_, rfl, p, _, dx, _, rfl, ms _ _ o2, T.cl_Going, T.na_Going_sizes, by show 2 < 1000; decide, ?_⟩
    show tSeq _ _ _ _ (upd Hs p (.ins T.c_Going dx [("row", va), ("inner", .ref gi), ("sizes", .ref gs)]))
    have c3 : SX p H2 (upd Hs p (.ins T.c_Going dx [("row", va), ("inner", .ref gi), ("sizes", .ref gs)])) := (SX.of ms).self
    have o3 : (upd Hs p (.ins T.c_Going dx [("row", va), ("inner", .ref gi), ("sizes", .ref gs)])) p = some (.ins T.c_Going dx [("row", va), ("inner", .ref gi), ("sizes", .ref gs)]) := upd_same
    have ngsp : gs ≠ p := fun z => by rw [z, o2] at ngs; cases ngs
    have egs3 : (upd Hs p (.ins T.c_Going dx [("row", va), ("inner", .ref gi), ("sizes", .ref gs)])) gs = _ := (upd_ne ngsp).trans egs
    have n12 : gi ≠ gs := ne_of_none egi2 ngs
    have C3 := C2.trans c3
    have f_gs : less H p gs = none := less_none C2 ngs
    have k3 := c3.kp o2 True.intro
    have v3 := dp_kp k3 (nl_row _) v2
    have tgi3 := dpa_kp k3 (nl_tups _) tgi2
    have egi3 := c3 _ _ ngip egi2
    generalize (upd Hs p (.ins T.c_Going dx [("row", va), ("inner", .ref gi), ("sizes", .ref gs)])) = H3 at *
    -- cost
    refine ⟨_, rfl, p, _, dx, _, rfl, o3, T.cl_Going, T.na_Going_cost, by show 3 < 1000; decide, ?_⟩
    show tSeq _ _ _ _ (upd H3 p (.ins T.c_Going dx [("row", va), ("inner", .ref gi), ("sizes", .ref gs), ("cost", .int 0)]))
    have c4 : SX p H3 (upd H3 p (.ins T.c_Going dx [("row", va), ("inner", .ref gi), ("sizes", .ref gs), ("cost", .int 0)])) := (SX.refl p H3).self
    have o4 : (upd H3 p (.ins T.c_Going dx [("row", va), ("inner", .ref gi), ("sizes", .ref gs), ("cost", .int 0)])) p = some (.ins T.c_Going dx [("row", va), ("inner", .ref gi), ("sizes", .ref gs), ("cost", .int 0)]) := upd_same
    generalize (upd H3 p (.ins T.c_Going dx [("row", va), ("inner", .ref gi), ("sizes", .ref gs), ("cost", .int 0)])) = H4 at *
    -- back
    refine ⟨Nat.zero_le _, fun gb hgb => ?_⟩
    have o4b := (upd_ne (ne_of_none o4 hgb) (H := H4) (o := .lst [])).trans o4
    refine ⟨_, rfl, p, _, dx, _, rfl, o4b, T.cl_Going, T.na_Going_back, by show 4 < 1000; decide, ?_⟩
    show tSeq _ _ _ _ (upd (upd H4 gb (.lst [])) p (.ins T.c_Going dx [("row", va), ("inner", .ref gi), ("sizes", .ref gs), ("cost", .int 0), ("back", .ref gb)]))
    have c5 : SX p H4 (upd (upd H4 gb (.lst [])) p (.ins T.c_Going dx [("row", va), ("inner", .ref gi), ("sizes", .ref gs), ("cost", .int 0), ("back", .ref gb)])) := ((SX.refl p H4).put hgb).self
    have o5 : (upd (upd H4 gb (.lst [])) p (.ins T.c_Going dx [("row", va), ("inner", .ref gi), ("sizes", .ref gs), ("cost", .int 0), ("back", .ref gb)])) p = some (.ins T.c_Going dx [("row", va), ("inner", .ref gi), ("sizes", .ref gs), ("cost", .int 0), ("back", .ref gb)]) := upd_same
    have ngbp : gb ≠ p := Ne.symm (ne_of_none o4 hgb)
    have egb5 : (upd (upd H4 gb (.lst [])) p (.ins T.c_Going dx [("row", va), ("inner", .ref gi), ("sizes", .ref gs), ("cost", .int 0), ("back", .ref gb)])) gb = some (.lst []) := (upd_ne ngbp).trans upd_same
    have C4 := C3.trans c4
    have f_gb : less H p gb = none := less_none C4 hgb
    have egi4 := c4 _ _ ngip egi3
    have egs4 := c4 _ _ ngsp egs3
    have n13 : gi ≠ gb := ne_of_none egi4 hgb
    have n23 : gs ≠ gb := ne_of_none egs4 hgb
    have egi5 := c5 _ _ ngip egi4
    have egs5 := c5 _ _ ngsp egs4
    have C5 := C4.trans c5
    have k5 := (c4.kp o3 True.intro).trans (c5.kp o4 True.intro)
    have v5 := dp_kp k5 (nl_row _) v3
    have tgi5 := dpa_kp k5 (nl_tups _) tgi3
    generalize (upd (upd H4 gb (.lst [])) p (.ins T.c_Going dx [("row", va), ("inner", .ref gi), ("sizes", .ref gs), ("cost", .int 0), ("back", .ref gb)])) = H5 at *
    -- tags
    refine ⟨Nat.zero_le _, fun gt hgt => ?_⟩
    have o5b := (upd_ne (ne_of_none o5 hgt) (H := H5) (o := .lst [])).trans o5
    refine ⟨_, rfl, p, _, dx, _, rfl, o5b, T.cl_Going, T.na_Going_tags, by show 5 < 1000; decide, ?_⟩
    show tSeq _ _ _ _ (upd (upd H5 gt (.lst [])) p (.ins T.c_Going dx [("row", va), ("inner", .ref gi), ("sizes", .ref gs), ("cost", .int 0), ("back", .ref gb), ("tags", .ref gt)]))
    have c6 : SX p H5 (upd (upd H5 gt (.lst [])) p (.ins T.c_Going dx [("row", va), ("inner", .ref gi), ("sizes", .ref gs), ("cost", .int 0), ("back", .ref gb), ("tags", .ref gt)])) := ((SX.refl p H5).put hgt).self
    have o6 : (upd (upd H5 gt (.lst [])) p (.ins T.c_Going dx [("row", va), ("inner", .ref gi), ("sizes", .ref gs), ("cost", .int 0), ("back", .ref gb), ("tags", .ref gt)])) p = some (.ins T.c_Going dx [("row", va), ("inner", .ref gi), ("sizes", .ref gs), ("cost", .int 0), ("back", .ref gb), ("tags", .ref gt)]) := upd_same
    have ngtp : gt ≠ p := Ne.symm (ne_of_none o5 hgt)
    have egt6 : (upd (upd H5 gt (.lst [])) p (.ins T.c_Going dx [("row", va), ("inner", .ref gi), ("sizes", .ref gs), ("cost", .int 0), ("back", .ref gb), ("tags", .ref gt)])) gt = some (.lst []) := (upd_ne ngtp).trans upd_same
    have f_gt : less H p gt = none := less_none C5 hgt
    have n14 : gi ≠ gt := ne_of_none egi5 hgt
    have n24 : gs ≠ gt := ne_of_none egs5 hgt
    have n34 : gb ≠ gt := ne_of_none egb5 hgt
    have egi6 := c6 _ _ ngip egi5
    have egs6 := c6 _ _ ngsp egs5
    have egb6 := c6 _ _ ngbp egb5
    have C6 := C5.trans c6
    have k6 := c6.kp o5 True.intro
    have v6 := dp_kp k6 (nl_row _) v5
    have tgi6 := dpa_kp k6 (nl_tups _) tgi5
    generalize (upd (upd H5 gt (.lst [])) p (.ins T.c_Going dx [("row", va), ("inner", .ref gi), ("sizes", .ref gs), ("cost", .int 0), ("back", .ref gb), ("tags", .ref gt)])) = H6 at *
    -- counts
    refine ⟨Nat.zero_le _, fun gc hgc => ?_⟩
    have o6b := (upd_ne (ne_of_none o6 hgc) (H := H6) (o := .lst [])).trans o6
    refine ⟨_, rfl, p, _, dx, _, rfl, o6b, T.cl_Going, T.na_Going_counts, by show 6 < 1000; decide, ?_⟩
    show tSeq _ _ _ _ (upd (upd H6 gc (.lst [])) p (.ins T.c_Going dx [("row", va), ("inner", .ref gi), ("sizes", .ref gs), ("cost", .int 0), ("back", .ref gb), ("tags", .ref gt), ("counts", .ref gc)]))
    have c7 : SX p H6 (upd (upd H6 gc (.lst [])) p (.ins T.c_Going dx [("row", va), ("inner", .ref gi), ("sizes", .ref gs), ("cost", .int 0), ("back", .ref gb), ("tags", .ref gt), ("counts", .ref gc)])) := ((SX.refl p H6).put hgc).self
    have o7 : (upd (upd H6 gc (.lst [])) p (.ins T.c_Going dx [("row", va), ("inner", .ref gi), ("sizes", .ref gs), ("cost", .int 0), ("back", .ref gb), ("tags", .ref gt), ("counts", .ref gc)])) p = some (.ins T.c_Going dx [("row", va), ("inner", .ref gi), ("sizes", .ref gs), ("cost", .int 0), ("back", .ref gb), ("tags", .ref gt), ("counts", .ref gc)]) := upd_same
    have ngcp : gc ≠ p := Ne.symm (ne_of_none o6 hgc)
    have egc7 : (upd (upd H6 gc (.lst [])) p (.ins T.c_Going dx [("row", va), ("inner", .ref gi), ("sizes", .ref gs), ("cost", .int 0), ("back", .ref gb), ("tags", .ref gt), ("counts", .ref gc)])) gc = some (.lst []) := (upd_ne ngcp).trans upd_same
    have f_gc : less H p gc = none := less_none C6 hgc
    have n15 : gi ≠ gc := ne_of_none egi6 hgc
    have n25 : gs ≠ gc := ne_of_none egs6 hgc
    have n35 : gb ≠ gc := ne_of_none egb6 hgc
    have n45 : gt ≠ gc := ne_of_none egt6 hgc
    have egi7 := c7 _ _ ngip egi6
    have egs7 := c7 _ _ ngsp egs6
    have egb7 := c7 _ _ ngbp egb6
    have egt7 := c7 _ _ ngtp egt6
    have C7 := C6.trans c7
    have k7 := c7.kp o6 True.intro
    have v7 := dp_kp k7 (nl_row _) v6
    have tgi7 := dpa_kp k7 (nl_tups _) tgi6
    generalize (upd (upd H6 gc (.lst [])) p (.ins T.c_Going dx [("row", va), ("inner", .ref gi), ("sizes", .ref gs), ("cost", .int 0), ("back", .ref gb), ("tags", .ref gt), ("counts", .ref gc)])) = H7 at *
    -- frames
    refine ⟨_, rfl, va, W, rfl, v7, by omega, fun r0 H8 m8 nr0 er0 => ⟨r0, _, rfl, SqT.of er0, fun r1 hr1 => ⟨r1, _, rfl, .inr (SqT.of upd_same), fun l hl => ⟨by show 2 ≤ sizeLine; omega, fun t ht => ⟨by show 1 ≤ sizeLine; omega, fun gf hgf => ?_⟩⟩⟩⟩⟩
    have m9 := sm_put m8 (m8.free hr1) (o := .tup (iv (W.roots 0)).reverse)
    have m10 := sm_put m9 (m9.free hl) (o := .lst (iv (W.roots 0)).reverse)
    have m11 := sm_put m10 (m10.free ht) (o := .tup [.non, .ref l])
    have m12 := sm_put m11 (m11.free hgf) (o := .lst [.ref t])
    have nl0 : H7 l = none := m9.free hl
    have ngf0 : H7 gf = none := m11.free hgf
    have elt : (upd (upd (upd (upd H8 r1 (.tup (iv (W.roots 0)).reverse)) l (.lst (iv (W.roots 0)).reverse)) t (.tup [.non, .ref l])) gf (.lst [.ref t])) l = some (.lst (iv (W.roots 0).reverse)) := by
      rw [upd_ne (ne_of_none ((upd_ne (ne_of_none upd_same ht)).trans upd_same) hgf), upd_ne (ne_of_none upd_same ht), upd_same, iv_rev]
    have ett : (upd (upd (upd (upd H8 r1 (.tup (iv (W.roots 0)).reverse)) l (.lst (iv (W.roots 0)).reverse)) t (.tup [.non, .ref l])) gf (.lst [.ref t])) t = some (.tup [.non, .ref l]) := by
      rw [upd_ne (ne_of_none upd_same hgf), upd_same]
    have egf : (upd (upd (upd (upd H8 r1 (.tup (iv (W.roots 0)).reverse)) l (.lst (iv (W.roots 0)).reverse)) t (.tup [.non, .ref l])) gf (.lst [.ref t])) gf = some (.lst [.ref t]) := upd_same
    have nlgf : gf ≠ l := Ne.symm (ne_of_none ((upd_ne (ne_of_none upd_same ht)).trans upd_same) hgf)
    generalize (upd (upd (upd (upd H8 r1 (.tup (iv (W.roots 0)).reverse)) l (.lst (iv (W.roots 0)).reverse)) t (.tup [.non, .ref l])) gf (.lst [.ref t])) = H9 at *
    have o9 := m12 _ _ o7
    refine ⟨_, rfl, p, _, dx, _, rfl, o9, T.cl_Going, T.na_Going_frames, by show 7 < 1000; decide, ?_⟩
    let A : GAd := ⟨dx, gi, gs, gb, gt, gc, gf, va, gv⟩
    show tSeq _ _ _ _ (upd H9 p (.ins T.c_Going dx (gfs A 0)))
    have c10 : SX p H7 (upd H9 p (.ins T.c_Going dx (gfs A 0))) := (SX.of m12).self
    have k10 := c10.kp o7 True.intro
    have ngfp : gf ≠ p := fun z => by rw [z, o7] at ngf0; cases ngf0
    have nlp : l ≠ p := fun z => by rw [z, o7] at nl0; cases nl0
    have ntp : t ≠ p := fun z => by rw [z, o9] at ett; cases ett
    have C10 := C7.trans c10
    have f_l : less H p l = none := less_none C7 nl0
    have f_gf : less H p gf = none := less_none C7 ngf0
    have G : GoIn T (less H p) (upd H9 p (.ins T.c_Going dx (gfs A 0))) p A W (st0 W) [t] [l] [] := by
      refine ⟨less_same C10, less_self, ?_, upd_same, dp_kp k10 (nl_row _) v7, c10 _ _ ngip egi7, dpa_kp k10 (nl_tups _) tgi7, c10 _ _ ngsp egs7, c10 _ _ ngbp egb7, .nil, c10 _ _ ngtp egt7, c10 _ _ ngcp egc7, (upd_ne ngfp).trans egf, ⟨SqT.of ((upd_ne ntp).trans ett), (upd_ne nlp).trans elt, True.intro⟩, ?_⟩
      · intro q hq
        have hq' : q ∈ [gi, gs, gb, gt, gc, gf, l] := hq
        simp only [List.mem_cons, List.not_mem_nil, or_false] at hq'
        rcases hq' with h | h | h | h | h | h | h <;> (rw [h]; assumption)
      · show [gi, gs, gb, gt, gc, gf, l].Nodup
        have a1 := ne_of_none egi7 ngf0
        have a2 := ne_of_none egs7 ngf0
        have a3 := ne_of_none egb7 ngf0
        have a4 := ne_of_none egt7 ngf0
        have a5 := ne_of_none egc7 ngf0
        have b1 := ne_of_none egi7 nl0
        have b2 := ne_of_none egs7 nl0
        have b3 := ne_of_none egb7 nl0
        have b4 := ne_of_none egt7 nl0
        have b5 := ne_of_none egc7 nl0
        simp only [List.nodup_cons, List.mem_cons, List.not_mem_nil, or_false, not_or]
        exact ⟨⟨n12, n13, n14, n15, a1, b1⟩, ⟨n23, n24, n25, a2, b2⟩, ⟨n34, n35, a3, b3⟩, ⟨n45, a4, b4⟩, ⟨a5, b5⟩, nlgf, not_false, List.nodup_nil⟩
    have dwv : Dp K (less H p) wv (wayD w) := dp_kp (less_kp hp True.intro) (nl_way w) hwv
    generalize (upd H9 p (.ins T.c_Going dx (gfs A 0))) = H10 at *
    -- the way
    obtain ⟨aw, xs, rfl, haw, hxl, hget⟩ := way_at dwv
    refine ⟨_, rfl, aw, rfl, ⟨xs, sm_st G.s0 haw⟩, ?_⟩
    refine for_it (walk_tup (xs := xs)) (fun i σ' H' => ∃ x3 s ts ls bv, σ' = [some (.ref p), some va, some (.ref aw), x3] ∧ runS W (st0 W) (w.take i) = some s ∧ bv.length = i ∧ GoIn T (less H p) H' p A W s ts ls bv) ⟨none, st0 W, [t], [l], [], rfl, rfl, rfl, G⟩ (fun _ _ _ _ q => by obtain ⟨_, _, _, _, _, _, _, _, q⟩ := q; exact sm_st q.s0 haw) ?_ ?_
    · rintro i y σ' H11 H12 hi ⟨x3, s1, ts, ls, bv, rfl, hr1, hbl, G1⟩ ⟨rfl, hy⟩
      obtain ⟨s, hs⟩ : ∃ s, w[i]? = some s := ⟨_, List.getElem?_eq_getElem (by omega)⟩
      obtain ⟨u, hu1, hu2⟩ := hget i s hs
      rw [hy] at hu1; cases hu1
      obtain ⟨s1', s2, q1, q2, q3⟩ := runS_take w (st0 W) st i s hrun hs
      rw [hr1] at q1
      cases (Option.some.inj q1)
      obtain ⟨l1, l2, l3⟩ := runS_len _ _ _ hr1
      have l4 := wW_take w i s hs
      have e1 : (st0 W).tags.length = 0 := rfl
      have e2 : (st0 W).frames.length = 1 := rfl
      rw [List.length_take] at l2
      refine ⟨_, rfl, p, _, _, rfl, G1.ob, rfl, _, rfl, less H p, p, A, W, _, s, s1, s2, ts, ls, bv, rfl, G1, hu2, q2, hg, hW, hws s (List.mem_of_getElem? hs), l3 (gb0 W), by omega, by omega, by omega, fun H13 bv' ts' ls' hb' G2 => ?_⟩
      exact ⟨_, s2, ts', ls', bv', rfl, q3, by omega, G2⟩
    · rintro σ' H11 ⟨x3, s1, ts, ls, bv, rfl, hr1, hbl, G1⟩
      rw [hxl, List.take_length, hrun] at hr1
      cases (Option.some.inj hr1)
      have fa : FrAt K H11 ts ls [(fr, [])] := hfr ▸ G1.fra
      obtain ⟨t1, ts', l1, ls', rfl, rfl, h1, h2, h3⟩ := fa.cons
      obtain ⟨e1, e2⟩ := h3.len
      have e1' : ts' = [] := List.eq_nil_of_length_eq_zero e1
      subst e1'
      have hf := G1.frs
      refine ⟨_, rfl, p, T.c_Going, _, _, _, rfl, G1.ob, T.cl_Going, T.na_Going_frames, rfl, A.gf, _, rfl, .inl (SqL.of hf), _, _, rfl, rfl, _, rfl, ?_⟩
      refine ⟨_, rfl, p, T.c_Going, _, _, _, rfl, G1.ob, T.cl_Going, T.na_Going_frames, rfl, A.gf, _, _, _, rfl, rfl, SqL.of hf, atI_hd _ _, t1, _, 1, _, rfl, rfl, h1, atI_nat (j := 1) rfl, Nat.zero_le _, fun p2 hp2 => ?_⟩
      have u2 := sm_new hp2 (o := .lst [])
      have G3 := G1.same u2
      refine ⟨_, _, .lst (SqL.of (u2 _ _ h2)) (dpa_iv _), .lst (SqL.of upd_same) .nil, Sh.ok (sh_idl _), Sh.ok sh_nil, _, rfl, ?_⟩
      rw [eqv_lnil]
      exact k _ A _ _ _ G3

end Pp

set_option Elab.async false
set_option linter.all false
set_option autoImplicit false
set_option maxRecDepth 100000
set_option maxHeartbeats 4000000
namespace Pp
open PySem PySem.Spec L2
variable {P : Program} {w : World} {K : PySem.W.Frag} {mg : Str → Option Value} {base : Heap}
/-! ### list(zip(a, b)) -/
section
open PyProof.Rows HT
theorem zip_no_len : typeLookup (.type "zip") "__len__" = pure none := am_miss_of_fast (by decide +kernel)
theorem zip_no_hint : typeLookup (.type "zip") "__length_hint__" = pure none := am_miss_of_fast (by decide +kernel)
theorem zip_hint {M : Model} {A : Around} {E : Value → Shared → Prop} {s : Shared} {z : Addr} {Q : Bool → Shared → Prop} (hT : s.TypeIs (.ref z) "zip") (h : Q true s) : wpAny M A (Builtin.List.listLengthHint (.ref z)) Q E s := by
  unfold Builtin.List.listLengthHint
  refine wpAny_bind (wpAny_specialOf hT zip_no_len ?_)
  refine wpAny_ite_split (fun hab => absurd hab (by decide)) (fun _ => ?_)
  refine wpAny_ite_split (fun hab => absurd hab (by decide)) (fun _ => ?_)
  refine wpAny_bind (wpAny_specialOf hT zip_no_hint ?_)
  exact wpAny_pure h
/-- the zip at z at turn i, its cells, the tuple given out last -/
def ZSt (z TI TO i1 i2 a b q : Addr) (i : Nat) (h : Heap) : Prop :=
  ((∃ o, h.get? TO = some o) ∧ IsPair h TI (.ref i1) (.ref i2)) ∧ h.IsListIter i1 a i ∧ h.IsListIter i2 b i ∧
  ((IsZip h z TI TO .none ∧ ∃ x y, IsPair h TO x y) ∨ ∃ T f oT, IsZipHeld h z TI TO T f ∧ h.get? T = some oT ∧ T ≠ z ∧ T ≠ i1 ∧ T ≠ i2 ∧ T ≠ q)
theorem zst_move {z TI TO i1 i2 a b q : Addr} {i : Nat} {h h' : Heap} (st : ZSt z TI TO i1 i2 a b q i h) (k : ∀ c o, c ≠ q → h.get? c = some o → h'.get? c = some o) (n : ∀ c ∈ [z, TI, TO, i1, i2], c ≠ q) : ZSt z TI TO i1 i2 a b q i h' := by
  obtain ⟨⟨⟨oO, hO⟩, h1⟩, h2, h3, h4⟩ := st
  have m := n
  simp only [List.mem_cons, List.not_mem_nil, or_false, forall_eq_or_imp, forall_eq] at m
  obtain ⟨m1, m2, m3, m4, m5⟩ := m
  refine ⟨⟨⟨oO, k _ _ m3 hO⟩, k _ _ m2 h1⟩, h2.at fun o e => k _ o m4 e, h3.at fun o e => k _ o m5 e, ?_⟩
  rcases h4 with ⟨e, x, y, e2⟩ | ⟨T, f, oT, e, e2, n1, n2, n3, n4⟩
  · exact .inl ⟨k _ _ m1 e, x, y, k _ _ m3 e2⟩
  · exact .inr ⟨T, f, oT, k _ _ m1 e, k _ _ n4 e2, n1, n2, n3, n4⟩
/-- what the list holds so far -/
def ZAcc (H : Hp) (acc : List V) (ps : List (V × V)) : Prop := ∃ ts : List Addr, acc = ts.map V.ref ∧ ts.length = ps.length ∧ ∀ (j : Nat) (t : Addr) (p : V × V), ts[j]? = some t → ps[j]? = some p → H t = some (.tup [p.1, p.2])
variable {X : Cx} {pins : List (Addr × Obj)} {σ : L2.St}
theorem zl_loop {A1 : Around} {Rs : Result → Shared → Prop} {z TI TO i1 i2 a b q : Addr} (hh : A1.in1.handled = none) (D : ZipApart z TI TO i1 i2 a b) {xs ys : List V} {H0 : Hp} (hq0 : H0 q = none)
    (hdone : ∀ acc H s, Inv X pins σ H s → ZAcc H acc (xs.zip ys) → H q = some (.lst acc) → Same H0 H → Rs (.ok (.ret .none)) s) :
    ∀ (k i : Nat) (acc : List V) (H : Hp) (s : Shared), xs.length - i = k → i ≤ xs.length → xs.length = ys.length → Inv X pins σ H s → (∀ c ∈ [z, TI, TO, i1, i2], FpOk X pins H c) → SqL X.K H0 a xs → SqL X.K H0 b ys → Same H0 H → H q = some (.lst acc) → acc.length = i →
      ZAcc H acc ((xs.zip ys).take i) → ZSt z TI TO i1 i2 a b q i s.heap → codeAny (model X.prog X.w) A1 (.builtin "list.extend.loop" ⟨[.ref q, .ref z, .none], []⟩) Rs s := by
  intro k
  induction k with
  | zero =>
    intro i acc H s hk hi hl I hf hqx hqy sm hq ha hZ st
    have hin : i = xs.length := by omega
    subst hin
    obtain ⟨its, rv, p, _⟩ := I.list (sm_sl sm hqx)
    obtain ⟨its2, rv2, p2, _⟩ := I.list (sm_sl sm hqy)
    have l1 := rv.length
    have l2 := rv2.length
    have he : its.toArray[xs.length]? = none ∨ its2.toArray[xs.length]? = none := .inl (by simp; omega)
    have htake : (xs.zip ys).take xs.length = xs.zip ys := List.take_of_length_le (by rw [List.length_zip]; omega)
    rw [htake] at hZ
    refine codeAny_builtin PySem.F.entry_extend_loop ?_
    rw [Around.under_plainId PySem.F.plain_extend_loop _]
    show wpAny _ A1.in1 (pyNext (.ref z) >>= _) _ _ s
    obtain ⟨⟨⟨oO, hO⟩, hTI⟩, h1, h2, hc⟩ := st
    rcases hc with ⟨hz, x0, y0, hTO⟩ | ⟨T, f, oT, hz, hT, n1, n2, n3, n4⟩
    · refine wpAny_bind (wpAny_pyNext_zip_end hh D hz hTI hTO h1 h2 p.isList p2.isList he fun h' hk => ?_)
      have I' : Inv X pins σ H { s with heap := h' } := I.turnedL (t' := s.toks) (ch := [z, TI, TO, i1, i2]) (fun c o hb q => hk c o (fun q' => hb (by simp [q'])) (fun q' => hb (by simp [q'])) (fun q' => hb (by simp [q'])) (fun q' => hb (by simp [q'])) q) hf
      exact wpAny_pure (hdone acc H _ I' hZ hq sm)
    · refine wpAny_bind (wpAny_pyNext_zip_end_held hh D hz hT hTI h1 h2 p.isList p2.isList he fun h' hk => ?_)
      have I' : Inv X pins σ H { s with heap := h' } := I.turnedL (t' := s.toks) (ch := [z, TI, TO, i1, i2]) (fun c o hb q => hk c o (fun q' => hb (by simp [q'])) (fun q' => hb (by simp [q'])) (fun q' => hb (by simp [q'])) q) hf
      exact wpAny_pure (hdone acc H _ I' hZ hq sm)
  | succ k ih =>
    intro i acc H s hk hi hl I hf hqx hqy sm hq ha hZ st
    have hlt : i < xs.length := by omega
    obtain ⟨x, hx⟩ : ∃ x, xs[i]? = some x := ⟨_, List.getElem?_eq_getElem hlt⟩
    obtain ⟨y, hy⟩ : ∃ y, ys[i]? = some y := ⟨_, List.getElem?_eq_getElem (by omega)⟩
    obtain ⟨its, rv, p, hzl⟩ := I.list (sm_sl sm hqx)
    obtain ⟨its2, rv2, p2, _⟩ := I.list (sm_sl sm hqy)
    obtain ⟨u, hu, ru⟩ := rv.get hx
    obtain ⟨u2, hu2, ru2⟩ := rv2.get hy
    have nq : ∀ c ∈ [z, TI, TO, i1, i2], c ≠ q := fun c hc e => by rw [e] at hc; have := (hf q hc).1; rw [hq] at this; cases this
    refine codeAny_builtin PySem.F.entry_extend_loop ?_
    rw [Around.under_plainId PySem.F.plain_extend_loop _]
    show wpAny _ A1.in1 (pyNext (.ref z) >>= _) _ _ s
    have hll := rv.length
    have main : ∀ h' : Heap, (∀ c o, c ∉ [z, TI, TO, i1, i2] → s.heap.get? c = some o → h'.get? c = some o) → (∃ o, h'.get? TO = some o) → IsPair h' TI (.ref i1) (.ref i2) → h'.IsListIter i1 a (i + 1) → h'.IsListIter i2 b (i + 1) → IsPair h' s.heap.objs.size u u2 → (∃ T f oT, IsZipHeld h' z TI TO T f ∧ h'.get? T = some oT ∧ T ≠ z ∧ T ≠ i1 ∧ T ≠ i2 ∧ T ≠ q) → (∀ c ∈ [z, TI, TO, i1, i2], c < s.heap.objs.size) →
        wpAny (model X.prog X.w) A1.in1 (updateSeq q (·.push (Value.ref s.heap.objs.size)) >>= fun _ => pure (Fin.again (.builtin "list.extend.loop" ⟨[.ref q, .ref z, .none], []⟩))) (fun fin s' => match fin with | .done f => Rs (.ok f) s' | .again c' => c'.quiet = true ∧ codeAny (model X.prog X.w) A1 c' Rs s') (fun e s' => Rs (.error e) s') { s with heap := h' } := by
      intro h' hk' hO' hTI' h1' h2' hT' hz' hlts
      have new : ObjOk X.prog X.w (upd H s.heap.objs.size (.tup [x, y])) h' s.heap.objs.size (.tup [x, y]) := ⟨by show 2 ≤ sizeLine; decide, [u, u2], .cons ru (.cons ru2 .nil), ⟨_, hT', rfl, _, rfl⟩⟩
      have hfr : H s.heap.objs.size = none := I.hok.fresh (Nat.le_refl _)
      have I1 : Inv X pins σ (upd H s.heap.objs.size (.tup [x, y])) { s with heap := h' } := I.turnedNew (t' := s.toks) (ch := [z, TI, TO, i1, i2]) hk' hf (Nat.le_refl _) new
      have nqs : q ≠ s.heap.objs.size := ne_of_none hq hfr
      have hq1 : upd H s.heap.objs.size (.tup [x, y]) q = some (.lst acc) := (upd_ne nqs).trans hq
      obtain ⟨zl, its3, kk, r2, hl3, e3⟩ := I1.lstM hq1
      refine wpAny_bind (wpAny_updateSeq e3 rfl (wpAny_pure ⟨plainId_quiet PySem.F.plain_extend_loop _, ?_⟩) (by rw [List.size_toArray]; omega) (by show (its3.toArray.push _).size ≤ sizeLine + 1; rw [Array.size_push, List.size_toArray]; omega))
      have I2 := I1.lset (its' := its3 ++ [Value.ref s.heap.objs.size]) (ys := acc ++ [V.ref s.heap.objs.size]) (f := (·.push (Value.ref s.heap.objs.size))) (t' := s.toks) hq1 e3 (by simp) (r2.append (.cons rfl .nil)) (by rw [List.length_append, List.length_singleton]; omega)
      have up : ∀ c o, c ≠ q → h'.get? c = some o → (h'.update q (Obj.mapSeq (·.push (Value.ref s.heap.objs.size)))).get? c = some o := fun c o hb e => (Heap.get?_update_other _ _ (Ne.symm hb)).trans e
      refine ih (i + 1) (acc ++ [V.ref s.heap.objs.size]) _ _ (by omega) hlt hl I2 (fun c hc => ⟨?_, (hf c hc).2⟩) hqx hqy ?_ upd_same (by rw [List.length_append, ha]; rfl) ?_ ?_
      · rw [upd_ne (nq c hc), upd_ne (Nat.ne_of_lt (hlts c hc))]; exact (hf c hc).1
      · exact sm_put (sm_put sm (sm.free hfr)) hq0
      · obtain ⟨ts, rfl, ht1, ht2⟩ := hZ
        refine ⟨ts ++ [s.heap.objs.size], by rw [List.map_append]; rfl, ?_, ?_⟩
        · rw [List.length_append, ht1, List.length_singleton, List.length_take, List.length_take, List.length_zip]; omega
        · intro j t pr hj hp
          rw [List.length_map] at ha
          have hp' : (xs.zip ys)[j]? = some pr := by
            rw [List.getElem?_take] at hp
            split at hp
            · exact hp
            · cases hp
          have hji : j < i + 1 := by
            rw [List.getElem?_take] at hp
            split at hp
            · assumption
            · cases hp
          by_cases hji2 : j < i
          · rw [List.getElem?_append_left (by omega)] at hj
            have := ht2 j t pr hj (by rw [List.getElem?_take, if_pos hji2]; exact hp')
            rw [upd_ne (ne_of this hq (fun z => nomatch z)), upd_ne (fun e => by rw [e, hfr] at this; cases this)]
            exact this
          · have hj' : j = i := by omega
            subst hj'
            rw [List.getElem?_append_right (by omega), ha, Nat.sub_self] at hj
            have ht : s.heap.objs.size = t := by simpa using hj
            subst ht
            rw [List.getElem?_zip_eq_some] at hp'
            rw [hx, hy] at hp'
            have e1 := Option.some.inj hp'.1
            have e2 := Option.some.inj hp'.2
            rw [upd_ne (Ne.symm nqs), upd_same, ← e1, ← e2]
      · exact zst_move (h := h') ⟨⟨hO', hTI'⟩, h1', h2', .inr hz'⟩ up nq
    obtain ⟨⟨⟨oO, hO⟩, hTI⟩, h1, h2, hc⟩ := st
    have li1 : i1 < s.heap.objs.size := by obtain ⟨_, e, _⟩ := h1; exact Heap.lt_size e
    have li2 : i2 < s.heap.objs.size := by obtain ⟨_, e, _⟩ := h2; exact Heap.lt_size e
    rcases hc with ⟨hz, x0, y0, hTO⟩ | ⟨T, f, oT, hz, hT, n1, n2, n3, n4⟩
    · refine wpAny_bind (wpAny_pyNext_zip_item D hz hTI hTO h1 h2 p.isList p2.isList (x := u) (y := u2) (by simpa using hu) (by simpa using hu2) fun h' z' TO' h1' h2' hT' hsz hk => ?_)
      exact main h' (fun c o hb e => hk c o (fun q' => hb (by simp [q'])) (fun q' => hb (by simp [q'])) (fun q' => hb (by simp [q'])) (fun q' => hb (by simp [q'])) e) ⟨_, TO'⟩ (hk _ _ D.TIz D.TITO D.TIi1 D.TIi2 hTI) h1' h2' hT' ⟨_, false, _, z', hT', Nat.ne_of_gt (Heap.lt_size hz), Nat.ne_of_gt li1, Nat.ne_of_gt li2, fun e => by rw [← e, I.hok.fresh (Nat.le_refl _)] at hq; cases hq⟩ (fun c hc => by
        simp only [List.mem_cons, List.not_mem_nil, or_false] at hc
        rcases hc with e | e | e | e | e
        · rw [e]; exact Heap.lt_size hz
        · rw [e]; exact Heap.lt_size hTI
        · rw [e]; exact Heap.lt_size hTO
        · rw [e]; exact li1
        · rw [e]; exact li2)
    · refine wpAny_bind (wpAny_pyNext_zip_item_held D hz hT hTI h1 h2 p.isList p2.isList (x := u) (y := u2) (by simpa using hu) (by simpa using hu2) fun h' z' h1' h2' hT' hsz hk => ?_)
      exact main h' (fun c o hb e => hk c o (fun q' => hb (by simp [q'])) (fun q' => hb (by simp [q'])) (fun q' => hb (by simp [q'])) e) ⟨oO, hk _ _ D.TOz D.TOi1 D.TOi2 hO⟩ (hk _ _ D.TIz D.TIi1 D.TIi2 hTI) h1' h2' hT' ⟨T, true, oT, z', hk _ _ n1 n2 n3 hT, n1, n2, n3, n4⟩ (fun c hc => by
        simp only [List.mem_cons, List.not_mem_nil, or_false] at hc
        rcases hc with e | e | e | e | e
        · rw [e]; exact Heap.lt_size hz
        · rw [e]; exact Heap.lt_size hTI
        · rw [e]; exact Heap.lt_size hO
        · rw [e]; exact li1
        · rw [e]; exact li2)
/-- list(zip(a, b)) of lists of one length -/
def tListZip (K : PySem.W.Frag) (ta tb : TE) : TE := fun σ H Q => tCons ta (tCons tb tNil) σ H fun vs H2 => ∃ a b xs ys, vs = [.ref a, .ref b] ∧ SqL K H2 a xs ∧ SqL K H2 b ys ∧ xs.length = ys.length ∧
  ∀ (q : Addr) (ts : List Addr) (H' : Hp), Same H2 H' → H2 q = none → H' q = some (.lst (ts.map V.ref)) → ts.length = xs.length → (∀ (j : Nat) (t : Addr) (p : V × V), ts[j]? = some t → (xs.zip ys)[j]? = some p → H' t = some (.tup [p.1, p.2])) → Q (.ref q) H'
theorem pe_listZip {e1 e2 : Expr} {ta tb : TE} {p1 p2 pos1 pos2 : Pos} (hc : X.calm = true) (hg : Gl X "list") (hm : X.mg "list" = none) (hgz : Gl X "zip") (hmz : X.mg "zip" = none) (h1 : PE X e1 ta) (h2 : PE X e2 tb)
    (hs : starEach [.Call (.Name "zip" p2) [e1, e2] [] pos2] X.env = (false, eval (.Call (.Name "zip" p2) [e1, e2] [] pos2) X.env) :: starEach [] X.env := by rfl)
    (hsz : starEach [e1, e2] X.env = (false, eval e1 X.env) :: starEach [e2] X.env := by rfl) (hpl : (backTo pos2 (starEach [e2] X.env)).any (·.1) = false := by rfl)
    (hs2 : starEach [e2] X.env = (false, eval e2 X.env) :: starEach [] X.env := by rfl) (hpl2 : (backTo pos2 (starEach [] X.env)).any (·.1) = false := by rfl) :
    PE X (.Call (.Name "list" p1) [.Call (.Name "zip" p2) [e1, e2] [] pos2] [] pos1) (tListZip X.K ta tb) := by
  have ha : PA X [e1, e2] (tCons ta (tCons tb tNil)) := pa_cons h1 (pa_cons h2 pa_nil hs2) hsz
  refine ⟨fun pins s σ H Q I h => ?_⟩
  refine wpAny_Call_Name_kw (ld_blt I hg hm (show bootBuiltins "list" = some (.type "list") by decide +kernel) ?_)
  refine PyProof.Rows.callWith_type1 ?_ hs rfl
  rw [hs]
  show wpAny _ _ (spliced ((false, eval (.Call (.Name "zip" p2) [e1, e2] [] pos2) X.env) :: backTo pos1 (starEach [] X.env))) _ _ s
  refine Calls.spliced_cons ?_
  refine wpAny_Call_Name_kw (ld_blt I hgz hmz PyProof.Rows.boot_zip (PyProof.Rows.callWith_type1 (thn (ha.run pos2 pins s σ H _ I h) fun us s1 ⟨vs, H1, I1, r1, q1⟩ => ?_) hsz hpl))
  obtain ⟨a, b, xs, ys, ev, hqx, hqy, hl, q⟩ := q1
  subst ev
  cases r1 with
  | cons r rr =>
  cases rr with
  | cons r' rr =>
  cases rr
  cases r
  cases r'
  obtain ⟨its, rv, p1, hzl⟩ := I1.list hqx
  obtain ⟨its2, rv2, p2, _⟩ := I1.list hqy
  have la : a < s1.heap.objs.size := p1.lt
  have lb : b < s1.heap.objs.size := p2.lt
  refine call_zip_2 p1.isList p2.isList fun hp hz hTI hTO g1 g2 hsz2 hk => ?_
  have I2 : Inv X pins σ H1 { s1 with heap := hp } := I1.kept (t' := s1.toks) hk
  refine Calls.spliced_nil ?_
  have D := PySem.W.ktu_apart s1.heap.objs.size a b la lb
  have hfp : ∀ c ∈ [s1.heap.objs.size + 4, s1.heap.objs.size + 2, s1.heap.objs.size + 3, s1.heap.objs.size, s1.heap.objs.size + 1], s1.heap.objs.size ≤ c ∧ c < hp.objs.size := fun c hc => by
    simp only [List.mem_cons, List.not_mem_nil, or_false] at hc
    rw [hsz2]
    omega
  have st0 : ZSt (s1.heap.objs.size + 4) (s1.heap.objs.size + 2) (s1.heap.objs.size + 3) s1.heap.objs.size (s1.heap.objs.size + 1) a b hp.objs.size 0 hp := ⟨⟨⟨_, hTO⟩, hTI⟩, g1, g2, .inl ⟨hz, _, _, hTO⟩⟩
  have nzq : ∀ c ∈ [s1.heap.objs.size + 4, s1.heap.objs.size + 2, s1.heap.objs.size + 3, s1.heap.objs.size, s1.heap.objs.size + 1], c ≠ hp.objs.size := fun c hc => Nat.ne_of_lt (hfp c hc).2
  have fr : H1 hp.objs.size = none := I2.hok.fresh (Nat.le_refl _)
  have hfq : ∀ (ys : List V), ∀ c ∈ [s1.heap.objs.size + 4, s1.heap.objs.size + 2, s1.heap.objs.size + 3, s1.heap.objs.size, s1.heap.objs.size + 1], FpOk X pins (upd H1 hp.objs.size (.lst ys)) c := fun ys c hc => I1.fpOk (hfp c hc).1 (by
    rw [upd_ne (nzq c hc)]; exact I1.hok.fresh (hfp c hc).1)
  refine callType_codes (Q₁ := fun obj s₁ => obj = .ref hp.objs.size ∧ s₁ = { s1 with heap := hp.push { cls := .type "list", data := .seq #[] } }) PySem.F.called_list (PySem.F.typeCall_list_1 _) PySem.F.entry_list_init
    (code_list_new _ ⟨rfl, rfl⟩) fun obj s₁ ho => ?_
  obtain ⟨rfl, rfl⟩ := ho
  have hS : (hp.push { cls := .type "list", data := .seq #[] }).get? hp.objs.size = some { cls := .type "list", data := .seq #[] } := Heap.get?_push_size _ rfl
  refine ⟨⟨_, hS, rfl⟩, PySem.F.args_list_init_2 _ _, ?_⟩
  have I3 : Inv X pins σ (upd H1 hp.objs.size (.lst [])) { s1 with heap := hp.push { cls := .type "list", data := .seq #[] } } := I2.lnew (its := []) (t' := s1.toks) .nil (Nat.zero_le _)
  have st1 := zst_move st0 (h' := hp.push { cls := .type "list", data := .seq #[] }) (fun c o _ e => Heap.get?_push_of_some _ e) nzq
  generalize hp.objs.size = lq at *
  show wpAny _ _ (do let old ← Builtin.List.listItems (.ref lq); Builtin.List.listUpdate (.ref lq) (fun _ => #[]); letGo old.toList.reverse; Builtin.List.listExtendWith (.ref lq) (.ref (s1.heap.objs.size + 4)) .none) _ _ _
  refine wpAny_bind ?_
  unfold Builtin.List.listItems
  refine wpAny_bind (wpAny_seqItems hS rfl (wpAny_pure ?_))
  show wpAny _ _ (updateSeq lq (fun _ => #[]) >>= fun _ => letGo (#[] : Array Value).toList.reverse >>= fun _ => Builtin.List.listExtendWith (.ref lq) (.ref (s1.heap.objs.size + 4)) .none) _ _ _
  refine wpAny_bind (wpAny_updateSeq hS rfl ?_)
  have I4 := I3.lset (f := fun _ => #[]) (its := []) (its' := []) (ys := []) (t' := s1.toks) upd_same hS rfl .nil (Nat.zero_le _)
  rw [upd_upd] at I4
  have st2 := zst_move st1 (h' := (hp.push { cls := .type "list", data := .seq #[] }).update lq (Obj.mapSeq fun _ => #[])) (fun c o hb e => (Heap.get?_update_other _ _ (Ne.symm hb)).trans e) nzq
  have hz2 : IsZip ((hp.push { cls := .type "list", data := .seq #[] }).update lq (Obj.mapSeq fun _ => #[])) (s1.heap.objs.size + 4) (s1.heap.objs.size + 2) (s1.heap.objs.size + 3) .none := (Heap.get?_update_other _ _ (Ne.symm (nzq _ List.mem_cons_self))).trans (Heap.get?_push_of_some _ hz)
  refine wpAny_bind (wpAny_letGo ?_)
  generalize (hp.push { cls := .type "list", data := .seq #[] }).update lq (Obj.mapSeq fun _ => #[]) = h2 at *
  have hh : X.A.handled = none := I.ok.hd hc
  have smq : Same H1 (upd H1 lq (.lst [])) := sm_new fr
  have fin : ∀ s', Inv X pins σ (upd H1 lq (.lst [])) s' → ZSt (s1.heap.objs.size + 4) (s1.heap.objs.size + 2) (s1.heap.objs.size + 3) s1.heap.objs.size (s1.heap.objs.size + 1) a b lq 0 s'.heap →
      codeAny (model X.prog X.w) X.A.in1 (.builtin "list.extend.loop" ⟨[.ref lq, .ref (s1.heap.objs.size + 4), .none], []⟩) (wants (fun r s₂ => r = .none ∧ EP X pins σ Q (.ref lq) s₂) X.xe) s' := fun s' I' st' => by
    refine zl_loop (A1 := X.A.in1) (H0 := H1) hh D (xs := xs) (ys := ys) fr ?_ xs.length 0 [] _ s' (by omega) (Nat.zero_le _) hl I' (hfq []) hqx hqy smq upd_same rfl ⟨[], rfl, by rw [List.take_zero]; rfl, fun j t p hj => by simp at hj⟩ st'
    rintro acc H' s'' I'' ⟨ts, rfl, t1, t2⟩ eq sm
    exact ⟨rfl, .ref lq, H', I'', rfl, q lq ts H' sm fr eq (by rw [t1, List.length_zip]; omega) t2⟩
  unfold Builtin.List.listExtendWith
  have hzz : Shared.TypeIs { s1 with heap := h2 } (.ref (s1.heap.objs.size + 4)) "zip" := by
    obtain ⟨_, _, _, c⟩ := st2
    rcases c with ⟨e, _⟩ | ⟨T, f, oT, e, _⟩ <;> exact ⟨_, e, rfl⟩
  refine wpAny_bind (wpAny_typeOf hzz ?_)
  have b1 : Builtin.List.listSameRef (.ref lq) (.ref (s1.heap.objs.size + 4)) = false := by simp [Builtin.List.listSameRef, Ne.symm (nzq _ (List.mem_cons_self))]
  have b2 : (Value.type "zip" == Value.type "list") = false := by decide
  have b3 : (Value.type "zip" == Value.type "tuple") = false := by decide
  simp only [b1, b2, b3, Bool.or_false, Bool.false_eq_true, if_false]
  refine wpAny_bind (wpAny_pyIter_zip hz2 ?_)
  refine wpAny_bind (wpAny_holding (zip_hint hzz ?_))
  obtain ⟨_, its3, n3, r3, _, e3⟩ := I4.lstM upd_same
  cases r3
  refine wpAny_ite_split (fun _ => ?_) (fun _ => wpAny_pure ⟨plainId_quiet PySem.F.plain_extend_loop _, fin _ I4 st2⟩)
  refine wpAny_bind (wpAny_rule ?_)
  refine wpAny_bind ?_
  show wpAny _ _ (updateSeq lq (·.push .none) >>= fun _ => updateSeq lq (·.pop)) _ _ _
  refine wpAny_bind (wpAny_updateSeq e3 rfl ?_)
  have I5 := I4.lset (f := (·.push Value.none)) (its' := [Value.none]) (ys := [.non]) (t' := s1.toks) upd_same e3 (by simp) (.cons rfl .nil) (by rw [List.length_singleton]; have := big_lt; omega)
  obtain ⟨_, its4, n4, r4, _, e4⟩ := I5.lstM upd_same
  obtain ⟨u4, rfl, ru4⟩ := r4.one
  refine wpAny_updateSeq e4 rfl ?_ (by show 1 ≤ sizeLine; have := big_lt; omega) (by show 0 ≤ sizeLine + 1; exact Nat.zero_le _)
  refine wpAny_pure ⟨plainId_quiet PySem.F.plain_extend_loop _, fin _ ?_ ?_⟩
  · have I6 := I5.lset (f := (·.pop)) (its := [u4]) (its' := []) (ys := []) (t' := s1.toks) upd_same e4 (by rfl) .nil (Nat.zero_le _)
    rw [upd_upd, upd_upd] at I6
    exact I6
  · refine zst_move st2 (fun c o hb e => ?_) nzq
    exact (Heap.get?_update_other _ _ (Ne.symm hb)).trans ((Heap.get?_update_other _ _ (Ne.symm hb)).trans e)
end

end Pp

set_option Elab.async false
set_option linter.all false
set_option autoImplicit false
set_option maxRecDepth 100000
set_option maxHeartbeats 4000000
namespace Pp
open PySem PySem.Spec L2
variable {P : Program} {w : World} {K : PySem.W.Frag} {mg : Str → Option Value} {base : Heap}
/-! ### behind, going, gone, cost_of, turned_back -/
theorem dpa_of {H : Hp} : ∀ {vs : List V} {ds : List PyData}, vs.length = ds.length → (∀ (j : Nat) (v : V) (d : PyData), vs[j]? = some v → ds[j]? = some d → Dp K H v d) → DpAll K H vs ds
  | [], [], _, _ => .nil
  | [], _ :: _, h, _ => by cases h
  | _ :: _, [], h, _ => by cases h
  | v :: vs, d :: ds, h, k => .cons (k 0 v d rfl rfl) (dpa_of (Nat.succ.inj h) fun j v' d' h1 h2 => k (j + 1) v' d' (by simpa using h1) (by simpa using h2))
def sp_Going_behind (T : Txt K mg) : Sp := fun vs H Q _ => ∃ (H0 : Hp) (p : Addr) (A : GAd) (W : F) (st : GoSt) (ts ls : List Addr) (bv : List V), vs = [.ref p] ∧ GoIn T H0 H p A W st ts ls bv ∧ st.counts.length = st.tags.length ∧ RetD (rowD (st.tags.zip st.counts)) K H Q
theorem ok_Going_behind (T : Txt K mg) : FnOk P w K mg base CX0 1 T.a_Going_behind T.d_Going_behind P_Going_behind (sp_Going_behind T) := by
  refine T.F_Going_behind.ok sc_Going_behind (fun vs H Q E h => ?_) (fun cdv A outer s H vs Q E hr h => ?_)
  · obtain ⟨H0, p, A, W, st, ts, ls, bv, rfl, G, hl, k⟩ := h
    rfl
  · obtain ⟨H0, p, A, W, st, ts, ls, bv, rfl, G, hl, k⟩ := h
    refine ⟨_, (pss_one (ps_ret (pe_callTy call_tuple_of (by rfl) T.n_tuple (by decide +kernel) (pa_cons (pe_listZip rfl (by rfl) T.n_list (by rfl) T.n_zip (pe_fld (pv 0) rfl) (pe_fld (pv 0) rfl)) pa_nil)))), ?_⟩
    refine ⟨_, rfl, p, T.c_Going, _, _, _, rfl, G.ob, T.cl_Going, T.na_Going_tags, rfl, _, rfl, p, T.c_Going, _, _, _, rfl, G.ob, T.cl_Going, T.na_Going_counts, rfl, A.gt, A.gc, _, _, rfl, SqL.of G.tags, SqL.of G.counts, by rw [List.length_map, iv_len, hl], ?_⟩
    intro q ts' H1 s1 nq eq hlen hts
    have hlen' : ts'.length = st.tags.length := by rw [hlen, List.length_map]
    have hd : DpAll K H1 (ts'.map V.ref) ((st.tags.zip st.counts).map ndD) := by
      refine dpa_of (by rw [List.length_map, List.length_map, List.length_zip]; omega) fun j v d hv hd => ?_
      rw [List.getElem?_map] at hv hd
      cases ht : ts'[j]? with
      | none => rw [ht] at hv; cases hv
      | some t =>
      rw [ht] at hv
      cases hz : (st.tags.zip st.counts)[j]? with
      | none => rw [hz] at hd; cases hd
      | some n =>
      rw [hz] at hd
      cases hv; cases hd
      have hz' := List.getElem?_zip_eq_some.mp hz
      have h1 := hts j t (.str n.1, .int (n.2 : Nat)) ht (List.getElem?_zip_eq_some.mpr ⟨by rw [List.getElem?_map, hz'.1]; rfl, iv_get hz'.2⟩)
      exact .tup (SqT.of h1) (.cons (.str _) (.cons (.int _) .nil))
    refine ⟨q, _, rfl, .inl ⟨SqL.of eq, fun u hu => ?_⟩⟩
    have u1 := sm_new hu (o := .tup (ts'.map V.ref))
    exact k _ _ (s1.trans u1) (.tup (SqT.of upd_same) (dpa_same u1 hd))
/-- what is handed in: a row, a way along it to the end -/
structure WayIn (W : F) (w : List Step) (st : GoSt) : Prop where
  good : W.good = true
  size : W.size < 100001
  si : ∀ s ∈ w, StIn s
  ok : wayOk w = true
  len : w.length < 900000
  wt : wW w < 1000000
  run : runS W (st0 W) w = some st
  fr : ∃ fr, st.frames = [(fr, [])]
theorem WayIn.cl {W : F} {w : List Step} {st : GoSt} (h : WayIn W w st) : st.counts.length = st.tags.length := ((runS_len _ _ _ h.run).2.2 (gb0 W)).cl
def sp_going (T : Txt K mg) : Sp := fun vs H Q _ => ∃ (va wv : V) (W : F) (w : List Step) (st : GoSt), vs = [va, wv] ∧ Dp K H va (rowD W.flat) ∧ Dp K H wv (wayD w) ∧ WayIn W w st ∧ ∀ p H' H0 A ts ls bv, Same H H' → GoIn T H0 H' p A W st ts ls bv → Q (.ref p) H'
theorem ok_going (T : Txt K mg) : FnOk P w K mg base CX0 10 T.a_going T.d_going P_going (sp_going T) := by
  have G_Going___init__ := ok_Going___init__ (P := P) (w := w) (base := base) T
  have G_is_row := ok_is_row (P := P) (w := w) (base := base) T
  have G_is_way := ok_is_way (P := P) (w := w) (base := base) T
  refine T.F_going.ok sc_going (fun vs H Q E h => ?_) (fun cdv A outer s H vs Q E hr h => ?_)
  · obtain ⟨va, wv, W, w, st, rfl, hv, hw, D, k⟩ := h
    rfl
  · obtain ⟨va, wv, W, w, st, rfl, hv, hw, D, k⟩ := h
    refine ⟨_, (pss_cons (ps_if (PW.pt (pw_or (pt_not (pt_val (pe_call G_is_row (hr.mono (by decide)) (by rfl) T.m_is_row T.F_is_row.kp T.b_is_row .nil pass0 (pa_cons (pv 0) pa_nil)))) (pw_or1 (pt_not (pt_val (pe_call G_is_way (hr.mono (by decide)) (by rfl) T.m_is_way T.F_is_way.kp T.b_is_way .nil pass0 (pa_cons (pv 1) pa_nil))))))) (pss_one ps_never) pss_nil)
      (pss_one (ps_ret (pe_make T.mk_Going G_Going___init__ (hr.mono (by decide)) (by rfl) T.m_Going T.b_Going___init__ .nil pass0 (pa_cons (pv 0) (pa_cons (pv 1) pa_nil)))))), ?_⟩
    have hM := mil_lt
    have hb := big_lt
    have h1 := D.size
    have h2 := D.len
    obtain ⟨fr, hfr⟩ := D.fr
    refine ⟨_, rfl, va, W.flat, rfl, hv, by rw [flat_len]; omega, fun n hn => name_size (good_names D.good n hn), fun H1 s1 => ?_⟩
    rw [rowOk_flat D.good]
    refine ⟨_, rfl, ?_⟩
    refine ⟨_, rfl, wv, w, rfl, dp_same s1 hw, D.si, by omega, fun H2 s2 => ?_⟩
    rw [D.ok]
    refine ⟨_, rfl, ?_⟩
    refine ⟨_, rfl, _, rfl, fun x dx hx hdx hne => ?_⟩
    have s3 := same_made (C := T.c_Going) hx hdx
    have s12 := s1.trans s2
    refine ⟨x, dx, va, wv, W, w, st, fr, rfl, upd_same, dp_same (s12.trans s3) hv, D.good, D.size, dp_same (s12.trans s3) hw, D.si, D.len, D.wt, D.run, hfr, fun H3 A ts ls bv G => ⟨rfl, ?_⟩⟩
    exact k x H3 _ A ts ls bv (s12.trans (made_same hx hdx (less_sx G.s0))) G
def sp_gone (T : Txt K mg) : Sp := fun vs H Q _ => ∃ (va wv : V) (W : F) (w : List Step) (st : GoSt), vs = [va, wv] ∧ Dp K H va (rowD W.flat) ∧ Dp K H wv (wayD w) ∧ WayIn W w st ∧ RetD (rowD (st.tags.zip st.counts)) K H Q
theorem ok_gone (T : Txt K mg) : FnOk P w K mg base CX0 11 T.a_gone T.d_gone P_gone (sp_gone T) := by
  have G_Going_behind := ok_Going_behind (P := P) (w := w) (base := base) T
  have G_going := ok_going (P := P) (w := w) (base := base) T
  refine T.F_gone.ok sc_gone (fun vs H Q E h => ?_) (fun cdv A outer s H vs Q E hr h => ?_)
  · obtain ⟨va, wv, W, w, st, rfl, hv, hw, D, k⟩ := h
    rfl
  · obtain ⟨va, wv, W, w, st, rfl, hv, hw, D, k⟩ := h
    refine ⟨_, (pss_one (ps_ret (pe_meth0 (pe_call G_going (hr.mono (by decide)) (by rfl) T.m_going T.F_going.kp T.b_going .nil pass0 (pa_cons (pv 0) (pa_cons (pv 1) pa_nil))) T.cl_Going T.M_Going_behind G_Going_behind (hr.mono (by decide)) T.b_Going_behind .nil pass0))), ?_⟩
    refine ⟨_, rfl, _, rfl, va, wv, W, w, st, rfl, hv, hw, D, fun p H1 H0 A ts ls bv s1 G => ?_⟩
    refine ⟨p, _, _, rfl, G.ob, rfl, H0, p, A, W, st, ts, ls, bv, rfl, G, D.cl, fun v H2 s2 d => ?_⟩
    exact k v H2 (s1.trans s2) d
def sp_cost_of (T : Txt K mg) : Sp := fun vs H Q _ => ∃ (va wv : V) (W : F) (w : List Step) (st : GoSt), vs = [va, wv] ∧ Dp K H va (rowD W.flat) ∧ Dp K H wv (wayD w) ∧ WayIn W w st ∧ ∀ H', Same H H' → Q (.int (st.cost : Nat)) H'
theorem ok_cost_of (T : Txt K mg) : FnOk P w K mg base CX0 11 T.a_cost_of T.d_cost_of P_cost_of (sp_cost_of T) := by
  have G_going := ok_going (P := P) (w := w) (base := base) T
  refine T.F_cost_of.ok sc_cost_of (fun vs H Q E h => ?_) (fun cdv A outer s H vs Q E hr h => ?_)
  · obtain ⟨va, wv, W, w, st, rfl, hv, hw, D, k⟩ := h
    rfl
  · obtain ⟨va, wv, W, w, st, rfl, hv, hw, D, k⟩ := h
    refine ⟨_, (pss_one (ps_ret (pe_fld (pe_call G_going (hr.mono (by decide)) (by rfl) T.m_going T.F_going.kp T.b_going .nil pass0 (pa_cons (pv 0) (pa_cons (pv 1) pa_nil))) rfl))), ?_⟩
    refine ⟨_, rfl, _, rfl, va, wv, W, w, st, rfl, hv, hw, D, fun p H1 H0 A ts ls bv s1 G => ?_⟩
    refine ⟨p, T.c_Going, _, _, _, rfl, G.ob, T.cl_Going, T.na_Going_cost, rfl, ?_⟩
    exact k H1 s1
def sp_turned_back (T : Txt K mg) : Sp := fun vs H Q _ => ∃ (va wv : V) (W : F) (w : List Step) (st : GoSt), vs = [va, wv] ∧ Dp K H va (rowD W.flat) ∧ Dp K H wv (wayD w) ∧ WayIn W w st ∧ RetD (wayD st.back) K H Q
theorem ok_turned_back (T : Txt K mg) : FnOk P w K mg base CX0 11 T.a_turned_back T.d_turned_back P_turned_back (sp_turned_back T) := by
  have G_going := ok_going (P := P) (w := w) (base := base) T
  refine T.F_turned_back.ok sc_turned_back (fun vs H Q E h => ?_) (fun cdv A outer s H vs Q E hr h => ?_)
  · obtain ⟨va, wv, W, w, st, rfl, hv, hw, D, k⟩ := h
    rfl
  · obtain ⟨va, wv, W, w, st, rfl, hv, hw, D, k⟩ := h
    refine ⟨_, (pss_one (ps_ret (pe_callTy call_tuple_of (by rfl) T.n_tuple (by decide +kernel) (pa_cons (pe_fld (pe_call G_going (hr.mono (by decide)) (by rfl) T.m_going T.F_going.kp T.b_going .nil pass0 (pa_cons (pv 0) (pa_cons (pv 1) pa_nil))) rfl) pa_nil)))), ?_⟩
    refine ⟨_, rfl, _, rfl, va, wv, W, w, st, rfl, hv, hw, D, fun p H1 H0 A ts ls bv s1 G => ?_⟩
    refine ⟨p, T.c_Going, _, _, _, rfl, G.ob, T.cl_Going, T.na_Going_back, rfl, ?_⟩
    refine ⟨A.gb, _, rfl, .inl ⟨SqL.of G.back, fun u hu => ?_⟩⟩
    have u1 := sm_new hu (o := .tup bv)
    exact k _ _ (s1.trans u1) (.tup (SqT.of upd_same) (dpa_same u1 G.bd))

end Pp

set_option Elab.async false
set_option linter.all false
set_option autoImplicit false
set_option maxRecDepth 100000
set_option maxHeartbeats 4000000
namespace Pp
open PySem PySem.Spec L2
variable {P : Program} {w : World} {K : PySem.W.Frag} {mg : Str → Option Value} {base : Heap}
/-! ### moves_between -/
abbrev Mv := Option Nat × Option Nat
def onD : Option Nat → PyData
  | none => .none
  | some n => .int (n : Nat)
def mvD (m : Mv) : PyData := .tuple [onD m.1, onD m.2]
theorem nl_mv (m : Mv) : nl (mvD m) = true := by
  obtain ⟨a, b⟩ := m
  cases a <;> cases b <;> simp [mvD, onD, nl, nlA]
def mvF (o q : Nat) : F → F → List Mv
  | .nil, .nil => []
  | .nil, .snoc b _ _ => (none, some (q + b.size)) :: mvF o q .nil b
  | .snoc a _ _, .nil => (some (o + a.size), none) :: mvF o q a .nil
  | .snoc a t c, .snoc b u e =>
    if dF (.snoc a t c) (.snoc b u e) = dF a (.snoc b u e) + (1 + c.size) then (some (o + a.size), none) :: mvF o q a (.snoc b u e)
    else if dF (.snoc a t c) (.snoc b u e) = dF (.snoc a t c) b + (1 + e.size) then (none, some (q + b.size)) :: mvF o q (.snoc a t c) b
    else (some (o + a.size), some (q + b.size)) :: mvF o q a b
termination_by f g => sizeOf f + sizeOf g
theorem mvF_nn (o q : Nat) : mvF o q .nil .nil = [] := by rw [mvF]
theorem mvF_ns (o q : Nat) (b : F) (u : Str) (e : F) : mvF o q .nil (.snoc b u e) = (none, some (q + b.size)) :: mvF o q .nil b := by rw [mvF]
theorem mvF_sn (o q : Nat) (a : F) (t : Str) (c : F) : mvF o q (.snoc a t c) .nil = (some (o + a.size), none) :: mvF o q a .nil := by rw [mvF]
theorem mvF_ss (o q : Nat) (a : F) (t : Str) (c : F) (b : F) (u : Str) (e : F) : mvF o q (.snoc a t c) (.snoc b u e) =
    if dF (.snoc a t c) (.snoc b u e) = dF a (.snoc b u e) + (1 + c.size) then (some (o + a.size), none) :: mvF o q a (.snoc b u e)
    else if dF (.snoc a t c) (.snoc b u e) = dF (.snoc a t c) b + (1 + e.size) then (none, some (q + b.size)) :: mvF o q (.snoc a t c) b
    else (some (o + a.size), some (q + b.size)) :: mvF o q a b := by rw [mvF]
theorem sits_lt {f c : F} {o : Nat} (h : Sits f c o) : c.size = 0 ∨ o + c.size ≤ f.size := by
  by_cases hz : c.size = 0
  · exact .inl hz
  · right
    have h1 := h (c.size - 1) (by omega)
    have h2 : c.nodes[c.size - 1]? = some (c.nodes[c.size - 1]'(by rw [nodes_len]; omega)) := List.getElem?_eq_getElem _
    rw [h2] at h1
    have h3 := (List.getElem?_eq_some_iff.mp h1).1
    rw [nodes_len] at h3
    omega
theorem sits_mem {f c : F} {o x : Nat} (h : Sits f c o) (hx : x ∈ c.roots o) : x < f.size := by
  have h1 := roots_lt c o x hx
  rcases sits_lt h with h2 | h2 <;> omega
theorem sits_len {f c : F} {o : Nat} (h : Sits f c o) : c.len ≤ f.size := by
  have h1 := len_le_size c
  rcases sits_lt h with h2 | h2 <;> omega
theorem mat_at {H : Hp} {tp : Addr} {rs : List Addr} {m : Nat} {g : Nat → Nat → Nat} {i j : Nat} (M : MatOk H tp rs m g) (hi : i < rs.length) (hj : j ≤ m) :
    ∃ r, (rs.map V.ref)[i]? = some (.ref r) ∧ H r = some (.lst (iv (rowOf m (g i)))) ∧ (iv (rowOf m (g i)))[j]? = some (.int (g i j : Nat)) := by
  have h1 : rs[i]? = some (rs[i]'hi) := List.getElem?_eq_getElem _
  exact ⟨_, by rw [List.getElem?_map, h1]; rfl, M.row i _ h1, iv_get (rowOf_get _ hj)⟩
theorem mil3_lt : 3000000 ≤ sizeLine := by rw [sizeLine_eq]; decide
def RetMv (ms : List Mv) (K : PySem.W.Frag) (H : Hp) (Q : VK) : Prop := ∀ l vs H', Same H H' → H l = none → H' l = some (.lst vs) → DpAll K H' vs (ms.map mvD) → Q (.ref l) H'
def sp_moves_between (T : Txt K mg) : Sp := fun vs H Q _ => ∃ (p : Addr) (A : DAd) (f g : F) (ok : Nat → Nat → Prop) (c e : F) (o q : Nat) (a b : Addr), vs = [.ref p, .ref a, .ref b] ∧ DistAt T H p A f g ok ∧ SqT K H a (iv (c.roots o)) ∧ SqT K H b (iv (e.roots q)) ∧
  Sits f c o ∧ Sits g e q ∧ (∀ x ∈ c.roots o, ∀ y ∈ e.roots q, ok x y) ∧ RetMv (mvF o q c e) K H Q
theorem ok_moves_between (T : Txt K mg) : FnOk P w K mg base CX0 3 T.a_moves_between T.d_moves_between P_moves_between (sp_moves_between T) := by
  have G_Distances_table := ok_Distances_table (P := P) (w := w) (base := base) T
  refine T.F_moves_between.ok sc_moves_between (fun vs H Q E h => ?_) (fun cdv A outer s H vs Q E hr h => ?_)
  · obtain ⟨p, A, f, g, ok, c, e, o, q, a, b, rfl, D0, ha, hb, hc, he, hok, k⟩ := h
    rfl
  · obtain ⟨p, A, f, g, ok, c, e, o, q, a, b, rfl, D0, ha, hb, hc, he, hok, k⟩ := h
    refine ⟨_, (pss_cons (ps_asg (pe_tup (pa_cons (pe_meth (pv 0) T.cl_Distances T.M_Distances_table G_Distances_table (hr.mono (by decide)) T.b_Distances_table .nil pass0 (pa_cons (pv 1) (pa_cons (pv 2) pa_nil))) (pa_cons (pe_callB call_len_seq (by rfl) T.n_len (by decide +kernel) (pa_cons (pv 1) pa_nil)) (pa_cons (pe_callB call_len_seq (by rfl) T.n_len (by decide +kernel) (pa_cons (pv 2) pa_nil)) (pa_cons (pe_lst pa_nil) pa_nil))))) (pg_tup rfl (pgs_cons (pg_name (i := 3) sc_moves_between.nd rfl (Or.inl rfl)) (pgs_cons (pg_name (i := 4) sc_moves_between.nd rfl (Or.inl rfl)) (pgs_cons (pg_name (i := 5) sc_moves_between.nd rfl (Or.inl rfl)) (pgs_cons (pg_name (i := 6) sc_moves_between.nd rfl (Or.inl rfl)) pgs_nil))))))
      (pss_cons (ps_while PassesOwn.never (PW.pt (pw_or (pt_cmpR op_gt (pv 4) pe_int (nomark _)) (pw_or1 (pt_cmpR op_gt (pv 5) pe_int (nomark _))))) (pss_cons (ps_set (i := 7) sc_moves_between.nd rfl (Or.inl rfl) (pe_ix ix_list (pe_ix ix_list (pv 3) (pv 4) (fun _ _ => rfl)) (pv 5) (fun _ _ => rfl)))
        (pss_one (ps_if (PW.pt (pw_and (pt_cmpR op_gt (pv 4) pe_int (nomark _)) (pw_and1 (pt_cmpR op_eq (pv 7) (pe_op op_add (pe_ix ix_list (pe_ix ix_list (pv 3) (pe_op op_sub (pv 4) pe_int) (fun _ _ => rfl)) (pv 5) (fun _ _ => rfl)) (pe_ix ix_list (pe_ix ix_tup (pe_fld (pv 0) rfl) pe_int (fun _ _ => rfl)) (pe_ix ix_tup (pv 1) (pe_op op_sub (pv 4) pe_int) (fun _ _ => rfl)) (fun _ _ => rfl))) (nomark _))))) (pss_cons (ps_aug (i := 4) sc_moves_between.nd rfl (Or.inl rfl) pe_int ip_sub)
          (pss_one (ps_expr (pe_bm PySem.F.plainAttrs_list PySem.F.slot_list_append PySem.F.type_list_append mt_append (pv 6) (pa_cons (pe_tup (pa_cons (pe_ix ix_tup (pv 1) (pv 4) (fun _ _ => rfl)) (pa_cons pe_non pa_nil))) pa_nil))))) (pss_one (ps_if (PW.pt (pw_and (pt_cmpR op_gt (pv 5) pe_int (nomark _)) (pw_and1 (pt_cmpR op_eq (pv 7) (pe_op op_add (pe_ix ix_list (pe_ix ix_list (pv 3) (pv 4) (fun _ _ => rfl)) (pe_op op_sub (pv 5) pe_int) (fun _ _ => rfl)) (pe_ix ix_list (pe_ix ix_tup (pe_fld (pv 0) rfl) pe_int (fun _ _ => rfl)) (pe_ix ix_tup (pv 2) (pe_op op_sub (pv 5) pe_int) (fun _ _ => rfl)) (fun _ _ => rfl))) (nomark _))))) (pss_cons (ps_aug (i := 5) sc_moves_between.nd rfl (Or.inl rfl) pe_int ip_sub)
            (pss_one (ps_expr (pe_bm PySem.F.plainAttrs_list PySem.F.slot_list_append PySem.F.type_list_append mt_append (pv 6) (pa_cons (pe_tup (pa_cons pe_non (pa_cons (pe_ix ix_tup (pv 2) (pv 5) (fun _ _ => rfl)) pa_nil))) pa_nil))))) (pss_cons (ps_par (i := 4) (j := 5) rfl sc_moves_between.nd rfl rfl (by decide) rfl rfl (pa_cons (pe_op op_sub (pv 4) pe_int) (pa_cons (pe_op op_sub (pv 5) pe_int) pa_nil)) (by rfl))
            (pss_one (ps_expr (pe_bm PySem.F.plainAttrs_list PySem.F.slot_list_append PySem.F.type_list_append mt_append (pv 6) (pa_cons (pe_tup (pa_cons (pe_ix ix_tup (pv 1) (pv 4) (fun _ _ => rfl)) (pa_cons (pe_ix ix_tup (pv 2) (pv 5) (fun _ _ => rfl)) pa_nil))) pa_nil)))))))))))
      (pss_one (ps_ret (pv 6))))), ?_⟩
    have hM := mil_lt
    have hS := mil3_lt
    have lc := sits_len hc
    have le := sits_len he
    have lf := D0.lf
    have lg := D0.lg
    have rc := roots_len c o
    have re := roots_len e q
    refine ⟨_, rfl, p, _, _, rfl, D0.ob, rfl, _, rfl, _, rfl, p, A, f, g, ok, a, b, _, _, rfl, D0, ha, hb, fun x hx => sits_mem hc hx, fun x hx => sits_mem he hx, by omega, by omega, hok, fun tp rs H1 s1 n1 hr M => ?_⟩
    refine ⟨_, rfl, a, _, rfl, .inr (sm_st s1 ha), _, rfl, b, _, rfl, .inr (sm_st s1 hb), Nat.zero_le _, fun l hl => ⟨by show 4 ≤ sizeLine; omega, fun t ht => ?_⟩⟩
    refine ⟨t, _, rfl, SqT.of upd_same, rfl, _, _, rfl, _, _, rfl, _, _, rfl, _, _, rfl, rfl, ?_⟩
    rw [iv_len, iv_len, rc, re]
    rw [roots_len c o] at hr
    rw [roots_len e q] at M
    have nlt : l ≠ t := ne_of_none upd_same ht
    have s3 : Same H1 (upd (upd H1 l (.lst [])) t (.tup [.ref tp, .int (c.len : Nat), .int (e.len : Nat), .ref l])) := sm_put (sm_new hl) ((sm_new hl).free ht)
    have el : (upd (upd H1 l (.lst [])) t (.tup [.ref tp, .int (c.len : Nat), .int (e.len : Nat), .ref l])) l = some (.lst []) := (upd_ne nlt).trans upd_same
    have sA := s1.trans s3
    have M3 := M.same s3
    have nl0 : H l = none := s1.free hl
    have nl1 := hl
    generalize (upd (upd H1 l (.lst [])) t (.tup [.ref tp, .int (c.len : Nat), .int (e.len : Nat), .ref l])) = H3 at *
    have sB : Same H1 H3 := s3
    refine ⟨fun m σ' H' => ∃ (i j : Nat) (x7 : Option V) (ms : List Mv) (vs : List V), m = i + j ∧ i ≤ c.len ∧ j ≤ e.len ∧ σ' = [some (.ref p), some (.ref a), some (.ref b), some (.ref tp), some (.int (i : Nat)), some (.int (j : Nat)), some (.ref l), x7] ∧ Same H1 H' ∧ H' l = some (.lst vs) ∧ DpAll K H' vs (ms.map mvD) ∧ ms.length + i + j ≤ c.len + e.len ∧ ms ++ mvF o q (c.pre i) (e.pre j) = mvF o q c e,
      ⟨_, c.len, e.len, none, [], [], rfl, Nat.le_refl _, Nat.le_refl _, rfl, sB, el, .nil, by show 0 + _ + _ ≤ _; omega, by rw [pre_all, pre_all]; rfl⟩, ?_⟩
    rintro m σ' H' ⟨i, j, x7, ms, vs, rfl, hi, hj, rfl, s4, e4, d4, h4, h5⟩
    have D4 := (D0.same s1).same s4
    have M4 := M.same s4
    have hvl := dpa_len d4
    rw [List.length_map] at hvl
    have ha4 := sm_st (s1.trans s4) ha
    have hb4 := sm_st (s1.trans s4) hb
    have G : ∀ i j, i ≤ c.len → j ≤ e.len → sums (pairsN f (c.roots o)) (pairsN g (e.roots q)) (dN f g) i j = dF (c.pre i) (e.pre j) := fun i j hi hj => sums_dF hc he _ i j (Nat.le_refl _) hi hj
    obtain ⟨r1, t1, t2, t3⟩ := mat_at M4 (i := i) (j := j) (by omega) hj
    rw [G i j hi hj] at t3
    -- what is put behind
    have push : ∀ (v1 v2 : V) (m1 : Mv) (i' j' : Nat) (x7 : Option V) (t' : Addr) (N : L2.St → Hp → Prop), H' t' = none → Dp K H' v1 (onD m1.1) → Dp K H' v2 (onD m1.2) → i' + j' < i + j → i' ≤ c.len → j' ≤ e.len → (ms ++ [m1]) ++ mvF o q (c.pre i') (e.pre j') = mvF o q c e →
        ∃ m', m' < i + j ∧ ∃ (i2 j2 : Nat) (x7' : Option V) (ms' : List Mv) (vs' : List V), m' = i2 + j2 ∧ i2 ≤ c.len ∧ j2 ≤ e.len ∧ [some (V.ref p), some (.ref a), some (.ref b), some (.ref tp), some (.int (i' : Nat)), some (.int (j' : Nat)), some (.ref l), x7] = [some (.ref p), some (.ref a), some (.ref b), some (.ref tp), some (.int (i2 : Nat)), some (.int (j2 : Nat)), some (.ref l), x7'] ∧ Same H1 (upd (upd H' t' (.tup [v1, v2])) l (.lst (vs ++ [.ref t']))) ∧ (upd (upd H' t' (.tup [v1, v2])) l (.lst (vs ++ [.ref t']))) l = some (.lst vs') ∧ DpAll K (upd (upd H' t' (.tup [v1, v2])) l (.lst (vs ++ [.ref t']))) vs' (ms'.map mvD) ∧ ms'.length + i2 + j2 ≤ c.len + e.len ∧ ms' ++ mvF o q (c.pre i2) (e.pre j2) = mvF o q c e := by
      intro v1 v2 m1 i' j' x7 t' N hn q1 q2 hlt hi' hj' hms
      have u1 := sm_new hn (o := .tup [v1, v2])
      have e5 := u1 _ _ e4
      have kp := Kp.lst e5 (o := .lst (vs ++ [.ref t']))
      have hon : ∀ z, nl (onD z) = true := fun z => by cases z <;> simp [onD, nl]
      refine ⟨i' + j', hlt, i', j', x7, ms ++ [m1], vs ++ [.ref t'], rfl, hi', hj', rfl, sm_put (sm_put s4 (s4.free hn)) nl1, upd_same, ?_, by rw [List.length_append, List.length_singleton]; omega, hms⟩
      rw [List.map_append]
      exact dpa_app (dpa_kp kp (nlA_map mvD nl_mv ms) (dpa_same u1 d4)) (.cons (.tup (kp.st (SqT.of upd_same)) (.cons (dp_kp kp (hon _) (dp_same u1 q1)) (.cons (dp_kp kp (hon _) (dp_same u1 q2)) .nil))) .nil)
    cases i with
    | zero =>
      cases j with
      | zero =>
        refine ⟨_, rfl, _, _, rfl, rfl, _, rfl, ?_⟩
        refine ⟨_, rfl, _, _, rfl, rfl, _, rfl, ?_⟩
        rw [pre_zero, pre_zero, mvF_nn, List.append_nil] at h5
        refine ⟨_, rfl, ?_⟩
        rw [h5] at d4
        exact k l vs H' (s1.trans s4) nl0 e4 d4
      | succ j =>
        refine ⟨_, rfl, _, _, rfl, rfl, _, rfl, ?_⟩
        refine ⟨_, rfl, _, _, rfl, rfl, _, rfl, ?_⟩
        rw [decide_eq_true (show ((0 : Int) < ((j + 1 : Nat) : Int)) by omega)]
        refine ⟨_, fun σ' H' h => h, ?_⟩
        refine ⟨_, rfl, _, rfl, tp, _, _, _, rfl, rfl, SqL.of M4.top, atI_nat t1, _, rfl, r1, _, _, _, rfl, rfl, SqL.of t2, atI_nat t3, ?_⟩
        refine ⟨_, rfl, _, _, rfl, rfl, _, rfl, ?_⟩
        obtain ⟨u, ke, y, b1, b2, b3, b4⟩ := sits_root he (i := j) (by omega)
        have hyv : y = q + (e.pre j).size := Option.some.inj (b2.symm.trans (roots_pre e q j (by omega)))
        have hys : szN g y = 1 + ke.size := by unfold szN; rw [nodeN_of b3]; rfl
        have v3 : (iv (rowOf e.len (sums (pairsN f (c.roots o)) (pairsN g (e.roots q)) (dN f g) (0))))[j]? = some (.int (dF (c.pre (0)) (e.pre j) : Nat)) := by
          rw [← G (0) j (by omega) (by omega)]; exact iv_get (rowOf_get _ (by omega))
        have ej : (((j + 1 : Nat) : Int) - 1) = (j : Nat) := by omega
        refine ⟨_, rfl, _, _, rfl, rfl, _, rfl, ?_⟩
        rw [decide_eq_true (show ((0 : Int) < ((j + 1 : Nat) : Int)) by omega)]
        refine ⟨_, rfl, _, rfl, _, rfl, tp, _, _, _, rfl, rfl, SqL.of M4.top, atI_nat t1, _, rfl, _, _, rfl, rfl, r1, _, _, _, rfl, rfl, SqL.of t2, by rw [ej]; exact atI_nat v3, ?_⟩
        refine ⟨_, rfl, p, T.c_Distances, _, _, _, rfl, D4.ob, T.cl_Distances, T.na_Distances_sizes, rfl, A.as, _, 1, _, rfl, rfl, D4.szs, rfl, _, rfl, _, rfl, _, _, rfl, rfl, b, _, _, _, rfl, rfl, hb4, by rw [ej]; exact atI_nat (iv_get b2), ?_⟩
        refine ⟨A.s2, _, _, _, rfl, rfl, SqL.of D4.s2, atI_nat (szs_get (sits_mem he (List.mem_of_getElem? b2))), _, _, rfl, rfl, rfl, _, rfl, ?_⟩
        rw [hys]
        rw [decide_eq_true (by rw [b4, pre_zero, dF_ns]; congr 1)]
        refine ⟨_, rfl, _, _, rfl, rfl, ?_⟩
        first | rw [ej] | (dsimp only; rw [ej])
        refine ⟨_, rfl, .inl ⟨rfl, _, SqL.of e4⟩, _, rfl, _, rfl, b, _, _, _, rfl, rfl, hb4, atI_nat (iv_get b2), by show 2 ≤ sizeLine; omega, fun t' ht' => ⟨l, _, _, rfl, rfl, (upd_ne (ne_of_none e4 ht')).trans e4, by omega, ?_⟩⟩
        refine push .non (.int (y : Nat)) (none, some y) (0) j _ t' (fun _ _ => True) ht' .non (.int _) (by omega) (by omega) (by omega) ?_
        rw [List.append_assoc, ← h5, hyv]
        rw [pre_zero, b4, mvF_ns]; rfl
    | succ i =>
      cases j with
      | zero =>
        refine ⟨_, rfl, _, _, rfl, rfl, _, rfl, ?_⟩
        rw [decide_eq_true (show ((0 : Int) < ((i + 1 : Nat) : Int)) by omega)]
        refine ⟨_, fun σ' H' h => h, ?_⟩
        refine ⟨_, rfl, _, rfl, tp, _, _, _, rfl, rfl, SqL.of M4.top, atI_nat t1, _, rfl, r1, _, _, _, rfl, rfl, SqL.of t2, atI_nat t3, ?_⟩
        obtain ⟨t, kc, x, a1, a2, a3, a4⟩ := sits_root hc (i := i) (by omega)
        have hxv : x = o + (c.pre i).size := Option.some.inj (a2.symm.trans (roots_pre c o i (by omega)))
        have hxs : szN f x = 1 + kc.size := by unfold szN; rw [nodeN_of a3]; rfl
        obtain ⟨r0, w1, w2, w3⟩ := mat_at M4 (i := i) (j := 0) (by omega) (by omega)
        rw [G i (0) (by omega) (by omega)] at w3
        have ei : (((i + 1 : Nat) : Int) - 1) = (i : Nat) := by omega
        refine ⟨_, rfl, _, _, rfl, rfl, _, rfl, ?_⟩
        rw [decide_eq_true (show ((0 : Int) < ((i + 1 : Nat) : Int)) by omega)]
        refine ⟨_, rfl, _, rfl, _, rfl, _, _, rfl, rfl, tp, _, _, _, rfl, rfl, SqL.of M4.top, by rw [ei]; exact atI_nat w1, _, rfl, r0, _, _, _, rfl, rfl, SqL.of w2, atI_nat w3, ?_⟩
        refine ⟨_, rfl, p, T.c_Distances, _, _, _, rfl, D4.ob, T.cl_Distances, T.na_Distances_sizes, rfl, A.as, _, 0, _, rfl, rfl, D4.szs, rfl, _, rfl, _, rfl, _, _, rfl, rfl, a, _, _, _, rfl, rfl, ha4, by rw [ei]; exact atI_nat (iv_get a2), ?_⟩
        refine ⟨A.s1, _, _, _, rfl, rfl, SqL.of D4.s1, atI_nat (szs_get (sits_mem hc (List.mem_of_getElem? a2))), _, _, rfl, rfl, rfl, _, rfl, ?_⟩
        rw [hxs]
        rw [decide_eq_true (by rw [a4, pre_zero, dF_sn]; congr 1)]
        refine ⟨_, rfl, _, _, rfl, rfl, ?_⟩
        first | rw [ei] | (dsimp only; rw [ei])
        refine ⟨_, rfl, .inl ⟨rfl, _, SqL.of e4⟩, _, rfl, _, rfl, a, _, _, _, rfl, rfl, ha4, atI_nat (iv_get a2), by show 2 ≤ sizeLine; omega, fun t' ht' => ⟨l, _, _, rfl, rfl, (upd_ne (ne_of_none e4 ht')).trans e4, by omega, ?_⟩⟩
        refine push (.int (x : Nat)) .non (some x, none) i (0) _ t' (fun _ _ => True) ht' (.int _) .non (by omega) (by omega) (by omega) ?_
        rw [List.append_assoc, ← h5, hxv]
        rw [pre_zero, a4, mvF_sn]; rfl
      | succ j =>
        refine ⟨_, rfl, _, _, rfl, rfl, _, rfl, ?_⟩
        rw [decide_eq_true (show ((0 : Int) < ((i + 1 : Nat) : Int)) by omega)]
        refine ⟨_, fun σ' H' h => h, ?_⟩
        refine ⟨_, rfl, _, rfl, tp, _, _, _, rfl, rfl, SqL.of M4.top, atI_nat t1, _, rfl, r1, _, _, _, rfl, rfl, SqL.of t2, atI_nat t3, ?_⟩
        obtain ⟨t, kc, x, a1, a2, a3, a4⟩ := sits_root hc (i := i) (by omega)
        have hxv : x = o + (c.pre i).size := Option.some.inj (a2.symm.trans (roots_pre c o i (by omega)))
        have hxs : szN f x = 1 + kc.size := by unfold szN; rw [nodeN_of a3]; rfl
        obtain ⟨r0, w1, w2, w3⟩ := mat_at M4 (i := i) (j := j + 1) (by omega) (by omega)
        rw [G i (j + 1) (by omega) (by omega)] at w3
        have ei : (((i + 1 : Nat) : Int) - 1) = (i : Nat) := by omega
        obtain ⟨u, ke, y, b1, b2, b3, b4⟩ := sits_root he (i := j) (by omega)
        have hyv : y = q + (e.pre j).size := Option.some.inj (b2.symm.trans (roots_pre e q j (by omega)))
        have hys : szN g y = 1 + ke.size := by unfold szN; rw [nodeN_of b3]; rfl
        have v3 : (iv (rowOf e.len (sums (pairsN f (c.roots o)) (pairsN g (e.roots q)) (dN f g) (i + 1))))[j]? = some (.int (dF (c.pre (i + 1)) (e.pre j) : Nat)) := by
          rw [← G (i + 1) j (by omega) (by omega)]; exact iv_get (rowOf_get _ (by omega))
        have ej : (((j + 1 : Nat) : Int) - 1) = (j : Nat) := by omega
        refine ⟨_, rfl, _, _, rfl, rfl, _, rfl, ?_⟩
        rw [decide_eq_true (show ((0 : Int) < ((i + 1 : Nat) : Int)) by omega)]
        refine ⟨_, rfl, _, rfl, _, rfl, _, _, rfl, rfl, tp, _, _, _, rfl, rfl, SqL.of M4.top, by rw [ei]; exact atI_nat w1, _, rfl, r0, _, _, _, rfl, rfl, SqL.of w2, atI_nat w3, ?_⟩
        refine ⟨_, rfl, p, T.c_Distances, _, _, _, rfl, D4.ob, T.cl_Distances, T.na_Distances_sizes, rfl, A.as, _, 0, _, rfl, rfl, D4.szs, rfl, _, rfl, _, rfl, _, _, rfl, rfl, a, _, _, _, rfl, rfl, ha4, by rw [ei]; exact atI_nat (iv_get a2), ?_⟩
        refine ⟨A.s1, _, _, _, rfl, rfl, SqL.of D4.s1, atI_nat (szs_get (sits_mem hc (List.mem_of_getElem? a2))), _, _, rfl, rfl, rfl, _, rfl, ?_⟩
        rw [hxs]
        by_cases c1 : dF (c.pre (i + 1)) (e.pre (j + 1)) = dF (c.pre i) (e.pre (j + 1)) + (1 + kc.size)
        · rw [decide_eq_true (show V.int ((dF (c.pre (i + 1)) (e.pre (j + 1)) : Nat) : Int) = V.int (((dF (c.pre i) (e.pre (j + 1)) : Nat) : Int) + ((1 + kc.size : Nat) : Int)) by rw [c1]; congr 1)]
          refine ⟨_, rfl, _, _, rfl, rfl, ?_⟩
          first | rw [ei] | (dsimp only; rw [ei])
          refine ⟨_, rfl, .inl ⟨rfl, _, SqL.of e4⟩, _, rfl, _, rfl, a, _, _, _, rfl, rfl, ha4, atI_nat (iv_get a2), by show 2 ≤ sizeLine; omega, fun t' ht' => ⟨l, _, _, rfl, rfl, (upd_ne (ne_of_none e4 ht')).trans e4, by omega, ?_⟩⟩
          refine push (.int (x : Nat)) .non (some x, none) i (j + 1) _ t' (fun _ _ => True) ht' (.int _) .non (by omega) (by omega) (by omega) ?_
          rw [List.append_assoc, ← h5, hxv]
          rw [a4, b4] at c1 ⊢
          rw [mvF_ss, if_pos c1, ← b4]; rfl
        · rw [decide_eq_false (show ¬ V.int ((dF (c.pre (i + 1)) (e.pre (j + 1)) : Nat) : Int) = V.int (((dF (c.pre i) (e.pre (j + 1)) : Nat) : Int) + ((1 + kc.size : Nat) : Int)) from fun z => c1 (by have := V.int.inj z; omega))]
          refine ⟨_, rfl, _, _, rfl, rfl, _, rfl, ?_⟩
          rw [decide_eq_true (show ((0 : Int) < ((j + 1 : Nat) : Int)) by omega)]
          refine ⟨_, rfl, _, rfl, _, rfl, tp, _, _, _, rfl, rfl, SqL.of M4.top, atI_nat t1, _, rfl, _, _, rfl, rfl, r1, _, _, _, rfl, rfl, SqL.of t2, by rw [ej]; exact atI_nat v3, ?_⟩
          refine ⟨_, rfl, p, T.c_Distances, _, _, _, rfl, D4.ob, T.cl_Distances, T.na_Distances_sizes, rfl, A.as, _, 1, _, rfl, rfl, D4.szs, rfl, _, rfl, _, rfl, _, _, rfl, rfl, b, _, _, _, rfl, rfl, hb4, by rw [ej]; exact atI_nat (iv_get b2), ?_⟩
          refine ⟨A.s2, _, _, _, rfl, rfl, SqL.of D4.s2, atI_nat (szs_get (sits_mem he (List.mem_of_getElem? b2))), _, _, rfl, rfl, rfl, _, rfl, ?_⟩
          rw [hys]
          by_cases c2 : dF (c.pre (i + 1)) (e.pre (j + 1)) = dF (c.pre (i + 1)) (e.pre j) + (1 + ke.size)
          · rw [decide_eq_true (show V.int ((dF (c.pre (i + 1)) (e.pre (j + 1)) : Nat) : Int) = V.int (((dF (c.pre (i + 1)) (e.pre j) : Nat) : Int) + ((1 + ke.size : Nat) : Int)) by rw [c2]; congr 1)]
            refine ⟨_, rfl, _, _, rfl, rfl, ?_⟩
            first | rw [ej] | (dsimp only; rw [ej])
            refine ⟨_, rfl, .inl ⟨rfl, _, SqL.of e4⟩, _, rfl, _, rfl, b, _, _, _, rfl, rfl, hb4, atI_nat (iv_get b2), by show 2 ≤ sizeLine; omega, fun t' ht' => ⟨l, _, _, rfl, rfl, (upd_ne (ne_of_none e4 ht')).trans e4, by omega, ?_⟩⟩
            refine push .non (.int (y : Nat)) (none, some y) (i + 1) j _ t' (fun _ _ => True) ht' .non (.int _) (by omega) (by omega) (by omega) ?_
            rw [List.append_assoc, ← h5, hyv]
            rw [a4, b4] at c1 c2 ⊢
            rw [mvF_ss, if_neg c1, if_pos c2, ← a4]; rfl
          · rw [decide_eq_false (show ¬ V.int ((dF (c.pre (i + 1)) (e.pre (j + 1)) : Nat) : Int) = V.int (((dF (c.pre (i + 1)) (e.pre j) : Nat) : Int) + ((1 + ke.size : Nat) : Int)) from fun z => c2 (by have := V.int.inj z; omega))]
            refine ⟨_, rfl, _, _, rfl, rfl, _, rfl, _, _, rfl, rfl, _, _, rfl, ?_⟩
            first | rw [ei, ej] | (dsimp only; rw [ei, ej])
            refine ⟨_, rfl, .inl ⟨rfl, _, SqL.of e4⟩, _, rfl, _, rfl, a, _, _, _, rfl, rfl, ha4, atI_nat (iv_get a2), _, rfl, _, rfl, b, _, _, _, rfl, rfl, hb4, atI_nat (iv_get b2), by show 2 ≤ sizeLine; omega, fun t' ht' => ⟨l, _, _, rfl, rfl, (upd_ne (ne_of_none e4 ht')).trans e4, by omega, ?_⟩⟩
            refine push (.int (x : Nat)) (.int (y : Nat)) (some x, some y) i j _ t' (fun _ _ => True) ht' (.int _) (.int _) (by omega) (by omega) (by omega) ?_
            rw [List.append_assoc, ← h5, hxv, hyv]
            rw [a4, b4] at c1 c2 ⊢
            rw [mvF_ss, if_neg c1, if_neg c2]; rfl

end Pp

set_option Elab.async false
set_option linter.all false
set_option autoImplicit false
set_option maxRecDepth 100000
set_option maxHeartbeats 4000000
namespace Pp
open PySem PySem.Spec L2
variable {P : Program} {w : World} {K : PySem.W.Frag} {mg : Str → Option Value} {base : Heap}
/-! ### steps_between -/
def mvM (f g : F) : Option Mv → List Step
  | none => [.up]
  | some (some x, some y) => .turn (if (nodeN f x).1 = (nodeN g y).1 then none else some (nodeN g y).1) :: ((best (nodeN f x).2 (nodeN g y).2).steps ++ [.up])
  | some (none, some y) => [.ins (sub1 (nodeN g y).1 (nodeN g y).2)]
  | some (some _, none) => [.out]
  | some (none, none) => []
theorem mvM_best (f g : F) (o q : Nat) : ∀ (c e : F), Sits f c o → Sits g e q → ((mvF o q c e).reverse.map some).flatMap (mvM f g) = (best c e).steps
  | .nil, .nil, _, _ => by rw [mvF_nn, best]; rfl
  | .nil, .snoc b u e, hc, he => by
    obtain ⟨h1, h2⟩ := sits_a he
    rw [mvF_ns, best, List.reverse_cons, List.map_append, List.flatMap_append, mvM_best f g o q .nil b hc h1]
    show _ = (best .nil b).steps ++ [Step.ins (sub1 u e)]
    have h3 := nodeN_of h2
    show _ ++ ([Step.ins (sub1 (nodeN g (q + b.size)).1 (nodeN g (q + b.size)).2)] ++ []) = _
    rw [h3, List.append_nil]
  | .snoc a t c, .nil, hc, he => by
    obtain ⟨h1, h2⟩ := sits_a hc
    rw [mvF_sn, best, List.reverse_cons, List.map_append, List.flatMap_append, mvM_best f g o q a .nil h1 he]
    rfl
  | .snoc a t c, .snoc b u e, hc, he => by
    obtain ⟨h1, h2⟩ := sits_a hc
    obtain ⟨g1, g2⟩ := sits_a he
    rw [mvF_ss, best]
    by_cases c1 : dF (.snoc a t c) (.snoc b u e) = dF a (.snoc b u e) + (1 + c.size)
    · rw [if_pos c1, if_pos c1, List.reverse_cons, List.map_append, List.flatMap_append, mvM_best f g o q a _ h1 he]
      rfl
    · rw [if_neg c1, if_neg c1]
      by_cases c2 : dF (.snoc a t c) (.snoc b u e) = dF (.snoc a t c) b + (1 + e.size)
      · rw [if_pos c2, if_pos c2, List.reverse_cons, List.map_append, List.flatMap_append, mvM_best f g o q _ b hc g1]
        show _ ++ ([Step.ins (sub1 (nodeN g (q + b.size)).1 (nodeN g (q + b.size)).2)] ++ []) = (best (.snoc a t c) b).steps ++ [Step.ins (sub1 u e)]
        rw [nodeN_of g2, List.append_nil]
      · rw [if_neg c2, if_neg c2, List.reverse_cons, List.map_append, List.flatMap_append, mvM_best f g o q a b h1 g1]
        show _ ++ ((Step.turn (if (nodeN f (o + a.size)).1 = (nodeN g (q + b.size)).1 then none else some (nodeN g (q + b.size)).1) :: ((best (nodeN f (o + a.size)).2 (nodeN g (q + b.size)).2).steps ++ [.up])) ++ []) = (best a b).steps ++ (Step.turn (if t = u then none else some u) :: ((best c e).steps ++ [.up]))
        rw [nodeN_of g2, nodeN_of h2, List.append_nil]
termination_by c e => sizeOf c + sizeOf e
theorem best_len : ∀ (f g : F), (best f g).steps.length ≤ f.size + g.size
  | .nil, .nil => by rw [best]; exact Nat.le_refl _
  | .nil, .snoc b u e => by
    have := best_len .nil b
    rw [best]
    show ((best .nil b).steps ++ [_]).length ≤ 0 + (b.size + (1 + e.size))
    rw [List.length_append, List.length_singleton]
    have h0 : F.nil.size = 0 := rfl
    omega
  | .snoc a t c, .nil => by
    have := best_len a .nil
    rw [best]
    show ((best a .nil).steps ++ [_]).length ≤ (a.size + (1 + c.size)) + 0
    rw [List.length_append, List.length_singleton]
    have h0 : F.nil.size = 0 := rfl
    omega
  | .snoc a t c, .snoc b u e => by
    have h1 := best_len a (.snoc b u e)
    have h2 := best_len (.snoc a t c) b
    have h3 := best_len a b
    have h4 := best_len c e
    have e1 : (F.snoc b u e).size = b.size + (1 + e.size) := rfl
    have e2 : (F.snoc a t c).size = a.size + (1 + c.size) := rfl
    rw [best]
    split
    · show ((best a (.snoc b u e)).steps ++ [_]).length ≤ _
      rw [List.length_append, List.length_singleton]; omega
    · split
      · show ((best (.snoc a t c) b).steps ++ [_]).length ≤ _
        rw [List.length_append, List.length_singleton]; omega
      · show ((best a b).steps ++ (_ :: ((best c e).steps ++ [_]))).length ≤ _
        rw [List.length_append, List.length_cons, List.length_append, List.length_singleton]; omega
termination_by f g => sizeOf f + sizeOf g
def wmD : Option Mv → PyData
  | none => .none
  | some m => mvD m
/-- what waits: couples of one level -/
def MvOk (f g : F) : Option Mv → Prop
  | none => True
  | some (some x, some y) => okFrom f g 0 x y
  | some (none, some y) => y < g.size
  | some (some x, none) => x < f.size
  | some (none, none) => False
theorem mvF_ok (f g : F) (o q : Nat) : ∀ (c e : F), Sits f c o → Sits g e q → (∀ x ∈ c.roots o, ∀ y ∈ e.roots q, okFrom f g 0 x y) → ∀ m ∈ mvF o q c e, MvOk f g (some m)
  | .nil, .nil, _, _, _, m, hm => by rw [mvF_nn] at hm; cases hm
  | .nil, .snoc b u e, hc, he, ho, m, hm => by
    obtain ⟨h1, h2⟩ := sits_a he
    rw [mvF_ns] at hm
    rcases List.mem_cons.mp hm with rfl | hm
    · have := (List.getElem?_eq_some_iff.mp h2).1
      rw [nodes_len] at this; exact this
    · exact mvF_ok f g o q .nil b hc h1 (fun x hx => by cases hx) m hm
  | .snoc a t c, .nil, hc, he, ho, m, hm => by
    obtain ⟨h1, h2⟩ := sits_a hc
    rw [mvF_sn] at hm
    rcases List.mem_cons.mp hm with rfl | hm
    · have := (List.getElem?_eq_some_iff.mp h2).1
      rw [nodes_len] at this; exact this
    · exact mvF_ok f g o q a .nil h1 he (fun x _ y hy => by cases hy) m hm
  | .snoc a t c, .snoc b u e, hc, he, ho, m, hm => by
    obtain ⟨h1, h2⟩ := sits_a hc
    obtain ⟨g1, g2⟩ := sits_a he
    have ma : ∀ x ∈ a.roots o, x ∈ (F.snoc a t c).roots o := fun x hx => List.mem_append_left _ hx
    have mb : ∀ y ∈ b.roots q, y ∈ (F.snoc b u e).roots q := fun x hx => List.mem_append_left _ hx
    have la : o + a.size ∈ (F.snoc a t c).roots o := List.mem_append_right _ (List.mem_singleton.mpr rfl)
    have lb : q + b.size ∈ (F.snoc b u e).roots q := List.mem_append_right _ (List.mem_singleton.mpr rfl)
    rw [mvF_ss] at hm
    split at hm
    · rcases List.mem_cons.mp hm with rfl | hm
      · have := (List.getElem?_eq_some_iff.mp h2).1
        rw [nodes_len] at this; exact this
      · exact mvF_ok f g o q a _ h1 he (fun x hx y hy => ho x (ma x hx) y hy) m hm
    · split at hm
      · rcases List.mem_cons.mp hm with rfl | hm
        · have := (List.getElem?_eq_some_iff.mp g2).1
          rw [nodes_len] at this; exact this
        · exact mvF_ok f g o q _ b hc g1 (fun x hx y hy => ho x hx y (mb y hy)) m hm
      · rcases List.mem_cons.mp hm with rfl | hm
        · exact ho _ la _ lb
        · exact mvF_ok f g o q a b h1 g1 (fun x hx y hy => ho x (ma x hx) y (mb y hy)) m hm
termination_by c e => sizeOf c + sizeOf e
theorem ok_self (f g : F) : ∀ x ∈ f.roots 0, ∀ y ∈ g.roots 0, okFrom f g 0 x y := fun _ hx _ hy => ⟨0, Nat.le_refl _, hx, hy⟩
theorem ok_lt {f g : F} {x y : Nat} (h : okFrom f g 0 x y) : x < f.size ∧ y < g.size := by
  obtain ⟨j, _, h1, h2⟩ := h
  exact ⟨(lev_lt f j x h1).2, (lev_lt g j y h2).2⟩
theorem ok_down {f g : F} {x y x' y' : Nat} (h : okFrom f g 0 x y) (hx : x' ∈ kidsN f x) (hy : y' ∈ kidsN g y) : okFrom f g 0 x' y' := by
  obtain ⟨j, _, h1, h2⟩ := h
  obtain ⟨j', _, q1, q2⟩ := ok_kids ⟨h1, h2⟩ hx hy
  exact ⟨j', Nat.zero_le _, q1, q2⟩
theorem mvM_pos (f g : F) : ∀ m, MvOk f g m → 1 ≤ (mvM f g m).length
  | none, _ => Nat.le_refl _
  | some (some x, some y), _ => by show 1 ≤ (_ :: _).length; rw [List.length_cons]; omega
  | some (none, some y), _ => Nat.le_refl _
  | some (some x, none), _ => Nat.le_refl _
  | some (none, none), h => h.elim
theorem stk_len (f g : F) : ∀ stk : List (Option Mv), (∀ m ∈ stk, MvOk f g m) → stk.length ≤ (stk.flatMap (mvM f g)).length
  | [], _ => Nat.le_refl _
  | m :: stk, h => by
    have h1 := mvM_pos f g m (h m List.mem_cons_self)
    have h2 := stk_len f g stk fun x hx => h x (List.mem_cons_of_mem _ hx)
    rw [List.flatMap_cons, List.length_append, List.length_cons]; omega
theorem dpa_snoc {H : Hp} {d : PyData} : ∀ {ds : List PyData} {vs : List V}, DpAll K H vs (ds ++ [d]) → ∃ vs' v, vs = vs' ++ [v] ∧ DpAll K H vs' ds ∧ Dp K H v d
  | [], _, .cons h .nil => ⟨[], _, rfl, .nil, h⟩
  | _ :: ds, _, .cons h t => by
    obtain ⟨vs', v, rfl, h1, h2⟩ := dpa_snoc t
    exact ⟨_ :: vs', v, rfl, .cons h h1, h2⟩
theorem nl_wm (m : Option Mv) : nl (wmD m) = true := by
  cases m with
  | none => rfl
  | some m => exact nl_mv m
theorem nl_wms (l : List (Option Mv)) : nlA (l.map wmD) = true := nlA_map wmD nl_wm l
theorem kids_at {f : F} {x : Nat} (h : x < f.size) : (innerL f)[x]? = some (kidsN f x) := by
  have hn : f.nodes[x]? = some (f.nodes[x]'(by rw [nodes_len]; exact h)) := List.getElem?_eq_getElem _
  unfold innerL kidsN
  rw [kidsFrom_get _ _ _ _ hn, nodeN_of hn, Nat.zero_add]
def RetW (w : List Step) (K : PySem.W.Frag) (H : Hp) (Q : VK) : Prop := ∀ l vs H', Same H H' → H l = none → H' l = some (.lst vs) → DpAll K H' vs (w.map stD) → Q (.ref l) H'
def sp_steps_between (T : Txt K mg) : Sp := fun vs H Q _ => ∃ (p : Addr) (A : DAd) (f g : F) (a b : Addr), vs = [.ref p, .ref a, .ref b] ∧ DistAt T H p A f g (okFrom f g 0) ∧ SqT K H a (iv (f.roots 0)) ∧ SqT K H b (iv (g.roots 0)) ∧ RetW (best f g).steps K H Q
theorem ok_steps_between (T : Txt K mg) : FnOk P w K mg base CX0 5 T.a_steps_between T.d_steps_between P_steps_between (sp_steps_between T) := by
  have G_moves_between := ok_moves_between (P := P) (w := w) (base := base) T
  have G_tree_at := ok_tree_at (P := P) (w := w) (base := base) T
  refine T.F_steps_between.ok sc_steps_between (fun vs H Q E h => ?_) (fun cdv A outer s H vs Q E hr h => ?_)
  · obtain ⟨p, A, f, g, a, b, rfl, D0, ha, hb, k⟩ := h
    rfl
  · obtain ⟨p, A, f, g, a, b, rfl, D0, ha, hb, k⟩ := h
    refine ⟨_, (pss_cons (ps_asg (pe_fld (pv 0) rfl) (pg_tup rfl (pgs_cons (pg_name (i := 3) sc_steps_between.nd rfl (Or.inl rfl)) (pgs_cons (pg_name (i := 4) sc_steps_between.nd rfl (Or.inl rfl)) pgs_nil))))
      (pss_cons (ps_par (i := 5) (j := 6) rfl sc_steps_between.nd rfl rfl (by decide) rfl rfl (pa_cons (pe_lst pa_nil) (pa_cons (pe_call G_moves_between (hr.mono (by decide)) (by rfl) T.m_moves_between T.F_moves_between.kp T.b_moves_between .nil pass0 (pa_cons (pv 0) (pa_cons (pv 1) (pa_cons (pv 2) pa_nil)))) pa_nil)) (by rfl))
      (pss_cons (ps_while PassesOwn.never (pt_truth (pv 6) (by intro _; rfl)) (pss_cons (ps_set (i := 7) sc_steps_between.nd rfl (Or.inl rfl) (pe_bm0 PySem.F.plainAttrs_list PySem.F.slot_list_pop PySem.F.type_list_pop mt_pop (pv 6)))
        (Evl.pss_cut (ps_if (pt_cmpR op_isN (pv 7) pe_non (nomark _)) (pss_cons (ps_expr (pe_bm PySem.F.plainAttrs_list PySem.F.slot_list_append PySem.F.type_list_append mt_append (pv 5) (pa_cons (pe_gr rfl T.m_UP) pa_nil)))
          (pss_one ps_continue)) pss_nil)
        (pss_cons (ps_asg (pv 7) (pg_tup rfl (pgs_cons (pg_name (i := 8) sc_steps_between.nd rfl (Or.inl rfl)) (pgs_cons (pg_name (i := 9) sc_steps_between.nd rfl (Or.inl rfl)) pgs_nil))))
        (pss_one (ps_if (pt_cmpR op_isN (pv 9) pe_non (nomark _)) (pss_one (ps_expr (pe_bm PySem.F.plainAttrs_list PySem.F.slot_list_append PySem.F.type_list_append mt_append (pv 5) (pa_cons (pe_gr rfl T.m_OUT) pa_nil)))) (pss_one (ps_if (pt_cmpR op_isN (pv 8) pe_non (nomark _)) (pss_one (ps_expr (pe_bm PySem.F.plainAttrs_list PySem.F.slot_list_append PySem.F.type_list_append mt_append (pv 5) (pa_cons (pe_tup (pa_cons pe_str (pa_cons (pe_call G_tree_at (hr.mono (by decide)) (by rfl) T.m_tree_at T.F_tree_at.kp T.b_tree_at .nil pass0 (pa_cons (pv 4) (pa_cons (pv 9) pa_nil))) pa_nil))) pa_nil)))) (pss_cons (ps_expr (pe_bm PySem.F.plainAttrs_list PySem.F.slot_list_append PySem.F.type_list_append mt_append (pv 5) (pa_cons (pe_tup (pa_cons pe_str (pa_cons (pe_ifExp (pt_cmpR op_eq (pe_ix ix_tup (pe_ix ix_tup (pv 3) (pv 8) (fun _ _ => rfl)) pe_int (fun _ _ => rfl)) (pe_ix ix_tup (pe_ix ix_tup (pv 4) (pv 9) (fun _ _ => rfl)) pe_int (fun _ _ => rfl)) (nomark _)) pe_non (pe_ix ix_tup (pe_ix ix_tup (pv 4) (pv 9) (fun _ _ => rfl)) pe_int (fun _ _ => rfl))) pa_nil))) pa_nil)))
            (pss_cons (ps_expr (pe_bm PySem.F.plainAttrs_list PySem.F.slot_list_append PySem.F.type_list_append mt_append (pv 6) (pa_cons pe_non pa_nil)))
            (pss_one (ps_expr (pe_bm PySem.F.plainAttrs_list PySem.F.slot_list_extend PySem.F.type_list_extend mt_extend (pv 6) (pa_cons (pe_call G_moves_between (hr.mono (by decide)) (by rfl) T.m_moves_between T.F_moves_between.kp T.b_moves_between .nil pass0 (pa_cons (pv 0) (pa_cons (pe_ix ix_list (pe_ix ix_tup (pe_fld (pv 0) rfl) pe_int (fun _ _ => rfl)) (pv 8) (fun _ _ => rfl)) (pa_cons (pe_ix ix_list (pe_ix ix_tup (pe_fld (pv 0) rfl) pe_int (fun _ _ => rfl)) (pv 9) (fun _ _ => rfl)) pa_nil)))) pa_nil))))))))))))))
      (pss_one (ps_ret (pv 5)))))), ?_⟩
    have hM := mil3_lt
    have lf := D0.lf
    have lg := D0.lg
    have hbl := best_len f g
    refine ⟨_, rfl, p, T.c_Distances, _, _, _, rfl, D0.ob, T.cl_Distances, T.na_Distances_rows, rfl, A.ar, _, rfl, D0.rows, rfl, _, _, rfl, _, _, rfl, rfl, ?_⟩
    refine ⟨Nat.zero_le _, fun fo hfo => ?_⟩
    have u1 := sm_new hfo (o := .lst [])
    refine ⟨_, rfl, _, rfl, _, rfl, p, A, f, g, okFrom f g 0, f, g, 0, 0, a, b, rfl, D0.same u1, sm_st u1 ha, sm_st u1 hb, sits_self f, sits_self g, ok_self f g, fun wa wv H2 s2 n2 e2 d2 => ⟨_, _, rfl, ?_⟩⟩
    have sA := u1.trans s2
    have efo : H2 fo = some (.lst []) := s2 _ _ upd_same
    have nwa : H wa = none := u1.free n2
    have nfw : fo ≠ wa := ne_of_none upd_same n2
    refine ⟨fun m σ' H' => ∃ (stk : List (Option Mv)) (done : List Step) (fl wl : List V) (x7 x8 x9 : Option V), m = (stk.flatMap (mvM f g)).length ∧ σ' = [some (.ref p), some (.ref a), some (.ref b), some A.va, some A.vb, some (.ref fo), some (.ref wa), x7, x8, x9] ∧ Same H H' ∧ H' fo = some (.lst fl) ∧ DpAll K H' fl (done.map stD) ∧ H' wa = some (.lst wl) ∧ DpAll K H' wl (stk.reverse.map wmD) ∧ (∀ m ∈ stk, MvOk f g m) ∧ done ++ stk.flatMap (mvM f g) = (best f g).steps,
      ⟨_, (mvF 0 0 f g).reverse.map some, [], [], wv, none, none, none, rfl, rfl, sA, efo, .nil, e2, ?_, ?_, ?_⟩, ?_⟩
    · have : (((mvF 0 0 f g).reverse.map some).reverse.map wmD) = (mvF 0 0 f g).map mvD := by
        rw [← List.map_reverse, List.reverse_reverse, List.map_map]; rfl
      rw [this]; exact d2
    · intro m hm
      obtain ⟨m', h1, rfl⟩ := List.mem_map.mp hm
      exact mvF_ok f g 0 0 f g (sits_self f) (sits_self g) (ok_self f g) m' (List.mem_reverse.mp h1)
    · rw [mvM_best f g 0 0 f g (sits_self f) (sits_self g)]; rfl
    rintro m σ' H' ⟨stk, done, fl, wl, x7, x8, x9, rfl, rfl, s4, e4, d4, e5, d5, hok, hst⟩
    have D4 := D0.same s4
    have dl4 := dpa_len d4
    have dl5 := dpa_len d5
    rw [List.length_map] at dl4
    rw [List.length_map, List.length_reverse] at dl5
    have hsl := congrArg List.length hst
    rw [List.length_append] at hsl
    have hsk := stk_len f g stk hok
    have fo0 := hfo
    cases stk with
    | nil =>
      cases wl with
      | cons _ _ => cases d5
      | nil =>
        refine ⟨_, rfl, false, .inl ⟨_, SqL.of e5, rfl⟩, ?_⟩
        rw [List.flatMap_nil, List.append_nil] at hst
        refine ⟨_, rfl, ?_⟩
        rw [hst] at d4
        exact k fo fl H' s4 hfo e4 d4
    | cons m stk =>
      rw [List.reverse_cons, List.map_append] at d5
      obtain ⟨wl', wt, rfl, d5a, d5b⟩ := dpa_snoc d5
      refine ⟨_, rfl, true, .inl ⟨_, SqL.of e5, by cases wl' <;> rfl⟩, ?_⟩
      refine ⟨_, fun σ' H' h => h, ?_⟩
      refine ⟨_, rfl, .inl ⟨rfl, _, SqL.of e5⟩, wa, _, _, rfl, rfl, e5, by rw [List.length_append, List.length_singleton, Nat.add_sub_cancel, List.getElem?_append_right (Nat.le_refl _), Nat.sub_self]; rfl, ?_⟩
      rw [List.dropLast_concat]
      have kp1 : Kp H' (upd H' wa (.lst wl')) := Kp.lst e5
      have s5 : Same H (upd H' wa (.lst wl')) := sm_put s4 nwa
      have e4' : (upd H' wa (.lst wl')) fo = some (.lst fl) := (upd_ne nfw).trans e4
      have ew : (upd H' wa (.lst wl')) wa = some (.lst wl') := upd_same
      have d4' := dpa_kp kp1 (nl_sts _) d4
      have d5' := dpa_kp kp1 (nl_wms _) d5a
      have d6 := dp_kp kp1 (nl_wm m) d5b
      generalize upd H' wa (.lst wl') = H1 at *
      rw [List.flatMap_cons] at hst hsl
      rw [List.length_append] at hsl
      rw [List.length_append, List.length_singleton, List.length_cons] at dl5
      rw [List.length_cons] at hsk
      have hok' : ∀ m ∈ stk, MvOk f g m := fun x hx => hok x (List.mem_cons_of_mem _ hx)
      have hsk2 := stk_len f g stk hok'
      have hm := hok m List.mem_cons_self
      have fin : ∀ (H6 : Hp) (v : V) (s : Step) (x7 x8 x9 : Option V), Same H1 H6 → Dp K H6 v (stD s) → mvM f g m = [s] →
          ∃ m', m' < ((m :: stk).flatMap (mvM f g)).length ∧ ∃ (stk' : List (Option Mv)) (done' : List Step) (fl' wl' : List V) (y7 y8 y9 : Option V), m' = (stk'.flatMap (mvM f g)).length ∧ [some (V.ref p), some (.ref a), some (.ref b), some A.va, some A.vb, some (.ref fo), some (.ref wa), x7, x8, x9] = [some (V.ref p), some (.ref a), some (.ref b), some A.va, some A.vb, some (.ref fo), some (.ref wa), y7, y8, y9] ∧ Same H (upd H6 fo (.lst (fl ++ [v]))) ∧ (upd H6 fo (.lst (fl ++ [v]))) fo = some (.lst fl') ∧ DpAll K (upd H6 fo (.lst (fl ++ [v]))) fl' (done'.map stD) ∧ (upd H6 fo (.lst (fl ++ [v]))) wa = some (.lst wl') ∧ DpAll K (upd H6 fo (.lst (fl ++ [v]))) wl' (stk'.reverse.map wmD) ∧ (∀ m ∈ stk', MvOk f g m) ∧ done' ++ stk'.flatMap (mvM f g) = (best f g).steps := by
        intro H6 v s x7 x8 x9 s6 hd hmv
        have kp := Kp.lst (s6 _ _ e4') (o := .lst (fl ++ [v]))
        refine ⟨_, ?_, stk, done ++ [s], fl ++ [v], wl', x7, x8, x9, rfl, rfl, sm_put (s5.trans s6) hfo, upd_same, ?_, (upd_ne (Ne.symm nfw)).trans (s6 _ _ ew), dpa_kp kp (nl_wms _) (dpa_same s6 d5'), hok', ?_⟩
        · rw [List.flatMap_cons, List.length_append, hmv, List.length_singleton]; omega
        · rw [List.map_append]
          exact dpa_app (dpa_kp kp (nl_sts _) (dpa_same s6 d4')) (.cons (dp_kp kp (nl_st s) hd) .nil)
        · rw [← hst, hmv, List.append_assoc]
      match m, hm, d6, fin, hst, hsl with
      | none, hm, d6, fin, hst, hsl =>
        have e6 := dp_non d6
        subst e6
        refine ⟨fun _ _ => False, ?_, fun _ _ h => h.elim⟩
        refine ⟨_, rfl, rfl, _, rfl, ?_⟩
        refine ⟨_, rfl, .inl ⟨rfl, _, SqL.of e4'⟩, fo, _, _, rfl, rfl, e4', by omega, ?_⟩
        exact fin H1 (.ref T.a_UP) .up _ _ _ (Same.refl _) (d_up T) rfl
      | some (none, none), hm, _, _, _, _ => exact hm.elim
      | some (some x, none), hm, d6, fin, hst, hsl =>
        obtain ⟨q, xs, rfl, hq, hd⟩ := dp_tup d6
        cases hd with
        | cons h1 hd =>
        cases hd with
        | cons h2 hd =>
        cases hd
        rw [dp_int h1, dp_non h2] at hq
        refine ⟨fun σ3 H3 => σ3 = [some (.ref p), some (.ref a), some (.ref b), some A.va, some A.vb, some (.ref fo), some (.ref wa), some (.ref q), x8, x9] ∧ H3 = H1, ?_, ?_⟩
        · exact ⟨_, rfl, rfl, _, rfl, rfl, rfl⟩
        rintro _ H1 ⟨rfl, rfl⟩
        refine ⟨_, rfl, q, _, rfl, hq, rfl, _, _, rfl, _, _, rfl, rfl, ?_⟩
        refine ⟨_, rfl, rfl, _, rfl, ?_⟩
        refine ⟨_, rfl, .inl ⟨rfl, _, SqL.of e4'⟩, fo, _, _, rfl, rfl, e4', by omega, ?_⟩
        exact fin _ (.ref T.a_OUT) .out _ _ _ (Same.refl _) (d_out T) rfl
      | some (none, some y), hm, d6, fin, hst, hsl =>
        obtain ⟨q, xs, rfl, hq, hd⟩ := dp_tup d6
        cases hd with
        | cons h1 hd =>
        cases hd with
        | cons h2 hd =>
        cases hd
        rw [dp_int h2, dp_non h1] at hq
        refine ⟨fun σ3 H3 => σ3 = [some (.ref p), some (.ref a), some (.ref b), some A.va, some A.vb, some (.ref fo), some (.ref wa), some (.ref q), x8, x9] ∧ H3 = H1, ?_, ?_⟩
        · exact ⟨_, rfl, rfl, _, rfl, rfl, rfl⟩
        rintro _ H1 ⟨rfl, rfl⟩
        obtain ⟨⟨u, ke⟩, hn⟩ : ∃ n, g.nodes[y]? = some n := ⟨_, List.getElem?_eq_getElem (by rw [nodes_len]; exact hm)⟩
        refine ⟨_, rfl, q, _, rfl, hq, rfl, _, _, rfl, _, _, rfl, rfl, ?_⟩
        refine ⟨_, rfl, rfl, _, rfl, ?_⟩
        refine ⟨_, rfl, rfl, _, rfl, ?_⟩
        refine ⟨_, rfl, .inl ⟨rfl, _, SqL.of e4'⟩, _, rfl, _, rfl, A.vb, g, y, u, ke, rfl, (D0.same s5).rb, hn, fun v H6 s6 hd => ?_⟩
        refine ⟨by show 2 ≤ sizeLine; omega, fun t' ht' => ⟨fo, _, _, rfl, rfl, (upd_ne (ne_of_none (s6 _ _ e4') ht')).trans (s6 _ _ e4'), by omega, ?_⟩⟩
        have u6 := sm_new ht' (o := .tup [.str "in", v])
        refine fin _ (.ref t') (.ins (sub1 u ke)) _ _ _ (s6.trans u6) (.tup (SqT.of upd_same) (.cons (.str _) (.cons (dp_same u6 hd) .nil))) ?_
        show [Step.ins (sub1 (nodeN g y).1 (nodeN g y).2)] = _
        rw [nodeN_of hn]
      | some (some x, some y), hm, d6, fin, hst, hsl =>
        obtain ⟨q, xs, rfl, hq, hd⟩ := dp_tup d6
        cases hd with
        | cons h1 hd =>
        cases hd with
        | cons h2 hd =>
        cases hd
        rw [dp_int h1, dp_int h2] at hq
        refine ⟨fun σ3 H3 => σ3 = [some (.ref p), some (.ref a), some (.ref b), some A.va, some A.vb, some (.ref fo), some (.ref wa), some (.ref q), x8, x9] ∧ H3 = H1, ?_, ?_⟩
        · exact ⟨_, rfl, rfl, _, rfl, rfl, rfl⟩
        rintro _ H1 ⟨rfl, rfl⟩
        obtain ⟨hxl, hyl⟩ := ok_lt hm
        obtain ⟨⟨t, kc⟩, hn1⟩ : ∃ n, f.nodes[x]? = some n := ⟨_, List.getElem?_eq_getElem (by rw [nodes_len]; exact hxl)⟩
        obtain ⟨⟨u, ke⟩, hn2⟩ : ∃ n, g.nodes[y]? = some n := ⟨_, List.getElem?_eq_getElem (by rw [nodes_len]; exact hyl)⟩
        have D5 := D0.same s5
        obtain ⟨ra, ws1, hva, hra, _, gta⟩ := row_at D5.ra
        obtain ⟨rb, ws2, hvb, hrb, _, gtb⟩ := row_at D5.rb
        obtain ⟨z1, y1, hz1⟩ := gta x (t, kc.len) (by rw [flat_nodes, List.getElem?_map, hn1]; rfl)
        obtain ⟨z2, y2, hz2⟩ := gtb y (u, ke.len) (by rw [flat_nodes, List.getElem?_map, hn2]; rfl)
        refine ⟨_, rfl, q, _, rfl, hq, rfl, _, _, rfl, _, _, rfl, rfl, ?_⟩
        refine ⟨_, rfl, rfl, _, rfl, ?_⟩
        refine ⟨_, rfl, rfl, _, rfl, ?_⟩
        refine ⟨_, rfl, .inl ⟨rfl, _, SqL.of e4'⟩, _, rfl, _, rfl, ra, _, _, _, hva, rfl, hra, atI_nat y1, z1, _, 0, _, rfl, rfl, hz1, atI_hd _ _, _, rfl, _, rfl, rb, _, _, _, hvb, rfl, hrb, atI_nat y2, z2, _, 0, _, rfl, rfl, hz2, atI_hd _ _, rfl, _, rfl, ?_⟩
        have hmv : mvM f g (some (some x, some y)) = .turn (if t = u then none else some u) :: ((best kc ke).steps ++ [.up]) := by
          show Step.turn (if (nodeN f x).1 = (nodeN g y).1 then none else some (nodeN g y).1) :: ((best (nodeN f x).2 (nodeN g y).2).steps ++ [.up]) = _
          rw [nodeN_of hn1, nodeN_of hn2]
        by_cases htu : t = u
        · rw [decide_eq_true (show V.str t = V.str u by rw [htu])]
          refine ⟨by show 2 ≤ sizeLine; omega, fun t' ht' => ⟨fo, _, _, rfl, rfl, (upd_ne (ne_of_none e4' ht')).trans e4', by omega, ?_⟩⟩
          have u6 := sm_new ht' (o := .tup [.str "turn", V.non])
          have kp6 := Kp.lst (u6 _ _ e4') (o := .lst (fl ++ [V.ref t']))
          have s6 : Same H (upd (upd H1 t' (.tup [.str "turn", V.non])) fo (.lst (fl ++ [.ref t']))) := sm_put (s5.trans u6) hfo
          have d7 : DpAll K (upd (upd H1 t' (.tup [.str "turn", V.non])) fo (.lst (fl ++ [.ref t']))) (fl ++ [.ref t']) ((done ++ [Step.turn none]).map stD) := by
            rw [List.map_append]
            exact dpa_app (dpa_kp kp6 (nl_sts _) (dpa_same u6 d4')) (.cons (.tup (kp6.st (SqT.of upd_same)) (.cons (.str _) (.cons .non .nil))) .nil)
          have e7 : (upd (upd H1 t' (.tup [.str "turn", V.non])) fo (.lst (fl ++ [.ref t']))) fo = some (.lst (fl ++ [.ref t'])) := upd_same
          have ew7 : (upd (upd H1 t' (.tup [.str "turn", V.non])) fo (.lst (fl ++ [.ref t']))) wa = some (.lst wl') := (upd_ne (Ne.symm nfw)).trans (u6 _ _ ew)
          have dw7 := dpa_kp kp6 (nl_wms _) (dpa_same u6 d5')
          generalize (upd (upd H1 t' (.tup [.str "turn", V.non])) fo (.lst (fl ++ [.ref t']))) = H7 at *
          refine ⟨_, rfl, .inl ⟨rfl, _, SqL.of ew7⟩, wa, _, _, rfl, rfl, ew7, by omega, ?_⟩
          have kp8 := Kp.lst ew7 (o := .lst (wl' ++ [V.non]))
          have s8 : Same H (upd H7 wa (.lst (wl' ++ [V.non]))) := sm_put s6 nwa
          have e8 : (upd H7 wa (.lst (wl' ++ [V.non]))) fo = some (.lst (fl ++ [.ref t'])) := (upd_ne nfw).trans e7
          have d8 := dpa_kp kp8 (nl_sts _) d7
          have dw8 := dpa_kp kp8 (nl_wms _) dw7
          have ew8 : (upd H7 wa (.lst (wl' ++ [V.non]))) wa = some (.lst (wl' ++ [V.non])) := upd_same
          generalize upd H7 wa (.lst (wl' ++ [V.non])) = H8 at *
          have D8 := D0.same s8
          obtain ⟨ka, ka1, ka2⟩ := tups_get D8.t1 (i := x) (k := kidsN f x) (kids_at hxl)
          obtain ⟨kb, kb1, kb2⟩ := tups_get D8.t2 (i := y) (k := kidsN g y) (kids_at hyl)
          rw [kidsN_of hn1] at ka2
          rw [kidsN_of hn2] at kb2
          refine ⟨_, rfl, .inl ⟨rfl, _, SqL.of ew8⟩, _, rfl, _, rfl, p, T.c_Distances, _, _, _, rfl, D8.ob, T.cl_Distances, T.na_Distances_inner, rfl, A.ai, _, 0, _, rfl, rfl, D8.inn, rfl, _, rfl, A.i1, _, _, _, rfl, rfl, SqL.of D8.i1, atI_nat ka1, ?_⟩
          refine ⟨_, rfl, p, T.c_Distances, _, _, _, rfl, D8.ob, T.cl_Distances, T.na_Distances_inner, rfl, A.ai, _, 1, _, rfl, rfl, D8.inn, rfl, _, rfl, A.i2, _, _, _, rfl, rfl, SqL.of D8.i2, atI_nat kb1, ?_⟩
          have sk1 := sits_kids hn1
          have sk2 := sits_kids hn2
          have okk : ∀ x' ∈ kc.roots (x + 1), ∀ y' ∈ ke.roots (y + 1), okFrom f g 0 x' y' := fun x' hx' y' hy' => ok_down hm (by rw [kidsN_of hn1]; exact hx') (by rw [kidsN_of hn2]; exact hy')
          refine ⟨p, A, f, g, okFrom f g 0, kc, ke, x + 1, y + 1, ka, kb, rfl, D8, ka2, kb2, sk1, sk2, okk, fun lm mv H9 s9 n9 e9 d9 => ?_⟩
          have mok : ∀ m ∈ (mvF (x + 1) (y + 1) kc ke).reverse.map some, MvOk f g m := fun m hm' => by
            obtain ⟨m', h1', rfl⟩ := List.mem_map.mp hm'
            exact mvF_ok f g _ _ kc ke sk1 sk2 okk m' (List.mem_reverse.mp h1')
          have mlen := stk_len f g _ mok
          have mbest := mvM_best f g _ _ kc ke sk1 sk2
          rw [mbest, List.length_map, List.length_reverse] at mlen
          have mvl := dpa_len d9
          rw [List.length_map] at mvl
          rw [hmv, List.length_cons, List.length_append, List.length_singleton] at hsl
          have ewr := s9 _ _ ew8
          refine ⟨wa, lm, _, _, rfl, rfl, ewr, e9, by rw [List.length_append, List.length_singleton]; omega, ?_⟩
          have kpA := Kp.lst ewr (o := .lst ((wl' ++ [V.non]) ++ mv))
          refine ⟨_, ?_, (mvF (x + 1) (y + 1) kc ke).reverse.map some ++ (none :: stk), done ++ [Step.turn none], fl ++ [.ref t'], (wl' ++ [V.non]) ++ mv, _, _, _, rfl, rfl, sm_put (s8.trans s9) nwa, (upd_ne nfw).trans (s9 _ _ e8), dpa_kp kpA (nl_sts _) (dpa_same s9 d8), upd_same, ?_, ?_, ?_⟩
          · rw [List.flatMap_append, mbest, List.flatMap_cons, List.flatMap_cons, hmv, List.length_append, List.length_append, List.length_append, List.length_cons, List.length_append]
            show _ + (1 + _) < _ + 1 + 1 + _
            omega
          · rw [List.reverse_append, List.reverse_cons, ← List.map_reverse, List.reverse_reverse, List.map_append, List.map_append, List.map_map]
            refine dpa_app (dpa_app (dpa_kp kpA (nl_wms _) (dpa_same s9 dw8)) (.cons .non .nil)) (dpa_kp kpA (nlA_map mvD nl_mv _) d9)
          · intro m hm'
            rcases List.mem_append.mp hm' with h | h
            · exact mok m h
            · rcases List.mem_cons.mp h with rfl | h
              · exact True.intro
              · exact hok' m h
          · rw [← hst, hmv, List.flatMap_append, mbest, List.flatMap_cons, if_pos htu]
            show (done ++ [Step.turn (none)]) ++ ((best kc ke).steps ++ ([Step.up] ++ _)) = done ++ ((Step.turn (none) :: ((best kc ke).steps ++ [Step.up])) ++ _)
            simp only [List.append_assoc, List.singleton_append, List.cons_append, List.nil_append]
        · rw [decide_eq_false (show ¬ V.str t = V.str u from fun z => htu (V.str.inj z))]
          refine ⟨_, rfl, _, rfl, rb, _, _, _, hvb, rfl, hrb, atI_nat y2, z2, _, 0, _, rfl, rfl, hz2, atI_hd _ _, ?_⟩
          refine ⟨by show 2 ≤ sizeLine; omega, fun t' ht' => ⟨fo, _, _, rfl, rfl, (upd_ne (ne_of_none e4' ht')).trans e4', by omega, ?_⟩⟩
          have u6 := sm_new ht' (o := .tup [.str "turn", V.str u])
          have kp6 := Kp.lst (u6 _ _ e4') (o := .lst (fl ++ [V.ref t']))
          have s6 : Same H (upd (upd H1 t' (.tup [.str "turn", V.str u])) fo (.lst (fl ++ [.ref t']))) := sm_put (s5.trans u6) hfo
          have d7 : DpAll K (upd (upd H1 t' (.tup [.str "turn", V.str u])) fo (.lst (fl ++ [.ref t']))) (fl ++ [.ref t']) ((done ++ [Step.turn (some u)]).map stD) := by
            rw [List.map_append]
            exact dpa_app (dpa_kp kp6 (nl_sts _) (dpa_same u6 d4')) (.cons (.tup (kp6.st (SqT.of upd_same)) (.cons (.str _) (.cons (.str _) .nil))) .nil)
          have e7 : (upd (upd H1 t' (.tup [.str "turn", V.str u])) fo (.lst (fl ++ [.ref t']))) fo = some (.lst (fl ++ [.ref t'])) := upd_same
          have ew7 : (upd (upd H1 t' (.tup [.str "turn", V.str u])) fo (.lst (fl ++ [.ref t']))) wa = some (.lst wl') := (upd_ne (Ne.symm nfw)).trans (u6 _ _ ew)
          have dw7 := dpa_kp kp6 (nl_wms _) (dpa_same u6 d5')
          generalize (upd (upd H1 t' (.tup [.str "turn", V.str u])) fo (.lst (fl ++ [.ref t']))) = H7 at *
          refine ⟨_, rfl, .inl ⟨rfl, _, SqL.of ew7⟩, wa, _, _, rfl, rfl, ew7, by omega, ?_⟩
          have kp8 := Kp.lst ew7 (o := .lst (wl' ++ [V.non]))
          have s8 : Same H (upd H7 wa (.lst (wl' ++ [V.non]))) := sm_put s6 nwa
          have e8 : (upd H7 wa (.lst (wl' ++ [V.non]))) fo = some (.lst (fl ++ [.ref t'])) := (upd_ne nfw).trans e7
          have d8 := dpa_kp kp8 (nl_sts _) d7
          have dw8 := dpa_kp kp8 (nl_wms _) dw7
          have ew8 : (upd H7 wa (.lst (wl' ++ [V.non]))) wa = some (.lst (wl' ++ [V.non])) := upd_same
          generalize upd H7 wa (.lst (wl' ++ [V.non])) = H8 at *
          have D8 := D0.same s8
          obtain ⟨ka, ka1, ka2⟩ := tups_get D8.t1 (i := x) (k := kidsN f x) (kids_at hxl)
          obtain ⟨kb, kb1, kb2⟩ := tups_get D8.t2 (i := y) (k := kidsN g y) (kids_at hyl)
          rw [kidsN_of hn1] at ka2
          rw [kidsN_of hn2] at kb2
          refine ⟨_, rfl, .inl ⟨rfl, _, SqL.of ew8⟩, _, rfl, _, rfl, p, T.c_Distances, _, _, _, rfl, D8.ob, T.cl_Distances, T.na_Distances_inner, rfl, A.ai, _, 0, _, rfl, rfl, D8.inn, rfl, _, rfl, A.i1, _, _, _, rfl, rfl, SqL.of D8.i1, atI_nat ka1, ?_⟩
          refine ⟨_, rfl, p, T.c_Distances, _, _, _, rfl, D8.ob, T.cl_Distances, T.na_Distances_inner, rfl, A.ai, _, 1, _, rfl, rfl, D8.inn, rfl, _, rfl, A.i2, _, _, _, rfl, rfl, SqL.of D8.i2, atI_nat kb1, ?_⟩
          have sk1 := sits_kids hn1
          have sk2 := sits_kids hn2
          have okk : ∀ x' ∈ kc.roots (x + 1), ∀ y' ∈ ke.roots (y + 1), okFrom f g 0 x' y' := fun x' hx' y' hy' => ok_down hm (by rw [kidsN_of hn1]; exact hx') (by rw [kidsN_of hn2]; exact hy')
          refine ⟨p, A, f, g, okFrom f g 0, kc, ke, x + 1, y + 1, ka, kb, rfl, D8, ka2, kb2, sk1, sk2, okk, fun lm mv H9 s9 n9 e9 d9 => ?_⟩
          have mok : ∀ m ∈ (mvF (x + 1) (y + 1) kc ke).reverse.map some, MvOk f g m := fun m hm' => by
            obtain ⟨m', h1', rfl⟩ := List.mem_map.mp hm'
            exact mvF_ok f g _ _ kc ke sk1 sk2 okk m' (List.mem_reverse.mp h1')
          have mlen := stk_len f g _ mok
          have mbest := mvM_best f g _ _ kc ke sk1 sk2
          rw [mbest, List.length_map, List.length_reverse] at mlen
          have mvl := dpa_len d9
          rw [List.length_map] at mvl
          rw [hmv, List.length_cons, List.length_append, List.length_singleton] at hsl
          have ewr := s9 _ _ ew8
          refine ⟨wa, lm, _, _, rfl, rfl, ewr, e9, by rw [List.length_append, List.length_singleton]; omega, ?_⟩
          have kpA := Kp.lst ewr (o := .lst ((wl' ++ [V.non]) ++ mv))
          refine ⟨_, ?_, (mvF (x + 1) (y + 1) kc ke).reverse.map some ++ (none :: stk), done ++ [Step.turn (some u)], fl ++ [.ref t'], (wl' ++ [V.non]) ++ mv, _, _, _, rfl, rfl, sm_put (s8.trans s9) nwa, (upd_ne nfw).trans (s9 _ _ e8), dpa_kp kpA (nl_sts _) (dpa_same s9 d8), upd_same, ?_, ?_, ?_⟩
          · rw [List.flatMap_append, mbest, List.flatMap_cons, List.flatMap_cons, hmv, List.length_append, List.length_append, List.length_append, List.length_cons, List.length_append]
            show _ + (1 + _) < _ + 1 + 1 + _
            omega
          · rw [List.reverse_append, List.reverse_cons, ← List.map_reverse, List.reverse_reverse, List.map_append, List.map_append, List.map_map]
            refine dpa_app (dpa_app (dpa_kp kpA (nl_wms _) (dpa_same s9 dw8)) (.cons .non .nil)) (dpa_kp kpA (nlA_map mvD nl_mv _) d9)
          · intro m hm'
            rcases List.mem_append.mp hm' with h | h
            · exact mok m h
            · rcases List.mem_cons.mp h with rfl | h
              · exact True.intro
              · exact hok' m h
          · rw [← hst, hmv, List.flatMap_append, mbest, List.flatMap_cons, if_neg htu]
            show (done ++ [Step.turn (some u)]) ++ ((best kc ke).steps ++ ([Step.up] ++ _)) = done ++ ((Step.turn (some u) :: ((best kc ke).steps ++ [Step.up])) ++ _)
            simp only [List.append_assoc, List.singleton_append, List.cons_append, List.nil_append]

end Pp

set_option Elab.async false
set_option linter.all false
set_option autoImplicit false
set_option maxRecDepth 100000
set_option maxHeartbeats 4000000
namespace Pp
open PySem PySem.Spec L2
variable {P : Program} {w : World} {K : PySem.W.Frag} {mg : Str → Option Value} {base : Heap}
/-! ### way_of, is_least_way -/
def sp_way_of (T : Txt K mg) : Sp := fun vs H Q _ => ∃ (va vb : V) (f g : F), vs = [va, vb] ∧ Dp K H va (rowD f.flat) ∧ Dp K H vb (rowD g.flat) ∧ f.good = true ∧ g.good = true ∧ f.size < 100001 ∧ g.size < 100001 ∧ f.size * g.size ≤ 100000 ∧ RetD (wayD (best f g).steps) K H Q
theorem ok_way_of (T : Txt K mg) : FnOk P w K mg base CX0 8 T.a_way_of T.d_way_of P_way_of (sp_way_of T) := by
  have G_Distances___init__ := ok_Distances___init__ (P := P) (w := w) (base := base) T
  have G_check_rows := ok_check_rows (P := P) (w := w) (base := base) T
  have G_roots := ok_roots (P := P) (w := w) (base := base) T
  have G_steps_between := ok_steps_between (P := P) (w := w) (base := base) T
  refine T.F_way_of.ok sc_way_of (fun vs H Q E h => ?_) (fun cdv A outer s H vs Q E hr h => ?_)
  · obtain ⟨va, vb, f, g, rfl, hva, hvb, gf, gg, h1, h2, h3, k⟩ := h
    rfl
  · obtain ⟨va, vb, f, g, rfl, hva, hvb, gf, gg, h1, h2, h3, k⟩ := h
    refine ⟨_, (pss_cons (ps_expr (pe_call G_check_rows (hr.mono (by decide)) (by rfl) T.m_check_rows T.F_check_rows.kp T.b_check_rows .nil pass0 (pa_cons (pv 0) (pa_cons (pv 1) pa_nil))))
      (pss_one (ps_ret (pe_callTy call_tuple_of (by rfl) T.n_tuple (by decide +kernel) (pa_cons (pe_call G_steps_between (hr.mono (by decide)) (by rfl) T.m_steps_between T.F_steps_between.kp T.b_steps_between .nil pass0 (pa_cons (pe_make T.mk_Distances G_Distances___init__ (hr.mono (by decide)) (by rfl) T.m_Distances T.b_Distances___init__ .nil pass0 (pa_cons (pv 0) (pa_cons (pv 1) pa_nil))) (pa_cons (pe_call G_roots (hr.mono (by decide)) (by rfl) T.m_roots T.F_roots.kp T.b_roots .nil pass0 (pa_cons (pv 0) pa_nil)) (pa_cons (pe_call G_roots (hr.mono (by decide)) (by rfl) T.m_roots T.F_roots.kp T.b_roots .nil pass0 (pa_cons (pv 1) pa_nil)) pa_nil)))) pa_nil))))), ?_⟩
    have hb := big_lt
    refine ⟨_, rfl, _, rfl, va, vb, f, g, rfl, hva, hvb, gf, gg, h1, h2, h3, fun H1 s1 => ?_⟩
    refine ⟨_, rfl, _, rfl, fun x dx hx hdx hne => ?_⟩
    have s2 := same_made (C := T.c_Distances) hx hdx
    refine ⟨x, dx, va, vb, f, g, rfl, upd_same, dp_same (s1.trans s2) hva, dp_same (s1.trans s2) hvb, by omega, by omega, h3, fun H2 A D sx => ⟨rfl, ?_⟩⟩
    have s3 := made_same hx hdx sx
    have s13 := s1.trans s3
    refine ⟨_, rfl, va, f, rfl, dp_same s13 hva, by omega, fun ra H4 s4 n4 e4 => ?_⟩
    refine ⟨_, rfl, vb, g, rfl, dp_same (s13.trans s4) hvb, by omega, fun rb H5 s5 n5 e5 => ?_⟩
    refine ⟨x, A, f, g, ra, rb, rfl, D.same (s4.trans s5), SqT.of (s5 _ _ e4), SqT.of e5, fun l vs H6 s6 n6 e6 d6 => ?_⟩
    refine ⟨l, vs, rfl, .inl ⟨SqL.of e6, fun q hq => ?_⟩⟩
    have u1 := sm_new hq (o := .tup vs)
    exact k _ _ (s13.trans (s4.trans (s5.trans (s6.trans u1)))) (.tup (SqT.of upd_same) (dpa_same u1 d6))
def sp_is_least_way (T : Txt K mg) : Sp := fun vs H Q _ => ∃ (va vb wv : V) (f g : F) (w : List Step) (st : GoSt), vs = [va, vb, wv] ∧ Dp K H va (rowD f.flat) ∧ Dp K H vb (rowD g.flat) ∧ f.good = true ∧ g.good = true ∧ f.size < 100001 ∧ g.size < 100001 ∧ f.size * g.size ≤ 100000 ∧
  Dp K H wv (wayD w) ∧ WayIn f w st ∧ (∀ n ∈ st.tags.zip st.counts, PyData.strOk n.1 = true) ∧ ∀ H', Same H H' → Q (.bl (decide (st.tags.zip st.counts = g.flat) && decide (st.cost = dF f g))) H'
theorem ok_is_least_way (T : Txt K mg) : FnOk P w K mg base CX0 10 T.a_is_least_way T.d_is_least_way P_is_least_way (sp_is_least_way T) := by
  have G_Going___init__ := ok_Going___init__ (P := P) (w := w) (base := base) T
  have G_Going_behind := ok_Going_behind (P := P) (w := w) (base := base) T
  have G_is_way := ok_is_way (P := P) (w := w) (base := base) T
  have G_row_distance := ok_row_distance (P := P) (w := w) (base := base) T
  refine T.F_is_least_way.ok sc_is_least_way (fun vs H Q E h => ?_) (fun cdv A outer s H vs Q E hr h => ?_)
  · obtain ⟨va, vb, wv, f, g, w, st, rfl, hva, hvb, gf, gg, h1, h2, h3, hw, D, hso, k⟩ := h
    rfl
  · obtain ⟨va, vb, wv, f, g, w, st, rfl, hva, hvb, gf, gg, h1, h2, h3, hw, D, hso, k⟩ := h
    refine ⟨_, (pss_cons (ps_set (i := 3) sc_is_least_way.nd rfl (Or.inl rfl) (pe_call G_row_distance (hr.mono (by decide)) (by rfl) T.m_row_distance T.F_row_distance.kp T.b_row_distance .nil pass0 (pa_cons (pv 0) (pa_cons (pv 1) pa_nil))))
      (pss_cons (ps_if (pt_not (pt_val (pe_call G_is_way (hr.mono (by decide)) (by rfl) T.m_is_way T.F_is_way.kp T.b_is_way .nil pass0 (pa_cons (pv 2) pa_nil)))) (pss_one (ps_ret pe_bl)) pss_nil)
      (pss_cons (ps_try_never0 (fun _ _ h => h) (pss_one (ps_set (i := 4) sc_is_least_way.nd rfl (Or.inl rfl) (pe_make T.mk_Going G_Going___init__ (hr.mono (by decide)) (by rfl) T.m_Going T.b_Going___init__ .nil pass0 (pa_cons (pv 0) (pa_cons (pv 2) pa_nil))))))
      (pss_one (ps_ret (pe_and (pe_cmpR (op_eqD hr.units) (pe_meth0 (pv 4) T.cl_Going T.M_Going_behind G_Going_behind (hr.mono (by decide)) T.b_Going_behind .nil pass0) (pv 1) (nomark _)) (pe_one (pe_cmpR op_eq (pe_fld (pv 4) rfl) (pv 3) (nomark _))))))))), ?_⟩
    have hM := mil_lt
    have hwl := D.len
    obtain ⟨fr, hfr⟩ := D.fr
    refine ⟨_, rfl, _, rfl, va, vb, f, g, rfl, hva, hvb, gf, gg, h1, h2, h3, fun H1 s1 => ?_⟩
    refine ⟨_, rfl, wv, w, rfl, dp_same s1 hw, D.si, by omega, fun H2 s2 => ?_⟩
    rw [D.ok]
    refine ⟨_, rfl, ?_⟩
    refine ⟨_, rfl, _, rfl, fun x dx hx hdx hne => ?_⟩
    have s3 := same_made (C := T.c_Going) hx hdx
    have s12 := s1.trans s2
    refine ⟨x, dx, va, wv, f, w, st, fr, rfl, upd_same, dp_same (s12.trans s3) hva, D.good, D.size, dp_same (s12.trans s3) hw, D.si, D.len, D.wt, D.run, hfr, fun H3 A ts ls bv G => ⟨rfl, ?_⟩⟩
    have s4 := s12.trans (made_same hx hdx (less_sx G.s0))
    refine ⟨_, rfl, x, _, _, rfl, G.ob, rfl, _, x, A, f, st, ts, ls, bv, rfl, G, D.cl, fun v H5 s5 d5 => ?_⟩
    have G5 := G.same s5
    refine ⟨_, rfl, _, _, d5, dp_same (s4.trans s5) hvb, Sh.ok (sh_row hso), Sh.ok (sh_row fun n hn => isName_ok (good_names gg n hn)), ?_⟩
    rw [eqv_rowD]
    have hk := k H5 (s4.trans s5)
    refine ⟨_, rfl, ?_⟩
    by_cases c1 : st.tags.zip st.counts = g.flat
    · rw [decide_eq_true c1] at hk ⊢
      refine ⟨_, rfl, x, T.c_Going, _, _, _, rfl, G5.ob, T.cl_Going, T.na_Going_cost, rfl, _, rfl, rfl, ?_⟩
      have e : decide (V.int (st.cost : Nat) = V.int (dF f g : Nat)) = decide (st.cost = dF f g) := by
        by_cases c2 : st.cost = dF f g
        · rw [decide_eq_true c2, c2]; exact decide_eq_true rfl
        · rw [decide_eq_false c2]; exact decide_eq_false fun z => c2 (by have := V.int.inj z; omega)
      rw [e]
      exact hk
    · rw [decide_eq_false c1] at hk ⊢
      exact hk

end Pp

set_option Elab.async false
set_option linter.all false
set_option autoImplicit false
set_option maxRecDepth 100000
set_option maxHeartbeats 4000000
namespace Pp
open PySem PySem.Spec L2
variable {P : Program} {w : World} {K : PySem.W.Frag} {mg : Str → Option Value} {base : Heap}
/-! ### the law's own: the drawn numbers -/
theorem lit0 (j : Int) (h : 0 < j) : 0 < j := h
def BagAt (K : PySem.W.Frag) (H : Hp) (b cl : Addr) (n : Nat) : Prop := ∃ (x y : Int) (z : Nat) (cs : List Int), H b = some (.lst [.int x, .int y, .int (z : Nat), .ref cl]) ∧ H cl = some (.lst (cs.map V.int)) ∧ z ≤ n ∧ 0 ≤ x ∧ 0 ≤ y ∧ (∀ c ∈ cs, 0 ≤ c) ∧ cs.length ≤ 63
def sp__law_bag (T : Txt K mg) : Sp := fun vs H Q _ => ∃ (a : Addr) (ns : List Int), vs = [.ref a] ∧ SqL K H a (ns.map V.int) ∧ ∀ b cl H', Same H H' → H b = none → BagAt K H' b cl 0 → Q (.ref b) H'
theorem ok__law_bag (T : Txt K mg) : FnOk P w K mg base CX0 1 T.a__law_bag T.d__law_bag P__law_bag (sp__law_bag T) := by
  refine T.F__law_bag.ok sc__law_bag (fun vs H Q E h => ?_) (fun cdv A outer s H vs Q E hr h => ?_)
  · obtain ⟨a, ns, rfl, ha, k⟩ := h
    rfl
  · obtain ⟨a, ns, rfl, ha, k⟩ := h
    refine ⟨_, (pss_one (ps_ret (pe_lst (pa_cons pe_int (pa_cons pe_int (pa_cons pe_int (pa_cons (pe_lc (own := [("cell", 1)]) rfl sc__law_bag.nd (pi_list (pe_slice sl_list (pv 0) po_none (po_some pe_int))) (blkOk_by (N := N__law_bag) (sc := defScope s__law_bag) (by decide +kernel)) (fun _ _ _ _ _ => (pg_name (i := 1) sc__law_bag.nd rfl (Or.inl rfl))) (fun _ _ _ _ _ => pts_te (by exact pts_nil) (by first | rfl | (dsimp only <;> rfl))) (fun _ _ _ _ _ => pe_te (by exact (pe_callB call_abs (by rfl) T.n_abs (by decide +kernel) (pa_cons (pv 1) pa_nil))) (by first | rfl | (dsimp only <;> rfl)))) pa_nil))))))), ?_⟩
    have hM := mil_lt
    refine ⟨_, rfl, 63, rfl, a, _, rfl, ha, fun p1 hp1 => ⟨p1, rfl, ⟨_, SqL.of upd_same⟩, fun D hD => ?_⟩⟩
    have u1 := sm_new hp1 (o := .lst (cutV (ns.map V.int) none (some 63)))
    obtain ⟨cs, hcs, hcl⟩ : ∃ cs : List Int, cutV (ns.map V.int) none (some 63) = cs.map V.int ∧ cs.length ≤ 63 := by
      refine ⟨ns.take (HT.sIx (ns.map V.int).length (ns.map V.int).length (some 63)), ?_, ?_⟩
      · show ((ns.map V.int).drop 0).take _ = _
        rw [List.drop_zero, List.map_take]; rfl
      · have : HT.sIx (ns.map V.int).length (ns.map V.int).length (some ((63 : Nat) : Int)) ≤ 63 := by rw [HT.sIx_nat]; omega
        rw [List.length_take]
        exact Nat.le_trans (Nat.min_le_left _ _) this
    rw [hcs] at hD u1 ⊢
    have e1 : upd H p1 (.lst (cs.map V.int)) p1 = some (.lst (cs.map V.int)) := upd_same
    refine lc_it (walk_list (xs := cs.map V.int)) (fun i H' => Same (upd H p1 (.lst (cs.map V.int))) H' ∧ H' D = some (.lst (((cs.take i).map fun c => if c < 0 then -c else c).map V.int))) ⟨sm_new hD, upd_same⟩ (fun _ _ _ q => SqL.of (q.1 _ _ e1)) ?_ ?_
    · rintro i y H1 H2 hi ⟨s1, eD⟩ ⟨rfl, hy⟩
      rw [List.length_map] at hi
      obtain ⟨c, hc⟩ : ∃ c, cs[i]? = some c := ⟨_, List.getElem?_eq_getElem hi⟩
      rw [List.getElem?_map, hc] at hy
      cases hy
      refine ⟨rfl, _, rfl, c, rfl, _, eD, ?_, sm_put s1 hD, ?_⟩
      · rw [List.length_map, List.length_map, List.length_take]; omega
      · rw [upd_same, take_one hc, List.map_append, List.map_append]; rfl
    · rintro H1 ⟨s1, eD⟩
      rw [List.length_map, List.take_length] at eD
      refine ⟨by show 4 ≤ sizeLine; omega, fun b hb => ?_⟩
      have s2 := sm_new hb (o := .lst [.int 0, .int 1234567891, .int 0, .ref D])
      refine k b D _ ((u1.trans s1).trans s2) ((u1.trans s1).free hb) ⟨0, 1234567891, 0, cs.map fun c => if c < 0 then -c else c, upd_same, s2 _ _ eD, Nat.le_refl _, by decide, by decide, fun c hc => ?_, by rw [List.length_map]; exact hcl⟩
      obtain ⟨c', _, rfl⟩ := List.mem_map.mp hc
      split <;> omega
def sp__law_take (T : Txt K mg) : Sp := fun vs H Q _ => ∃ (b cl : Addr) (m n : Nat), vs = [.ref b, .int (m : Nat)] ∧ BagAt K H b cl n ∧ 0 < m ∧ m ≤ 1000 ∧ n < 100000 ∧ ∀ (x : Nat) H', x < m → (∀ c o, c ≠ b → H c = some o → H' c = some o) → BagAt K H' b cl (n + 1) → Q (.int (x : Nat)) H'
theorem ok__law_take (T : Txt K mg) : FnOk P w K mg base CX0 1 T.a__law_take T.d__law_take P__law_take (sp__law_take T) := by
  refine T.F__law_take.ok sc__law_take (fun vs H Q E h => ?_) (fun cdv A outer s H vs Q E hr h => ?_)
  · obtain ⟨b, cl, m, n, rfl, hB, hm, hm2, hn, k⟩ := h
    rfl
  · obtain ⟨b, cl, m, n, rfl, hB, hm, hm2, hn, k⟩ := h
    refine ⟨_, (Evl.pss_cut (ps_if (pt_cmpR op_eq (pe_ix ix_list (pv 0) pe_int (fun _ _ => rfl)) pe_int (nomark _)) (pss_cons (ps_set (i := 2) sc__law_take.nd rfl (Or.inl rfl) (pe_ix ix_list (pe_op op_cat (pe_slice sl_list (pe_ix ix_list (pv 0) pe_int (fun _ _ => rfl)) (po_some (pe_ix ix_list (pv 0) pe_int (fun _ _ => rfl))) po_none) (pe_lst (pa_cons pe_int pa_nil))) pe_int (fun _ _ => rfl)))
        (pss_cons (ps_augS (pv 0) pe_int get_list pe_int ip_add set_list)
        (Evl.pss_cut (ps_if (pt_cmpR op_ge (pv 2) (pe_op op_pow pe_int pe_int) (nomark _)) (pss_one (ps_asg (pv 2) (pg_sub (pv 0) pe_int set_list))) pss_nil)
        (pss_cons (ps_set (i := 3) sc__law_take.nd rfl (Or.inl rfl) (pe_op op_add (pe_op op_add (pe_op op_mul (pe_ix ix_list (pv 0) pe_int (fun _ _ => rfl)) pe_int) (pe_op op_mod (pe_callTy call_int1 (by rfl) T.n_int (by decide +kernel) (pa_cons (pv 2) pa_nil)) pe_int)) (pe_op op_mul pe_int (pe_ix ix_list (pv 0) pe_int (fun _ _ => rfl)))))
        (pss_one (ps_asg (pe_op op_mod (pe_callTy call_int1 (by rfl) T.n_int (by decide +kernel) (pa_cons (pv 3) pa_nil)) pe_int) (pg_sub (pv 0) pe_int set_list))))))) pss_nil)
      (pss_cons (ps_if (pt_cmpR op_gt (pe_ix ix_list (pv 0) pe_int (fun _ _ => rfl)) pe_int (nomark _)) (pss_cons (ps_set (i := 4) sc__law_take.nd rfl (Or.inl rfl) (pe_op op_modN (pe_callTy call_int1 (by rfl) T.n_int (by decide +kernel) (pa_cons (pe_ix ix_list (pv 0) pe_int (fun _ _ => rfl)) pa_nil)) (pv 1)))
        (pss_cons (ps_asg (pe_op op_fdivN (pe_callTy call_int1 (by rfl) T.n_int (by decide +kernel) (pa_cons (pe_ix ix_list (pv 0) pe_int (fun _ _ => rfl)) pa_nil)) (pv 1)) (pg_sub (pv 0) pe_int set_list))
        (pss_one (ps_ret (pv 4))))) pss_nil)
      (pss_cons (ps_set (i := 5) sc__law_take.nd rfl (Or.inl rfl) (pe_op op_mod (pe_callTy call_int1 (by rfl) T.n_int (by decide +kernel) (pa_cons (pe_op op_mul (pe_op op_add (pe_ix ix_list (pv 0) pe_int (fun _ _ => rfl)) pe_int) pe_int) pa_nil)) pe_int))
      (pss_cons (ps_set (i := 6) sc__law_take.nd rfl (Or.inl rfl) (pe_op op_mod (pe_callTy call_int1 (by rfl) T.n_int (by decide +kernel) (pa_cons (pe_op op_mul (pe_op op_mod (pe_callTy call_int1 (by rfl) T.n_int (by decide +kernel) (pa_cons (pe_op op_mul (pv 5) (pv 5)) pa_nil)) pe_int) pe_int) pa_nil)) pe_int))
      (pss_one (ps_ret (pe_op op_modN (pe_callTy call_int1 (by rfl) T.n_int (by decide +kernel) (pa_cons (pe_op op_fdiv (pv 6) pe_int) pa_nil)) (pv 1)))))))), ?_⟩
    have hM := mil_lt
    obtain ⟨x, y, z, cs, eb, ec, hz, hx, hy, hcs, hcl⟩ := hB
    have nbc : b ≠ cl := fun e => by
      rw [← e, eb] at ec
      have h3 := congrArg (fun l : List V => l[3]?) (HO.lst.inj (Option.some.inj ec))
      have h4 : some (V.ref cl) = (cs.map V.int)[3]? := h3
      rw [List.getElem?_map] at h4
      cases h5 : cs[3]? <;> (rw [h5] at h4; cases h4)
    -- what is drawn next
    refine ⟨fun σ' H' => ∃ (x' y' : Int) (x2 x3 : Option V), σ' = [some (.ref b), some (.int (m : Nat)), x2, x3, none, none, none] ∧ H' b = some (.lst [.int x', .int y', .int ((if x = 0 then z + 1 else z : Nat) : Nat), .ref cl]) ∧ (∀ c o, c ≠ b → H c = some o → H' c = some o) ∧ 0 ≤ x' ∧ 0 ≤ y', ?_, ?_⟩
    · refine ⟨_, rfl, b, _, 0, _, rfl, rfl, SqL.of eb, rfl, rfl, _, rfl, ?_⟩
      by_cases hx0 : x = 0
      · subst hx0
        refine ⟨_, rfl, b, _, 3, _, rfl, rfl, SqL.of eb, rfl, _, rfl, b, _, 2, _, rfl, rfl, SqL.of eb, rfl, (z : Nat), rfl, cl, _, rfl, SqL.of ec, fun p1 hp1 => ⟨by show 1 ≤ sizeLine; omega, fun p2 hp2 => ?_⟩⟩
        obtain ⟨cs', q1, q2, q3⟩ : ∃ cs' : List Int, cutV (cs.map V.int) (some ((z : Nat) : Int)) none = cs'.map V.int ∧ (∀ c ∈ cs', 0 ≤ c) ∧ cs'.length ≤ 63 := by
          refine ⟨(cs.drop (HT.sIx (cs.map V.int).length 0 (some ((z : Nat) : Int)))).take (HT.sIx (cs.map V.int).length (cs.map V.int).length none - HT.sIx (cs.map V.int).length 0 (some ((z : Nat) : Int))), ?_, fun c hc => hcs c (List.mem_of_mem_drop (List.mem_of_mem_take hc)), ?_⟩
          · unfold cutV
            rw [List.map_take, List.map_drop]
          · rw [List.length_take, List.length_drop]; omega
        rw [q1] at hp2 ⊢
        have n12 : p1 ≠ p2 := ne_of_none upd_same hp2
        refine ⟨p1, p2, _, _, rfl, rfl, (upd_ne n12).trans upd_same, upd_same, by rw [List.length_map, List.length_singleton]; omega, fun p3 hp3 => ?_⟩
        obtain ⟨c, r1, r2⟩ : ∃ c : Int, atI (cs'.map V.int ++ [V.int 0]) 0 = some (.int c) ∧ 0 ≤ c := by
          cases cs' with
          | nil => exact ⟨0, rfl, Int.le_refl _⟩
          | cons c l => exact ⟨c, atI_hd _ _, q2 c List.mem_cons_self⟩
        refine ⟨p3, _, 0, _, rfl, rfl, SqL.of upd_same, r1, ?_⟩
        have f1 : H p1 = none := hp1
        have s1 : Same H (upd H p1 (.lst (cs'.map V.int))) := sm_new hp1
        have s2 := sm_put s1 (s1.free hp2) (o := .lst [V.int 0])
        have s3 := sm_put s2 (s2.free hp3) (o := .lst (cs'.map V.int ++ [V.int 0]))
        have eb3 := s3 _ _ eb
        have ec3 := s3 _ _ ec
        generalize (upd (upd (upd H p1 (.lst (cs'.map V.int))) p2 (.lst [V.int 0])) p3 (.lst (cs'.map V.int ++ [V.int 0]))) = H3 at *
        refine ⟨_, rfl, b, _, 2, _, rfl, rfl, SqL.of eb3, rfl, _, _, rfl, rfl, b, _, 2, 2, rfl, rfl, eb3, rfl, ?_⟩
        have k3 : ∀ c o, c ≠ b → H c = some o → (upd H3 b (.lst [.int 0, .int y, .int ((z : Nat) + 1), .ref cl])) c = some o := fun c o n e => (upd_ne n).trans (s3 _ _ e)
        have eb4 : (upd H3 b (.lst [.int 0, .int y, .int ((z : Nat) + 1), .ref cl])) b = some (.lst [.int 0, .int y, .int ((z : Nat) + 1), .ref cl]) := upd_same
        show (Evl.tCut _ _) _ _ (upd H3 b (.lst [.int 0, .int y, .int ((z : Nat) + 1), .ref cl]))
        generalize (upd H3 b (.lst [.int 0, .int y, .int ((z : Nat) + 1), .ref cl])) = H4 at *
        refine ⟨fun σ' H' => ∃ x' : Int, σ' = [some (.ref b), some (.int (m : Nat)), some (.int c), none, none, none, none] ∧ H' b = some (.lst [.int x', .int y, .int ((z : Nat) + 1), .ref cl]) ∧ (∀ c o, c ≠ b → H c = some o → H' c = some o) ∧ 0 ≤ x', ?_, ?_⟩
        · refine ⟨_, rfl, _, _, rfl, rfl, ⟨by decide, by decide, by decide⟩, _, _, rfl, rfl, _, rfl, ?_⟩
          refine ite2 (fun _ => ?_) (fun _ => ?_)
          · refine ⟨_, rfl, _, rfl, b, _, 0, 0, rfl, rfl, eb4, rfl, c, rfl, upd_same, fun c' o n e => (upd_ne n).trans (k3 c' o n e), r2⟩
          · exact ⟨0, rfl, eb4, k3, Int.le_refl _⟩
        · rintro σ' H5 ⟨x', rfl, e5, k5, hx'⟩
          refine ⟨_, rfl, b, _, 1, _, rfl, rfl, SqL.of e5, rfl, _, _, rfl, rfl, .inr ⟨by decide, by decide⟩, _, rfl, .inl ⟨_, rfl, _, _, rfl, rfl, lit0 _ (by decide), _, _, rfl, rfl, _, rfl, b, _, 2, _, rfl, rfl, SqL.of e5, rfl, _, _, rfl, rfl, .inl ⟨by decide, by decide⟩, _, _, rfl, rfl, ?_⟩⟩
          refine ⟨_, rfl, .inl ⟨_, rfl, _, _, rfl, rfl, lit0 _ (by decide), _, rfl, b, _, 1, 1, rfl, rfl, e5, rfl, ?_⟩⟩
          exact ⟨x', _, _, _, rfl, upd_same, fun c' o n e => (upd_ne n).trans (k5 c' o n e), hx', Int.emod_nonneg _ (by decide)⟩
      · rw [decide_eq_false (show ¬ V.int x = V.int 0 from fun z => hx0 (V.int.inj z))]
        exact ⟨x, y, none, none, rfl, by rw [if_neg hx0]; exact eb, fun _ _ _ h => h, hx, hy⟩
    · rintro σ' H1 ⟨x', y', x2, x3, rfl, e1, s1, hx', hy'⟩
      have hm0 : ((m : Nat) : Int) ≠ 0 := by omega
      have hzn : (if x = 0 then z + 1 else z) ≤ n + 1 := by split <;> omega
      have fin : ∀ (v : Int), ∃ r : Nat, r < m ∧ v.fmod ((m : Nat) : Int) = (r : Nat) := fun v => by
        refine ⟨(v.fmod ((m : Nat) : Int)).toNat, ?_, ?_⟩
        · have h1 := Int.fmod_lt_of_pos v (show (0 : Int) < ((m : Nat) : Int) by omega)
          have h2 := Int.fmod_nonneg_of_pos v (show (0 : Int) < ((m : Nat) : Int) by omega)
          omega
        · have h2 := Int.fmod_nonneg_of_pos v (show (0 : Int) < ((m : Nat) : Int) by omega)
          omega
      refine ⟨_, rfl, b, _, 0, _, rfl, rfl, SqL.of e1, rfl, _, _, rfl, rfl, _, rfl, ?_⟩
      refine ite2 (fun hpos => ?_) (fun _ => ?_)
      · refine ⟨_, rfl, b, _, 0, _, rfl, rfl, SqL.of e1, rfl, .inl ⟨_, rfl, _, rfl, _, _, rfl, rfl, hm0, ?_⟩⟩
        obtain ⟨r, r1, r2⟩ := fin x'
        dsimp only
        rw [r2]
        refine ⟨_, rfl, b, _, 0, _, rfl, rfl, SqL.of e1, rfl, .inl ⟨_, rfl, _, rfl, _, _, rfl, rfl, ⟨hm0, by omega⟩, _, rfl, b, _, 0, 0, rfl, rfl, e1, rfl, ?_⟩⟩
        refine ⟨_, rfl, ?_⟩
        refine k r _ r1 (fun c' o n e => (upd_ne n).trans (s1 c' o n e)) ⟨_, y', _, cs, upd_same, (upd_ne (Ne.symm nbc)).trans (s1 _ _ (Ne.symm nbc) ec), hzn, ?_, hy', hcs, hcl⟩
        rw [Int.fdiv_eq_ediv_of_nonneg _ (by omega)]
        exact Int.ediv_nonneg hx' (by omega)
      · refine ⟨_, rfl, b, _, 1, _, rfl, rfl, SqL.of e1, rfl, _, _, rfl, rfl, _, _, rfl, rfl, .inr ⟨by decide, by decide⟩, .inl ⟨_, rfl, _, _, rfl, rfl, lit0 _ (by decide), ?_⟩⟩
        have g1 := Int.emod_nonneg ((y' + 1) * 39373) (show (1000000007 : Int) ≠ 0 by decide)
        have g2 := Int.emod_lt_of_pos ((y' + 1) * 39373) (show (0 : Int) < 1000000007 by decide)
        refine ⟨_, rfl, _, rfl, _, _, rfl, rfl, .inl ⟨by omega, by omega⟩, .inl ⟨_, rfl, _, _, rfl, rfl, lit0 _ (by decide), _, _, rfl, rfl, .inr ⟨by decide, by decide⟩, .inl ⟨_, rfl, _, _, rfl, rfl, lit0 _ (by decide), ?_⟩⟩⟩
        refine ⟨_, rfl, _, _, rfl, rfl, ⟨by decide, by decide⟩, .inl ⟨_, rfl, _, rfl, _, _, rfl, rfl, hm0, ?_⟩⟩
        dsimp only
        obtain ⟨r, r1, r2⟩ := fin ((y' + 1) * 39373 % 1000000007 * ((y' + 1) * 39373 % 1000000007) % 998244353 * 30011 % 998244353 / 7)
        rw [r2]
        exact k r _ r1 s1 ⟨x', y', _, cs, e1, s1 _ _ (Ne.symm nbc) ec, hzn, hx', hy', hcs, hcl⟩

end Pp

set_option Elab.async false
set_option linter.all false
set_option autoImplicit false
set_option maxRecDepth 100000
set_option maxHeartbeats 4000000
namespace Pp
open PySem PySem.Spec L2
variable {P : Program} {w : World} {K : PySem.W.Frag} {mg : Str → Option Value} {base : Heap}
/-! ### one of some -/
theorem snoc_ind {α : Type} {p : List α → Prop} (h0 : p []) (h1 : ∀ w t, p w → p (w ++ [t])) : ∀ w, p w := fun w => by
  have : ∀ r : List α, p r.reverse := fun r => by
    induction r with
    | nil => exact h0
    | cons t r ih => rw [List.reverse_cons]; exact h1 _ _ ih
  have h := this w.reverse
  rw [List.reverse_reverse] at h
  exact h
def sp__law_some (T : Txt K mg) : Sp := fun vs H Q _ => ∃ (b cl a : Addr) (n : Nat) (ws : List Str), vs = [.ref b, .ref a] ∧ BagAt K H b cl n ∧ H a = some (.lst (ws.map V.str)) ∧ a ≠ b ∧ ws ≠ [] ∧ ws.length ≤ 1000 ∧ n < 100000 ∧ ∀ (t : Str) H', t ∈ ws → (∀ c o, c ≠ b → H c = some o → H' c = some o) → BagAt K H' b cl (n + 1) → Q (.str t) H'
theorem ok__law_some (T : Txt K mg) : FnOk P w K mg base CX0 2 T.a__law_some T.d__law_some P__law_some (sp__law_some T) := by
  have G__law_take := ok__law_take (P := P) (w := w) (base := base) T
  refine T.F__law_some.ok sc__law_some (fun vs H Q E h => ?_) (fun cdv A outer s H vs Q E hr h => ?_)
  · obtain ⟨b, cl, a, n, ws, rfl, hB, ha, nab, hne, hl, hn, k⟩ := h
    rfl
  · obtain ⟨b, cl, a, n, ws, rfl, hB, ha, nab, hne, hl, hn, k⟩ := h
    refine ⟨_, (pss_one (ps_ret (pe_ix ix_list (pv 1) (pe_call G__law_take (hr.mono (by decide)) (by rfl) T.m__law_take T.F__law_take.kp T.b__law_take .nil pass0 (pa_cons (pv 0) (pa_cons (pe_callB call_len_seq (by rfl) T.n_len (by decide +kernel) (pa_cons (pv 1) pa_nil)) pa_nil))) (fun _ _ => rfl)))), ?_⟩
    have hpos : 0 < ws.length := by cases ws with
      | nil => exact absurd rfl hne
      | cons _ _ => exact Nat.zero_lt_succ _
    refine ⟨_, rfl, _, rfl, _, rfl, a, _, rfl, .inl (SqL.of ha), b, cl, ws.length, n, by rw [List.length_map]; rfl, hB, hpos, hl, hn, fun x H1 hx s1 B1 => ?_⟩
    obtain ⟨t, ht⟩ : ∃ t, ws[x]? = some t := ⟨_, List.getElem?_eq_getElem hx⟩
    refine ⟨a, _, _, _, rfl, rfl, SqL.of (s1 a _ nab ha), atI_nat (by rw [List.getElem?_map, ht]; rfl), ?_⟩
    exact k t H1 (List.mem_of_getElem? ht) s1 B1

end Pp

set_option Elab.async false
set_option linter.all false
set_option autoImplicit false
set_option maxRecDepth 100000
set_option maxHeartbeats 4000000
namespace Pp
open PySem PySem.Spec L2
variable {P : Program} {w : World} {K : PySem.W.Frag} {mg : Str → Option Value} {base : Heap}
/-! ### words and rows of leaves -/
def lvs : List Str → F → F
  | [], a => a
  | t :: w, a => lvs w (.snoc a t .nil)
def lv (w : List Str) : F := lvs w .nil
theorem lvs_snoc : ∀ (w : List Str) (a : F) (t : Str), lvs (w ++ [t]) a = .snoc (lvs w a) t .nil
  | [], _, _ => rfl
  | x :: w, a, t => lvs_snoc w (.snoc a x .nil) t
theorem lv_snoc (w : List Str) (t : Str) : lv (w ++ [t]) = .snoc (lv w) t .nil := lvs_snoc w .nil t
theorem lv_flat (w : List Str) : (lv w).flat = w.map fun t => (t, 0) := by
  refine snoc_ind (p := fun w => (lv w).flat = w.map fun t => (t, 0)) rfl (fun w t h => ?_) w
  rw [lv_snoc, List.map_append, ← h]; rfl
theorem lv_size (w : List Str) : (lv w).size = w.length := by
  have h := flat_len (lv w)
  rw [lv_flat, List.length_map] at h
  exact h.symm
theorem lv_len (w : List Str) : (lv w).len = w.length := by
  refine snoc_ind (p := fun w => (lv w).len = w.length) rfl (fun w t h => ?_) w
  rw [lv_snoc, List.length_append, ← h]; rfl
theorem lv_good {w : List Str} (h : ∀ t ∈ w, isName t = true) : (lv w).good = true := by
  refine snoc_ind (p := fun w => (∀ t ∈ w, isName t = true) → (lv w).good = true) (fun _ => rfl) (fun w t ih h => ?_) w h
  rw [lv_snoc]
  show ((lv w).good && (isName t && true)) = true
  rw [ih fun x hx => h x (List.mem_append_left _ hx), h t (List.mem_append_right _ (List.mem_singleton.mpr rfl))]; rfl
def gW (xs ys : List Str) (i j : Nat) : Nat := dF (lv (xs.take i)) (lv (ys.take j))
theorem lv_take {xs : List Str} {i : Nat} {t : Str} (h : xs[i]? = some t) : lv (xs.take (i + 1)) = .snoc (lv (xs.take i)) t .nil := by rw [take_one h, lv_snoc]
theorem gW_0 (xs ys : List Str) : ∀ j, j ≤ ys.length → gW xs ys 0 j = j
  | 0, _ => by unfold gW; rw [List.take_zero, List.take_zero]; exact dF_nn
  | j + 1, h => by
    obtain ⟨t, ht⟩ : ∃ t, ys[j]? = some t := ⟨_, List.getElem?_eq_getElem h⟩
    have ih := gW_0 xs ys j (by omega)
    unfold gW at ih ⊢
    rw [List.take_zero] at ih ⊢
    rw [lv_take ht, show lv [] = F.nil from rfl, dF_ns]
    rw [show lv [] = F.nil from rfl] at ih
    rw [ih]; rfl
theorem gW_i0 (xs ys : List Str) : ∀ i, i ≤ xs.length → gW xs ys i 0 = i
  | 0, _ => by unfold gW; rw [List.take_zero, List.take_zero]; exact dF_nn
  | i + 1, h => by
    obtain ⟨t, ht⟩ : ∃ t, xs[i]? = some t := ⟨_, List.getElem?_eq_getElem h⟩
    have ih := gW_i0 xs ys i (by omega)
    unfold gW at ih ⊢
    rw [List.take_zero] at ih ⊢
    rw [lv_take ht, show lv [] = F.nil from rfl, dF_sn]
    rw [show lv [] = F.nil from rfl] at ih
    rw [ih]; rfl
theorem gW_ss {xs ys : List Str} {i j : Nat} {t u : Str} (h1 : xs[i]? = some t) (h2 : ys[j]? = some u) : gW xs ys (i + 1) (j + 1) = min (min (gW xs ys i (j + 1) + 1) (gW xs ys (i + 1) j + 1)) (gW xs ys i j + ne1 t u) := by
  unfold gW
  rw [lv_take h1, lv_take h2, dF_ss, dF_nn]; rfl
def sp__law_leaves (T : Txt K mg) : Sp := fun vs H Q _ => ∃ (a : Addr) (ws : List Str), vs = [.ref a] ∧ SqL K H a (ws.map V.str) ∧ ws.length < 1000000 ∧ RetD (rowD (lv ws).flat) K H Q
theorem ok__law_leaves (T : Txt K mg) : FnOk P w K mg base CX0 1 T.a__law_leaves T.d__law_leaves P__law_leaves (sp__law_leaves T) := by
  refine T.F__law_leaves.ok sc__law_leaves (fun vs H Q E h => ?_) (fun cdv A outer s H vs Q E hr h => ?_)
  · obtain ⟨a, ws, rfl, ha, hl, k⟩ := h
    rfl
  · obtain ⟨a, ws, rfl, ha, hl, k⟩ := h
    refine ⟨_, (pss_one (ps_ret (pe_callTy call_tuple_of (by rfl) T.n_tuple (by decide +kernel) (pa_cons (pe_lc (own := [("tag", 1)]) rfl sc__law_leaves.nd (pi_list (pv 0)) (blkOk_by (N := N__law_leaves) (sc := defScope s__law_leaves) (by decide +kernel)) (fun _ _ _ _ _ => (pg_name (i := 1) sc__law_leaves.nd rfl (Or.inl rfl))) (fun _ _ _ _ _ => pts_te (by exact pts_nil) (by first | rfl | (dsimp only <;> rfl))) (fun _ _ _ _ _ => pe_te (by exact (pe_tup (pa_cons (pv 1) (pa_cons pe_int pa_nil)))) (by first | rfl | (dsimp only <;> rfl)))) pa_nil)))), ?_⟩
    have hM := mil_lt
    refine ⟨_, rfl, a, rfl, ⟨_, ha⟩, fun D hD => ?_⟩
    refine lc_it (walk_list (xs := ws.map V.str)) (fun i H' => Same H H' ∧ ∃ vs, H' D = some (.lst vs) ∧ DpAll K H' vs (((ws.take i).map fun t => ((t, 0) : Nd)).map ndD)) ⟨sm_new hD, [], upd_same, .nil⟩ (fun _ _ _ q => sm_sl q.1 ha) ?_ ?_
    · rintro i y H1 H2 hi ⟨s1, vs, e1, d1⟩ ⟨rfl, hy⟩
      rw [List.length_map] at hi
      obtain ⟨t, ht⟩ : ∃ t, ws[i]? = some t := ⟨_, List.getElem?_eq_getElem hi⟩
      rw [List.getElem?_map, ht] at hy
      cases hy
      have dl := dpa_len d1
      rw [List.length_map, List.length_map, List.length_take] at dl
      refine ⟨rfl, _, rfl, by show 2 ≤ sizeLine; omega, fun p hp => ?_⟩
      have nDp : D ≠ p := ne_of_none e1 hp
      have e2 := (upd_ne nDp (H := H2) (o := .tup [.str t, .int 0])).trans e1
      have kp := Kp.lst e2 (o := .lst (vs ++ [V.ref p]))
      refine ⟨vs, e2, by omega, sm_put (sm_put s1 (s1.free hp)) hD, _, upd_same, ?_⟩
      rw [take_one ht, List.map_append, List.map_append]
      refine dpa_app (dpa_kp kp (nlA_map ndD (fun n => by simp [ndD, nl, nlA]) _) (dpa_same (sm_new hp) d1)) (.cons (.tup (kp.st (SqT.of upd_same)) (.cons (.str _) (.cons (.int _) .nil))) .nil)
    · rintro H1 ⟨s1, vs, e1, d1⟩
      rw [List.length_map, List.take_length] at d1
      refine ⟨D, vs, rfl, .inl ⟨SqL.of e1, fun q hq => ?_⟩⟩
      have u1 := sm_new hq (o := .tup vs)
      refine k _ _ (s1.trans u1) (.tup (SqT.of upd_same) ?_)
      rw [lv_flat]
      exact dpa_same u1 d1
def sp__law_words (T : Txt K mg) : Sp := fun vs H Q _ => ∃ (a b : Addr) (xs ys : List Str), vs = [.ref a, .ref b] ∧ SqL K H a (xs.map V.str) ∧ SqL K H b (ys.map V.str) ∧ xs.length < 1000 ∧ ys.length < 1000 ∧ ∀ H', Same H H' → Q (.int (dF (lv xs) (lv ys) : Nat)) H'
theorem ok__law_words (T : Txt K mg) : FnOk P w K mg base CX0 1 T.a__law_words T.d__law_words P__law_words (sp__law_words T) := by
  refine T.F__law_words.ok sc__law_words (fun vs H Q E h => ?_) (fun cdv A outer s H vs Q E hr h => ?_)
  · obtain ⟨a, b, xs, ys, rfl, ha, hb, hx, hy, k⟩ := h
    rfl
  · obtain ⟨a, b, xs, ys, rfl, ha, hb, hx, hy, k⟩ := h
    refine ⟨_, (pss_cons (ps_set (i := 2) sc__law_words.nd rfl (Or.inl rfl) (pe_listRg rfl (by rfl) T.n_list (prg_1 (by rfl) T.n_range (pe_op op_add (pe_callB call_len_seq (by rfl) T.n_len (by decide +kernel) (pa_cons (pv 1) pa_nil)) pe_int))))
      (pss_cons (ps_for PassesOwn.never rfl (pi_enum (by rfl) T.n_enumerate (pa_cons (pv 0) pa_nil)) (pg_tup rfl (pgs_cons (pg_name (i := 3) sc__law_words.nd rfl (Or.inl rfl)) (pgs_cons (pg_name (i := 4) sc__law_words.nd rfl (Or.inl rfl)) pgs_nil))) (pss_cons (ps_set (i := 5) sc__law_words.nd rfl (Or.inl rfl) (pe_lst (pa_cons (pe_op op_add (pv 3) pe_int) pa_nil)))
        (pss_cons (ps_for PassesOwn.never rfl (pi_enum (by rfl) T.n_enumerate (pa_cons (pv 1) pa_nil)) (pg_tup rfl (pgs_cons (pg_name (i := 6) sc__law_words.nd rfl (Or.inl rfl)) (pgs_cons (pg_name (i := 7) sc__law_words.nd rfl (Or.inl rfl)) pgs_nil))) (pss_one (ps_expr (pe_bm PySem.F.plainAttrs_list PySem.F.slot_list_append PySem.F.type_list_append mt_append (pv 5) (pa_cons (pe_callB (call_min3I rfl) (by rfl) T.n_min (by decide +kernel) (pa_cons (pe_op op_add (pe_ix ix_list (pv 2) (pe_op op_add (pv 6) pe_int) (fun _ _ => rfl)) pe_int) (pa_cons (pe_op op_add (pe_ix ix_list (pv 5) (pv 6) (fun _ _ => rfl)) pe_int) (pa_cons (pe_op op_add (pe_ix ix_list (pv 2) (pv 6) (fun _ _ => rfl)) (pe_callTy call_int1 (by rfl) T.n_int (by decide +kernel) (pa_cons (pe_cmpR op_ne (pv 4) (pv 7) (nomark _)) pa_nil))) pa_nil)))) pa_nil)))))
        (pss_one (ps_set (i := 2) sc__law_words.nd rfl (Or.inl rfl) (pv 5))))))
      (pss_one (ps_ret (pe_ix ix_list (pv 2) (pe_un un_neg pe_int) (fun _ _ => rfl)))))), ?_⟩
    have hM := mil_lt
    have hyl : (((ys.map V.str).length : Nat) : Int) = (ys.length : Nat) := by rw [List.length_map]
    refine ⟨_, rfl, b, _, rfl, .inl hb, _, _, rfl, rfl, _, rfl, RgOk.of_le (Int.le_refl _) (by rw [hyl]; omega) (by decide) (by rw [hyl]; omega), fun L0 hL0 => ?_⟩
    have hrow : rgV 0 (((ys.map V.str).length : Nat) + 1) = iv (rowOf ys.length (gW xs ys 0)) := by
      rw [hyl]
      unfold rgV iv rowOf
      rw [List.map_map, show (((ys.length : Nat) : Int) + 1 - 0).toNat = ys.length + 1 by omega]
      refine List.map_congr_left fun j hj => ?_
      have hj' := List.mem_range.mp hj
      show V.int (0 + (j : Nat)) = V.int (gW xs ys 0 j : Nat)
      rw [gW_0 xs ys j (by omega), Int.zero_add]
    rw [hrow]
    refine ⟨_, rfl, a, _, rfl, sm_sl (sm_new hL0) ha, ?_⟩
    refine for_it (walk_enum (xs := xs.map V.str)) (fun i σ' H' => ∃ (L : Addr) (x3 x4 x5 x6 x7 : Option V), σ' = [some (.ref a), some (.ref b), some (.ref L), x3, x4, x5, x6, x7] ∧ Same H H' ∧ H' L = some (.lst (iv (rowOf ys.length (gW xs ys i))))) ⟨L0, none, none, none, none, none, rfl, sm_new hL0, upd_same⟩ (fun _ _ _ _ q => by obtain ⟨_, _, _, _, _, _, _, q, _⟩ := q; exact sm_sl q ha) ?_ ?_
    · rintro i y σ' H1 H2 hi ⟨L, x3, x4, x5, x6, x7, rfl, s1, eL⟩ ⟨t1, v1, v2, rfl, ht1, rfl, g1, g2⟩
      cases g1
      rw [List.length_map] at hi
      obtain ⟨t, ht⟩ : ∃ t, xs[i]? = some t := ⟨_, List.getElem?_eq_getElem hi⟩
      have g2' : (xs.map V.str)[i]? = some v2 := g2
      rw [List.getElem?_map, ht] at g2'
      cases g2'
      refine ⟨t1, _, rfl, SqT.of upd_same, rfl, _, _, rfl, _, _, rfl, rfl, ?_⟩
      have u1 := sm_new ht1 (o := .tup [V.int (i : Nat), V.str t])
      have s2 := s1.trans u1
      have eL2 := u1 _ _ eL
      generalize upd H1 t1 (.tup [V.int (i : Nat), V.str t]) = H3 at *
      refine ⟨_, rfl, _, _, rfl, rfl, by show 1 ≤ sizeLine; omega, fun R hR => ?_⟩
      have s3 := sm_put s2 (s2.free hR) (o := .lst [V.int (((i : Nat) : Int) + 1)])
      have nLR : L ≠ R := ne_of_none eL2 hR
      have fR : H R = none := s2.free hR
      have eR0 : upd H3 R (.lst [V.int (((i : Nat) : Int) + 1)]) R = some (.lst (iv (rowOf 0 (gW xs ys (i + 1))))) := by
        rw [upd_same]
        show _ = some (HO.lst [V.int (gW xs ys (i + 1) 0 : Nat)])
        rw [gW_i0 xs ys (i + 1) (by omega)]; rfl
      refine ⟨_, rfl, b, _, rfl, sm_sl s3 hb, ?_⟩
      refine for_it (walk_enum (xs := ys.map V.str)) (fun j σ' H' => ∃ (x6 x7 : Option V), σ' = [some (.ref a), some (.ref b), some (.ref L), some (.int (i : Nat)), some (.str t), some (.ref R), x6, x7] ∧ Same H H' ∧ H' L = some (.lst (iv (rowOf ys.length (gW xs ys i)))) ∧ H' R = some (.lst (iv (rowOf j (gW xs ys (i + 1)))))) ⟨x6, x7, rfl, s3, (upd_ne nLR).trans eL2, eR0⟩ (fun _ _ _ _ q => by obtain ⟨_, _, _, q, _⟩ := q; exact sm_sl q hb) ?_ ?_
      · rintro j y σ' H4 H5 hj ⟨x6, x7, rfl, s4, eL4, eR4⟩ ⟨t2, v1, v2, rfl, ht2, rfl, g1, g2⟩
        cases g1
        rw [List.length_map] at hj
        obtain ⟨u, hu⟩ : ∃ u, ys[j]? = some u := ⟨_, List.getElem?_eq_getElem hj⟩
        have g2' : (ys.map V.str)[j]? = some v2 := g2
        rw [List.getElem?_map, hu] at g2'
        cases g2'
        refine ⟨t2, _, rfl, SqT.of upd_same, rfl, _, _, rfl, _, _, rfl, rfl, ?_⟩
        have u2 := sm_new ht2 (o := .tup [V.int (j : Nat), V.str u])
        have s5 := s4.trans u2
        have eL5 := u2 _ _ eL4
        have eR5 := u2 _ _ eR4
        generalize upd H4 t2 (.tup [V.int (j : Nat), V.str u]) = H6 at *
        have a1 : atI (iv (rowOf ys.length (gW xs ys i))) (((j : Nat) : Int) + 1) = some (.int (gW xs ys i (j + 1) : Nat)) := atI_nat (j := j + 1) (iv_get (rowOf_get _ (by omega)))
        have a2 : atI (iv (rowOf j (gW xs ys (i + 1)))) ((j : Nat) : Int) = some (.int (gW xs ys (i + 1) j : Nat)) := atI_nat (iv_get (rowOf_get _ (Nat.le_refl _)))
        have a3 : atI (iv (rowOf ys.length (gW xs ys i))) ((j : Nat) : Int) = some (.int (gW xs ys i j : Nat)) := atI_nat (iv_get (rowOf_get _ (by omega)))
        refine ⟨_, rfl, .inl ⟨rfl, _, SqL.of eR5⟩, _, rfl, _, rfl, _, _, rfl, rfl, L, _, _, _, rfl, rfl, SqL.of eL5, a1, _, _, rfl, rfl, ?_⟩
        refine ⟨_, rfl, _, rfl, R, _, _, _, rfl, rfl, SqL.of eR5, a2, _, _, rfl, rfl, ?_⟩
        refine ⟨_, rfl, _, rfl, L, _, _, _, rfl, rfl, SqL.of eL5, a3, _, rfl, _, rfl, rfl, .inr ⟨_, rfl, _, _, rfl, rfl, ?_⟩⟩
        refine ⟨_, _, _, rfl, R, _, _, rfl, rfl, eR5, by rw [iv_len, rowOf_len]; omega, ?_⟩
        have e : min (min (((gW xs ys i (j + 1) : Nat) : Int) + 1) (((gW xs ys (i + 1) j : Nat) : Int) + 1)) (((gW xs ys i j : Nat) : Int) + (if (!decide (V.str t = V.str u)) = true then 1 else 0)) = ((gW xs ys (i + 1) (j + 1) : Nat) : Int) := by
          rw [gW_ss ht hu]
          unfold ne1
          by_cases htu : t = u
          · rw [decide_eq_true (show V.str t = V.str u by rw [htu]), if_pos htu]
            show min _ (_ + 0) = _
            omega
          · rw [decide_eq_false (show ¬ V.str t = V.str u from fun z => htu (V.str.inj z)), if_neg htu]
            show min _ (_ + 1) = _
            omega
        dsimp only
        rw [e, iv_snoc]
        refine ⟨_, _, rfl, sm_put s5 fR, (upd_ne nLR).trans eL5, ?_⟩
        rw [upd_same]
        unfold rowOf
        rw [List.range_succ (n := j + 1), List.map_append]; rfl
      · rintro σ' H4 ⟨x6, x7, rfl, s4, eL4, eR4⟩
        rw [List.length_map] at eR4
        refine ⟨_, rfl, ?_⟩
        exact ⟨R, _, _, _, _, _, rfl, s4, eR4⟩
    · rintro σ' H1 ⟨L, x3, x4, x5, x6, x7, rfl, s1, eL⟩
      rw [List.length_map] at eL
      have hv : (iv (rowOf ys.length (gW xs ys xs.length)))[ys.length]? = some (.int (gW xs ys xs.length ys.length : Nat)) := iv_get (rowOf_get _ (Nat.le_refl _))
      refine ⟨_, rfl, 1, rfl, L, _, _, _, rfl, rfl, SqL.of eL, atI_neg1 (by rw [iv_len, rowOf_len]) hv, ?_⟩
      have := k _ s1
      unfold gW
      rw [List.take_length, List.take_length]
      exact this

end Pp

set_option Elab.async false
set_option linter.all false
set_option autoImplicit false
set_option maxRecDepth 100000
set_option maxHeartbeats 4000000
namespace Pp
open PySem PySem.Spec L2
variable {P : Program} {w : World} {K : PySem.W.Frag} {mg : Str → Option Value} {base : Heap}
/-! ### a tuple, so many times -/
section
open PyProof.Rows
theorem mul_one (l : Addr) (its : Array Value) (n : Nat) (dd : Option Addr) (sl : Array (Option Value)) (u : Tok) :
    Meets (Builtin.«tuple.__mul__» ⟨[.ref l, .int 1 u], []⟩) (fun _ R s => s.heap.get? l = some { cls := .type "tuple", dict := dd, data := .seq its n, slots := sl } ∧ R (.ok (.ret (Value.ref l))) s) :=
  .of_wp fun prog w A R s h => by
    obtain ⟨hp, g, d, tk, os⟩ := s
    obtain ⟨hl, h⟩ := h
    have f1 := AutoSeq1.idx_int
    wp_walk using wpAny_loadPart' hl
    repeat (first
      | (refine wpAny_ite_true (by simp) ?_; wp_walk using wpAny_loadPart' hl)
      | (refine wpAny_ite_false (by simp) ?_; wp_walk using wpAny_loadPart' hl))
    exact ⟨_, rfl, h⟩
theorem mul_none (l : Addr) (its : Array Value) (n : Nat) (dd : Option Addr) (sl : Array (Option Value)) (u : Tok) (hi : its.isEmpty = false) :
    Meets (Builtin.«tuple.__mul__» ⟨[.ref l, .int 0 u], []⟩) (fun _ R s => s.heap.get? l = some { cls := .type "tuple", dict := dd, data := .seq its n, slots := sl } ∧
      R (.ok (.ret (Value.ref s.heap.objs.size))) { s with heap := s.heap.push { cls := Value.type "tuple", data := Data.seq #[] }, toks := s.toks }) :=
  .of_wp fun prog w A R s h => by
    obtain ⟨hp, g, d, tk, os⟩ := s
    obtain ⟨hl, h⟩ := h
    have f1 := AutoSeq1.idx_int
    wp_walk using wpAny_loadPart' hl
    repeat (first
      | (refine wpAny_ite_true (by simp [hi]) ?_; wp_walk using wpAny_loadPart' hl)
      | (refine wpAny_ite_false (by simp [hi]) ?_; wp_walk using wpAny_loadPart' hl))
    exact ⟨_, rfl, h⟩
def rRepA (K : PySem.W.Frag) : R2 := fun x y H Q => ∃ (l : Addr) (k : Nat) (xs : List V), x = .ref l ∧ y = .int (k : Nat) ∧ SqT K H l xs ∧ xs ≠ [] ∧ k ≤ 1000 ∧ xs.length ≤ 1000 ∧ (k = 1 → Q (.ref l) H) ∧ (k ≠ 1 → ∀ p, H p = none → Q (.ref p) (upd H p (.tup (List.replicate k xs).flatten)))
variable {X : Cx}
theorem op_repA : OpR X (binaryOp .Mult) (rRepA X.K) := by
  intro pins s σ H x y v u Q I rx ry h
  obtain ⟨l, k, xs, rfl, rfl, hT, hne, hk, hz, q1, q2⟩ := h
  by_cases hk2 : 2 ≤ k
  · exact op_repT pins s σ H _ _ v u Q I rx ry ⟨l, (k : Nat), xs, rfl, rfl, hT, hne, by omega, by omega, hz, fun p hp => by rw [Int.toNat_natCast]; exact q2 (by omega) p hp⟩
  cases rx
  obtain ⟨t, rfl⟩ := ry
  obtain ⟨its, r, ⟨⟨cls, dd, data, sl⟩, ho, hc, n, hd⟩, hs⟩ := I.tuple hT
  simp only at hc hd
  subst hc hd
  have hle : its.length = xs.length := r.length.symm
  have hi : its.toArray.isEmpty = false := by
    cases its with
    | nil => exact absurd (List.eq_nil_of_length_eq_zero hle.symm) hne
    | cons a b => rfl
  rcases (show k = 0 ∨ k = 1 by omega) with rfl | rfl
  · refine wpAny_binaryOp_repeat_ref (T := "tuple") (U := "int") (by decide) ⟨_, ho, rfl⟩ (fun s' => typeIs_int s' _ t) noFill_tuple_mul PySem.F.fills_int_mul PySem.F.slot_int_rmul repeat_tuple PySem.F.slot_int_index.lookup
      (call_meets PySem.F.slot_int_rmul (typeIs_int s _ t) PySem.F.entry_int_rmul (PySem.F.args_int_rmul_2 _ _) (int_rmul_tuple _ t l its.toArray n dd sl)
        ⟨ho, rfl, ⟨_, ho, rfl⟩, call_meets PySem.F.slot_tuple_mul ⟨_, ho, rfl⟩ PySem.F.entry_tuple_mul (PySem.F.args_tuple_mul_2 _ _) (mul_none l its.toArray n dd sl t hi) ⟨ho, ?_⟩⟩)
    refine ⟨.ref s.heap.objs.size, _, I.laid (t' := s.toks) (o := .tup []) (fun b ob q => Heap.get?_push_of_some _ q) (Nat.le_refl _) ?_, rfl, q2 (by decide) _ (I.hok.fresh (Nat.le_refl _))⟩
    exact ⟨Nat.zero_le _, [], .nil, IsTup.new _ _⟩
  · refine wpAny_binaryOp_repeat_ref (T := "tuple") (U := "int") (by decide) ⟨_, ho, rfl⟩ (fun s' => typeIs_int s' _ t) noFill_tuple_mul PySem.F.fills_int_mul PySem.F.slot_int_rmul repeat_tuple PySem.F.slot_int_index.lookup
      (call_meets PySem.F.slot_int_rmul (typeIs_int s _ t) PySem.F.entry_int_rmul (PySem.F.args_int_rmul_2 _ _) (int_rmul_tuple _ t l its.toArray n dd sl)
        ⟨ho, rfl, ⟨_, ho, rfl⟩, call_meets PySem.F.slot_tuple_mul ⟨_, ho, rfl⟩ PySem.F.entry_tuple_mul (PySem.F.args_tuple_mul_2 _ _) (mul_one l its.toArray n dd sl t) ⟨ho, ?_⟩⟩)
    exact ⟨.ref l, H, I, rfl, q1 rfl⟩
end
/-! the same, the result by its items alone -/
section
variable {X : Cx}
def rCatB (K : PySem.W.Frag) : R2 := fun x y H Q => ∃ a b xs ys, x = .ref a ∧ y = .ref b ∧ SqT K H a xs ∧ SqT K H b ys ∧ xs.length + ys.length ≤ sizeLine ∧ ∀ (q : Addr) (H' : Hp), Same H H' → SqT K H' q (xs ++ ys) → Q (.ref q) H'
theorem op_catB : OpR X (binaryOp .Add) (rCatB X.K) := by
  intro pins s σ H x y v u Q I rx ry h
  obtain ⟨a, b, xs, ys, e1, e2, ha, hb, hz, q⟩ := h
  refine op_catA pins s σ H x y v u Q I rx ry ⟨a, b, xs, ys, e1, e2, ha, hb, hz, fun e => q b H (Same.refl H) ?_, fun _ e => q a H (Same.refl H) ?_, fun _ _ p hp => q p _ (sm_new hp) (SqT.of upd_same)⟩
  · rw [e]; exact hb
  · rw [e, List.append_nil]; exact ha
def rRepB (K : PySem.W.Frag) : R2 := fun x y H Q => ∃ (l : Addr) (k : Nat) (xs : List V), x = .ref l ∧ y = .int (k : Nat) ∧ SqT K H l xs ∧ xs ≠ [] ∧ k ≤ 1000 ∧ xs.length ≤ 1000 ∧ ∀ (q : Addr) (H' : Hp), Same H H' → SqT K H' q (List.replicate k xs).flatten → Q (.ref q) H'
theorem op_repB : OpR X (binaryOp .Mult) (rRepB X.K) := by
  intro pins s σ H x y v u Q I rx ry h
  obtain ⟨l, k, xs, e1, e2, ha, hn, hk, hz, q⟩ := h
  refine op_repA pins s σ H x y v u Q I rx ry ⟨l, k, xs, e1, e2, ha, hn, hk, hz, fun e => q l H (Same.refl H) ?_, fun _ p hp => q p _ (sm_new hp) (SqT.of upd_same)⟩
  rw [e]
  show SqT X.K H l (xs ++ [])
  rw [List.append_nil]; exact ha
def rSlB (K : PySem.W.Frag) : V → Option Int → Option Int → Hp → VK → Prop := fun x lo hi H Q => ∃ a xs, x = .ref a ∧ SqT K H a xs ∧ ∀ (q : Addr) (H' : Hp), Same H H' → SqT K H' q (cutV xs lo hi) → Q (.ref q) H'
theorem sl_tupB : SlR X (rSlB X.K) := by
  intro pins s σ H x v vl vu lo hi sl Q I rx hs pl pu h
  obtain ⟨a, xs, e1, ha, q⟩ := h
  refine sl_tupA pins s σ H x v vl vu lo hi sl Q I rx hs pl pu ⟨a, xs, e1, ha, fun e => q a H (Same.refl H) ?_, fun _ p hp => q p _ (sm_new hp) (SqT.of upd_same)⟩
  unfold cutV
  rw [e.1, e.2, List.drop_zero, Nat.sub_zero, List.take_length]; exact ha
def rTupB (K : PySem.W.Frag) : List V → Hp → VK → Prop := fun xs H Q => ∃ p ys, xs = [.ref p] ∧ (SqL K H p ys ∨ SqT K H p ys) ∧ ∀ (q : Addr) (H' : Hp), Same H H' → SqT K H' q ys → Q (.ref q) H'
theorem call_tupB : CallR X (.type "tuple") (rTupB X.K) := by
  intro pins s σ H xs us Q I r h
  obtain ⟨p, ys, e1, ha, q⟩ := h
  refine call_tuple_of pins s σ H xs us Q I r ⟨p, ys, e1, ?_⟩
  rcases ha with ha | ha
  · exact .inl ⟨ha, fun l hl => q l _ (sm_new hl) (SqT.of upd_same)⟩
  · exact .inr ⟨ha, q p H (Same.refl H) ha⟩
end

end Pp

set_option Elab.async false
set_option linter.all false
set_option autoImplicit false
set_option maxRecDepth 100000
set_option maxHeartbeats 4000000
namespace Pp
open PySem PySem.Spec L2
variable {P : Program} {w : World} {K : PySem.W.Frag} {mg : Str → Option Value} {base : Heap}
/-! ### distances, plainly -/
theorem ne1_comm (t u : Str) : ne1 t u = ne1 u t := by
  unfold ne1
  by_cases h : t = u
  · rw [if_pos h, if_pos h.symm]
  · rw [if_neg h, if_neg (fun z => h z.symm)]
theorem ne1_le (t u : Str) : ne1 t u ≤ 1 := by unfold ne1; split <;> omega
theorem ne1_self (t : Str) : ne1 t t = 0 := if_pos rfl
theorem dF_comm : ∀ (f g : F), dF f g = dF g f
  | .nil, .nil => rfl
  | .nil, .snoc b u e => by rw [dF_ns, dF_sn, dF_comm .nil b]
  | .snoc a t c, .nil => by rw [dF_ns, dF_sn, dF_comm a .nil]
  | .snoc a t c, .snoc b u e => by
    rw [dF_ss, dF_ss, dF_comm a (.snoc b u e), dF_comm (.snoc a t c) b, dF_comm a b, dF_comm c e, ne1_comm t u]
    omega
termination_by f g => sizeOf f + sizeOf g
theorem dF_size : ∀ (f g : F), g.size ≤ dF f g + f.size
  | .nil, .nil => Nat.zero_le _
  | .nil, .snoc b u e => by
    have := dF_size .nil b
    rw [dF_ns]
    show b.size + (1 + e.size) ≤ _
    omega
  | .snoc a t c, .nil => Nat.zero_le _
  | .snoc a t c, .snoc b u e => by
    have h1 := dF_size a (.snoc b u e)
    have h2 := dF_size (.snoc a t c) b
    have h3 := dF_size a b
    have h4 := dF_size c e
    have e1 : (F.snoc a t c).size = a.size + (1 + c.size) := rfl
    have e2 : (F.snoc b u e).size = b.size + (1 + e.size) := rfl
    rw [dF_ss]
    omega
termination_by f g => sizeOf f + sizeOf g
theorem dF_up (f g : F) (t : Str) (c : F) : dF (.snoc f t c) g ≤ dF f g + (1 + c.size) := by
  cases g with
  | nil => rw [dF_sn]; exact Nat.le_refl _
  | snoc b u e => rw [dF_ss]; omega
theorem dF_up' (f g : F) (t : Str) (c : F) : dF f (.snoc g t c) ≤ dF f g + (1 + c.size) := by
  rw [dF_comm f (.snoc g t c), dF_comm f g]; exact dF_up g f t c
theorem dF_down (f : F) (t : Str) (c : F) : ∀ g : F, dF f g ≤ dF (.snoc f t c) g + (1 + c.size)
  | .nil => by rw [dF_sn]; omega
  | .snoc b u e => by
    have h1 := dF_down f t c b
    have h2 := dF_up' f b u e
    have h3 := dF_size c e
    rw [dF_ss]
    omega
theorem dF_down' (f : F) (t : Str) (c : F) (g : F) : dF g f ≤ dF g (.snoc f t c) + (1 + c.size) := by
  rw [dF_comm g f, dF_comm g (.snoc f t c)]; exact dF_down f t c g
theorem dF_self : ∀ f : F, dF f f = 0
  | .nil => dF_nn
  | .snoc a t c => by
    rw [dF_ss, dF_self a, dF_self c, ne1_self]; omega
theorem dF_zero : ∀ (f g : F), dF f g = 0 → f = g
  | .nil, .nil, _ => rfl
  | .nil, .snoc b u e, h => by rw [dF_ns] at h; omega
  | .snoc a t c, .nil, h => by rw [dF_sn] at h; omega
  | .snoc a t c, .snoc b u e, h => by
    rw [dF_ss] at h
    have h1 := dF_zero a b (by omega)
    have h2 := dF_zero c e (by omega)
    have h3 : ne1 t u = 0 := by omega
    unfold ne1 at h3
    by_cases htu : t = u
    · rw [h1, h2, htu]
    · rw [if_neg htu] at h3; cases h3
termination_by f g => sizeOf f + sizeOf g
theorem dF_both (f g : F) (t : Str) (c : F) : dF (.snoc f t c) (.snoc g t c) = dF f g := by
  have h1 := dF_down' g t c f
  have h2 := dF_down f t c g
  rw [dF_ss, dF_self, ne1_self]; omega
/-! ### scripts handed in -/
theorem zip_two : ∀ l : List Nd, (l.map (·.1)).zip (l.map (·.2)) = l
  | [] => rfl
  | n :: l => congrArg (List.cons n) (zip_two l)
theorem steps_len : ∀ (e : E) (f g : F), e.along f = some g → e.steps.length ≤ f.size + g.size := by
  intro e
  induction e with
  | nil => intro f g h; exact Nat.zero_le _
  | out r ih =>
    intro f g h
    cases f with
    | nil => cases h
    | snoc a t c =>
      have := ih a g h
      show (r.steps ++ [_]).length ≤ (a.size + (1 + c.size)) + g.size
      rw [List.length_append, List.length_singleton]; omega
  | ins r t c ih =>
    intro f g h
    have h' : (r.along f).map (fun g => F.snoc g t c) = some g := by cases f <;> exact h
    cases hr : r.along f with
    | none => rw [hr] at h'; cases h'
    | some g' =>
      rw [hr] at h'
      cases (Option.some.inj h')
      have := ih f g' hr
      show (r.steps ++ [_]).length ≤ f.size + (g'.size + (1 + c.size))
      rw [List.length_append, List.length_singleton]; omega
  | keep r o w ih1 ih2 =>
    intro f g h
    cases f with
    | nil => cases h
    | snoc a t c =>
      have h' : (if o = some t then none else match r.along a, w.along c with
        | some g, some e => some (F.snoc g (o.getD t) e)
        | _, _ => none) = some g := h
      by_cases ho : o = some t
      · rw [if_pos ho] at h'; cases h'
      rw [if_neg ho] at h'
      cases hr : r.along a with
      | none => rw [hr] at h'; cases h'
      | some g' =>
        cases hw : w.along c with
        | none => rw [hr, hw] at h'; cases h'
        | some e' =>
          rw [hr, hw] at h'
          cases (Option.some.inj h')
          have h1 := ih1 a g' hr
          have h2 := ih2 c e' hw
          show (r.steps ++ (_ :: (w.steps ++ [_]))).length ≤ (a.size + (1 + c.size)) + (g'.size + (1 + e'.size))
          rw [List.length_append, List.length_cons, List.length_append, List.length_singleton]; omega
theorem steps_in : ∀ (e : E) (f g : F), e.along f = some g → e.good = true → g.size < 100001 → ∀ s ∈ e.steps, StIn s := by
  intro e
  induction e with
  | nil => intro f g _ _ _ s hs; cases hs
  | out r ih =>
    intro f g h hg hz s hs
    cases f with
    | nil => cases h
    | snoc a t c =>
      have hs' : s ∈ r.steps ++ [Step.out] := hs
      rcases List.mem_append.mp hs' with q | q
      · exact ih a g h hg hz s q
      · rw [List.mem_singleton.mp q]; exact True.intro
  | ins r t c ih =>
    intro f g h hg hz s hs
    have h' : (r.along f).map (fun g => F.snoc g t c) = some g := by cases f <;> exact h
    have hg' : (r.good && (isName t && c.good)) = true := hg
    simp only [Bool.and_eq_true] at hg'
    cases hr : r.along f with
    | none => rw [hr] at h'; cases h'
    | some g' =>
      rw [hr] at h'
      cases (Option.some.inj h')
      have hz' : g'.size + (1 + c.size) < 100001 := hz
      have hs' : s ∈ r.steps ++ [Step.ins (sub1 t c)] := hs
      rcases List.mem_append.mp hs' with q | q
      · exact ih f g' hr hg'.1 (by omega) s q
      · rw [List.mem_singleton.mp q]
        refine ⟨?_, ?_⟩
        · show (true && (isName t && c.good)) = true
          rw [hg'.2.1, hg'.2.2]; rfl
        · show 0 + (1 + c.size) < 100001
          omega
  | keep r o w ih1 ih2 =>
    intro f g h hg hz s hs
    cases f with
    | nil => cases h
    | snoc a t c =>
      have h' : (if o = some t then none else match r.along a, w.along c with
        | some g, some e => some (F.snoc g (o.getD t) e)
        | _, _ => none) = some g := h
      have hg' : (r.good && (okO o && w.good)) = true := hg
      simp only [Bool.and_eq_true] at hg'
      by_cases ho : o = some t
      · rw [if_pos ho] at h'; cases h'
      rw [if_neg ho] at h'
      cases hr : r.along a with
      | none => rw [hr] at h'; cases h'
      | some g' =>
        cases hw : w.along c with
        | none => rw [hr, hw] at h'; cases h'
        | some e' =>
          rw [hr, hw] at h'
          cases (Option.some.inj h')
          have hz' : g'.size + (1 + e'.size) < 100001 := hz
          have hs' : s ∈ r.steps ++ (Step.turn o :: (w.steps ++ [Step.up])) := hs
          rcases List.mem_append.mp hs' with q | q
          · exact ih1 a g' hr hg'.1 (by omega) s q
          · rcases List.mem_cons.mp q with rfl | q
            · cases o with
              | none => exact True.intro
              | some x => exact ⟨isName_ok hg'.2.1, name_size hg'.2.1⟩
            · rcases List.mem_append.mp q with q | q
              · exact ih2 c e' hw hg'.2.2 (by omega) s q
              · rw [List.mem_singleton.mp q]; exact True.intro
/-- how a script ends -/
def endE (e : E) (f g : F) : GoSt := ⟨e.cost f, (e.back f).steps, g.flat.map (·.1), g.flat.map (·.2), [(none, [])]⟩
theorem way_in {e : E} {f g : F} (ha : e.along f = some g) (he : e.good = true) (hf : f.good = true) (h1 : f.size < 100001) (h2 : g.size < 100001) : WayIn f e.steps (endE e f g) := by
  have hr := run_E f e f g 0 (sits_self f) ha (st0 f) none [] [] (by show [(none, f.roots 0)] = [(none, f.roots 0 ++ [])]; rw [List.append_nil]) (fun n h => by cases h) rfl
  have hr' : runS f (st0 f) e.steps = some (endE e f g) := by
    rw [hr]
    show some (⟨0 + e.cost f, [] ++ (e.back f).steps, [] ++ g.flat.map (·.1), [] ++ g.flat.map (·.2), [(none, [])]⟩ : GoSt) = _
    rw [Nat.zero_add]; rfl
  have hl := steps_len e f g ha
  have hw := (runS_len _ _ _ hr').1
  have hw2 : (endE e f g).tags.length = g.size := by
    show (g.flat.map (·.1)).length = _
    rw [List.length_map, flat_len]
  have hw3 : (st0 f).tags.length = 0 := rfl
  exact ⟨hf, h1, steps_in e f g ha he h2, way_E he, by omega, by omega, hr', none, rfl⟩
theorem end_zip (e : E) (f g : F) : (endE e f g).tags.zip (endE e f g).counts = g.flat := zip_two g.flat
theorem neI {a b : Int} (h : a = b) : (!decide (V.int a = V.int b)) = false := by rw [h, decide_eq_true rfl]; rfl
theorem eqI (a b : Nat) : decide (V.int (a : Nat) = V.int (b : Nat)) = decide (a = b) := by
  by_cases h : a = b
  · rw [decide_eq_true h, h]; exact decide_eq_true rfl
  · rw [decide_eq_false h]; exact decide_eq_false fun z => h (by have := V.int.inj z; omega)
theorem sx_same {H H1 H2 : Hp} {b : Addr} (nb : H b = none) (s : Same H H1) (k : ∀ c o, c ≠ b → H1 c = some o → H2 c = some o) : Same H H2 := fun c o e => k c o (fun z => by rw [z, nb] at e; cases e) (s c o e)
theorem BagAt.same {H H' : Hp} {b : Addr} {cl : Addr} {n : Nat} (B : BagAt K H b cl n) (s : Same H H') : BagAt K H' b cl n := by
  obtain ⟨x, y, z, cs, e1, e2, r⟩ := B
  exact ⟨x, y, z, cs, s _ _ e1, s _ _ e2, r⟩
theorem BagAt.ne {H : Hp} {b p : Addr} {cl : Addr} {n : Nat} (B : BagAt K H b cl n) (h : H p = none) : p ≠ b := by
  obtain ⟨x, y, z, cs, e1, _⟩ := B
  exact Ne.symm (ne_of_none e1 h)
theorem BagAt.put {H : Hp} {b cl p : Addr} {n : Nat} {o : HO} (B : BagAt K H b cl n) (h1 : p ≠ b) (h2 : p ≠ cl) : BagAt K (upd H p o) b cl n := by
  obtain ⟨x, y, z, cs, e1, e2, r⟩ := B
  exact ⟨x, y, z, cs, (upd_ne (Ne.symm h1)).trans e1, (upd_ne (Ne.symm h2)).trans e2, r⟩
theorem BagAt.nc {H : Hp} {b cl p : Addr} {n : Nat} (B : BagAt K H b cl n) (h : H p = none) : p ≠ cl := by
  obtain ⟨x, y, z, cs, e1, e2, _⟩ := B
  exact Ne.symm (ne_of_none e2 h)
theorem sh_strs {w : List Str} (h : ∀ t ∈ w, isName t = true) : Sh 1 (.list (w.map PyData.str)) := sh_lst fun d hd => by
  obtain ⟨t, ht, rfl⟩ := List.mem_map.mp hd
  exact sh_str (isName_ok (h t ht))
theorem eqv_strs (xs ys : List Str) : PyData.eqv (.list (xs.map PyData.str)) (.list (ys.map PyData.str)) = decide (xs = ys) := by
  rw [eqv_lists]
  have h := eqvAll_map PyData.str (fun a b => by simp [PyData.eqv]) xs ys
  by_cases e : xs = ys
  · rw [decide_eq_true e]; exact h.mpr e
  · rw [decide_eq_false e]
    cases hv : PyData.eqvAll (xs.map PyData.str) (ys.map PyData.str) with
    | false => rfl
    | true => exact absurd (h.mp hv) e
theorem sh_way {w : List Step} (h : ∀ s ∈ w, StIn s) : Sh 4 (wayD w) := sh_tup fun d hd => by
  obtain ⟨s, hs, rfl⟩ := List.mem_map.mp hd
  exact sh_st (h s hs)
theorem sh_flat {f : F} (g : f.good = true) : Sh 2 (rowD f.flat) := sh_row fun n hn => isName_ok (good_names g n hn)
theorem end_names {e : E} {f g : F} (h : g.good = true) : ∀ n ∈ (endE e f g).tags.zip (endE e f g).counts, PyData.strOk n.1 = true := fun n hn => by
  rw [end_zip] at hn; exact isName_ok (good_names h n hn)

theorem neB {a b : Bool} (h : a = b) : (!decide (V.bl a = V.bl b)) = false := by rw [h, decide_eq_true rfl]; rfl
theorem decide_comm (a b : Nat) : decide (a = b) = decide (b = a) := by
  by_cases h : a = b
  · rw [decide_eq_true h, decide_eq_true h.symm]
  · rw [decide_eq_false h, decide_eq_false (fun z => h z.symm)]

end Pp

set_option Elab.async false
set_option linter.all false
set_option autoImplicit false
set_option maxRecDepth 100000
set_option maxHeartbeats 4000000
namespace Pp
open PySem PySem.Spec L2
variable {P : Program} {w : World} {K : PySem.W.Frag} {mg : Str → Option Value} {base : Heap}
/-! ### words, plainly -/
theorem lv_inj {xs ys : List Str} (h : lv xs = lv ys) : xs = ys := by
  have h1 := congrArg F.flat h
  rw [lv_flat, lv_flat] at h1
  have h2 := congrArg (fun l : List Nd => l.map (·.1)) h1
  have e : ∀ w : List Str, (w.map fun t => ((t, 0) : Nd)).map (·.1) = w := fun w => by rw [List.map_map]; exact List.map_id'' (fun _ => rfl) w
  have h3 : (xs.map fun t => ((t, 0) : Nd)).map (·.1) = (ys.map fun t => ((t, 0) : Nd)).map (·.1) := h2
  rw [e, e] at h3
  exact h3
theorem gW_all (xs ys : List Str) : gW xs ys xs.length ys.length = dF (lv xs) (lv ys) := by
  unfold gW; rw [List.take_length, List.take_length]
/-- words of one letter -/
theorem gW_one {t : Str} {xs ys : List Str} (hx : ∀ x ∈ xs, x = t) (hy : ∀ y ∈ ys, y = t) : ∀ n i j, i + j ≤ n → i ≤ xs.length → j ≤ ys.length → gW xs ys i j ≤ (i - j) + (j - i) := by
  intro n
  induction n with
  | zero =>
    intro i j h hi hj
    have hi : i = 0 := by omega
    subst hi
    rw [gW_0 _ _ _ hj]; omega
  | succ n ih =>
    intro i j h hi hj
    cases i with
    | zero => rw [gW_0 _ _ _ hj]; omega
    | succ i =>
      cases j with
      | zero => rw [gW_i0 _ _ _ hi]; omega
      | succ j =>
        obtain ⟨u, hu⟩ : ∃ u, xs[i]? = some u := ⟨_, List.getElem?_eq_getElem hi⟩
        obtain ⟨v, hv⟩ : ∃ v, ys[j]? = some v := ⟨_, List.getElem?_eq_getElem hj⟩
        have h1 := ih i j (by omega) (by omega) (by omega)
        rw [gW_ss hu hv, hx u (List.mem_of_getElem? hu), hy v (List.mem_of_getElem? hv), ne1_self]
        omega
theorem one_tag {t : Str} {xs ys : List Str} (hx : ∀ x ∈ xs, x = t) (hy : ∀ y ∈ ys, y = t) : dF (lv xs) (lv ys) = (xs.length - ys.length) + (ys.length - xs.length) := by
  have h1 := gW_one hx hy _ xs.length ys.length (Nat.le_refl _) (Nat.le_refl _) (Nat.le_refl _)
  rw [gW_all] at h1
  have h2 := dF_size (lv xs) (lv ys)
  have h3 := dF_size (lv ys) (lv xs)
  rw [dF_comm (lv ys)] at h3
  rw [lv_size, lv_size] at h2 h3
  omega
/-- words without a letter in common -/
theorem gW_far {xs ys : List Str} (h : ∀ x ∈ xs, ∀ y ∈ ys, x ≠ y) : ∀ n i j, i + j ≤ n → i ≤ xs.length → j ≤ ys.length → gW xs ys i j = max i j := by
  intro n
  induction n with
  | zero =>
    intro i j hn hi hj
    have hi : i = 0 := by omega
    subst hi
    rw [gW_0 _ _ _ hj]; omega
  | succ n ih =>
    intro i j hn hi hj
    cases i with
    | zero => rw [gW_0 _ _ _ hj]; omega
    | succ i =>
      cases j with
      | zero => rw [gW_i0 _ _ _ hi]; omega
      | succ j =>
        obtain ⟨u, hu⟩ : ∃ u, xs[i]? = some u := ⟨_, List.getElem?_eq_getElem hi⟩
        obtain ⟨v, hv⟩ : ∃ v, ys[j]? = some v := ⟨_, List.getElem?_eq_getElem hj⟩
        have hne : ne1 u v = 1 := if_neg (h u (List.mem_of_getElem? hu) v (List.mem_of_getElem? hv))
        have h1 := ih i j (by omega) (by omega) (by omega)
        have h2 := ih (i + 1) j (by omega) (by omega) (by omega)
        have h3 := ih i (j + 1) (by omega) (by omega) (by omega)
        rw [gW_ss hu hv, h1, h2, h3, hne]
        omega
theorem far_words {xs ys : List Str} (h : ∀ x ∈ xs, ∀ y ∈ ys, x ≠ y) : dF (lv xs) (lv ys) = max xs.length ys.length := by
  rw [← gW_all]; exact gW_far h _ _ _ (Nat.le_refl _) (Nat.le_refl _) (Nat.le_refl _)
/-- a letter more ahead of both -/
theorem gW_front (t : Str) (xs ys : List Str) : ∀ n i j, i + j ≤ n → i ≤ xs.length → j ≤ ys.length → gW (t :: xs) (t :: ys) (i + 1) (j + 1) = gW xs ys i j := by
  intro n
  have g0 : ∀ i, i ≤ xs.length → gW (t :: xs) (t :: ys) (i + 1) 0 = i + 1 := fun i hi => gW_i0 _ _ _ (by rw [List.length_cons]; omega)
  have g1 : ∀ j, j ≤ ys.length → gW (t :: xs) (t :: ys) 0 (j + 1) = j + 1 := fun j hj => gW_0 _ _ _ (by rw [List.length_cons]; omega)
  have g00 : gW (t :: xs) (t :: ys) 0 0 = 0 := gW_0 _ _ _ (Nat.zero_le _)
  have k00 : gW (t :: xs) (t :: ys) 1 1 = 0 := by
    rw [gW_ss (t := t) (u := t) rfl rfl, g00, ne1_self]; omega
  induction n with
  | zero =>
    intro i j hn hi hj
    have hi : i = 0 := by omega
    have hj : j = 0 := by omega
    subst hi hj
    rw [k00, gW_0 _ _ _ (Nat.zero_le _)]
  | succ n ih =>
    intro i j hn hi hj
    cases i with
    | zero =>
      cases j with
      | zero => rw [k00, gW_0 _ _ _ (Nat.zero_le _)]
      | succ j =>
        obtain ⟨v, hv⟩ : ∃ v, ys[j]? = some v := ⟨_, List.getElem?_eq_getElem hj⟩
        have h1 := ih 0 j (by omega) hi (by omega)
        rw [gW_ss (t := t) (u := v) rfl (show (t :: ys)[j + 1]? = some v from hv), g1 (j + 1) hj, g1 j (by omega), h1, gW_0 _ _ _ (by omega), gW_0 _ _ _ hj]
        have := ne1_le t v
        omega
    | succ i =>
      obtain ⟨u, hu⟩ : ∃ u, xs[i]? = some u := ⟨_, List.getElem?_eq_getElem hi⟩
      cases j with
      | zero =>
        have h1 := ih i 0 (by omega) (by omega) hj
        rw [gW_ss (t := u) (u := t) (show (t :: xs)[i + 1]? = some u from hu) rfl, g0 (i + 1) hi, g0 i (by omega), h1, gW_i0 _ _ _ (by omega), gW_i0 _ _ _ hi]
        have := ne1_le u t
        omega
      | succ j =>
        obtain ⟨v, hv⟩ : ∃ v, ys[j]? = some v := ⟨_, List.getElem?_eq_getElem hj⟩
        have h1 := ih i j (by omega) (by omega) (by omega)
        have h2 := ih (i + 1) j (by omega) (by omega) (by omega)
        have h3 := ih i (j + 1) (by omega) (by omega) (by omega)
        rw [gW_ss (t := u) (u := v) (show (t :: xs)[i + 1]? = some u from hu) (show (t :: ys)[j + 1]? = some v from hv), h1, h2, h3, gW_ss hu hv]
theorem front (t : Str) (xs ys : List Str) : dF (lv (t :: xs)) (lv (t :: ys)) = dF (lv xs) (lv ys) := by
  rw [← gW_all, ← gW_all]
  exact gW_front t xs ys _ xs.length ys.length (Nat.le_refl _) (Nat.le_refl _) (Nat.le_refl _)

end Pp

set_option Elab.async false
set_option linter.all false
set_option autoImplicit false
set_option maxRecDepth 100000
set_option maxHeartbeats 4000000
namespace Pp
open PySem PySem.Spec L2
variable {P : Program} {w : World} {K : PySem.W.Frag} {mg : Str → Option Value} {base : Heap}
/-! ### ways by hand -/
def outE : Nat → E → E
  | 0, r => r
  | n + 1, r => .out (outE n r)
def insE : List Str → E → E
  | [], r => r
  | t :: w, r => insE w (.ins r t .nil)
def insT (t : Str) : Step := .ins (sub1 t .nil)
theorem lvs_app : ∀ (w v : List Str) (a : F), lvs (w ++ v) a = lvs v (lvs w a)
  | [], _, _ => rfl
  | t :: w, v, a => lvs_app w v (.snoc a t .nil)
theorem outE_steps : ∀ (n : Nat) (r : E), (outE n r).steps = r.steps ++ List.replicate n .out
  | 0, r => (List.append_nil _).symm
  | n + 1, r => by
    show (outE n r).steps ++ [Step.out] = _
    rw [outE_steps n r, List.append_assoc]
    congr 1
    rw [← List.replicate_succ']
theorem insE_steps : ∀ (w : List Str) (r : E), (insE w r).steps = r.steps ++ w.map insT
  | [], r => (List.append_nil _).symm
  | t :: w, r => by
    show (insE w (.ins r t .nil)).steps = _
    rw [insE_steps w]
    show (r.steps ++ [insT t]) ++ w.map insT = _
    rw [List.append_assoc]; rfl
theorem ins_along (r : E) (t : Str) (c f : F) : (E.ins r t c).along f = (r.along f).map fun g => F.snoc g t c := by cases f <;> rfl
theorem ins_cost (r : E) (t : Str) (c f : F) : (E.ins r t c).cost f = r.cost f + (1 + c.size) := by cases f <;> rfl
theorem insE_along : ∀ (w : List Str) (r : E) (f g : F), r.along f = some g → (insE w r).along f = some (lvs w g) ∧ (insE w r).cost f = r.cost f + w.length
  | [], r, f, g, h => ⟨h, rfl⟩
  | t :: w, r, f, g, h => by
    obtain ⟨h1, h2⟩ := insE_along w (.ins r t .nil) f (.snoc g t .nil) (by rw [ins_along, h]; rfl)
    refine ⟨h1, ?_⟩
    show (insE w (.ins r t .nil)).cost f = _
    rw [h2, ins_cost, List.length_cons]
    show r.cost f + (1 + 0) + w.length = _
    omega
theorem insE_good : ∀ (w : List Str) (r : E), r.good = true → (∀ t ∈ w, isName t = true) → (insE w r).good = true
  | [], r, h, _ => h
  | t :: w, r, h, hn => insE_good w (.ins r t .nil) (by
      show (r.good && (isName t && true)) = true
      rw [h, hn t List.mem_cons_self]; rfl) fun x hx => hn x (List.mem_cons_of_mem _ hx)
theorem outE_good : ∀ (n : Nat) (r : E), r.good = true → (outE n r).good = true
  | 0, _, h => h
  | n + 1, r, h => outE_good n r h
theorem outE_along (r : E) (a g : F) (h : r.along a = some g) : ∀ w : List Str, (outE w.length r).along (lvs w a) = some g ∧ (outE w.length r).cost (lvs w a) = r.cost a + w.length := fun w => by
  refine snoc_ind (p := fun w => (outE w.length r).along (lvs w a) = some g ∧ (outE w.length r).cost (lvs w a) = r.cost a + w.length) ⟨h, rfl⟩ (fun w t ih => ?_) w
  rw [List.length_append, List.length_singleton, lvs_snoc]
  refine ⟨ih.1, ?_⟩
  show (outE w.length r).cost (lvs w a) + (1 + 0) = _
  rw [ih.2]; omega
def turnT (p : Str × Str) : Option Str := if p.1 = p.2 then none else some p.2
def keepE (zs : List (Str × Str)) : E := zs.foldl (fun r p => .keep r (turnT p) .nil) .nil
def keptT (p : Str × Str) : List Step := [.turn (turnT p), .up]
def cN (zs : List (Str × Str)) : Nat := (zs.map fun p => ne1 p.1 p.2).sum
theorem keepE_snoc (zs : List (Str × Str)) (p : Str × Str) : keepE (zs ++ [p]) = .keep (keepE zs) (turnT p) .nil := by unfold keepE; rw [List.foldl_append]; rfl
theorem keepE_steps (zs : List (Str × Str)) : (keepE zs).steps = zs.flatMap keptT := by
  refine snoc_ind (p := fun zs => (keepE zs).steps = zs.flatMap keptT) rfl (fun w t ih => ?_) zs
  rw [keepE_snoc, List.flatMap_append, ← ih]; rfl
theorem keepE_good (zs : List (Str × Str)) (h : ∀ p ∈ zs, isName p.2 = true) : (keepE zs).good = true := by
  refine snoc_ind (p := fun zs => (∀ p ∈ zs, isName p.2 = true) → (keepE zs).good = true) (fun _ => rfl) (fun w t ih h => ?_) zs h
  rw [keepE_snoc]
  show ((keepE w).good && (okO (turnT t) && true)) = true
  rw [ih fun x hx => h x (List.mem_append_left _ hx)]
  have := h t (List.mem_append_right _ (List.mem_singleton.mpr rfl))
  unfold turnT
  split
  · rfl
  · show (true && (isName t.2 && true)) = true
    rw [this]; rfl
theorem keepE_along (zs : List (Str × Str)) : (keepE zs).along (lv (zs.map (·.1))) = some (lv (zs.map (·.2))) ∧ (keepE zs).cost (lv (zs.map (·.1))) = cN zs := by
  refine snoc_ind (p := fun zs : List (Str × Str) => (keepE zs).along (lv (zs.map (·.1))) = some (lv (zs.map (·.2))) ∧ (keepE zs).cost (lv (zs.map (·.1))) = cN zs) ⟨rfl, rfl⟩ (fun w p ih => ?_) zs
  rw [keepE_snoc, List.map_append, List.map_append]
  show E.along _ (lv (w.map (·.1) ++ [p.1])) = some (lv (w.map (·.2) ++ [p.2])) ∧ E.cost _ (lv (w.map (·.1) ++ [p.1])) = _
  rw [lv_snoc, lv_snoc]
  have hcN : cN (w ++ [p]) = cN w + ne1 p.1 p.2 := by
    unfold cN; rw [List.map_append, List.sum_append]; rfl
  refine ⟨?_, ?_⟩
  · show (if turnT p = some p.1 then none else match (keepE w).along (lv (w.map (·.1))), E.along .nil .nil with
      | some g, some e => some (F.snoc g ((turnT p).getD p.1) e)
      | _, _ => none) = _
    rw [ih.1]
    unfold turnT
    by_cases h : p.1 = p.2
    · rw [if_pos h, if_neg (by intro z; cases z)]
      show some (F.snoc _ p.1 .nil) = _
      rw [h]
    · rw [if_neg h, if_neg (fun z => h (Option.some.inj z).symm)]
      rfl
  · show (keepE w).cost (lv (w.map (·.1))) + ((if turnT p = none then 0 else 1) + 0) = _
    rw [ih.2, hcN]
    unfold turnT ne1
    by_cases h : p.1 = p.2
    · rw [if_pos h, if_pos h]; rfl
    · rw [if_neg h, if_neg h]; rfl
/-- all out, then all in -/
def hand1 (xs ys : List Str) : E := insE ys (outE xs.length .nil)
theorem hand1_ok (xs ys : List Str) : (hand1 xs ys).along (lv xs) = some (lv ys) ∧ (hand1 xs ys).cost (lv xs) = xs.length + ys.length ∧ (hand1 xs ys).steps = List.replicate xs.length .out ++ ys.map insT := by
  obtain ⟨h1, h2⟩ := outE_along .nil .nil .nil rfl xs
  obtain ⟨h3, h4⟩ := insE_along ys _ (lv xs) .nil h1
  refine ⟨h3, ?_, ?_⟩
  · show (insE ys (outE xs.length .nil)).cost (lv xs) = _
    rw [h4]
    have : (outE xs.length .nil).cost (lv xs) = E.nil.cost .nil + xs.length := h2
    rw [this]
    show 0 + _ + _ = _
    omega
  · unfold hand1
    rw [insE_steps, outE_steps]; rfl
/-- kept one by one, then out, then in -/
def hand2 (xs ys : List Str) (m : Nat) : E := insE (ys.drop m) (outE (xs.drop m).length (keepE ((xs.take m).zip (ys.take m))))
theorem hand2_ok (xs ys : List Str) (m : Nat) (h1 : m ≤ xs.length) (h2 : m ≤ ys.length) : (hand2 xs ys m).along (lv xs) = some (lv ys) ∧ (hand2 xs ys m).cost (lv xs) = cN ((xs.take m).zip (ys.take m)) + (xs.length - m) + (ys.length - m) ∧
    (hand2 xs ys m).steps = (((xs.take m).zip (ys.take m)).flatMap keptT ++ List.replicate (xs.length - m) .out) ++ (ys.drop m).map insT := by
  have el : (xs.take m).length = (ys.take m).length := by rw [List.length_take, List.length_take]; omega
  obtain ⟨k1, k2⟩ := keepE_along ((xs.take m).zip (ys.take m))
  rw [List.map_fst_zip (Nat.le_of_eq el)] at k1 k2
  rw [List.map_snd_zip (Nat.le_of_eq el.symm)] at k1
  obtain ⟨o1, o2⟩ := outE_along _ _ _ k1 (xs.drop m)
  have ex : lvs (xs.drop m) (lv (xs.take m)) = lv xs := by
    unfold lv; rw [← lvs_app, List.take_append_drop]
  have ey : lvs (ys.drop m) (lv (ys.take m)) = lv ys := by
    unfold lv; rw [← lvs_app, List.take_append_drop]
  rw [ex] at o1 o2
  obtain ⟨i1, i2⟩ := insE_along (ys.drop m) _ _ _ o1
  rw [ey] at i1
  refine ⟨i1, ?_, ?_⟩
  · show (insE _ _).cost _ = _
    rw [i2, o2, k2, List.length_drop, List.length_drop]
  · unfold hand2
    rw [insE_steps, outE_steps, keepE_steps, List.length_drop]
theorem hand1_good (xs : List Str) {ys : List Str} (h : ∀ t ∈ ys, isName t = true) : (hand1 xs ys).good = true := insE_good ys _ (outE_good _ _ rfl) h
theorem hand2_good (xs : List Str) {ys : List Str} (m : Nat) (h : ∀ t ∈ ys, isName t = true) : (hand2 xs ys m).good = true :=
  insE_good _ _ (outE_good _ _ (keepE_good _ fun p hp => h p.2 (List.mem_of_mem_take (List.of_mem_zip hp).2))) fun t ht => h t (List.mem_of_mem_drop ht)
theorem mem_abc {t : Str} (h : t ∈ (["a", "b", "c"] : List Str)) : isName t = true := by
  simp only [List.mem_cons, List.not_mem_nil, or_false] at h
  rcases h with rfl | rfl | rfl <;> decide +kernel
theorem kept_len : ∀ zs : List (Str × Str), (zs.flatMap keptT).length = 2 * zs.length
  | [] => rfl
  | z :: zs => by rw [List.flatMap_cons, List.length_append, kept_len zs, List.length_cons]; show 2 + _ = _; omega
theorem cN_le : ∀ zs : List (Str × Str), cN zs ≤ zs.length
  | [] => Nat.le_refl _
  | z :: zs => by
    have := cN_le zs
    have h := ne1_le z.1 z.2
    show ((z :: zs).map fun p => ne1 p.1 p.2).sum ≤ _
    rw [List.map_cons, List.sum_cons, List.length_cons]
    unfold cN at this
    omega

end Pp

set_option Elab.async false
set_option linter.all false
set_option autoImplicit false
set_option maxRecDepth 100000
set_option maxHeartbeats 4000000
namespace Pp
open PySem PySem.Spec L2
variable {P : Program} {w : World} {K : PySem.W.Frag} {mg : Str → Option Value} {base : Heap}
/-! ### below a node -/
def wrapF (i : Nat) (f : F) : F := if i = 0 then f else sub1 "x" f
theorem wrap_flat {i : Nat} (hi : i < 2) (t : Str) (c : F) : (wrapF i (sub1 t c)).flat = List.replicate i (("x", 1) : Nd) ++ ((t, c.len) :: c.flat) := by
  rcases (show i = 0 ∨ i = 1 by omega) with rfl | rfl <;> rfl
theorem wrap_size {i : Nat} (hi : i < 2) (t : Str) (c : F) : (wrapF i (sub1 t c)).size = c.size + 1 + i := by
  rcases (show i = 0 ∨ i = 1 by omega) with rfl | rfl
  · show 0 + (1 + c.size) = _; omega
  · show 0 + (1 + (0 + (1 + c.size))) = _; omega
theorem wrap_good {i : Nat} (hi : i < 2) {t : Str} {c : F} (h1 : isName t = true) (h2 : c.good = true) : (wrapF i (sub1 t c)).good = true := by
  have hg : (sub1 t c).good = true := by
    show (true && (isName t && c.good)) = true
    rw [h1, h2]; rfl
  rcases (show i = 0 ∨ i = 1 by omega) with rfl | rfl
  · exact hg
  · show (true && (isName "x" && (sub1 t c).good)) = true
    rw [hg]; decide +kernel
theorem wrap_len {i : Nat} (hi : i < 2) (t : Str) (c : F) : (wrapF i (sub1 t c)).len = 1 := by
  rcases (show i = 0 ∨ i = 1 by omega) with rfl | rfl <;> rfl
theorem wrap_dF {i : Nat} (hi : i < 2) (t u : Str) (c e : F) : dF (wrapF i (sub1 t c)) (wrapF i (sub1 u e)) = ne1 t u + dF c e := by
  rcases (show i = 0 ∨ i = 1 by omega) with rfl | rfl
  · exact dF_one t u c e
  · show dF (sub1 "x" (sub1 t c)) (sub1 "x" (sub1 u e)) = _
    rw [dF_one, dF_one, ne1_self, Nat.zero_add]

end Pp

set_option Elab.async false
set_option linter.all false
set_option autoImplicit false
set_option maxRecDepth 100000
set_option maxHeartbeats 4000000
namespace Pp
open PySem PySem.Spec L2
variable {P : Program} {w : World} {K : PySem.W.Frag} {mg : Str → Option Value} {base : Heap}
/-! ### the law -/
def sp_law (T : Txt K mg) : Sp := fun vs H Q _ => ∃ (a : Addr) (ns : List Int), vs = [.ref a] ∧ SqL K H a (ns.map V.int) ∧ ∀ H', Q (.bl true) H'
theorem ok_law (T : Txt K mg) : FnOk P w K mg base CX0 12 T.a_law T.d_law P_law (sp_law T) := by
  have G__law_bag := ok__law_bag (P := P) (w := w) (base := base) T
  have G__law_leaves := ok__law_leaves (P := P) (w := w) (base := base) T
  have G__law_some := ok__law_some (P := P) (w := w) (base := base) T
  have G__law_take := ok__law_take (P := P) (w := w) (base := base) T
  have G__law_words := ok__law_words (P := P) (w := w) (base := base) T
  have G_cost_of := ok_cost_of (P := P) (w := w) (base := base) T
  have G_gone := ok_gone (P := P) (w := w) (base := base) T
  have G_is_least_way := ok_is_least_way (P := P) (w := w) (base := base) T
  have G_row_distance := ok_row_distance (P := P) (w := w) (base := base) T
  have G_tree_distance := ok_tree_distance (P := P) (w := w) (base := base) T
  have G_turned_back := ok_turned_back (P := P) (w := w) (base := base) T
  have G_way_of := ok_way_of (P := P) (w := w) (base := base) T
  refine T.F_law.ok sc_law (fun vs H Q E h => ?_) (fun cdv A outer s H vs Q E hr h => ?_)
  · obtain ⟨a, ns, rfl, ha, k⟩ := h
    rfl
  · obtain ⟨a, ns, rfl, ha, k⟩ := h
    refine ⟨_, (pss_cons (ps_set (i := 1) sc_law.nd rfl (Or.inr rfl) (pe_call G__law_bag (hr.mono (by decide)) (by rfl) T.m__law_bag T.F__law_bag.kp T.b__law_bag .nil pass0 (pa_cons (pv 0) pa_nil)))
      (pss_cons (ps_set (i := 2) sc_law.nd rfl (Or.inr rfl) (pe_slice sl_list (pe_lst (pa_cons pe_str (pa_cons pe_str (pa_cons pe_str pa_nil)))) po_none (po_some (pe_op op_add pe_int (pe_call G__law_take (hr.mono (by decide)) (by rfl) T.m__law_take T.F__law_take.kp T.b__law_take .nil pass0 (pa_cons (pv 1) (pa_cons pe_int pa_nil)))))))
      (pss_cons (ps_set (i := 3) sc_law.nd rfl (Or.inr rfl) (pe_lc (own := [("k", 13)]) rfl sc_law.nd (pi_range1 (by rfl) T.n_range (pa_cons (pe_call G__law_take (hr.mono (by decide)) (by rfl) T.m__law_take T.F__law_take.kp T.b__law_take .nil pass0 (pa_cons (pv 1) (pa_cons pe_int pa_nil))) pa_nil)) (blkOk_by (N := N_law) (sc := defScope s_law) (by decide +kernel)) (fun _ _ _ _ _ => (pg_name (i := 13) sc_law.nd rfl (Or.inl rfl))) (fun _ _ _ _ _ => pts_te (by exact pts_nil) (by first | rfl | (dsimp only <;> rfl))) (fun _ _ _ _ _ => pe_te (by exact (pe_call G__law_some (hr.mono (by decide)) (by rfl) T.m__law_some T.F__law_some.kp T.b__law_some .nil pass0 (pa_cons (pv 1) (pa_cons (pv 2) pa_nil)))) (by first | rfl | (dsimp only <;> rfl)))))
      (pss_cons (ps_set (i := 4) sc_law.nd rfl (Or.inr rfl) (pe_lc (own := [("k", 13)]) rfl sc_law.nd (pi_range1 (by rfl) T.n_range (pa_cons (pe_call G__law_take (hr.mono (by decide)) (by rfl) T.m__law_take T.F__law_take.kp T.b__law_take .nil pass0 (pa_cons (pv 1) (pa_cons pe_int pa_nil))) pa_nil)) (blkOk_by (N := N_law) (sc := defScope s_law) (by decide +kernel)) (fun _ _ _ _ _ => (pg_name (i := 13) sc_law.nd rfl (Or.inl rfl))) (fun _ _ _ _ _ => pts_te (by exact pts_nil) (by first | rfl | (dsimp only <;> rfl))) (fun _ _ _ _ _ => pe_te (by exact (pe_call G__law_some (hr.mono (by decide)) (by rfl) T.m__law_some T.F__law_some.kp T.b__law_some .nil pass0 (pa_cons (pv 1) (pa_cons (pv 2) pa_nil)))) (by first | rfl | (dsimp only <;> rfl)))))
      (Evl.pss_cut (ps_if (pt_cmpR op_eq (pe_call G__law_take (hr.mono (by decide)) (by rfl) T.m__law_take T.F__law_take.kp T.b__law_take .nil pass0 (pa_cons (pv 1) (pa_cons pe_int pa_nil))) pe_int (nomark _)) (pss_one (ps_set (i := 4) sc_law.nd rfl (Or.inr rfl) (pe_lc (own := [("tag", 18)]) rfl sc_law.nd (pi_list (pv 3)) (blkOk_by (N := N_law) (sc := defScope s_law) (by decide +kernel)) (fun _ _ _ _ _ => (pg_name (i := 18) sc_law.nd rfl (Or.inl rfl))) (fun _ _ _ _ _ => pts_te (by exact (pts_one (pt_cmpR op_gt (pe_call G__law_take (hr.mono (by decide)) (by rfl) T.m__law_take T.F__law_take.kp T.b__law_take .nil pass0 (pa_cons (pv 1) (pa_cons pe_int pa_nil))) pe_int (nomark _)))) (by first | rfl | (dsimp only <;> rfl))) (fun _ _ _ _ _ => pe_te (by exact (pv 18)) (by first | rfl | (dsimp only <;> rfl)))))) pss_nil)
      (pss_cons (ps_set (i := 5) sc_law.nd rfl (Or.inl rfl) (pe_call G__law_words (hr.mono (by decide)) (by rfl) T.m__law_words T.F__law_words.kp T.b__law_words .nil pass0 (pa_cons (pv 3) (pa_cons (pv 4) pa_nil))))
      (pss_cons (ps_par (i := 6) (j := 7) rfl sc_law.nd rfl rfl (by decide) rfl rfl (pa_cons (pe_call G__law_leaves (hr.mono (by decide)) (by rfl) T.m__law_leaves T.F__law_leaves.kp T.b__law_leaves .nil pass0 (pa_cons (pv 3) pa_nil)) (pa_cons (pe_call G__law_leaves (hr.mono (by decide)) (by rfl) T.m__law_leaves T.F__law_leaves.kp T.b__law_leaves .nil pass0 (pa_cons (pv 4) pa_nil)) pa_nil)) (by rfl))
      (pss_cons (ps_if (PW.pt (pw_or (pt_cmpR op_ne (pe_call G_row_distance (hr.mono (by decide)) (by rfl) T.m_row_distance T.F_row_distance.kp T.b_row_distance .nil pass0 (pa_cons (pv 6) (pa_cons (pv 7) pa_nil))) (pv 5) (nomark _)) (pw_or (pt_cmpR op_ne (pe_call G_row_distance (hr.mono (by decide)) (by rfl) T.m_row_distance T.F_row_distance.kp T.b_row_distance .nil pass0 (pa_cons (pv 7) (pa_cons (pv 6) pa_nil))) (pv 5) (nomark _)) (pw_or (pt_cmpR op_ne (pe_call G_row_distance (hr.mono (by decide)) (by rfl) T.m_row_distance T.F_row_distance.kp T.b_row_distance .nil pass0 (pa_cons (pv 6) (pa_cons (pv 6) pa_nil))) pe_int (nomark _)) (pw_or1 (pt_cmpR op_ne (pe_cmpR op_eq (pv 5) pe_int (nomark _)) (pe_cmpR (op_eqD hr.units) (pv 3) (pv 4) (nomark _)) (nomark _))))))) (pss_one (ps_ret pe_bl)) pss_nil)
      (Evl.pss_cut (ps_if (PW.pt (pw_and (pt_cmpR op_eq (pe_callB call_len_seq (by rfl) T.n_len (by decide +kernel) (pa_cons (pv 2) pa_nil)) pe_int (nomark _)) (pw_and1 (pt_cmpR op_ne (pv 5) (pe_callB call_abs (by rfl) T.n_abs (by decide +kernel) (pa_cons (pe_op op_sub (pe_callB call_len_seq (by rfl) T.n_len (by decide +kernel) (pa_cons (pv 3) pa_nil)) (pe_callB call_len_seq (by rfl) T.n_len (by decide +kernel) (pa_cons (pv 4) pa_nil))) pa_nil)) (nomark _))))) (pss_one (ps_ret pe_bl)) pss_nil)
      (pss_cons (ps_set (i := 8) sc_law.nd rfl (Or.inl rfl) (pe_call G_way_of (hr.mono (by decide)) (by rfl) T.m_way_of T.F_way_of.kp T.b_way_of .nil pass0 (pa_cons (pv 6) (pa_cons (pv 7) pa_nil))))
      (pss_cons (ps_if (PW.pt (pw_or (pt_cmpR (op_neD hr.units) (pe_call G_gone (hr.mono (by decide)) (by rfl) T.m_gone T.F_gone.kp T.b_gone .nil pass0 (pa_cons (pv 6) (pa_cons (pv 8) pa_nil))) (pv 7) (nomark _)) (pw_or (pt_cmpR op_ne (pe_call G_cost_of (hr.mono (by decide)) (by rfl) T.m_cost_of T.F_cost_of.kp T.b_cost_of .nil pass0 (pa_cons (pv 6) (pa_cons (pv 8) pa_nil))) (pv 5) (nomark _)) (pw_or1 (pt_cmpR op_notBl (pe_call G_is_least_way (hr.mono (by decide)) (by rfl) T.m_is_least_way T.F_is_least_way.kp T.b_is_least_way .nil pass0 (pa_cons (pv 6) (pa_cons (pv 7) (pa_cons (pv 8) pa_nil)))) pe_bl (nomark _)))))) (pss_one (ps_ret pe_bl)) pss_nil)
      (pss_cons (ps_set (i := 9) sc_law.nd rfl (Or.inl rfl) (pe_call G_turned_back (hr.mono (by decide)) (by rfl) T.m_turned_back T.F_turned_back.kp T.b_turned_back .nil pass0 (pa_cons (pv 6) (pa_cons (pv 8) pa_nil))))
      (pss_cons (ps_if (PW.pt (pw_or (pt_cmpR (op_neD hr.units) (pe_call G_gone (hr.mono (by decide)) (by rfl) T.m_gone T.F_gone.kp T.b_gone .nil pass0 (pa_cons (pv 7) (pa_cons (pv 9) pa_nil))) (pv 6) (nomark _)) (pw_or (pt_cmpR op_ne (pe_call G_cost_of (hr.mono (by decide)) (by rfl) T.m_cost_of T.F_cost_of.kp T.b_cost_of .nil pass0 (pa_cons (pv 7) (pa_cons (pv 9) pa_nil))) (pv 5) (nomark _)) (pw_or (pt_cmpR op_notBl (pe_call G_is_least_way (hr.mono (by decide)) (by rfl) T.m_is_least_way T.F_is_least_way.kp T.b_is_least_way .nil pass0 (pa_cons (pv 7) (pa_cons (pv 6) (pa_cons (pv 9) pa_nil)))) pe_bl (nomark _)) (pw_or1 (pt_cmpR (op_neD hr.units) (pe_call G_turned_back (hr.mono (by decide)) (by rfl) T.m_turned_back T.F_turned_back.kp T.b_turned_back .nil pass0 (pa_cons (pv 7) (pa_cons (pv 9) pa_nil))) (pv 8) (nomark _))))))) (pss_one (ps_ret pe_bl)) pss_nil)
      (pss_cons (ps_set (i := 10) sc_law.nd rfl (Or.inl rfl) (pe_op op_catB (pe_op op_repB (pe_tup (pa_cons (pe_tup (pa_cons pe_str pa_nil)) pa_nil)) (pe_callB call_len_seq (by rfl) T.n_len (by decide +kernel) (pa_cons (pv 3) pa_nil))) (pe_callTy call_tupB (by rfl) T.n_tuple (by decide +kernel) (pa_cons (pe_lc (own := [("node", 22)]) rfl sc_law.nd (pi_tup (pv 7)) (blkOk_by (N := N_law) (sc := defScope s_law) (by decide +kernel)) (fun _ _ _ _ _ => (pg_name (i := 22) sc_law.nd rfl (Or.inl rfl))) (fun _ _ _ _ _ => pts_te (by exact pts_nil) (by first | rfl | (dsimp only <;> rfl))) (fun _ _ _ _ _ => pe_te (by exact (pe_tup (pa_cons pe_str (pa_cons (pe_tup (pa_cons (pv 22) pa_nil)) pa_nil)))) (by first | rfl | (dsimp only <;> rfl)))) pa_nil))))
      (pss_cons (ps_if (PW.pt (pw_or (pt_cmpR (op_neD hr.units) (pe_call G_gone (hr.mono (by decide)) (by rfl) T.m_gone T.F_gone.kp T.b_gone .nil pass0 (pa_cons (pv 6) (pa_cons (pv 10) pa_nil))) (pv 7) (nomark _)) (pw_or (pt_cmpR op_ne (pe_call G_cost_of (hr.mono (by decide)) (by rfl) T.m_cost_of T.F_cost_of.kp T.b_cost_of .nil pass0 (pa_cons (pv 6) (pa_cons (pv 10) pa_nil))) (pe_op op_add (pe_callB call_len_seq (by rfl) T.n_len (by decide +kernel) (pa_cons (pv 3) pa_nil)) (pe_callB call_len_seq (by rfl) T.n_len (by decide +kernel) (pa_cons (pv 4) pa_nil))) (nomark _)) (pw_or1 (pt_cmpR op_ne (pe_call G_is_least_way (hr.mono (by decide)) (by rfl) T.m_is_least_way T.F_is_least_way.kp T.b_is_least_way .nil pass0 (pa_cons (pv 6) (pa_cons (pv 7) (pa_cons (pv 10) pa_nil)))) (pe_cmpR op_eq (pv 5) (pe_op op_add (pe_callB call_len_seq (by rfl) T.n_len (by decide +kernel) (pa_cons (pv 3) pa_nil)) (pe_callB call_len_seq (by rfl) T.n_len (by decide +kernel) (pa_cons (pv 4) pa_nil))) (nomark _)) (nomark _)))))) (pss_one (ps_ret pe_bl)) pss_nil)
      (pss_cons (ps_set (i := 11) sc_law.nd rfl (Or.inl rfl) (pe_callB (call_min2 rfl) (by rfl) T.n_min (by decide +kernel) (pa_cons (pe_callB call_len_seq (by rfl) T.n_len (by decide +kernel) (pa_cons (pv 3) pa_nil)) (pa_cons (pe_callB call_len_seq (by rfl) T.n_len (by decide +kernel) (pa_cons (pv 4) pa_nil)) pa_nil))))
      (pss_cons (ps_set (i := 12) sc_law.nd rfl (Or.inl rfl) (pe_lst pa_nil))
      (pss_cons (ps_for PassesOwn.never rfl (pi_range1 (by rfl) T.n_range (pa_cons (pv 11) pa_nil)) (pg_name (i := 13) sc_law.nd rfl (Or.inl rfl)) (pss_one (ps_expr (pe_bm PySem.F.plainAttrs_list PySem.F.slot_list_extend PySem.F.type_list_extend mt_extend (pv 12) (pa_cons (pe_lst (pa_cons (pe_tup (pa_cons pe_str (pa_cons (pe_ifExp (pt_cmpR op_eq (pe_ix ix_list (pv 3) (pv 13) (fun _ _ => rfl)) (pe_ix ix_list (pv 4) (pv 13) (fun _ _ => rfl)) (nomark _)) pe_non (pe_ix ix_list (pv 4) (pv 13) (fun _ _ => rfl))) pa_nil))) (pa_cons (pe_tup (pa_cons pe_str pa_nil)) pa_nil))) pa_nil)))))
      (pss_cons (ps_set (i := 10) sc_law.nd rfl (Or.inl rfl) (pe_op op_catB (pe_op op_catB (pe_callTy call_tupB (by rfl) T.n_tuple (by decide +kernel) (pa_cons (pv 12) pa_nil)) (pe_op op_repB (pe_tup (pa_cons (pe_tup (pa_cons pe_str pa_nil)) pa_nil)) (pe_op op_sub (pe_callB call_len_seq (by rfl) T.n_len (by decide +kernel) (pa_cons (pv 3) pa_nil)) (pv 11)))) (pe_callTy call_tupB (by rfl) T.n_tuple (by decide +kernel) (pa_cons (pe_lc (own := [("node", 22)]) rfl sc_law.nd (pi_tup (pe_slice sl_tupB (pv 7) (po_some (pv 11)) po_none)) (blkOk_by (N := N_law) (sc := defScope s_law) (by decide +kernel)) (fun _ _ _ _ _ => (pg_name (i := 22) sc_law.nd rfl (Or.inl rfl))) (fun _ _ _ _ _ => pts_te (by exact pts_nil) (by first | rfl | (dsimp only <;> rfl))) (fun _ _ _ _ _ => pe_te (by exact (pe_tup (pa_cons pe_str (pa_cons (pe_tup (pa_cons (pv 22) pa_nil)) pa_nil)))) (by first | rfl | (dsimp only <;> rfl)))) pa_nil))))
      (pss_cons (ps_set (i := 14) sc_law.nd rfl (Or.inl rfl) (pe_op op_sub (pe_op op_add (pe_callB call_len_seq (by rfl) T.n_len (by decide +kernel) (pa_cons (pe_lc (own := [("k", 13)]) rfl sc_law.nd (pi_range1 (by rfl) T.n_range (pa_cons (pv 11) pa_nil)) (blkOk_by (N := N_law) (sc := defScope s_law) (by decide +kernel)) (fun _ _ _ _ _ => (pg_name (i := 13) sc_law.nd rfl (Or.inl rfl))) (fun _ _ _ _ _ => pts_te (by exact (pts_one (pt_cmpR op_ne (pe_ix ix_list (pv 3) (pv 13) (fun _ _ => rfl)) (pe_ix ix_list (pv 4) (pv 13) (fun _ _ => rfl)) (nomark _)))) (by first | rfl | (dsimp only <;> rfl))) (fun _ _ _ _ _ => pe_te (by exact (pv 13)) (by first | rfl | (dsimp only <;> rfl)))) pa_nil)) (pe_callB (call_max2 rfl) (by rfl) T.n_max (by decide +kernel) (pa_cons (pe_callB call_len_seq (by rfl) T.n_len (by decide +kernel) (pa_cons (pv 3) pa_nil)) (pa_cons (pe_callB call_len_seq (by rfl) T.n_len (by decide +kernel) (pa_cons (pv 4) pa_nil)) pa_nil)))) (pv 11)))
      (pss_cons (ps_if (PW.pt (pw_or (pt_cmpR (op_neD hr.units) (pe_call G_gone (hr.mono (by decide)) (by rfl) T.m_gone T.F_gone.kp T.b_gone .nil pass0 (pa_cons (pv 6) (pa_cons (pv 10) pa_nil))) (pv 7) (nomark _)) (pw_or (pt_cmpR op_ne (pe_call G_cost_of (hr.mono (by decide)) (by rfl) T.m_cost_of T.F_cost_of.kp T.b_cost_of .nil pass0 (pa_cons (pv 6) (pa_cons (pv 10) pa_nil))) (pv 14) (nomark _)) (pw_or1 (pt_cmpR op_ne (pe_call G_is_least_way (hr.mono (by decide)) (by rfl) T.m_is_least_way T.F_is_least_way.kp T.b_is_least_way .nil pass0 (pa_cons (pv 6) (pa_cons (pv 7) (pa_cons (pv 10) pa_nil)))) (pe_cmpR op_eq (pv 14) (pv 5) (nomark _)) (nomark _)))))) (pss_one (ps_ret pe_bl)) pss_nil)
      (pss_cons (ps_set (i := 15) sc_law.nd rfl (Or.inl rfl) (pe_call G__law_leaves (hr.mono (by decide)) (by rfl) T.m__law_leaves T.F__law_leaves.kp T.b__law_leaves .nil pass0 (pa_cons (pe_op op_rep (pe_lst (pa_cons pe_str pa_nil)) (pe_callB call_len_seq (by rfl) T.n_len (by decide +kernel) (pa_cons (pv 4) pa_nil))) pa_nil)))
      (pss_cons (ps_if (pt_cmpR op_ne (pe_call G_row_distance (hr.mono (by decide)) (by rfl) T.m_row_distance T.F_row_distance.kp T.b_row_distance .nil pass0 (pa_cons (pv 6) (pa_cons (pv 15) pa_nil))) (pe_callB (call_max2 rfl) (by rfl) T.n_max (by decide +kernel) (pa_cons (pe_callB call_len_seq (by rfl) T.n_len (by decide +kernel) (pa_cons (pv 3) pa_nil)) (pa_cons (pe_callB call_len_seq (by rfl) T.n_len (by decide +kernel) (pa_cons (pv 4) pa_nil)) pa_nil))) (nomark _)) (pss_one (ps_ret pe_bl)) pss_nil)
      (pss_cons (ps_for PassesOwn.never rfl (pi_tup (pe_tup (pa_cons pe_int (pa_cons pe_int pa_nil)))) (pg_name (i := 16) sc_law.nd rfl (Or.inl rfl)) (pss_cons (ps_set (i := 17) sc_law.nd rfl (Or.inl rfl) (pe_op op_catB (pe_callTy call_tupB (by rfl) T.n_tuple (by decide +kernel) (pa_cons (pe_op op_cat (pe_op op_rep (pe_lst (pa_cons (pe_tup (pa_cons pe_str (pa_cons pe_int pa_nil))) pa_nil)) (pe_op op_sub (pv 16) pe_int)) (pe_lst (pa_cons (pe_tup (pa_cons pe_str (pa_cons (pe_callB call_len_seq (by rfl) T.n_len (by decide +kernel) (pa_cons (pv 3) pa_nil)) pa_nil))) pa_nil))) pa_nil)) (pv 6)))
        (pss_one (ps_for PassesOwn.never rfl (pi_tup (pe_tup (pa_cons pe_str (pa_cons pe_str pa_nil)))) (pg_name (i := 18) sc_law.nd rfl (Or.inl rfl)) (pss_cons (ps_set (i := 19) sc_law.nd rfl (Or.inl rfl) (pe_op op_catB (pe_callTy call_tupB (by rfl) T.n_tuple (by decide +kernel) (pa_cons (pe_op op_cat (pe_op op_rep (pe_lst (pa_cons (pe_tup (pa_cons pe_str (pa_cons pe_int pa_nil))) pa_nil)) (pe_op op_sub (pv 16) pe_int)) (pe_lst (pa_cons (pe_tup (pa_cons (pv 18) (pa_cons (pe_callB call_len_seq (by rfl) T.n_len (by decide +kernel) (pa_cons (pv 4) pa_nil)) pa_nil))) pa_nil))) pa_nil)) (pv 7)))
          (pss_cons (ps_set (i := 20) sc_law.nd rfl (Or.inl rfl) (pe_op op_add (pv 5) (pe_callTy call_int1 (by rfl) T.n_int (by decide +kernel) (pa_cons (pe_cmpR op_eq (pv 18) pe_str (nomark _)) pa_nil))))
          (pss_one (ps_if (PW.pt (pw_or (pt_cmpR op_ne (pe_call G_tree_distance (hr.mono (by decide)) (by rfl) T.m_tree_distance T.F_tree_distance.kp T.b_tree_distance .nil pass0 (pa_cons (pv 17) (pa_cons (pv 19) pa_nil))) (pv 20) (nomark _)) (pw_or (pt_cmpR op_ne (pe_call G_row_distance (hr.mono (by decide)) (by rfl) T.m_row_distance T.F_row_distance.kp T.b_row_distance .nil pass0 (pa_cons (pv 17) (pa_cons (pv 19) pa_nil))) (pv 20) (nomark _)) (pw_or1 (pt_cmpR op_ne (pe_call G_cost_of (hr.mono (by decide)) (by rfl) T.m_cost_of T.F_cost_of.kp T.b_cost_of .nil pass0 (pa_cons (pv 17) (pa_cons (pe_call G_way_of (hr.mono (by decide)) (by rfl) T.m_way_of T.F_way_of.kp T.b_way_of .nil pass0 (pa_cons (pv 17) (pa_cons (pv 19) pa_nil))) pa_nil))) (pv 20) (nomark _)))))) (pss_one (ps_ret pe_bl)) pss_nil))))))))
      (pss_cons (ps_if (PW.pt (pw_or (pt_cmpR op_ne (pe_call G_row_distance (hr.mono (by decide)) (by rfl) T.m_row_distance T.F_row_distance.kp T.b_row_distance .nil pass0 (pa_cons (pe_op op_catB (pv 6) (pe_tup (pa_cons (pe_tup (pa_cons pe_str (pa_cons pe_int pa_nil))) pa_nil))) (pa_cons (pe_op op_catB (pv 7) (pe_tup (pa_cons (pe_tup (pa_cons pe_str (pa_cons pe_int pa_nil))) pa_nil))) pa_nil))) (pv 5) (nomark _)) (pw_or1 (pt_cmpR op_ne (pe_call G_row_distance (hr.mono (by decide)) (by rfl) T.m_row_distance T.F_row_distance.kp T.b_row_distance .nil pass0 (pa_cons (pe_op op_catB (pe_tup (pa_cons (pe_tup (pa_cons pe_str (pa_cons pe_int pa_nil))) pa_nil)) (pv 6)) (pa_cons (pe_op op_catB (pe_tup (pa_cons (pe_tup (pa_cons pe_str (pa_cons pe_int pa_nil))) pa_nil)) (pv 7)) pa_nil))) (pv 5) (nomark _))))) (pss_one (ps_ret pe_bl)) pss_nil)
      (pss_cons (ps_set (i := 21) sc_law.nd rfl (Or.inl rfl) (pe_call G_row_distance (hr.mono (by decide)) (by rfl) T.m_row_distance T.F_row_distance.kp T.b_row_distance .nil pass0 (pa_cons (pe_op op_catB (pv 6) (pe_tup (pa_cons (pe_tup (pa_cons pe_str (pa_cons pe_int pa_nil))) pa_nil))) (pa_cons (pv 7) pa_nil))))
      (pss_one (ps_ret (pe_and (pe_cmpR op_eq (pv 21) (pe_call G__law_words (hr.mono (by decide)) (by rfl) T.m__law_words T.F__law_words.kp T.b__law_words .nil pass0 (pa_cons (pe_op op_cat (pv 3) (pe_lst (pa_cons pe_str pa_nil))) (pa_cons (pv 4) pa_nil))) (nomark _)) (pe_one (pe_cmpR op_le (pe_callB call_abs (by rfl) T.n_abs (by decide +kernel) (pa_cons (pe_op op_sub (pv 21) (pv 5)) pa_nil)) pe_int (nomark _)))))))))))))))))))))))))))))))), ?_⟩
    have hM := mil_lt
    have hb1 := big_lt
    refine ⟨_, rfl, a, ns, rfl, ha, fun b cl H1 s1 nb B1 => ?_⟩
    -- the tags
    refine ⟨by show 3 ≤ sizeLine; omega, fun L hL => ?_⟩
    have u1 := sm_new hL (o := .lst [.str "a", .str "b", .str "c"])
    have B1' : BagAt K (upd H1 L (.lst [.str "a", .str "b", .str "c"])) b cl 0 := by
      obtain ⟨x, y, z, cs, e1, e2, r⟩ := B1
      exact ⟨x, y, z, cs, u1 _ _ e1, u1 _ _ e2, r⟩
    have nLb : L ≠ b := by
      obtain ⟨x, y, z, cs, e1, _⟩ := B1
      exact Ne.symm (ne_of_none e1 hL)
    refine ⟨_, rfl, b, cl, 3, 0, rfl, B1', by decide, by decide, by decide, fun x H2 hx k2 B2 => ?_⟩
    refine ⟨_, _, rfl, rfl, _, rfl, L, _, rfl, SqL.of (k2 L _ nLb upd_same), fun G hG => ?_⟩
    obtain ⟨tg, htg, tg0, tg3, tgm⟩ : ∃ tg : List Str, cutV [V.str "a", V.str "b", V.str "c"] none (some ((1 : Int) + (x : Nat))) = tg.map V.str ∧ tg ≠ [] ∧ tg.length ≤ 3 ∧ ∀ t ∈ tg, t ∈ (["a", "b", "c"] : List Str) := by
      rcases (show x = 0 ∨ x = 1 ∨ x = 2 by omega) with rfl | rfl | rfl
      · exact ⟨["a"], rfl, by decide, by decide, by decide⟩
      · exact ⟨["a", "b"], rfl, by decide, by decide, by decide⟩
      · exact ⟨["a", "b", "c"], rfl, by decide, by decide, by decide⟩
    rw [htg]
    have sm2 : Same H H2 := sx_same nb (s1.trans u1) k2
    have sm3 : Same H (upd H2 G (.lst (tg.map V.str))) := sm_put sm2 (sm2.free hG)
    have B3 : BagAt K (upd H2 G (.lst (tg.map V.str))) b cl 1 := B2.same (sm_new hG)
    have nGb : G ≠ b := B2.ne hG
    have eG : upd H2 G (.lst (tg.map V.str)) G = some (.lst (tg.map V.str)) := upd_same
    generalize upd H2 G (.lst (tg.map V.str)) = H3 at *
    -- the one
    refine ⟨_, rfl, b, cl, 10, 1, rfl, B3, by decide, by decide, by omega, fun r1 H4 hr k4 B4 => ?_⟩
    refine ⟨_, rfl, by omega, by omega, fun P hP => ?_⟩
    rw [Int.toNat_natCast]
    have sm4 : Same H H4 := sx_same nb sm3 k4
    have eG4 := k4 G _ nGb eG
    have u4 := sm_new hP (o := .lst [])
    have nPb := B4.ne hP
    have nPc := B4.nc hP
    have nPG : G ≠ P := ne_of_none eG4 hP
    have nP0 : H P = none := sm4.free hP
    refine lc_it walk_range (fun i H' => Same H H' ∧ BagAt K H' b cl (1 + 1 + i) ∧ H' G = some (.lst (tg.map V.str)) ∧ True ∧ ∃ ws : List Str, ws.length = i ∧ (∀ t ∈ ws, t ∈ tg) ∧ H' P = some (.lst (ws.map V.str))) ⟨sm4.trans u4, B4.same u4, u4 _ _ eG4, True.intro, [], rfl, (fun _ h => by cases h), upd_same⟩ (fun _ _ _ _ => True.intro) ?_ ?_
    · rintro i y H5 H6 hi ⟨sm5, B5, eG5, kp5, ws, w1, w2, eP⟩ ⟨rfl, rfl⟩
      refine ⟨rfl, _, rfl, _, rfl, b, cl, G, _, tg, rfl, B5, eG5, nGb, tg0, by omega, by omega, fun t H7 ht k7 B7 => ?_⟩
      refine ⟨_, k7 P _ nPb eP, by rw [List.length_map]; omega, sm_put (sx_same nb sm5 k7) nP0, B7.put nPb nPc, (upd_ne nPG).trans (k7 G _ nGb eG5), True.intro, ws ++ [t], by rw [List.length_append, w1]; rfl, ?_, ?_⟩
      · intro u hu
        rcases List.mem_append.mp hu with h | h
        · exact w2 u h
        · rw [List.mem_singleton.mp h]; exact ht
      · rw [upd_same, strs_app]
    rintro H5 ⟨sm5, B5, eG, kp5, xs, xsl, xst, exs⟩
    have nbxs := nPb
    have ncxs := nPc
    have nGxs := nPG
    have fxs := nP0
    -- the other
    refine ⟨_, rfl, b, cl, 10, 1 + 1 + r1, rfl, B5, by decide, by decide, by omega, fun r2 H6 hr k6 B6 => ?_⟩
    refine ⟨_, rfl, by omega, by omega, fun D hD => ?_⟩
    rw [Int.toNat_natCast]
    have sm6 : Same H H6 := sx_same nb sm5 k6
    have eG6 := k6 G _ nGb eG
    have u6 := sm_new hD (o := .lst [])
    have nDb := B6.ne hD
    have nDc := B6.nc hD
    have nDG : G ≠ D := ne_of_none eG6 hD
    have nD0 : H D = none := sm6.free hD
    have eP6 := k6 P _ nbxs exs
    have nPD : P ≠ D := ne_of_none eP6 hD
    refine lc_it walk_range (fun i H' => Same H H' ∧ BagAt K H' b cl (1 + 1 + r1 + 1 + i) ∧ H' G = some (.lst (tg.map V.str)) ∧ H' P = some (.lst (xs.map V.str)) ∧ ∃ ws : List Str, ws.length = i ∧ (∀ t ∈ ws, t ∈ tg) ∧ H' D = some (.lst (ws.map V.str))) ⟨sm6.trans u6, B6.same u6, u6 _ _ eG6, u6 _ _ eP6, [], rfl, (fun _ h => by cases h), upd_same⟩ (fun _ _ _ _ => True.intro) ?_ ?_
    · rintro i y Ha Hb hi ⟨sma, Ba, eGa, kpa, ws, w1, w2, eD⟩ ⟨rfl, rfl⟩
      refine ⟨rfl, _, rfl, _, rfl, b, cl, G, _, tg, rfl, Ba, eGa, nGb, tg0, by omega, by omega, fun t H7 ht k7 B7 => ?_⟩
      refine ⟨_, k7 D _ nDb eD, by rw [List.length_map]; omega, sm_put (sx_same nb sma k7) nD0, B7.put nDb nDc, (upd_ne nDG).trans (k7 G _ nGb eGa), (upd_ne nPD).trans (k7 P _ nbxs kpa), ws ++ [t], by rw [List.length_append, w1]; rfl, ?_, ?_⟩
      · intro u hu
        rcases List.mem_append.mp hu with h | h
        · exact w2 u h
        · rw [List.mem_singleton.mp h]; exact ht
      · rw [upd_same, strs_app]
    rintro H8 ⟨sm8, B8, eG8, exs8, ys, ysl, yst, eys⟩
    have nbys := nDb
    have ncys := nDc
    have nGys := nDG
    have fys := nD0
    -- some taken out
    refine ⟨fun σ' H' => ∃ (D : Addr) (ys : List Str), σ' = [some (.ref a), some (.ref b), some (.ref G), some (.ref P), some (.ref D), none, none, none, none, none, none, none, none, none, none, none, none, none, none, none, none, none, none] ∧ Same H H' ∧ H' G = some (.lst (tg.map V.str)) ∧ H' P = some (.lst (xs.map V.str)) ∧ H' D = some (.lst (ys.map V.str)) ∧ ys.length ≤ 9 ∧ ∀ t ∈ ys, t ∈ tg, ?_, ?_⟩
    · refine ⟨_, rfl, b, cl, 3, _, rfl, B8, by decide, by decide, by omega, fun x H9 hx k9 B9 => ⟨rfl, _, rfl, ?_⟩⟩
      have sm9 := sx_same nb sm8 k9
      have eG9 := k9 G _ nGb eG8
      have eP9 := k9 P _ nbxs exs8
      have eD9 := k9 D _ nbys eys
      refine ite2 (fun _ => ?_) (fun _ => ?_)
      · refine ⟨_, rfl, P, rfl, ⟨_, SqL.of eP9⟩, fun Z hZ => ?_⟩
        have uz := sm_new hZ (o := .lst [])
        have nZb := B9.ne hZ
        have nZc := B9.nc hZ
        have nZG : G ≠ Z := ne_of_none eG9 hZ
        have nZP : P ≠ Z := ne_of_none eP9 hZ
        have nZ0 : H Z = none := sm9.free hZ
        refine lc_it (walk_list (xs := xs.map V.str)) (fun i H' => Same H H' ∧ BagAt K H' b cl (1 + 1 + r1 + 1 + r2 + 1 + i) ∧ H' G = some (.lst (tg.map V.str)) ∧ H' P = some (.lst (xs.map V.str)) ∧ ∃ ws : List Str, ws.length ≤ i ∧ (∀ t ∈ ws, t ∈ tg) ∧ H' Z = some (.lst (ws.map V.str))) ⟨sm9.trans uz, B9.same uz, uz _ _ eG9, uz _ _ eP9, [], Nat.le_refl _, (fun _ h => by cases h), upd_same⟩ (fun _ _ _ q => SqL.of q.2.2.2.1) ?_ ?_
        · rintro i y Ha Hb hi ⟨sma, Ba, eGa, ePa, ws, w1, w2, eZ⟩ ⟨rfl, hy⟩
          rw [List.length_map] at hi
          obtain ⟨t, ht⟩ : ∃ t, xs[i]? = some t := ⟨_, List.getElem?_eq_getElem hi⟩
          rw [List.getElem?_map, ht] at hy
          cases hy
          refine ⟨rfl, _, rfl, b, cl, 3, _, rfl, Ba, by decide, by decide, by omega, fun x' Hc hx' kc Bc => ⟨_, _, rfl, rfl, _, rfl, ?_⟩⟩
          have smc := sx_same nb sma kc
          refine ite2 (fun _ => ?_) (fun _ => ?_)
          · refine ⟨_, rfl, _, kc Z _ nZb eZ, by rw [List.length_map]; omega, sm_put smc nZ0, Bc.put nZb nZc, (upd_ne nZG).trans (kc G _ nGb eGa), (upd_ne nZP).trans (kc P _ nbxs ePa), ws ++ [t], by rw [List.length_append, List.length_singleton]; omega, ?_, ?_⟩
            · intro u hu
              rcases List.mem_append.mp hu with h | h
              · exact w2 u h
              · rw [List.mem_singleton.mp h]; exact xst t (List.mem_of_getElem? ht)
            · rw [upd_same, strs_app]
          · exact ⟨smc, Bc, kc G _ nGb eGa, kc P _ nbxs ePa, ws, by omega, w2, kc Z _ nZb eZ⟩
        · rintro Ha ⟨sma, Ba, eGa, ePa, ws, w1, w2, eZ⟩
          rw [List.length_map, xsl] at w1
          exact ⟨Z, ws, rfl, sma, eGa, ePa, eZ, by omega, w2⟩
      · exact ⟨D, ys, rfl, sm9, eG9, eP9, eD9, by omega, yst⟩
    rintro _ H1' ⟨D, ys, rfl, sm, eG, eP, eD, ysl, yst⟩
    have xsl' : xs.length ≤ 9 := by omega
    have nx : ∀ t ∈ xs, isName t = true := fun t ht => mem_abc (tgm t (xst t ht))
    have ny : ∀ t ∈ ys, isName t = true := fun t ht => mem_abc (tgm t (yst t ht))
    have gx := lv_good nx
    have gy := lv_good ny
    have zx := lv_size xs
    have zy := lv_size ys
    have hprod : (lv xs).size * (lv ys).size ≤ 100000 := by
      rw [zx, zy]; exact Nat.le_trans (Nat.mul_le_mul xsl' ysl) (by decide)
    have hprod' : (lv ys).size * (lv xs).size ≤ 100000 := by rw [Nat.mul_comm]; exact hprod
    have hxx : (lv xs).size * (lv xs).size ≤ 100000 := by
      rw [zx]; exact Nat.le_trans (Nat.mul_le_mul xsl' xsl') (by decide)
    have bx : (lv xs).size < 100001 := by omega
    have by' : (lv ys).size < 100001 := by omega
    -- due
    refine ⟨_, rfl, _, rfl, P, D, xs, ys, rfl, SqL.of eP, SqL.of eD, by omega, by omega, fun H10 s10 => ?_⟩
    -- mine, its
    refine ⟨_, rfl, P, xs, rfl, SqL.of (s10 _ _ eP), by omega, fun vm H11 s11 dm => ?_⟩
    refine ⟨_, rfl, D, ys, rfl, SqL.of (s11 _ _ (s10 _ _ eD)), by omega, fun vi H12 s12 di => ⟨_, _, rfl, ?_⟩⟩
    have eG2 := s12 _ _ (s11 _ _ (s10 _ _ eG))
    have eP2 := s12 _ _ (s11 _ _ (s10 _ _ eP))
    have eD2 := s12 _ _ (s11 _ _ (s10 _ _ eD))
    have dm2 := dp_same s12 dm
    clear s10 s11 s12 dm
    clear k2 B1' B2 B3 B4 B5 B6 B8
    -- the distances, both ways
    refine ⟨_, rfl, _, rfl, vm, vi, lv xs, lv ys, rfl, dm2, di, gx, gy, bx, by', hprod, fun H13 s13 => ?_⟩
    refine ⟨_, rfl, rfl, _, rfl, ?_⟩
    rw [neI rfl]
    refine ⟨_, rfl, _, rfl, vi, vm, lv ys, lv xs, rfl, dp_same s13 di, dp_same s13 dm2, gy, gx, by', bx, hprod', fun H14 s14 => ?_⟩
    refine ⟨_, rfl, rfl, _, rfl, ?_⟩
    rw [neI (show ((dF (lv ys) (lv xs) : Nat) : Int) = ((dF (lv xs) (lv ys) : Nat) : Int) by rw [dF_comm])]
    have s134 := s13.trans s14
    refine ⟨_, rfl, _, rfl, vm, vm, lv xs, lv xs, rfl, dp_same s134 dm2, dp_same s134 dm2, gx, gx, bx, bx, hxx, fun H15 s15 => ?_⟩
    refine ⟨rfl, _, rfl, ?_⟩
    rw [neI (show ((dF (lv xs) (lv xs) : Nat) : Int) = 0 by rw [dF_self]; rfl)]
    have s15' := s134.trans s15
    have heq : decide (V.int (dF (lv xs) (lv ys) : Nat) = V.int 0) = PyData.eqv (.list (xs.map PyData.str)) (.list (ys.map PyData.str)) := by
      rw [eqv_strs]
      by_cases hd : xs = ys
      · rw [decide_eq_true hd, hd, dF_self]; exact decide_eq_true rfl
      · rw [decide_eq_false hd]
        exact decide_eq_false fun z => hd (lv_inj (dF_zero _ _ (by have := V.int.inj z; omega)))
    refine ⟨_, rfl, rfl, _, rfl, _, rfl, _, _, .lst (SqL.of (s15' _ _ eP2)) (dpa_strs xs), .lst (SqL.of (s15' _ _ eD2)) (dpa_strs ys), Sh.ok (sh_strs nx), Sh.ok (sh_strs ny), rfl, _, rfl, ?_⟩
    rw [heq, decide_eq_true (rfl : V.bl (PyData.eqv (.list (xs.map PyData.str)) (.list (ys.map PyData.str))) = V.bl (PyData.eqv (.list (xs.map PyData.str)) (.list (ys.map PyData.str))))]
    -- one tag
    refine ⟨fun σ' H' => σ' = [some (.ref a), some (.ref b), some (.ref G), some (.ref P), some (.ref D), some (.int (dF (lv xs) (lv ys) : Nat)), some vm, some vi, none, none, none, none, none, none, none, none, none, none, none, none, none, none, none] ∧ H' = H15, ?_, ?_⟩
    · refine ⟨_, rfl, G, _, rfl, .inl (SqL.of (s15' _ _ eG2)), rfl, _, rfl, ?_⟩
      rw [List.length_map]
      by_cases h1 : tg.length = 1
      · rw [decide_eq_true (show V.int (tg.length : Nat) = V.int 1 by rw [h1]; rfl)]
        obtain ⟨t, rfl⟩ : ∃ t, tg = [t] := by
          cases tg with
          | nil => cases h1
          | cons t r =>
            cases r with
            | nil => exact ⟨t, rfl⟩
            | cons _ _ => cases h1
        have h2 := one_tag (t := t) (xs := xs) (ys := ys) (fun x hx => List.mem_singleton.mp (xst x hx)) (fun y hy => List.mem_singleton.mp (yst y hy))
        refine ⟨_, rfl, _, rfl, P, _, rfl, .inl (SqL.of (s15' _ _ eP2)), _, rfl, D, _, rfl, .inl (SqL.of (s15' _ _ eD2)), _, _, rfl, rfl, _, rfl, rfl, _, rfl, ?_⟩
        rw [List.length_map, List.length_map, neI (show ((dF (lv xs) (lv ys) : Nat) : Int) = if ((xs.length : Nat) : Int) - ((ys.length : Nat) : Int) < 0 then -(((xs.length : Nat) : Int) - ((ys.length : Nat) : Int)) else ((xs.length : Nat) : Int) - ((ys.length : Nat) : Int) by rw [h2]; split <;> omega)]
        exact ⟨rfl, rfl⟩
      · rw [decide_eq_false (fun z => h1 (by have := V.int.inj z; omega))]
        exact ⟨rfl, rfl⟩
    rintro _ H15 ⟨rfl, rfl⟩
    have dmA := dp_same s15' dm2
    have diA := dp_same s15' di
    have ePA := s15' _ _ eP2
    have eDA := s15' _ _ eD2
    -- a way
    refine ⟨_, rfl, _, rfl, vm, vi, lv xs, lv ys, rfl, dmA, diA, gx, gy, bx, by', hprod, fun vw H16 s16 dw => ?_⟩
    have dmB := dp_same s16 dmA
    have diB := dp_same s16 diA
    obtain ⟨al, co⟩ := best_ok (lv xs) (lv ys)
    have bg := best_good (lv xs) (lv ys) gx gy
    have WI1 : WayIn (lv xs) (best (lv xs) (lv ys)).steps (endE (best (lv xs) (lv ys)) (lv xs) (lv ys)) := way_in al bg gx bx by'
    have hc1 : (endE (best (lv xs) (lv ys)) (lv xs) (lv ys)).cost = dF (lv xs) (lv ys) := co
    refine ⟨_, rfl, _, rfl, vm, vw, (lv xs), _, _, rfl, dmB, dw, WI1, fun v1 Hc1 c1 d1 => ?_⟩
    refine ⟨_, rfl, _, _, d1, dp_same c1 diB, Sh.ok (sh_row (end_names gy)), Sh.ok (sh_flat gy), _, rfl, ?_⟩
    rw [end_zip, eqv_rowD, decide_eq_true rfl]
    refine ⟨_, rfl, _, rfl, vm, vw, (lv xs), _, _, rfl, dp_same c1 dmB, dp_same c1 dw, WI1, fun Hc2 c2 => ?_⟩
    refine ⟨_, rfl, rfl, _, rfl, ?_⟩
    rw [neI (show (((endE (best (lv xs) (lv ys)) (lv xs) (lv ys)).cost : Nat) : Int) = ((dF (lv xs) (lv ys) : Nat) : Int) by rw [hc1])]
    have c12 := c1.trans c2
    refine ⟨_, rfl, _, rfl, _, rfl, vm, vi, vw, (lv xs), (lv ys), _, _, rfl, dp_same c12 dmB, dp_same c12 diB, gx, gy, bx, by', hprod, dp_same c12 dw, WI1, end_names gy, fun Hc3 c3 => ?_⟩
    refine ⟨_, _, rfl, rfl, _, rfl, ?_⟩
    rw [end_zip, hc1, decide_eq_true rfl, decide_eq_true rfl]
    have sC := c12.trans c3
    -- the way back
    have dmC := dp_same sC dmB
    have diC := dp_same sC diB
    have dwC := dp_same sC dw
    refine ⟨_, rfl, _, rfl, vm, vw, lv xs, _, _, rfl, dmC, dwC, WI1, fun vb H20 s20 db => ?_⟩
    have dmD := dp_same s20 dmC
    have diD := dp_same s20 diC
    have dwD := dp_same s20 dwC
    obtain ⟨al2, co2, bb⟩ := back_E _ _ _ al
    have bg2 := back_good _ (lv xs) bg gx
    have WI2 : WayIn (lv ys) ((best (lv xs) (lv ys)).back (lv xs)).steps (endE ((best (lv xs) (lv ys)).back (lv xs)) (lv ys) (lv xs)) := way_in al2 bg2 gy by' bx
    have hc2 : (endE ((best (lv xs) (lv ys)).back (lv xs)) (lv ys) (lv xs)).cost = dF (lv xs) (lv ys) := co2.trans co
    have db' : Dp K H20 vb (wayD ((best (lv xs) (lv ys)).back (lv xs)).steps) := db
    generalize hbk : (best (lv xs) (lv ys)).back (lv xs) = bk at *
    refine ⟨_, rfl, _, rfl, vi, vb, (lv ys), _, _, rfl, diD, db', WI2, fun v1 Hc1 c1 d1 => ?_⟩
    refine ⟨_, rfl, _, _, d1, dp_same c1 dmD, Sh.ok (sh_row (end_names gx)), Sh.ok (sh_flat gx), _, rfl, ?_⟩
    rw [end_zip, eqv_rowD, decide_eq_true rfl]
    refine ⟨_, rfl, _, rfl, vi, vb, (lv ys), _, _, rfl, dp_same c1 diD, dp_same c1 db', WI2, fun Hc2 c2 => ?_⟩
    refine ⟨_, rfl, rfl, _, rfl, ?_⟩
    rw [neI (show (((endE bk (lv ys) (lv xs)).cost : Nat) : Int) = ((dF (lv xs) (lv ys) : Nat) : Int) by rw [hc2])]
    have c12 := c1.trans c2
    refine ⟨_, rfl, _, rfl, _, rfl, vi, vm, vb, (lv ys), (lv xs), _, _, rfl, dp_same c12 diD, dp_same c12 dmD, gy, gx, by', bx, hprod', dp_same c12 db', WI2, end_names gx, fun Hc3 c3 => ?_⟩
    refine ⟨_, _, rfl, rfl, _, rfl, ?_⟩
    rw [end_zip, hc2, decide_eq_true rfl, decide_eq_true (show dF (lv xs) (lv ys) = dF (lv ys) (lv xs) from dF_comm _ _)]
    have sD := c12.trans c3
    refine ⟨_, rfl, _, rfl, vi, vb, lv ys, _, _, rfl, dp_same sD diD, dp_same sD db', WI2, fun v2 Hd s21 d2 => ?_⟩
    have hbs : (endE bk (lv ys) (lv xs)).back = (best (lv xs) (lv ys)).steps := by
      show (bk.back (lv ys)).steps = _
      rw [bb]
    rw [hbs] at d2
    refine ⟨_, rfl, _, _, d2, dp_same s21 (dp_same sD dwD), Sh.ok (sh_way WI1.si), Sh.ok (sh_way WI1.si), _, rfl, ?_⟩
    rw [SeqAt.eqv_refl _ (sh_way WI1.si).lay]
    have sE := sD.trans s21
    have dmE := dp_same sE dmD
    have diE := dp_same sE diD
    have sAE : Same H15 Hd := s16.trans (sC.trans (s20.trans sE))
    have ePE := sAE _ _ ePA
    have eDE := sAE _ _ eDA
    -- by hand
    refine ⟨by show 1 ≤ sizeLine; omega, fun t1 ht1 => ⟨by show 1 ≤ sizeLine; omega, fun t2 ht2 => ?_⟩⟩
    obtain ⟨ai, wi, rfl, hai, hdi⟩ := dp_tup diE
    have nt12 : t1 ≠ t2 := ne_of_none upd_same ht2
    have sF := sm_put (sm_new ht1 (o := .tup [.str "out"])) ((sm_new ht1).free ht2) (o := .tup [.ref t1])
    have hto : Dp K (upd (upd Hd t1 (.tup [.str "out"])) t2 (.tup [.ref t1])) (.ref t1) (stD .out) := .tup (SqT.of ((upd_ne nt12).trans upd_same)) (.cons (.str _) .nil)
    refine ⟨_, rfl, P, _, rfl, .inl (SqL.of (sF _ _ ePE)), t2, xs.length, _, rfl, by rw [List.length_map], SqT.of upd_same, by simp, by omega, by show 1 ≤ 1000; decide, fun q1 Hg sg e1 => ?_⟩
    have sG := sF.trans sg
    have hto2 := dp_same sg hto
    have hsrc := sm_st sG hai
    have hsd : DpAll K Hg wi (ys.map fun t => ndD (t, 0)) := by
      have h := dpa_same sG hdi
      rw [lv_flat, List.map_map] at h
      exact h
    refine ⟨_, rfl, ai, rfl, ⟨_, hsrc⟩, fun Z hZ => ?_⟩
    refine lc_it (walk_tup (xs := wi)) (fun i H' => Same Hg H' ∧ ∃ vs, H' Z = some (.lst vs) ∧ DpAll K H' vs (((ys.take i).map insT).map stD)) ⟨sm_new hZ, [], upd_same, .nil⟩ (fun _ _ _ q => sm_st q.1 hsrc) ?_ ?_
    · rintro i y Ha Hb hi ⟨sa, vs, ev, dv⟩ ⟨rfl, hy⟩
      obtain ⟨dd, hd1, hd2⟩ := dpa_get' hsd hy
      have hdl := dpa_len hsd
      rw [List.length_map] at hdl
      obtain ⟨t, ht⟩ : ∃ t, ys[i]? = some t := ⟨_, List.getElem?_eq_getElem (by omega)⟩
      rw [List.getElem?_map, ht] at hd1
      cases hd1
      have dl := dpa_len dv
      rw [List.length_map, List.length_map, List.length_take] at dl
      refine ⟨rfl, _, rfl, by show 1 ≤ sizeLine; omega, fun w1 hw1 => ⟨by show 2 ≤ sizeLine; omega, fun w2 hw2 => ?_⟩⟩
      have su := sm_put (sm_new hw1 (o := .tup [y])) ((sm_new hw1).free hw2) (o := .tup [.str "in", .ref w1])
      have e2 := su _ _ ev
      have kp := Kp.lst e2 (o := .lst (vs ++ [V.ref w2]))
      have nw : w1 ≠ w2 := ne_of_none upd_same hw2
      refine ⟨vs, e2, by omega, sm_put (sa.trans su) hZ, _, upd_same, ?_⟩
      rw [take_one ht, List.map_append, List.map_append]
      refine dpa_app (dpa_kp kp (nl_sts _) (dpa_same su dv)) (.cons (.tup (kp.st (SqT.of upd_same)) (.cons (.str _) (.cons (.tup (kp.st (SqT.of ((upd_ne nw).trans upd_same))) (.cons (dp_kp kp (nl_nd _) (dp_same (sa.trans su) hd2)) .nil)) .nil))) .nil)
    rintro Hj ⟨sj, vs, ev, dv⟩
    have hdl := dpa_len hsd
    rw [List.length_map] at hdl
    rw [hdl, List.take_length] at dv
    refine ⟨Z, vs, rfl, .inl (SqL.of ev), fun q2 Hk sk e2 => ?_⟩
    have hvl := dpa_len dv
    rw [List.length_map, List.length_map] at hvl
    have e1' : SqT K Hg q1 (List.replicate xs.length (V.ref t1)) := by rw [← rep1]; exact e1
    have sjk := sj.trans sk
    refine ⟨q1, q2, _, _, rfl, rfl, sm_st sjk e1', e2, by rw [List.length_replicate]; omega, fun q3 Hl sl e3 => ?_⟩
    have sL : Same Hd Hl := sG.trans (sjk.trans sl)
    obtain ⟨hl1, hl2, hl3⟩ := hand1_ok xs ys
    have dh : Dp K Hl (.ref q3) (wayD (hand1 xs ys).steps) := by
      rw [hl3]
      unfold wayD
      rw [List.map_append, List.map_replicate]
      exact .tup e3 (dpa_app (dpa_rep (dp_same (sjk.trans sl) hto2) _) (dpa_same (sk.trans sl) dv))
    have WI3 : WayIn (lv xs) (hand1 xs ys).steps (endE (hand1 xs ys) (lv xs) (lv ys)) := way_in hl1 (hand1_good xs ny) gx bx by'
    have hc3 : (endE (hand1 xs ys) (lv xs) (lv ys)).cost = xs.length + ys.length := hl2
    have dmF := dp_same sL dmE
    have diF := dp_same sL diE
    have hsum : ((((xs.map V.str).length : Nat) : Int) + (((ys.map V.str).length : Nat) : Int)) = ((xs.length + ys.length : Nat) : Int) := by rw [List.length_map, List.length_map, Int.natCast_add]
    have hdd : decide (V.int ((dF (lv xs) (lv ys) : Nat) : Int) = V.int ((((xs.map V.str).length : Nat) : Int) + (((ys.map V.str).length : Nat) : Int))) = decide (dF (lv xs) (lv ys) = xs.length + ys.length) := by rw [hsum]; exact eqI _ _
    refine ⟨_, rfl, _, rfl, vm, (.ref q3), (lv xs), _, _, rfl, dmF, dh, WI3, fun v1 Hc1 c1 d1 => ?_⟩
    refine ⟨_, rfl, _, _, d1, dp_same c1 diF, Sh.ok (sh_row (end_names gy)), Sh.ok (sh_flat gy), _, rfl, ?_⟩
    rw [end_zip, eqv_rowD, decide_eq_true rfl]
    refine ⟨_, rfl, _, rfl, vm, (.ref q3), (lv xs), _, _, rfl, dp_same c1 dmF, dp_same c1 dh, WI3, fun Hc2 c2 => ?_⟩
    have c12 := c1.trans c2
    refine ⟨_, rfl, P, _, rfl, .inl (SqL.of ((sL.trans c12) _ _ ePE)), _, rfl, D, _, rfl, .inl (SqL.of ((sL.trans c12) _ _ eDE)), _, _, rfl, rfl, rfl, _, rfl, ?_⟩
    dsimp only
    rw [neI (show (((endE (hand1 xs ys) (lv xs) (lv ys)).cost : Nat) : Int) = (((xs.map V.str).length : Nat) : Int) + (((ys.map V.str).length : Nat) : Int) by rw [hc3, hsum])]
    refine ⟨_, rfl, _, rfl, _, rfl, vm, (.ref ai), (.ref q3), (lv xs), (lv ys), _, _, rfl, dp_same c12 dmF, dp_same c12 diF, gx, gy, bx, by', hprod, dp_same c12 dh, WI3, end_names gy, fun Hc3 c3 => ?_⟩
    have sM := c12.trans c3
    refine ⟨_, rfl, _, rfl, P, _, rfl, .inl (SqL.of ((sL.trans sM) _ _ ePE)), _, rfl, D, _, rfl, .inl (SqL.of ((sL.trans sM) _ _ eDE)), _, _, rfl, rfl, rfl, rfl, _, rfl, ?_⟩
    dsimp only
    rw [end_zip, hc3, decide_eq_true rfl, hdd, Bool.true_and, neB (decide_comm _ _)]
    have sN : Same Hd Hc3 := sL.trans sM
    have dmG := dp_same sN dmE
    have diG := dp_same sN diE
    have ePG := sN _ _ ePE
    have eDG := sN _ _ eDE
    -- kept one by one
    obtain ⟨mn, hmn⟩ : ∃ mn, mn = min xs.length ys.length := ⟨_, rfl⟩
    have hm1 : mn ≤ xs.length := by omega
    have hm2 : mn ≤ ys.length := by omega
    generalize hzs : (xs.take mn).zip (ys.take mn) = zs at *
    have zl : zs.length = mn := by rw [← hzs, List.length_zip, List.length_take, List.length_take]; omega
    have zg : ∀ i, i < mn → ∃ t u, zs[i]? = some (t, u) ∧ xs[i]? = some t ∧ ys[i]? = some u := fun i hi => by
      obtain ⟨t, ht⟩ : ∃ t, xs[i]? = some t := ⟨_, List.getElem?_eq_getElem (by omega)⟩
      obtain ⟨u, hu⟩ : ∃ u, ys[i]? = some u := ⟨_, List.getElem?_eq_getElem (by omega)⟩
      refine ⟨t, u, ?_, ht, hu⟩
      rw [← hzs, List.getElem?_zip_eq_some, List.getElem?_take, List.getElem?_take, if_pos hi, if_pos hi]
      exact ⟨ht, hu⟩
    refine ⟨_, rfl, P, _, rfl, .inl (SqL.of ePG), _, rfl, D, _, rfl, .inl (SqL.of eDG), _, _, rfl, ?_⟩
    rw [show (if (((ys.map V.str).length : Nat) : Int) < (((xs.map V.str).length : Nat) : Int) then (((ys.map V.str).length : Nat) : Int) else (((xs.map V.str).length : Nat) : Int)) = (mn : Nat) by rw [List.length_map, List.length_map]; split <;> omega]
    refine ⟨Nat.zero_le _, fun KL hKL => ?_⟩
    have uK := sm_new hKL (o := .lst [])
    have nKL : Hc3 KL = none := hKL
    refine ⟨_, rfl, _, rfl, by omega, by omega, ?_⟩
    rw [Int.toNat_natCast]
    refine for_it walk_range (fun i σ' H' => ∃ x13, σ' = [some (.ref a), some (.ref b), some (.ref G), some (.ref P), some (.ref D), some (.int (dF (lv xs) (lv ys) : Nat)), some vm, some (.ref ai), some vw, some vb, some (.ref q3), some (.int (mn : Nat)), some (.ref KL), x13, none, none, none, none, none, none, none, none, none] ∧ Same Hc3 H' ∧ ∃ kv, H' KL = some (.lst kv) ∧ DpAll K H' kv (((zs.take i).flatMap keptT).map stD)) ⟨none, rfl, uK, [], upd_same, .nil⟩ (fun _ _ _ _ _ => True.intro) ?_ ?_
    · rintro i y σ' Ha Hb hi ⟨x13, rfl, sa, kv, eK, dk⟩ ⟨rfl, hyv⟩
      have hyv' : y = V.int ((i : Nat) : Int) := by rw [hyv]; show V.int (0 + _) = _; rw [Int.zero_add]
      subst hyv'
      obtain ⟨t, u, hz, hx, hy⟩ := zg i hi
      have hkl := dpa_len dk
      have hfl : ((zs.take i).flatMap keptT).length = 2 * i := by
        rw [kept_len, List.length_take]; omega
      rw [List.length_map, hfl] at hkl
      have ePa := sa _ _ ePG
      have eDa := sa _ _ eDG
      have axx : atI (xs.map V.str) ((i : Nat) : Int) = some (.str t) := atI_nat (by rw [List.getElem?_map, hx]; rfl)
      have ayy : atI (ys.map V.str) ((i : Nat) : Int) = some (.str u) := atI_nat (by rw [List.getElem?_map, hy]; rfl)
      refine ⟨_, rfl, .inl ⟨rfl, _, SqL.of eK⟩, _, rfl, _, rfl, P, _, _, _, rfl, rfl, SqL.of ePa, axx, _, rfl, _, rfl, D, _, _, _, rfl, rfl, SqL.of eDa, ayy, rfl, _, rfl, ?_⟩
      by_cases htu : t = u
      · rw [decide_eq_true (show V.str t = V.str u by rw [htu])]
        refine ⟨by show 2 ≤ sizeLine; omega, fun w1 hw1 => ⟨by show 1 ≤ sizeLine; omega, fun w2 hw2 => ⟨by show 2 ≤ sizeLine; omega, fun w3 hw3 => ?_⟩⟩⟩
        have n12 : w1 ≠ w2 := ne_of_none upd_same hw2
        have n13 : w1 ≠ w3 := ne_of_none ((upd_ne n12).trans upd_same) hw3
        have n23 : w2 ≠ w3 := ne_of_none upd_same hw3
        have su1 := sm_new hw1 (o := .tup [.str "turn", .non])
        have su2 := sm_put su1 (su1.free hw2) (o := .tup [.str "up"])
        have su3 := sm_put su2 (su2.free hw3) (o := .lst [.ref w1, .ref w2])
        have eK3 := su3 _ _ eK
        have kp := Kp.lst eK3 (o := .lst (kv ++ [V.ref w1, V.ref w2]))
        refine ⟨KL, w3, _, _, rfl, rfl, eK3, upd_same, by show kv.length + 2 ≤ sizeLine; omega, ?_⟩
        refine ⟨_, rfl, sm_put (sa.trans su3) nKL, _, upd_same, ?_⟩
        rw [take_one hz, List.flatMap_append, List.map_append]
        refine dpa_app (dpa_kp kp (nl_sts _) (dpa_same su3 dk)) ?_
        show DpAll K _ [V.ref w1, V.ref w2] [stD (.turn (turnT (t, u))), stD .up]
        have ht1 : turnT (t, u) = none := if_pos htu
        rw [ht1]
        exact .cons (.tup (kp.st (SqT.of ((upd_ne n13).trans ((upd_ne n12).trans upd_same)))) (.cons (.str _) (.cons .non .nil))) (.cons (.tup (kp.st (SqT.of ((upd_ne n23).trans upd_same))) (.cons (.str _) .nil)) .nil)
      · rw [decide_eq_false (show ¬ V.str t = V.str u from fun z => htu (V.str.inj z))]
        refine ⟨_, rfl, _, rfl, D, _, _, _, rfl, rfl, SqL.of eDa, ayy, ?_⟩
        refine ⟨by show 2 ≤ sizeLine; omega, fun w1 hw1 => ⟨by show 1 ≤ sizeLine; omega, fun w2 hw2 => ⟨by show 2 ≤ sizeLine; omega, fun w3 hw3 => ?_⟩⟩⟩
        have n12 : w1 ≠ w2 := ne_of_none upd_same hw2
        have n13 : w1 ≠ w3 := ne_of_none ((upd_ne n12).trans upd_same) hw3
        have n23 : w2 ≠ w3 := ne_of_none upd_same hw3
        have su1 := sm_new hw1 (o := .tup [.str "turn", .str u])
        have su2 := sm_put su1 (su1.free hw2) (o := .tup [.str "up"])
        have su3 := sm_put su2 (su2.free hw3) (o := .lst [.ref w1, .ref w2])
        have eK3 := su3 _ _ eK
        have kp := Kp.lst eK3 (o := .lst (kv ++ [V.ref w1, V.ref w2]))
        refine ⟨KL, w3, _, _, rfl, rfl, eK3, upd_same, by show kv.length + 2 ≤ sizeLine; omega, ?_⟩
        refine ⟨_, rfl, sm_put (sa.trans su3) nKL, _, upd_same, ?_⟩
        rw [take_one hz, List.flatMap_append, List.map_append]
        refine dpa_app (dpa_kp kp (nl_sts _) (dpa_same su3 dk)) ?_
        show DpAll K _ [V.ref w1, V.ref w2] [stD (.turn (turnT (t, u))), stD .up]
        have ht1 : turnT (t, u) = some u := if_neg htu
        rw [ht1]
        exact .cons (.tup (kp.st (SqT.of ((upd_ne n13).trans ((upd_ne n12).trans upd_same)))) (.cons (.str _) (.cons (.str _) .nil))) (.cons (.tup (kp.st (SqT.of ((upd_ne n23).trans upd_same))) (.cons (.str _) .nil)) .nil)
    rintro σ' H30 ⟨x13, rfl, s30, kv, eK, dk⟩
    rw [← zl, List.take_length] at dk
    have hkl := dpa_len dk
    rw [List.length_map, kept_len, zl] at hkl
    -- the hand
    refine ⟨_, rfl, KL, kv, rfl, .inl (SqL.of eK), fun q0 H31 s31 e0 => ?_⟩
    refine ⟨by show 1 ≤ sizeLine; omega, fun t3 ht3 => ⟨by show 1 ≤ sizeLine; omega, fun t4 ht4 => ?_⟩⟩
    have nt34 : t3 ≠ t4 := ne_of_none upd_same ht4
    have s32 := sm_put (sm_new ht3 (o := .tup [.str "out"])) ((sm_new ht3).free ht4) (o := .tup [.ref t3])
    have hto3 : Dp K (upd (upd H31 t3 (.tup [.str "out"])) t4 (.tup [.ref t3])) (.ref t3) (stD .out) := .tup (SqT.of ((upd_ne nt34).trans upd_same)) (.cons (.str _) .nil)
    have s312 := s31.trans s32
    refine ⟨_, rfl, P, _, rfl, .inl (SqL.of (s312 _ _ (s30 _ _ ePG))), _, rfl, _, _, rfl, rfl, t4, xs.length - mn, _, rfl, by rw [List.length_map]; show V.int _ = V.int _; rw [Int.natCast_sub hm1], SqT.of upd_same, by simp, by omega, by show 1 ≤ 1000; decide, fun q1' H33 s33 e1 => ?_⟩
    have e1' : SqT K H33 q1' (List.replicate (xs.length - mn) (V.ref t3)) := by rw [← rep1]; exact e1
    refine ⟨q0, q1', _, _, rfl, rfl, sm_st (s32.trans s33) e0, e1', by rw [List.length_replicate]; omega, fun q2' H34 s34 e2 => ?_⟩
    have s314 := s312.trans (s33.trans s34)
    have hcut : cutV wi (some ((mn : Nat) : Int)) none = wi.drop mn := by
      have hwl := dpa_len hdi
      rw [List.length_map, flat_len, zy] at hwl
      unfold cutV
      rw [HT.sIx_nat]
      show (wi.drop _).take (wi.length - _) = _
      rw [List.take_of_length_le (by rw [List.length_drop]; exact Nat.le_refl _)]
      congr 1
      omega
    refine ⟨_, rfl, _, rfl, (mn : Nat), rfl, ai, _, rfl, sm_st (sN.trans (s30.trans s314)) hai, fun qs Hg sg es => ?_⟩
    rw [hcut] at es
    have hsrc := es
    have hsd : DpAll K Hg (wi.drop mn) ((ys.drop mn).map fun t => ndD (t, 0)) := by
      have h := dpa_drop mn (dpa_same (sN.trans (s30.trans (s314.trans sg))) hdi)
      rw [lv_flat, List.map_map, ← List.map_drop] at h
      exact h
    refine ⟨qs, rfl, ⟨_, hsrc⟩, fun Z hZ => ?_⟩
    refine lc_it (walk_tup (xs := wi.drop mn)) (fun i H' => Same Hg H' ∧ ∃ vs, H' Z = some (.lst vs) ∧ DpAll K H' vs ((((ys.drop mn).take i).map insT).map stD)) ⟨sm_new hZ, [], upd_same, .nil⟩ (fun _ _ _ q => sm_st q.1 hsrc) ?_ ?_
    · rintro i y Ha Hb hi ⟨sa, vs, ev, dv⟩ ⟨rfl, hy⟩
      obtain ⟨dd, hd1, hd2⟩ := dpa_get' hsd hy
      have hdl := dpa_len hsd
      rw [List.length_map] at hdl
      obtain ⟨t, ht⟩ : ∃ t, (ys.drop mn)[i]? = some t := ⟨_, List.getElem?_eq_getElem (by omega)⟩
      rw [List.getElem?_map, ht] at hd1
      cases hd1
      have dl := dpa_len dv
      rw [List.length_map, List.length_map, List.length_take] at dl
      have hyd : (ys.drop mn).length ≤ 9 := by first | exact ysl | (rw [List.length_drop]; omega)
      refine ⟨rfl, _, rfl, by show 1 ≤ sizeLine; omega, fun w1 hw1 => ⟨by show 2 ≤ sizeLine; omega, fun w2 hw2 => ?_⟩⟩
      have su := sm_put (sm_new hw1 (o := .tup [y])) ((sm_new hw1).free hw2) (o := .tup [.str "in", .ref w1])
      have e2 := su _ _ ev
      have kp := Kp.lst e2 (o := .lst (vs ++ [V.ref w2]))
      have nw : w1 ≠ w2 := ne_of_none upd_same hw2
      refine ⟨vs, e2, by omega, sm_put (sa.trans su) hZ, _, upd_same, ?_⟩
      rw [take_one ht, List.map_append, List.map_append]
      refine dpa_app (dpa_kp kp (nl_sts _) (dpa_same su dv)) (.cons (.tup (kp.st (SqT.of upd_same)) (.cons (.str _) (.cons (.tup (kp.st (SqT.of ((upd_ne nw).trans upd_same))) (.cons (dp_kp kp (nl_nd _) (dp_same (sa.trans su) hd2)) .nil)) .nil))) .nil)
    rintro Hj ⟨sj, vs, ev, dv⟩
    have hdl := dpa_len hsd
    rw [List.length_map] at hdl
    rw [hdl, List.take_length] at dv
    refine ⟨Z, vs, rfl, .inl (SqL.of ev), fun q5 Hk sk e5 => ?_⟩
    have hvl := dpa_len dv
    rw [List.length_map, List.length_map, List.length_drop] at hvl
    have sjk := sg.trans (sj.trans sk)
    refine ⟨q2', q5, _, _, rfl, rfl, sm_st sjk e2, e5, by rw [List.length_append, List.length_replicate]; omega, fun q6 Hl sl e6 => ?_⟩
    have sL2 : Same Hc3 Hl := s30.trans (s314.trans (sjk.trans sl))
    obtain ⟨kl1, kl2, kl3⟩ := hand2_ok xs ys mn hm1 hm2
    rw [hzs] at kl2 kl3
    have dh2 : Dp K Hl (.ref q6) (wayD (hand2 xs ys mn).steps) := by
      rw [kl3]
      unfold wayD
      rw [List.map_append, List.map_append, List.map_replicate]
      exact .tup e6 (dpa_app (dpa_app (dpa_same (s314.trans (sjk.trans sl)) dk) (dpa_rep (dp_same ((s33.trans s34).trans (sjk.trans sl)) hto3) _)) (dpa_same (sk.trans sl) dv))
    -- its cost
    have ePl := sL2 _ _ ePG
    have eDl := sL2 _ _ eDG
    refine ⟨_, rfl, _, rfl, by omega, by omega, fun Y hY => ?_⟩
    rw [Int.toNat_natCast]
    refine lc_it walk_range (fun i H' => Same Hl H' ∧ ∃ ls, H' Y = some (.lst ls) ∧ ls.length = cN (zs.take i)) ⟨sm_new hY, [], upd_same, rfl⟩ (fun _ _ _ _ => True.intro) ?_ ?_
    · rintro i y Ha Hb hi ⟨sa, ls, eY, hll⟩ ⟨rfl, hyv⟩
      have hyv' : y = V.int ((i : Nat) : Int) := by rw [hyv]; show V.int (0 + _) = _; rw [Int.zero_add]
      subst hyv'
      obtain ⟨t, u, hz, hx, hy⟩ := zg i hi
      have axx : atI (xs.map V.str) ((i : Nat) : Int) = some (.str t) := atI_nat (by rw [List.getElem?_map, hx]; rfl)
      have ayy : atI (ys.map V.str) ((i : Nat) : Int) = some (.str u) := atI_nat (by rw [List.getElem?_map, hy]; rfl)
      have hcs : cN (zs.take (i + 1)) = cN (zs.take i) + ne1 t u := by
        rw [take_one hz]; unfold cN; rw [List.map_append, List.sum_append]; rfl
      have hcl := cN_le (zs.take i)
      rw [List.length_take] at hcl
      refine ⟨rfl, _, rfl, _, rfl, P, _, _, _, rfl, rfl, SqL.of (sa _ _ ePl), axx, _, rfl, _, rfl, D, _, _, _, rfl, rfl, SqL.of (sa _ _ eDl), ayy, rfl, _, rfl, ?_⟩
      by_cases htu : t = u
      · rw [decide_eq_true (show V.str t = V.str u by rw [htu])]
        refine ⟨sa, ls, eY, ?_⟩
        rw [hcs, hll]; unfold ne1; rw [if_pos htu]; rfl
      · rw [decide_eq_false (show ¬ V.str t = V.str u from fun z => htu (V.str.inj z))]
        refine ⟨_, rfl, ls, eY, by omega, sm_put sa hY, _, upd_same, ?_⟩
        rw [List.length_append, List.length_singleton, hcs, hll]; unfold ne1; rw [if_neg htu]
    rintro Hm ⟨sm', ls, eY, hll⟩
    rw [← zl, List.take_length] at hll
    refine ⟨Y, _, rfl, .inl (SqL.of eY), _, rfl, P, _, rfl, .inl (SqL.of (sm' _ _ ePl)), _, rfl, D, _, rfl, .inl (SqL.of (sm' _ _ eDl)), _, _, rfl, _, _, rfl, rfl, _, rfl, _, _, rfl, rfl, ?_⟩
    dsimp only
    rw [show ((ls.length : Nat) : Int) + (if (((ys.map V.str).length : Nat) : Int) > (((xs.map V.str).length : Nat) : Int) then (((ys.map V.str).length : Nat) : Int) else (((xs.map V.str).length : Nat) : Int)) - ((mn : Nat) : Int) = ((cN zs + (xs.length - mn) + (ys.length - mn) : Nat) : Int) by rw [hll, List.length_map, List.length_map]; split <;> omega]
    have WI4 : WayIn (lv xs) (hand2 xs ys mn).steps (endE (hand2 xs ys mn) (lv xs) (lv ys)) := way_in kl1 (hand2_good xs mn ny) gx bx by'
    have hc4 : (endE (hand2 xs ys mn) (lv xs) (lv ys)).cost = cN zs + (xs.length - mn) + (ys.length - mn) := kl2
    have sLm := sL2.trans sm'
    have dmH := dp_same sLm dmG
    have diH := dp_same sLm diG
    have dh2' := dp_same sm' dh2
    generalize hct : cN zs + (xs.length - mn) + (ys.length - mn) = ct at *
    refine ⟨_, rfl, _, rfl, vm, (.ref q6), (lv xs), _, _, rfl, dmH, dh2', WI4, fun v1 Hc1 c1 d1 => ?_⟩
    refine ⟨_, rfl, _, _, d1, dp_same c1 diH, Sh.ok (sh_row (end_names gy)), Sh.ok (sh_flat gy), _, rfl, ?_⟩
    rw [end_zip, eqv_rowD, decide_eq_true rfl]
    refine ⟨_, rfl, _, rfl, vm, (.ref q6), (lv xs), _, _, rfl, dp_same c1 dmH, dp_same c1 dh2', WI4, fun Hc2 c2 => ?_⟩
    have c12 := c1.trans c2
    refine ⟨_, rfl, rfl, _, rfl, ?_⟩
    rw [neI (show (((endE (hand2 xs ys mn) (lv xs) (lv ys)).cost : Nat) : Int) = ((ct : Nat) : Int) by rw [hc4])]
    refine ⟨_, rfl, _, rfl, _, rfl, vm, (.ref ai), (.ref q6), (lv xs), (lv ys), _, _, rfl, dp_same c12 dmH, dp_same c12 diH, gx, gy, bx, by', hprod, dp_same c12 dh2', WI4, end_names gy, fun Hc3 c3 => ?_⟩
    have sO := c12.trans c3
    refine ⟨_, rfl, _, rfl, rfl, rfl, _, rfl, ?_⟩
    rw [end_zip, hc4, decide_eq_true rfl, eqI, Bool.true_and, neB rfl]
    have sP := sLm.trans sO
    have dmI := dp_same sP dmG
    have diI := dp_same sP diG
    have ePI := sP _ _ ePG
    have eDI := sP _ _ eDG
    clear dmH diH dh2' dh2 dmG diG ePG eDG dmF diF dmE diE
    -- no tag in common
    refine ⟨by show 1 ≤ sizeLine; omega, fun z1 hz1 => ?_⟩
    have uz1 := sm_new hz1 (o := .lst [.str "z"])
    refine ⟨_, rfl, D, _, rfl, .inl (SqL.of (uz1 _ _ eDI)), z1, _, _, rfl, rfl, upd_same, by rw [List.length_map]; omega, by rw [List.length_map]; omega, by rw [List.length_map, Int.toNat_natCast]; show 1 * _ ≤ _; omega, fun z2 hz2 => ?_⟩
    have hzz : (List.replicate (((ys.map V.str).length : Nat) : Int).toNat [V.str "z"]).flatten = (List.replicate ys.length ("z" : Str)).map V.str := by
      rw [List.length_map, Int.toNat_natCast, rep1, List.map_replicate]
    rw [hzz]
    have uz2 := sm_put uz1 (uz1.free hz2) (o := .lst ((List.replicate ys.length ("z" : Str)).map V.str))
    refine ⟨z2, List.replicate ys.length ("z" : Str), rfl, SqL.of upd_same, by rw [List.length_replicate]; omega, fun vz H40 s40 dz => ?_⟩
    have s41 := uz2.trans s40
    have gz : (lv (List.replicate ys.length ("z" : Str))).good = true := lv_good fun t ht => by rw [(List.mem_replicate.mp ht).2]; decide +kernel
    have bz : (lv (List.replicate ys.length ("z" : Str))).size = ys.length := by rw [lv_size, List.length_replicate]
    refine ⟨_, rfl, _, rfl, vm, vz, lv xs, lv (List.replicate ys.length ("z" : Str)), rfl, dp_same s41 dmI, dz, gx, gz, bx, by omega, by rw [bz, ← zy]; exact hprod, fun H42 s42 => ?_⟩
    have s43 := s41.trans s42
    refine ⟨_, rfl, P, _, rfl, .inl (SqL.of (s43 _ _ ePI)), _, rfl, D, _, rfl, .inl (SqL.of (s43 _ _ eDI)), _, _, rfl, rfl, _, rfl, ?_⟩
    have hfar : dF (lv xs) (lv (List.replicate ys.length ("z" : Str))) = max xs.length ys.length := by
      have h := far_words (xs := xs) (ys := List.replicate ys.length ("z" : Str)) fun x hx y hy e => by
        have h1 := tgm x (xst x hx)
        rw [e, (List.mem_replicate.mp hy).2] at h1
        exact absurd h1 (by decide +kernel)
      rw [List.length_replicate] at h
      exact h
    rw [neI (show ((dF (lv xs) (lv (List.replicate ys.length ("z" : Str))) : Nat) : Int) = if (((ys.map V.str).length : Nat) : Int) > (((xs.map V.str).length : Nat) : Int) then (((ys.map V.str).length : Nat) : Int) else (((xs.map V.str).length : Nat) : Int) by rw [hfar, List.length_map, List.length_map]; split <;> omega)]
    obtain ⟨am, wm, rfl, ham, hdm⟩ := dp_tup dmI
    obtain ⟨ai2, wi2, e2i, hai2, hdi2⟩ := dp_tup diI
    cases e2i
    have hmq := dpa_same s43 hdm
    have hiq := dpa_same s43 hdi2
    have hamq := sm_st s43 ham
    have haiq := sm_st s43 hai2
    have ePq := s43 _ _ ePI
    have eDq := s43 _ _ eDI
    clear s43 s41 s42 uz1 uz2 s40
    -- below a node
    refine ⟨by show 2 ≤ sizeLine; omega, fun tw htw => ⟨tw, rfl, ⟨_, SqT.of upd_same⟩, ?_⟩⟩
    have utw := sm_new htw (o := .tup [.int 1, .int 2])
    have etw : upd H42 tw (.tup [.int 1, .int 2]) tw = some (.tup [.int 1, .int 2]) := upd_same
    refine for_it (walk_tup (xs := [V.int 1, V.int 2])) (fun i σ' H' => ∃ x16 x17 x18 x19 x20, σ' = [some (.ref a), some (.ref b), some (.ref G), some (.ref P), some (.ref D), some (.int (dF (lv xs) (lv ys) : Nat)), some (.ref am), some (.ref ai), some vw, some vb, some (.ref q6), some (.int (mn : Nat)), some (.ref KL), x13, some (.int (ct : Nat)), some vz, x16, x17, x18, x19, x20, none, none] ∧ Same H42 H' ∧ H' tw = some (.tup [.int 1, .int 2])) ⟨none, none, none, none, none, rfl, utw, etw⟩ (fun _ _ _ _ q => by obtain ⟨_, _, _, _, _, _, _, q⟩ := q; exact SqT.of q) ?_ ?_
    · rintro i y σ' Ha Hb hi ⟨x16, x17, x18, x19, x20, rfl, sa, etw⟩ ⟨rfl, hy⟩
      have hi2 : i < 2 := hi
      obtain ⟨av, rfl, hav⟩ : ∃ av : Int, y = V.int av ∧ (av - 1).toNat = i := by
        rcases (show i = 0 ∨ i = 1 by omega) with rfl | rfl
        · exact ⟨1, (Option.some.inj hy).symm, rfl⟩
        · exact ⟨2, (Option.some.inj hy).symm, rfl⟩
      have hav2 : av = i + 1 := by
        rcases (show i = 0 ∨ i = 1 by omega) with rfl | rfl
        · have := V.int.inj (Option.some.inj hy); omega
        · have := V.int.inj (Option.some.inj hy); omega
      refine ⟨by show 2 ≤ sizeLine; omega, fun a1 ha1 => ⟨by show 1 ≤ sizeLine; omega, fun b1 hb1 => ?_⟩⟩
      have ua1 := sm_new ha1 (o := .tup [.str "x", .int 1])
      have ub1 := sm_put ua1 (ua1.free hb1) (o := .lst [.ref a1])
      have nab1 : a1 ≠ b1 := ne_of_none upd_same hb1
      have da1 : Dp K (upd (upd Hb a1 (.tup [.str "x", .int 1])) b1 (.lst [.ref a1])) (.ref a1) (ndD ("x", 1)) := .tup (SqT.of ((upd_ne nab1).trans upd_same)) (.cons (.str _) (.cons (.int 1) .nil))
      refine ⟨_, rfl, _, _, rfl, rfl, b1, _, _, rfl, rfl, upd_same, by omega, by omega, by rw [hav]; show 1 * _ ≤ _; omega, fun c1 hc1 => ?_⟩
      rw [hav, rep1]
      have uc1 := sm_put ub1 (ub1.free hc1) (o := .lst (List.replicate i (V.ref a1)))
      refine ⟨_, rfl, P, _, rfl, .inl (SqL.of ((sa.trans uc1) _ _ ePq)), by show 2 ≤ sizeLine; omega, fun d1 hd1 => ⟨by show 1 ≤ sizeLine; omega, fun e1 he1 => ?_⟩⟩
      have ud1 := sm_put uc1 (uc1.free hd1) (o := .tup [.str "x", .int ((xs.map V.str).length : Nat)])
      have ue1 := sm_put ud1 (ud1.free he1) (o := .lst [.ref d1])
      have nde1 : d1 ≠ e1 := ne_of_none upd_same he1
      have ncd1 : c1 ≠ d1 := ne_of_none upd_same hd1
      have nce1 : c1 ≠ e1 := ne_of_none ((upd_ne ncd1).trans upd_same) he1
      have dd1 : Dp K (upd (upd (upd (upd (upd Hb a1 (.tup [.str "x", .int 1])) b1 (.lst [.ref a1])) c1 (.lst (List.replicate i (V.ref a1)))) d1 (.tup [.str "x", .int ((xs.map V.str).length : Nat)])) e1 (.lst [.ref d1])) (.ref d1) (ndD ("x", xs.length)) := .tup (SqT.of ((upd_ne nde1).trans upd_same)) (.cons (.str _) (.cons (by rw [List.length_map]; exact .int _) .nil))
      have da21 := dp_same (sm_new he1 (o := .lst [.ref d1])) (dp_same (sm_new hd1 (o := .tup [.str "x", .int ((xs.map V.str).length : Nat)])) (dp_same (sm_new hc1 (o := .lst (List.replicate i (V.ref a1)))) da1))
      refine ⟨c1, e1, _, _, rfl, rfl, (upd_ne nce1).trans ((upd_ne ncd1).trans upd_same), upd_same, by rw [List.length_replicate]; show i + 1 ≤ _; omega, fun f1 hf1 => ?_⟩
      refine ⟨f1, _, rfl, .inl (SqL.of upd_same), fun g1 Hg1 sg1 eg1 => ?_⟩
      have uf1 := sm_new hf1 (o := .lst (List.replicate i (V.ref a1) ++ [.ref d1]))
      have ug1 := ue1.trans (uf1.trans sg1)
      have hw1 := dpa_same (sa.trans ug1) hmq
      have hwl1 := dpa_len hw1
      rw [List.length_map, flat_len, lv_size] at hwl1
      refine ⟨_, rfl, g1, am, _, _, rfl, rfl, eg1, sm_st (sa.trans ug1) hamq, by rw [List.length_append, List.length_replicate]; show i + 1 + _ ≤ _; omega, fun q1 Hq1 sq1 eq1 => ?_⟩
      have uq1 := ug1.trans sq1
      have dq1 : Dp K Hq1 (.ref q1) (rowD (wrapF i (sub1 "x" (lv xs))).flat) := by
        rw [wrap_flat hi2, lv_len]
        refine .tup eq1 ?_
        rw [List.map_append, List.map_replicate, List.append_assoc]
        have mv := (uf1.trans sg1).trans sq1
        exact dpa_app (dpa_rep (dp_same mv da21) _) (.cons (dp_same mv dd1) (dpa_same sq1 hw1))
      have s1' := sa.trans uq1
      refine ⟨by show 2 ≤ sizeLine; omega, fun tv htv => ⟨tv, rfl, ⟨_, SqT.of upd_same⟩, ?_⟩⟩
      have utv := sm_new htv (o := .tup [.str "x", .str "y"])
      have etv : upd Hq1 tv (.tup [.str "x", .str "y"]) tv = some (.tup [.str "x", .str "y"]) := upd_same
      refine for_it (walk_tup (xs := [V.str "x", V.str "y"])) (fun j σ' H' => ∃ x18 x19 x20, σ' = [some (.ref a), some (.ref b), some (.ref G), some (.ref P), some (.ref D), some (.int (dF (lv xs) (lv ys) : Nat)), some (.ref am), some (.ref ai), some vw, some vb, some (.ref q6), some (.int (mn : Nat)), some (.ref KL), x13, some (.int (ct : Nat)), some vz, some (.int av), some (.ref q1), x18, x19, x20, none, none] ∧ Same Hq1 H' ∧ H' tv = some (.tup [.str "x", .str "y"])) ⟨x18, x19, x20, rfl, utv, etv⟩ (fun _ _ _ _ q => by obtain ⟨_, _, _, _, _, q⟩ := q; exact SqT.of q) ?_ ?_
      · rintro j y σ' Hc Hd' hj ⟨x18, x19, x20, rfl, sc, etv⟩ ⟨rfl, hy⟩
        have hj2 : j < 2 := hj
        obtain ⟨u, rfl, hu⟩ : ∃ u : Str, y = V.str u ∧ (u = "x" ∨ u = "y") := by
          rcases (show j = 0 ∨ j = 1 by omega) with rfl | rfl
          · exact ⟨"x", (Option.some.inj hy).symm, .inl rfl⟩
          · exact ⟨"y", (Option.some.inj hy).symm, .inr rfl⟩
        have s2' := s1'.trans sc
        have nu : isName u = true := by rcases hu with rfl | rfl <;> decide +kernel
        refine ⟨by show 2 ≤ sizeLine; omega, fun a2 ha2 => ⟨by show 1 ≤ sizeLine; omega, fun b2 hb2 => ?_⟩⟩
        have ua2 := sm_new ha2 (o := .tup [.str "x", .int 1])
        have ub2 := sm_put ua2 (ua2.free hb2) (o := .lst [.ref a2])
        have nab2 : a2 ≠ b2 := ne_of_none upd_same hb2
        have da2 : Dp K (upd (upd Hd' a2 (.tup [.str "x", .int 1])) b2 (.lst [.ref a2])) (.ref a2) (ndD ("x", 1)) := .tup (SqT.of ((upd_ne nab2).trans upd_same)) (.cons (.str _) (.cons (.int 1) .nil))
        refine ⟨_, rfl, _, _, rfl, rfl, b2, _, _, rfl, rfl, upd_same, by omega, by omega, by rw [hav]; show 1 * _ ≤ _; omega, fun c2 hc2 => ?_⟩
        rw [hav, rep1]
        have uc2 := sm_put ub2 (ub2.free hc2) (o := .lst (List.replicate i (V.ref a2)))
        refine ⟨_, rfl, _, rfl, D, _, rfl, .inl (SqL.of ((s2'.trans uc2) _ _ eDq)), by show 2 ≤ sizeLine; omega, fun d2 hd2 => ⟨by show 1 ≤ sizeLine; omega, fun e2 he2 => ?_⟩⟩
        have ud2 := sm_put uc2 (uc2.free hd2) (o := .tup [.str u, .int ((ys.map V.str).length : Nat)])
        have ue2 := sm_put ud2 (ud2.free he2) (o := .lst [.ref d2])
        have nde2 : d2 ≠ e2 := ne_of_none upd_same he2
        have ncd2 : c2 ≠ d2 := ne_of_none upd_same hd2
        have nce2 : c2 ≠ e2 := ne_of_none ((upd_ne ncd2).trans upd_same) he2
        have dd2 : Dp K (upd (upd (upd (upd (upd Hd' a2 (.tup [.str "x", .int 1])) b2 (.lst [.ref a2])) c2 (.lst (List.replicate i (V.ref a2)))) d2 (.tup [.str u, .int ((ys.map V.str).length : Nat)])) e2 (.lst [.ref d2])) (.ref d2) (ndD (u, ys.length)) := .tup (SqT.of ((upd_ne nde2).trans upd_same)) (.cons (.str _) (.cons (by rw [List.length_map]; exact .int _) .nil))
        have da22 := dp_same (sm_new he2 (o := .lst [.ref d2])) (dp_same (sm_new hd2 (o := .tup [.str u, .int ((ys.map V.str).length : Nat)])) (dp_same (sm_new hc2 (o := .lst (List.replicate i (V.ref a2)))) da2))
        refine ⟨c2, e2, _, _, rfl, rfl, (upd_ne nce2).trans ((upd_ne ncd2).trans upd_same), upd_same, by rw [List.length_replicate]; show i + 1 ≤ _; omega, fun f2 hf2 => ?_⟩
        refine ⟨f2, _, rfl, .inl (SqL.of upd_same), fun g2 Hg2 sg2 eg2 => ?_⟩
        have uf2 := sm_new hf2 (o := .lst (List.replicate i (V.ref a2) ++ [.ref d2]))
        have ug2 := ue2.trans (uf2.trans sg2)
        have hw2 := dpa_same (s2'.trans ug2) hiq
        have hwl2 := dpa_len hw2
        rw [List.length_map, flat_len, lv_size] at hwl2
        refine ⟨_, rfl, g2, ai, _, _, rfl, rfl, eg2, sm_st (s2'.trans ug2) haiq, by rw [List.length_append, List.length_replicate]; show i + 1 + _ ≤ _; omega, fun q2 Hq2 sq2 eq2 => ?_⟩
        have uq2 := ug2.trans sq2
        have dq2 : Dp K Hq2 (.ref q2) (rowD (wrapF i (sub1 u (lv ys))).flat) := by
          rw [wrap_flat hi2, lv_len]
          refine .tup eq2 ?_
          rw [List.map_append, List.map_replicate, List.append_assoc]
          have mv := (uf2.trans sg2).trans sq2
          exact dpa_app (dpa_rep (dp_same mv da22) _) (.cons (dp_same mv dd2) (dpa_same sq2 hw2))
        refine ⟨_, rfl, _, rfl, rfl, .inr ⟨_, rfl, _, _, rfl, rfl, ?_⟩⟩
        have hfr : ((dF (lv xs) (lv ys) : Nat) : Int) + (if decide (V.str u = V.str "y") = true then 1 else 0) = ((ne1 "x" u + dF (lv xs) (lv ys) : Nat) : Int) := by
          rcases hu with rfl | rfl
          · rw [decide_eq_false (show ¬ V.str "x" = V.str "y" by decide +kernel), ne1_self]
            show _ + 0 = _
            omega
          · rw [decide_eq_true (show V.str "y" = V.str "y" from rfl), show ne1 "x" "y" = 1 by decide +kernel]
            show _ + 1 = _
            omega
        dsimp only
        rw [hfr]
        have dq1' := dp_same (sc.trans uq2) dq1
        have g1' := wrap_good (i := i) hi2 (t := "x") (by decide +kernel) gx
        have g2' := wrap_good (i := i) hi2 (t := u) nu gy
        have z1' := wrap_size hi2 "x" (lv xs)
        have z2' := wrap_size hi2 u (lv ys)
        have l1' := wrap_len hi2 "x" (lv xs)
        have l2' := wrap_len hi2 u (lv ys)
        have hd' := wrap_dF hi2 "x" u (lv xs) (lv ys)
        have pr' : (wrapF i (sub1 "x" (lv xs))).size * (wrapF i (sub1 u (lv ys))).size ≤ 100000 := by
          rw [z1', z2', zx, zy]
          exact Nat.le_trans (Nat.mul_le_mul (show xs.length + 1 + i ≤ 11 by omega) (show ys.length + 1 + i ≤ 11 by omega)) (by decide)
        generalize wrapF i (sub1 "x" (lv xs)) = FA at *
        generalize wrapF i (sub1 u (lv ys)) = FB at *
        refine ⟨_, rfl, _, rfl, .ref q1, .ref q2, FA, FB, rfl, dq1', dq2, g1', g2', by omega, by omega, pr', l1', l2', fun He k1' => ?_⟩
        refine ⟨_, rfl, rfl, _, rfl, ?_⟩
        rw [neI (show ((dF FA FB : Nat) : Int) = ((ne1 "x" u + dF (lv xs) (lv ys) : Nat) : Int) by rw [hd'])]
        refine ⟨_, rfl, _, rfl, .ref q1, .ref q2, FA, FB, rfl, dp_same k1' dq1', dp_same k1' dq2, g1', g2', by omega, by omega, pr', fun Hf k2' => ?_⟩
        refine ⟨_, rfl, rfl, _, rfl, ?_⟩
        rw [neI (show ((dF FA FB : Nat) : Int) = ((ne1 "x" u + dF (lv xs) (lv ys) : Nat) : Int) by rw [hd'])]
        have k12 := k1'.trans k2'
        refine ⟨_, rfl, _, rfl, _, rfl, .ref q1, .ref q2, FA, FB, rfl, dp_same k12 dq1', dp_same k12 dq2, g1', g2', by omega, by omega, pr', fun vy Hg k3' dy => ?_⟩
        obtain ⟨al5, co5⟩ := best_ok FA FB
        have WI5 : WayIn FA (best FA FB).steps (endE (best FA FB) FA FB) := way_in al5 (best_good FA FB g1' g2') g1' (by omega) (by omega)
        have hc5 : (endE (best FA FB) FA FB).cost = dF FA FB := co5
        refine ⟨.ref q1, vy, FA, _, _, rfl, dp_same (k12.trans k3') dq1', dy, WI5, fun Hh k4' => ?_⟩
        refine ⟨_, rfl, rfl, _, rfl, ?_⟩
        rw [neI (show (((endE (best FA FB) FA FB).cost : Nat) : Int) = ((ne1 "x" u + dF (lv xs) (lv ys) : Nat) : Int) by rw [hc5, hd'])]
        have kAll := uq2.trans (k12.trans (k3'.trans k4'))
        exact ⟨_, _, _, rfl, sc.trans kAll, kAll _ _ etv⟩
      · rintro σ' Hc ⟨x18, x19, x20, rfl, sc, _⟩
        exact ⟨_, _, _, _, _, rfl, s1'.trans sc, sc _ _ (uq1 _ _ etw)⟩
    rintro σ' H50 ⟨x16, x17, x18, x19, x20, rfl, s50, _⟩
    have hm5 := dpa_same s50 hmq
    have hi5 := dpa_same s50 hiq
    have hms5 := sm_st s50 hamq
    have his5 := sm_st s50 haiq
    have eP5 := s50 _ _ ePq
    have eD5 := s50 _ _ eDq
    have nw : isName ("w" : Str) = true := by decide +kernel
    have gxw : (lv (xs ++ [("w" : Str)])).good = true := lv_good fun t ht => by
      rcases List.mem_append.mp ht with h | h
      · exact nx t h
      · rw [List.mem_singleton.mp h]; exact nw
    have gyw : (lv (ys ++ [("w" : Str)])).good = true := lv_good fun t ht => by
      rcases List.mem_append.mp ht with h | h
      · exact ny t h
      · rw [List.mem_singleton.mp h]; exact nw
    have gwx : (lv (("w" : Str) :: xs)).good = true := lv_good fun t ht => by
      rcases List.mem_cons.mp ht with h | h
      · rw [h]; exact nw
      · exact nx t h
    have gwy : (lv (("w" : Str) :: ys)).good = true := lv_good fun t ht => by
      rcases List.mem_cons.mp ht with h | h
      · rw [h]; exact nw
      · exact ny t h
    have zxw : (lv (xs ++ [("w" : Str)])).size = xs.length + 1 := by rw [lv_size, List.length_append]; rfl
    have zyw : (lv (ys ++ [("w" : Str)])).size = ys.length + 1 := by rw [lv_size, List.length_append]; rfl
    have zwx : (lv (("w" : Str) :: xs)).size = xs.length + 1 := by rw [lv_size]; rfl
    have zwy : (lv (("w" : Str) :: ys)).size = ys.length + 1 := by rw [lv_size]; rfl
    have prw : (xs.length + 1) * (ys.length + 1) ≤ 100000 := Nat.le_trans (Nat.mul_le_mul (show xs.length + 1 ≤ 10 by omega) (show ys.length + 1 ≤ 10 by omega)) (by decide)
    -- beside one node more
    have hD6 : DpAll K H50 _ ((lv xs).flat.map ndD) := hm5
    refine ⟨_, rfl, by show 2 ≤ sizeLine; omega, fun pa6 ha6 => ⟨by show 1 ≤ sizeLine; omega, fun pb6 hb6 => ?_⟩⟩
    have w16 := sm_new ha6 (o := .tup [.str "w", .int 0])
    have w26 := sm_put w16 (w16.free hb6) (o := .tup [.ref pa6])
    have nab6 : pa6 ≠ pb6 := ne_of_none upd_same hb6
    have dw6 : Dp K (upd (upd H50 pa6 (.tup [.str "w", .int 0])) pb6 (.tup [.ref pa6])) (.ref pa6) (ndD ("w", 0)) := .tup (SqT.of ((upd_ne nab6).trans upd_same)) (.cons (.str _) (.cons (.int _) .nil))
    have hl6 := dpa_len hD6
    rw [List.length_map, flat_len, lv_size] at hl6
    refine ⟨am, pb6, _, _, rfl, rfl, sm_st w26 hms5, SqT.of upd_same, by simp only [List.length_cons, List.length_nil]; omega, fun q6 Hq6 sq6 eq6 => ?_⟩
    have sw6 := w26.trans sq6
    have dq6 : Dp K Hq6 (.ref q6) (rowD (lv (xs ++ [("w" : Str)])).flat) := by
      have e : (lv (xs ++ [("w" : Str)])).flat = ((lv xs).flat ++ [(("w", 0) : Nd)]) := by rw [lv_flat, lv_flat, List.map_append]; rfl
      rw [e]
      refine .tup eq6 ?_
      rw [List.map_append]
      exact dpa_app (dpa_same (w26.trans sq6) hD6) (.cons (dp_same sq6 dw6) .nil)
    have hD7 : DpAll K Hq6 _ ((lv ys).flat.map ndD) := dpa_same sw6 hi5
    refine ⟨_, rfl, by show 2 ≤ sizeLine; omega, fun pa7 ha7 => ⟨by show 1 ≤ sizeLine; omega, fun pb7 hb7 => ?_⟩⟩
    have w17 := sm_new ha7 (o := .tup [.str "w", .int 0])
    have w27 := sm_put w17 (w17.free hb7) (o := .tup [.ref pa7])
    have nab7 : pa7 ≠ pb7 := ne_of_none upd_same hb7
    have dw7 : Dp K (upd (upd Hq6 pa7 (.tup [.str "w", .int 0])) pb7 (.tup [.ref pa7])) (.ref pa7) (ndD ("w", 0)) := .tup (SqT.of ((upd_ne nab7).trans upd_same)) (.cons (.str _) (.cons (.int _) .nil))
    have hl7 := dpa_len hD7
    rw [List.length_map, flat_len, lv_size] at hl7
    refine ⟨ai, pb7, _, _, rfl, rfl, sm_st w27 (sm_st sw6 his5), SqT.of upd_same, by simp only [List.length_cons, List.length_nil]; omega, fun q7 Hq7 sq7 eq7 => ?_⟩
    have sw7 := w27.trans sq7
    have dq7 : Dp K Hq7 (.ref q7) (rowD (lv (ys ++ [("w" : Str)])).flat) := by
      have e : (lv (ys ++ [("w" : Str)])).flat = ((lv ys).flat ++ [(("w", 0) : Nd)]) := by rw [lv_flat, lv_flat, List.map_append]; rfl
      rw [e]
      refine .tup eq7 ?_
      rw [List.map_append]
      exact dpa_app (dpa_same (w27.trans sq7) hD7) (.cons (dp_same sq7 dw7) .nil)
    refine ⟨.ref q6, .ref q7, lv (xs ++ [("w" : Str)]), lv (ys ++ [("w" : Str)]), rfl, dp_same sw7 dq6, dq7, gxw, gyw, by omega, by omega, by rw [zxw, zyw]; exact prw, fun H51 s51 => ?_⟩
    refine ⟨_, rfl, rfl, _, rfl, ?_⟩
    rw [neI (show ((dF (lv (xs ++ [("w" : Str)])) (lv (ys ++ [("w" : Str)])) : Nat) : Int) = ((dF (lv xs) (lv ys) : Nat) : Int) by rw [lv_snoc, lv_snoc, dF_both])]
    have t51 := sw6.trans (sw7.trans s51)
    have hD8 : DpAll K H51 _ ((lv xs).flat.map ndD) := dpa_same t51 hm5
    refine ⟨by show 2 ≤ sizeLine; omega, fun pa8 ha8 => ⟨by show 1 ≤ sizeLine; omega, fun pb8 hb8 => ?_⟩⟩
    have w18 := sm_new ha8 (o := .tup [.str "w", .int 0])
    have w28 := sm_put w18 (w18.free hb8) (o := .tup [.ref pa8])
    have nab8 : pa8 ≠ pb8 := ne_of_none upd_same hb8
    have dw8 : Dp K (upd (upd H51 pa8 (.tup [.str "w", .int 0])) pb8 (.tup [.ref pa8])) (.ref pa8) (ndD ("w", 0)) := .tup (SqT.of ((upd_ne nab8).trans upd_same)) (.cons (.str _) (.cons (.int _) .nil))
    have hl8 := dpa_len hD8
    rw [List.length_map, flat_len, lv_size] at hl8
    refine ⟨_, rfl, pb8, am, _, _, rfl, rfl, SqT.of upd_same, sm_st w28 (sm_st t51 hms5), by simp only [List.length_cons, List.length_nil]; omega, fun q8 Hq8 sq8 eq8 => ?_⟩
    have sw8 := w28.trans sq8
    have dq8 : Dp K Hq8 (.ref q8) (rowD (lv (("w" : Str) :: xs)).flat) := by
      have e : (lv (("w" : Str) :: xs)).flat = ((("w", 0) : Nd) :: (lv xs).flat) := by rw [lv_flat, lv_flat]; rfl
      rw [e]
      refine .tup eq8 ?_
      
      exact .cons (dp_same sq8 dw8) (dpa_same (w28.trans sq8) hD8)
    have hD9 : DpAll K Hq8 _ ((lv ys).flat.map ndD) := dpa_same (t51.trans sw8) hi5
    refine ⟨by show 2 ≤ sizeLine; omega, fun pa9 ha9 => ⟨by show 1 ≤ sizeLine; omega, fun pb9 hb9 => ?_⟩⟩
    have w19 := sm_new ha9 (o := .tup [.str "w", .int 0])
    have w29 := sm_put w19 (w19.free hb9) (o := .tup [.ref pa9])
    have nab9 : pa9 ≠ pb9 := ne_of_none upd_same hb9
    have dw9 : Dp K (upd (upd Hq8 pa9 (.tup [.str "w", .int 0])) pb9 (.tup [.ref pa9])) (.ref pa9) (ndD ("w", 0)) := .tup (SqT.of ((upd_ne nab9).trans upd_same)) (.cons (.str _) (.cons (.int _) .nil))
    have hl9 := dpa_len hD9
    rw [List.length_map, flat_len, lv_size] at hl9
    refine ⟨_, rfl, pb9, ai, _, _, rfl, rfl, SqT.of upd_same, sm_st w29 (sm_st (t51.trans sw8) his5), by simp only [List.length_cons, List.length_nil]; omega, fun q9 Hq9 sq9 eq9 => ?_⟩
    have sw9 := w29.trans sq9
    have dq9 : Dp K Hq9 (.ref q9) (rowD (lv (("w" : Str) :: ys)).flat) := by
      have e : (lv (("w" : Str) :: ys)).flat = ((("w", 0) : Nd) :: (lv ys).flat) := by rw [lv_flat, lv_flat]; rfl
      rw [e]
      refine .tup eq9 ?_
      
      exact .cons (dp_same sq9 dw9) (dpa_same (w29.trans sq9) hD9)
    refine ⟨.ref q8, .ref q9, lv (("w" : Str) :: xs), lv (("w" : Str) :: ys), rfl, dp_same sw9 dq8, dq9, gwx, gwy, by omega, by omega, by rw [zwx, zwy]; exact prw, fun H52 s52 => ?_⟩
    refine ⟨_, rfl, rfl, _, rfl, ?_⟩
    rw [neI (show ((dF (lv (("w" : Str) :: xs)) (lv (("w" : Str) :: ys)) : Nat) : Int) = ((dF (lv xs) (lv ys) : Nat) : Int) by rw [front])]
    have t52 := t51.trans (sw8.trans (sw9.trans s52))
    -- on one side alone
    have hD10 : DpAll K H52 _ ((lv xs).flat.map ndD) := dpa_same t52 hm5
    refine ⟨_, rfl, by show 2 ≤ sizeLine; omega, fun pa10 ha10 => ⟨by show 1 ≤ sizeLine; omega, fun pb10 hb10 => ?_⟩⟩
    have w110 := sm_new ha10 (o := .tup [.str "w", .int 0])
    have w210 := sm_put w110 (w110.free hb10) (o := .tup [.ref pa10])
    have nab10 : pa10 ≠ pb10 := ne_of_none upd_same hb10
    have dw10 : Dp K (upd (upd H52 pa10 (.tup [.str "w", .int 0])) pb10 (.tup [.ref pa10])) (.ref pa10) (ndD ("w", 0)) := .tup (SqT.of ((upd_ne nab10).trans upd_same)) (.cons (.str _) (.cons (.int _) .nil))
    have hl10 := dpa_len hD10
    rw [List.length_map, flat_len, lv_size] at hl10
    refine ⟨am, pb10, _, _, rfl, rfl, sm_st w210 (sm_st t52 hms5), SqT.of upd_same, by simp only [List.length_cons, List.length_nil]; omega, fun q10 Hq10 sq10 eq10 => ?_⟩
    have sw10 := w210.trans sq10
    have dq10 : Dp K Hq10 (.ref q10) (rowD (lv (xs ++ [("w" : Str)])).flat) := by
      have e : (lv (xs ++ [("w" : Str)])).flat = ((lv xs).flat ++ [(("w", 0) : Nd)]) := by rw [lv_flat, lv_flat, List.map_append]; rfl
      rw [e]
      refine .tup eq10 ?_
      rw [List.map_append]
      exact dpa_app (dpa_same (w210.trans sq10) hD10) (.cons (dp_same sq10 dw10) .nil)
    refine ⟨_, rfl, .ref q10, .ref ai, lv (xs ++ [("w" : Str)]), lv ys, rfl, dq10, .tup (sm_st (t52.trans sw10) his5) (dpa_same (t52.trans sw10) hi5), gxw, gy, by omega, by', by rw [zxw, zy]; exact Nat.le_trans (Nat.mul_le_mul (show xs.length + 1 ≤ 10 by omega) ysl) (by decide), fun H53 s53 => ?_⟩
    have t53 := t52.trans (sw10.trans s53)
    refine ⟨_, rfl, _, rfl, by show 1 ≤ sizeLine; omega, fun pw hpw => ?_⟩
    have uw := sm_new hpw (o := .lst [.str "w"])
    refine ⟨P, pw, _, _, rfl, rfl, uw _ _ (t53 _ _ eP5), upd_same, by rw [List.length_map]; show _ + 1 ≤ _; omega, fun pw2 hpw2 => ?_⟩
    have uw2 := sm_put uw (uw.free hpw2) (o := .lst (xs.map V.str ++ [.str "w"]))
    refine ⟨_, rfl, pw2, D, xs ++ [("w" : Str)], ys, rfl, SqL.of (by rw [upd_same, strs_app]), SqL.of (uw2 _ _ (t53 _ _ eD5)), by rw [List.length_append]; show _ + 1 < _; omega, by omega, fun H54 s54 => ?_⟩
    refine ⟨rfl, _, rfl, ?_⟩
    rw [decide_eq_true rfl]
    refine ⟨_, rfl, _, rfl, _, _, rfl, rfl, _, rfl, _, _, rfl, rfl, ?_⟩
    have hk := k H54
    have hle : (if ((dF (lv (xs ++ [("w" : Str)])) (lv ys) : Nat) : Int) - ((dF (lv xs) (lv ys) : Nat) : Int) < 0 then -(((dF (lv (xs ++ [("w" : Str)])) (lv ys) : Nat) : Int) - ((dF (lv xs) (lv ys) : Nat) : Int)) else ((dF (lv (xs ++ [("w" : Str)])) (lv ys) : Nat) : Int) - ((dF (lv xs) (lv ys) : Nat) : Int)) ≤ 1 := by
      rw [lv_snoc]
      have h1 := dF_up (lv xs) (lv ys) "w" .nil
      have h2 := dF_down (lv xs) "w" .nil (lv ys)
      have h3 : F.nil.size = 0 := rfl
      split <;> omega
    rw [← decide_eq_true hle] at hk
    exact hk

end Pp

set_option Elab.async false
set_option linter.all false
set_option autoImplicit false
set_option maxRecDepth 100000
set_option maxHeartbeats 4000000
namespace Pp
open PySem PySem.Spec L2
/-! ### the end -/
def spL (K : PySem.W.Frag) : Sp := fun vs H Q _ => ∃ (a : Addr) (ns : List Int), vs = [.ref a] ∧ SqL K H a (ns.map V.int) ∧ ∀ H', Q (.bl true) H'
theorem all_mk {l : PySem.W.OpenLaw} {w : World} {K : PySem.W.Frag} {h : Heap} {mg : Str → Option Value} {fa : Addr} (X : K.In h) (G : h.Ns mainGlobals mg) (hfa : mg "law" = some (.ref fa))
    {C_Distances : Addr} {C_Going : Addr} {f_is_number : Addr} {od_is_number an_is_number : Option Addr} {sl_is_number : Array (Option Value)} {oc_is_number kV_is_number dc_is_number cd_is_number ct_is_number pm_is_number : Value} {f_is_index : Addr} {od_is_index an_is_index : Option Addr} {sl_is_index : Array (Option Value)} {oc_is_index kV_is_index dc_is_index cd_is_index ct_is_index pm_is_index : Value} {f_is_name : Addr} {od_is_name an_is_name : Option Addr} {sl_is_name : Array (Option Value)} {oc_is_name kV_is_name dc_is_name cd_is_name ct_is_name pm_is_name : Value} {f_is_tuple_of : Addr} {od_is_tuple_of an_is_tuple_of : Option Addr} {sl_is_tuple_of : Array (Option Value)} {oc_is_tuple_of kV_is_tuple_of dc_is_tuple_of cd_is_tuple_of ct_is_tuple_of pm_is_tuple_of : Value} {f_is_sized : Addr} {od_is_sized an_is_sized : Option Addr} {sl_is_sized : Array (Option Value)} {oc_is_sized kV_is_sized dc_is_sized cd_is_sized ct_is_sized pm_is_sized : Value} {f_is_node : Addr} {od_is_node an_is_node : Option Addr} {sl_is_node : Array (Option Value)} {oc_is_node kV_is_node dc_is_node cd_is_node ct_is_node pm_is_node : Value} {f_are_nodes : Addr} {od_are_nodes an_are_nodes : Option Addr} {sl_are_nodes : Array (Option Value)} {oc_are_nodes kV_are_nodes dc_are_nodes cd_are_nodes ct_are_nodes pm_are_nodes : Value} {f_is_full : Addr} {od_is_full an_is_full : Option Addr} {sl_is_full : Array (Option Value)} {oc_is_full kV_is_full dc_is_full cd_is_full ct_is_full pm_is_full : Value} {f_is_row : Addr} {od_is_row an_is_row : Option Addr} {sl_is_row : Array (Option Value)} {oc_is_row kV_is_row dc_is_row cd_is_row ct_is_row pm_is_row : Value} {f_is_tree : Addr} {od_is_tree an_is_tree : Option Addr} {sl_is_tree : Array (Option Value)} {oc_is_tree kV_is_tree dc_is_tree cd_is_tree ct_is_tree pm_is_tree : Value} {f_check_node : Addr} {od_check_node an_check_node : Option Addr} {sl_check_node : Array (Option Value)} {oc_check_node kV_check_node dc_check_node cd_check_node ct_check_node pm_check_node : Value} {f_end_of : Addr} {od_end_of an_end_of : Option Addr} {sl_end_of : Array (Option Value)} {oc_end_of kV_end_of dc_end_of cd_end_of ct_end_of pm_end_of : Value} {f_roots : Addr} {od_roots an_roots : Option Addr} {sl_roots : Array (Option Value)} {oc_roots kV_roots dc_roots cd_roots ct_roots pm_roots : Value} {f_tree_at : Addr} {od_tree_at an_tree_at : Option Addr} {sl_tree_at : Array (Option Value)} {oc_tree_at kV_tree_at dc_tree_at cd_tree_at ct_tree_at pm_tree_at : Value} {f_check_rows : Addr} {od_check_rows an_check_rows : Option Addr} {sl_check_rows : Array (Option Value)} {oc_check_rows kV_check_rows dc_check_rows cd_check_rows ct_check_rows pm_check_rows : Value} {f_sizes_of : Addr} {od_sizes_of an_sizes_of : Option Addr} {sl_sizes_of : Array (Option Value)} {oc_sizes_of kV_sizes_of dc_sizes_of cd_sizes_of ct_sizes_of pm_sizes_of : Value} {f_least_sums : Addr} {od_least_sums an_least_sums : Option Addr} {sl_least_sums : Array (Option Value)} {oc_least_sums kV_least_sums dc_least_sums cd_least_sums ct_least_sums pm_least_sums : Value} {f_inner_of : Addr} {od_inner_of an_inner_of : Option Addr} {sl_inner_of : Array (Option Value)} {oc_inner_of kV_inner_of dc_inner_of cd_inner_of ct_inner_of pm_inner_of : Value} {f_Distances___init__ : Addr} {od_Distances___init__ an_Distances___init__ : Option Addr} {sl_Distances___init__ : Array (Option Value)} {oc_Distances___init__ kV_Distances___init__ dc_Distances___init__ cd_Distances___init__ ct_Distances___init__ pm_Distances___init__ : Value} {f_Distances_below : Addr} {od_Distances_below an_Distances_below : Option Addr} {sl_Distances_below : Array (Option Value)} {oc_Distances_below kV_Distances_below dc_Distances_below cd_Distances_below ct_Distances_below pm_Distances_below : Value} {f_Distances_with_sizes : Addr} {od_Distances_with_sizes an_Distances_with_sizes : Option Addr} {sl_Distances_with_sizes : Array (Option Value)} {oc_Distances_with_sizes kV_Distances_with_sizes dc_Distances_with_sizes cd_Distances_with_sizes ct_Distances_with_sizes pm_Distances_with_sizes : Value} {f_Distances_table : Addr} {od_Distances_table an_Distances_table : Option Addr} {sl_Distances_table : Array (Option Value)} {oc_Distances_table kV_Distances_table dc_Distances_table cd_Distances_table ct_Distances_table pm_Distances_table : Value} {f_Distances_told : Addr} {od_Distances_told an_Distances_told : Option Addr} {sl_Distances_told : Array (Option Value)} {oc_Distances_told kV_Distances_told dc_Distances_told cd_Distances_told ct_Distances_told pm_Distances_told : Value} {f_Distances_whole : Addr} {od_Distances_whole an_Distances_whole : Option Addr} {sl_Distances_whole : Array (Option Value)} {oc_Distances_whole kV_Distances_whole dc_Distances_whole cd_Distances_whole ct_Distances_whole pm_Distances_whole : Value} {f_row_distance : Addr} {od_row_distance an_row_distance : Option Addr} {sl_row_distance : Array (Option Value)} {oc_row_distance kV_row_distance dc_row_distance cd_row_distance ct_row_distance pm_row_distance : Value} {f_tree_distance : Addr} {od_tree_distance an_tree_distance : Option Addr} {sl_tree_distance : Array (Option Value)} {oc_tree_distance kV_tree_distance dc_tree_distance cd_tree_distance ct_tree_distance pm_tree_distance : Value} {f_is_step : Addr} {od_is_step an_is_step : Option Addr} {sl_is_step : Array (Option Value)} {oc_is_step kV_is_step dc_is_step cd_is_step ct_is_step pm_is_step : Value} {f_is_way : Addr} {od_is_way an_is_way : Option Addr} {sl_is_way : Array (Option Value)} {oc_is_way kV_is_way dc_is_way cd_is_way ct_is_way pm_is_way : Value} {f_Going___init__ : Addr} {od_Going___init__ an_Going___init__ : Option Addr} {sl_Going___init__ : Array (Option Value)} {oc_Going___init__ kV_Going___init__ dc_Going___init__ cd_Going___init__ ct_Going___init__ pm_Going___init__ : Value} {f_Going_go : Addr} {od_Going_go an_Going_go : Option Addr} {sl_Going_go : Array (Option Value)} {oc_Going_go kV_Going_go dc_Going_go cd_Going_go ct_Going_go pm_Going_go : Value} {f_Going_count : Addr} {od_Going_count an_Going_count : Option Addr} {sl_Going_count : Array (Option Value)} {oc_Going_count kV_Going_count dc_Going_count cd_Going_count ct_Going_count pm_Going_count : Value} {f_Going_put_in : Addr} {od_Going_put_in an_Going_put_in : Option Addr} {sl_Going_put_in : Array (Option Value)} {oc_Going_put_in kV_Going_put_in dc_Going_put_in cd_Going_put_in ct_Going_put_in pm_Going_put_in : Value} {f_Going_keep : Addr} {od_Going_keep an_Going_keep : Option Addr} {sl_Going_keep : Array (Option Value)} {oc_Going_keep kV_Going_keep dc_Going_keep cd_Going_keep ct_Going_keep pm_Going_keep : Value} {f_Going_behind : Addr} {od_Going_behind an_Going_behind : Option Addr} {sl_Going_behind : Array (Option Value)} {oc_Going_behind kV_Going_behind dc_Going_behind cd_Going_behind ct_Going_behind pm_Going_behind : Value} {f_going : Addr} {od_going an_going : Option Addr} {sl_going : Array (Option Value)} {oc_going kV_going dc_going cd_going ct_going pm_going : Value} {f_gone : Addr} {od_gone an_gone : Option Addr} {sl_gone : Array (Option Value)} {oc_gone kV_gone dc_gone cd_gone ct_gone pm_gone : Value} {f_cost_of : Addr} {od_cost_of an_cost_of : Option Addr} {sl_cost_of : Array (Option Value)} {oc_cost_of kV_cost_of dc_cost_of cd_cost_of ct_cost_of pm_cost_of : Value} {f_turned_back : Addr} {od_turned_back an_turned_back : Option Addr} {sl_turned_back : Array (Option Value)} {oc_turned_back kV_turned_back dc_turned_back cd_turned_back ct_turned_back pm_turned_back : Value} {f_moves_between : Addr} {od_moves_between an_moves_between : Option Addr} {sl_moves_between : Array (Option Value)} {oc_moves_between kV_moves_between dc_moves_between cd_moves_between ct_moves_between pm_moves_between : Value} {f_steps_between : Addr} {od_steps_between an_steps_between : Option Addr} {sl_steps_between : Array (Option Value)} {oc_steps_between kV_steps_between dc_steps_between cd_steps_between ct_steps_between pm_steps_between : Value} {f_way_of : Addr} {od_way_of an_way_of : Option Addr} {sl_way_of : Array (Option Value)} {oc_way_of kV_way_of dc_way_of cd_way_of ct_way_of pm_way_of : Value} {f_is_least_way : Addr} {od_is_least_way an_is_least_way : Option Addr} {sl_is_least_way : Array (Option Value)} {oc_is_least_way kV_is_least_way dc_is_least_way cd_is_least_way ct_is_least_way pm_is_least_way : Value} {f__law_bag : Addr} {od__law_bag an__law_bag : Option Addr} {sl__law_bag : Array (Option Value)} {oc__law_bag kV__law_bag dc__law_bag cd__law_bag ct__law_bag pm__law_bag : Value} {f__law_take : Addr} {od__law_take an__law_take : Option Addr} {sl__law_take : Array (Option Value)} {oc__law_take kV__law_take dc__law_take cd__law_take ct__law_take pm__law_take : Value} {f__law_some : Addr} {od__law_some an__law_some : Option Addr} {sl__law_some : Array (Option Value)} {oc__law_some kV__law_some dc__law_some cd__law_some ct__law_some pm__law_some : Value} {f__law_words : Addr} {od__law_words an__law_words : Option Addr} {sl__law_words : Array (Option Value)} {oc__law_words kV__law_words dc__law_words cd__law_words ct__law_words pm__law_words : Value} {f__law_leaves : Addr} {od__law_leaves an__law_leaves : Option Addr} {sl__law_leaves : Array (Option Value)} {oc__law_leaves kV__law_leaves dc__law_leaves cd__law_leaves ct__law_leaves pm__law_leaves : Value} {f_law : Addr} {od_law an_law : Option Addr} {sl_law : Array (Option Value)} {oc_law kV_law dc_law cd_law ct_law pm_law : Value} {t_LETTERS : Tok} {t_DIGITS : Tok} {t_MOST_LETTERS : Tok} {f_RESERVED : Addr} {t_RESERVED0 : Tok} {t_RESERVED1 : Tok} {t_RESERVED2 : Tok} {t_RESERVED3 : Tok} {t_RESERVED4 : Tok} {t_RESERVED5 : Tok} {t_RESERVED6 : Tok} {t_RESERVED7 : Tok} {t_RESERVED8 : Tok} {t_RESERVED9 : Tok} {t_RESERVED10 : Tok} {t_RESERVED11 : Tok} {t_RESERVED12 : Tok} {t_RESERVED13 : Tok} {t_RESERVED14 : Tok} {t_RESERVED15 : Tok} {t_RESERVED16 : Tok} {t_RESERVED17 : Tok} {t_RESERVED18 : Tok} {t_RESERVED19 : Tok} {t_RESERVED20 : Tok} {od_RESERVED : Option Addr} {sl_RESERVED : Array (Option Value)} {n_RESERVED : Nat} {t_MOST_COUPLES : Tok} {f_OUT : Addr} {t_OUT0 : Tok} {od_OUT : Option Addr} {sl_OUT : Array (Option Value)} {n_OUT : Nat} {f_UP : Addr} {t_UP0 : Tok} {od_UP : Option Addr} {sl_UP : Array (Option Value)} {n_UP : Nat}
    (a_Distances : PySem.W.nsIn K mainGlobals "Distances" = some (some (.ref C_Distances)))
    (pg_Distances : PySem.W.plainGet K C_Distances Str.empty = true)
    (hd_Distances : PySem.W.hasDictIn K C_Distances = true)
    (po_Distances : PySem.W.plainOver K C_Distances = true)
    (sa_Distances : PySem.W.findIn K (.ref C_Distances) "__setattr__" = some (some (.builtin "object.__setattr__")))
    (mk_Distances : PySem.W.makesIn K C_Distances = true)
    (kc_Distances : PySem.W.keepIn K (.ref C_Distances) = true)
    (na_Distances_rows : PySem.W.findIn K (.ref C_Distances) "rows" = some none)
    (na_Distances_sizes : PySem.W.findIn K (.ref C_Distances) "sizes" = some none)
    (na_Distances_inner : PySem.W.findIn K (.ref C_Distances) "inner" = some none)
    (na_Distances_between : PySem.W.findIn K (.ref C_Distances) "between" = some none)
    (a_Going : PySem.W.nsIn K mainGlobals "Going" = some (some (.ref C_Going)))
    (pg_Going : PySem.W.plainGet K C_Going Str.empty = true)
    (hd_Going : PySem.W.hasDictIn K C_Going = true)
    (po_Going : PySem.W.plainOver K C_Going = true)
    (sa_Going : PySem.W.findIn K (.ref C_Going) "__setattr__" = some (some (.builtin "object.__setattr__")))
    (mk_Going : PySem.W.makesIn K C_Going = true)
    (kc_Going : PySem.W.keepIn K (.ref C_Going) = true)
    (na_Going_row : PySem.W.findIn K (.ref C_Going) "row" = some none)
    (na_Going_inner : PySem.W.findIn K (.ref C_Going) "inner" = some none)
    (na_Going_sizes : PySem.W.findIn K (.ref C_Going) "sizes" = some none)
    (na_Going_cost : PySem.W.findIn K (.ref C_Going) "cost" = some none)
    (na_Going_back : PySem.W.findIn K (.ref C_Going) "back" = some none)
    (na_Going_tags : PySem.W.findIn K (.ref C_Going) "tags" = some none)
    (na_Going_counts : PySem.W.findIn K (.ref C_Going) "counts" = some none)
    (na_Going_frames : PySem.W.findIn K (.ref C_Going) "frames" = some none)
    (a_is_number : PySem.W.nsIn K mainGlobals "is_number" = some (some (.ref f_is_number)))
    (l_is_number : K.lookup f_is_number = some ⟨oc_is_number, od_is_number, .func (PySem.W.fnOf "is_number" "is_number" (defArgs s_is_number) (defBody s_is_number) (defScope s_is_number) .none kV_is_number dc_is_number pm_is_number an_is_number cd_is_number ct_is_number), sl_is_number⟩)
    (c_is_number : PySem.W.codeIn K cd_is_number "is_number" = true)
    (k_is_number : PySem.W.keepIn K (.ref f_is_number) = true)
    (a_is_index : PySem.W.nsIn K mainGlobals "is_index" = some (some (.ref f_is_index)))
    (l_is_index : K.lookup f_is_index = some ⟨oc_is_index, od_is_index, .func (PySem.W.fnOf "is_index" "is_index" (defArgs s_is_index) (defBody s_is_index) (defScope s_is_index) .none kV_is_index dc_is_index pm_is_index an_is_index cd_is_index ct_is_index), sl_is_index⟩)
    (c_is_index : PySem.W.codeIn K cd_is_index "is_index" = true)
    (k_is_index : PySem.W.keepIn K (.ref f_is_index) = true)
    (a_is_name : PySem.W.nsIn K mainGlobals "is_name" = some (some (.ref f_is_name)))
    (l_is_name : K.lookup f_is_name = some ⟨oc_is_name, od_is_name, .func (PySem.W.fnOf "is_name" "is_name" (defArgs s_is_name) (defBody s_is_name) (defScope s_is_name) .none kV_is_name dc_is_name pm_is_name an_is_name cd_is_name ct_is_name), sl_is_name⟩)
    (c_is_name : PySem.W.codeIn K cd_is_name "is_name" = true)
    (k_is_name : PySem.W.keepIn K (.ref f_is_name) = true)
    (a_is_tuple_of : PySem.W.nsIn K mainGlobals "is_tuple_of" = some (some (.ref f_is_tuple_of)))
    (l_is_tuple_of : K.lookup f_is_tuple_of = some ⟨oc_is_tuple_of, od_is_tuple_of, .func (PySem.W.fnOf "is_tuple_of" "is_tuple_of" (defArgs s_is_tuple_of) (defBody s_is_tuple_of) (defScope s_is_tuple_of) .none kV_is_tuple_of dc_is_tuple_of pm_is_tuple_of an_is_tuple_of cd_is_tuple_of ct_is_tuple_of), sl_is_tuple_of⟩)
    (c_is_tuple_of : PySem.W.codeIn K cd_is_tuple_of "is_tuple_of" = true)
    (k_is_tuple_of : PySem.W.keepIn K (.ref f_is_tuple_of) = true)
    (a_is_sized : PySem.W.nsIn K mainGlobals "is_sized" = some (some (.ref f_is_sized)))
    (l_is_sized : K.lookup f_is_sized = some ⟨oc_is_sized, od_is_sized, .func (PySem.W.fnOf "is_sized" "is_sized" (defArgs s_is_sized) (defBody s_is_sized) (defScope s_is_sized) .none kV_is_sized dc_is_sized pm_is_sized an_is_sized cd_is_sized ct_is_sized), sl_is_sized⟩)
    (c_is_sized : PySem.W.codeIn K cd_is_sized "is_sized" = true)
    (k_is_sized : PySem.W.keepIn K (.ref f_is_sized) = true)
    (a_is_node : PySem.W.nsIn K mainGlobals "is_node" = some (some (.ref f_is_node)))
    (l_is_node : K.lookup f_is_node = some ⟨oc_is_node, od_is_node, .func (PySem.W.fnOf "is_node" "is_node" (defArgs s_is_node) (defBody s_is_node) (defScope s_is_node) .none kV_is_node dc_is_node pm_is_node an_is_node cd_is_node ct_is_node), sl_is_node⟩)
    (c_is_node : PySem.W.codeIn K cd_is_node "is_node" = true)
    (k_is_node : PySem.W.keepIn K (.ref f_is_node) = true)
    (a_are_nodes : PySem.W.nsIn K mainGlobals "are_nodes" = some (some (.ref f_are_nodes)))
    (l_are_nodes : K.lookup f_are_nodes = some ⟨oc_are_nodes, od_are_nodes, .func (PySem.W.fnOf "are_nodes" "are_nodes" (defArgs s_are_nodes) (defBody s_are_nodes) (defScope s_are_nodes) .none kV_are_nodes dc_are_nodes pm_are_nodes an_are_nodes cd_are_nodes ct_are_nodes), sl_are_nodes⟩)
    (c_are_nodes : PySem.W.codeIn K cd_are_nodes "are_nodes" = true)
    (k_are_nodes : PySem.W.keepIn K (.ref f_are_nodes) = true)
    (a_is_full : PySem.W.nsIn K mainGlobals "is_full" = some (some (.ref f_is_full)))
    (l_is_full : K.lookup f_is_full = some ⟨oc_is_full, od_is_full, .func (PySem.W.fnOf "is_full" "is_full" (defArgs s_is_full) (defBody s_is_full) (defScope s_is_full) .none kV_is_full dc_is_full pm_is_full an_is_full cd_is_full ct_is_full), sl_is_full⟩)
    (c_is_full : PySem.W.codeIn K cd_is_full "is_full" = true)
    (k_is_full : PySem.W.keepIn K (.ref f_is_full) = true)
    (a_is_row : PySem.W.nsIn K mainGlobals "is_row" = some (some (.ref f_is_row)))
    (l_is_row : K.lookup f_is_row = some ⟨oc_is_row, od_is_row, .func (PySem.W.fnOf "is_row" "is_row" (defArgs s_is_row) (defBody s_is_row) (defScope s_is_row) .none kV_is_row dc_is_row pm_is_row an_is_row cd_is_row ct_is_row), sl_is_row⟩)
    (c_is_row : PySem.W.codeIn K cd_is_row "is_row" = true)
    (k_is_row : PySem.W.keepIn K (.ref f_is_row) = true)
    (a_is_tree : PySem.W.nsIn K mainGlobals "is_tree" = some (some (.ref f_is_tree)))
    (l_is_tree : K.lookup f_is_tree = some ⟨oc_is_tree, od_is_tree, .func (PySem.W.fnOf "is_tree" "is_tree" (defArgs s_is_tree) (defBody s_is_tree) (defScope s_is_tree) .none kV_is_tree dc_is_tree pm_is_tree an_is_tree cd_is_tree ct_is_tree), sl_is_tree⟩)
    (c_is_tree : PySem.W.codeIn K cd_is_tree "is_tree" = true)
    (k_is_tree : PySem.W.keepIn K (.ref f_is_tree) = true)
    (a_check_node : PySem.W.nsIn K mainGlobals "check_node" = some (some (.ref f_check_node)))
    (l_check_node : K.lookup f_check_node = some ⟨oc_check_node, od_check_node, .func (PySem.W.fnOf "check_node" "check_node" (defArgs s_check_node) (defBody s_check_node) (defScope s_check_node) .none kV_check_node dc_check_node pm_check_node an_check_node cd_check_node ct_check_node), sl_check_node⟩)
    (c_check_node : PySem.W.codeIn K cd_check_node "check_node" = true)
    (k_check_node : PySem.W.keepIn K (.ref f_check_node) = true)
    (a_end_of : PySem.W.nsIn K mainGlobals "end_of" = some (some (.ref f_end_of)))
    (l_end_of : K.lookup f_end_of = some ⟨oc_end_of, od_end_of, .func (PySem.W.fnOf "end_of" "end_of" (defArgs s_end_of) (defBody s_end_of) (defScope s_end_of) .none kV_end_of dc_end_of pm_end_of an_end_of cd_end_of ct_end_of), sl_end_of⟩)
    (c_end_of : PySem.W.codeIn K cd_end_of "end_of" = true)
    (k_end_of : PySem.W.keepIn K (.ref f_end_of) = true)
    (a_roots : PySem.W.nsIn K mainGlobals "roots" = some (some (.ref f_roots)))
    (l_roots : K.lookup f_roots = some ⟨oc_roots, od_roots, .func (PySem.W.fnOf "roots" "roots" (defArgs s_roots) (defBody s_roots) (defScope s_roots) .none kV_roots dc_roots pm_roots an_roots cd_roots ct_roots), sl_roots⟩)
    (c_roots : PySem.W.codeIn K cd_roots "roots" = true)
    (k_roots : PySem.W.keepIn K (.ref f_roots) = true)
    (a_tree_at : PySem.W.nsIn K mainGlobals "tree_at" = some (some (.ref f_tree_at)))
    (l_tree_at : K.lookup f_tree_at = some ⟨oc_tree_at, od_tree_at, .func (PySem.W.fnOf "tree_at" "tree_at" (defArgs s_tree_at) (defBody s_tree_at) (defScope s_tree_at) .none kV_tree_at dc_tree_at pm_tree_at an_tree_at cd_tree_at ct_tree_at), sl_tree_at⟩)
    (c_tree_at : PySem.W.codeIn K cd_tree_at "tree_at" = true)
    (k_tree_at : PySem.W.keepIn K (.ref f_tree_at) = true)
    (a_check_rows : PySem.W.nsIn K mainGlobals "check_rows" = some (some (.ref f_check_rows)))
    (l_check_rows : K.lookup f_check_rows = some ⟨oc_check_rows, od_check_rows, .func (PySem.W.fnOf "check_rows" "check_rows" (defArgs s_check_rows) (defBody s_check_rows) (defScope s_check_rows) .none kV_check_rows dc_check_rows pm_check_rows an_check_rows cd_check_rows ct_check_rows), sl_check_rows⟩)
    (c_check_rows : PySem.W.codeIn K cd_check_rows "check_rows" = true)
    (k_check_rows : PySem.W.keepIn K (.ref f_check_rows) = true)
    (a_sizes_of : PySem.W.nsIn K mainGlobals "sizes_of" = some (some (.ref f_sizes_of)))
    (l_sizes_of : K.lookup f_sizes_of = some ⟨oc_sizes_of, od_sizes_of, .func (PySem.W.fnOf "sizes_of" "sizes_of" (defArgs s_sizes_of) (defBody s_sizes_of) (defScope s_sizes_of) .none kV_sizes_of dc_sizes_of pm_sizes_of an_sizes_of cd_sizes_of ct_sizes_of), sl_sizes_of⟩)
    (c_sizes_of : PySem.W.codeIn K cd_sizes_of "sizes_of" = true)
    (k_sizes_of : PySem.W.keepIn K (.ref f_sizes_of) = true)
    (a_least_sums : PySem.W.nsIn K mainGlobals "least_sums" = some (some (.ref f_least_sums)))
    (l_least_sums : K.lookup f_least_sums = some ⟨oc_least_sums, od_least_sums, .func (PySem.W.fnOf "least_sums" "least_sums" (defArgs s_least_sums) (defBody s_least_sums) (defScope s_least_sums) .none kV_least_sums dc_least_sums pm_least_sums an_least_sums cd_least_sums ct_least_sums), sl_least_sums⟩)
    (c_least_sums : PySem.W.codeIn K cd_least_sums "least_sums" = true)
    (k_least_sums : PySem.W.keepIn K (.ref f_least_sums) = true)
    (a_inner_of : PySem.W.nsIn K mainGlobals "inner_of" = some (some (.ref f_inner_of)))
    (l_inner_of : K.lookup f_inner_of = some ⟨oc_inner_of, od_inner_of, .func (PySem.W.fnOf "inner_of" "inner_of" (defArgs s_inner_of) (defBody s_inner_of) (defScope s_inner_of) .none kV_inner_of dc_inner_of pm_inner_of an_inner_of cd_inner_of ct_inner_of), sl_inner_of⟩)
    (c_inner_of : PySem.W.codeIn K cd_inner_of "inner_of" = true)
    (k_inner_of : PySem.W.keepIn K (.ref f_inner_of) = true)
    (a_Distances___init__ : PySem.W.findIn K (.ref C_Distances) "__init__" = some (some (.ref f_Distances___init__)))
    (i_Distances___init__ : PySem.W.isFn K (.ref f_Distances___init__) = true)
    (l_Distances___init__ : K.lookup f_Distances___init__ = some ⟨oc_Distances___init__, od_Distances___init__, .func (PySem.W.fnOf "__init__" "Distances.__init__" (defArgs s_Distances___init__) (defBody s_Distances___init__) (defScope s_Distances___init__) .none kV_Distances___init__ dc_Distances___init__ pm_Distances___init__ an_Distances___init__ cd_Distances___init__ ct_Distances___init__), sl_Distances___init__⟩)
    (c_Distances___init__ : PySem.W.codeIn K cd_Distances___init__ "Distances.__init__" = true)
    (k_Distances___init__ : PySem.W.keepIn K (.ref f_Distances___init__) = true)
    (a_Distances_below : PySem.W.findIn K (.ref C_Distances) "below" = some (some (.ref f_Distances_below)))
    (i_Distances_below : PySem.W.isFn K (.ref f_Distances_below) = true)
    (l_Distances_below : K.lookup f_Distances_below = some ⟨oc_Distances_below, od_Distances_below, .func (PySem.W.fnOf "below" "Distances.below" (defArgs s_Distances_below) (defBody s_Distances_below) (defScope s_Distances_below) .none kV_Distances_below dc_Distances_below pm_Distances_below an_Distances_below cd_Distances_below ct_Distances_below), sl_Distances_below⟩)
    (c_Distances_below : PySem.W.codeIn K cd_Distances_below "Distances.below" = true)
    (k_Distances_below : PySem.W.keepIn K (.ref f_Distances_below) = true)
    (a_Distances_with_sizes : PySem.W.findIn K (.ref C_Distances) "with_sizes" = some (some (.ref f_Distances_with_sizes)))
    (i_Distances_with_sizes : PySem.W.isFn K (.ref f_Distances_with_sizes) = true)
    (l_Distances_with_sizes : K.lookup f_Distances_with_sizes = some ⟨oc_Distances_with_sizes, od_Distances_with_sizes, .func (PySem.W.fnOf "with_sizes" "Distances.with_sizes" (defArgs s_Distances_with_sizes) (defBody s_Distances_with_sizes) (defScope s_Distances_with_sizes) .none kV_Distances_with_sizes dc_Distances_with_sizes pm_Distances_with_sizes an_Distances_with_sizes cd_Distances_with_sizes ct_Distances_with_sizes), sl_Distances_with_sizes⟩)
    (c_Distances_with_sizes : PySem.W.codeIn K cd_Distances_with_sizes "Distances.with_sizes" = true)
    (k_Distances_with_sizes : PySem.W.keepIn K (.ref f_Distances_with_sizes) = true)
    (a_Distances_table : PySem.W.findIn K (.ref C_Distances) "table" = some (some (.ref f_Distances_table)))
    (i_Distances_table : PySem.W.isFn K (.ref f_Distances_table) = true)
    (l_Distances_table : K.lookup f_Distances_table = some ⟨oc_Distances_table, od_Distances_table, .func (PySem.W.fnOf "table" "Distances.table" (defArgs s_Distances_table) (defBody s_Distances_table) (defScope s_Distances_table) .none kV_Distances_table dc_Distances_table pm_Distances_table an_Distances_table cd_Distances_table ct_Distances_table), sl_Distances_table⟩)
    (c_Distances_table : PySem.W.codeIn K cd_Distances_table "Distances.table" = true)
    (k_Distances_table : PySem.W.keepIn K (.ref f_Distances_table) = true)
    (a_Distances_told : PySem.W.findIn K (.ref C_Distances) "told" = some (some (.ref f_Distances_told)))
    (i_Distances_told : PySem.W.isFn K (.ref f_Distances_told) = true)
    (l_Distances_told : K.lookup f_Distances_told = some ⟨oc_Distances_told, od_Distances_told, .func (PySem.W.fnOf "told" "Distances.told" (defArgs s_Distances_told) (defBody s_Distances_told) (defScope s_Distances_told) .none kV_Distances_told dc_Distances_told pm_Distances_told an_Distances_told cd_Distances_told ct_Distances_told), sl_Distances_told⟩)
    (c_Distances_told : PySem.W.codeIn K cd_Distances_told "Distances.told" = true)
    (k_Distances_told : PySem.W.keepIn K (.ref f_Distances_told) = true)
    (a_Distances_whole : PySem.W.findIn K (.ref C_Distances) "whole" = some (some (.ref f_Distances_whole)))
    (i_Distances_whole : PySem.W.isFn K (.ref f_Distances_whole) = true)
    (l_Distances_whole : K.lookup f_Distances_whole = some ⟨oc_Distances_whole, od_Distances_whole, .func (PySem.W.fnOf "whole" "Distances.whole" (defArgs s_Distances_whole) (defBody s_Distances_whole) (defScope s_Distances_whole) .none kV_Distances_whole dc_Distances_whole pm_Distances_whole an_Distances_whole cd_Distances_whole ct_Distances_whole), sl_Distances_whole⟩)
    (c_Distances_whole : PySem.W.codeIn K cd_Distances_whole "Distances.whole" = true)
    (k_Distances_whole : PySem.W.keepIn K (.ref f_Distances_whole) = true)
    (a_row_distance : PySem.W.nsIn K mainGlobals "row_distance" = some (some (.ref f_row_distance)))
    (l_row_distance : K.lookup f_row_distance = some ⟨oc_row_distance, od_row_distance, .func (PySem.W.fnOf "row_distance" "row_distance" (defArgs s_row_distance) (defBody s_row_distance) (defScope s_row_distance) .none kV_row_distance dc_row_distance pm_row_distance an_row_distance cd_row_distance ct_row_distance), sl_row_distance⟩)
    (c_row_distance : PySem.W.codeIn K cd_row_distance "row_distance" = true)
    (k_row_distance : PySem.W.keepIn K (.ref f_row_distance) = true)
    (a_tree_distance : PySem.W.nsIn K mainGlobals "tree_distance" = some (some (.ref f_tree_distance)))
    (l_tree_distance : K.lookup f_tree_distance = some ⟨oc_tree_distance, od_tree_distance, .func (PySem.W.fnOf "tree_distance" "tree_distance" (defArgs s_tree_distance) (defBody s_tree_distance) (defScope s_tree_distance) .none kV_tree_distance dc_tree_distance pm_tree_distance an_tree_distance cd_tree_distance ct_tree_distance), sl_tree_distance⟩)
    (c_tree_distance : PySem.W.codeIn K cd_tree_distance "tree_distance" = true)
    (k_tree_distance : PySem.W.keepIn K (.ref f_tree_distance) = true)
    (a_is_step : PySem.W.nsIn K mainGlobals "is_step" = some (some (.ref f_is_step)))
    (l_is_step : K.lookup f_is_step = some ⟨oc_is_step, od_is_step, .func (PySem.W.fnOf "is_step" "is_step" (defArgs s_is_step) (defBody s_is_step) (defScope s_is_step) .none kV_is_step dc_is_step pm_is_step an_is_step cd_is_step ct_is_step), sl_is_step⟩)
    (c_is_step : PySem.W.codeIn K cd_is_step "is_step" = true)
    (k_is_step : PySem.W.keepIn K (.ref f_is_step) = true)
    (a_is_way : PySem.W.nsIn K mainGlobals "is_way" = some (some (.ref f_is_way)))
    (l_is_way : K.lookup f_is_way = some ⟨oc_is_way, od_is_way, .func (PySem.W.fnOf "is_way" "is_way" (defArgs s_is_way) (defBody s_is_way) (defScope s_is_way) .none kV_is_way dc_is_way pm_is_way an_is_way cd_is_way ct_is_way), sl_is_way⟩)
    (c_is_way : PySem.W.codeIn K cd_is_way "is_way" = true)
    (k_is_way : PySem.W.keepIn K (.ref f_is_way) = true)
    (a_Going___init__ : PySem.W.findIn K (.ref C_Going) "__init__" = some (some (.ref f_Going___init__)))
    (i_Going___init__ : PySem.W.isFn K (.ref f_Going___init__) = true)
    (l_Going___init__ : K.lookup f_Going___init__ = some ⟨oc_Going___init__, od_Going___init__, .func (PySem.W.fnOf "__init__" "Going.__init__" (defArgs s_Going___init__) (defBody s_Going___init__) (defScope s_Going___init__) .none kV_Going___init__ dc_Going___init__ pm_Going___init__ an_Going___init__ cd_Going___init__ ct_Going___init__), sl_Going___init__⟩)
    (c_Going___init__ : PySem.W.codeIn K cd_Going___init__ "Going.__init__" = true)
    (k_Going___init__ : PySem.W.keepIn K (.ref f_Going___init__) = true)
    (a_Going_go : PySem.W.findIn K (.ref C_Going) "go" = some (some (.ref f_Going_go)))
    (i_Going_go : PySem.W.isFn K (.ref f_Going_go) = true)
    (l_Going_go : K.lookup f_Going_go = some ⟨oc_Going_go, od_Going_go, .func (PySem.W.fnOf "go" "Going.go" (defArgs s_Going_go) (defBody s_Going_go) (defScope s_Going_go) .none kV_Going_go dc_Going_go pm_Going_go an_Going_go cd_Going_go ct_Going_go), sl_Going_go⟩)
    (c_Going_go : PySem.W.codeIn K cd_Going_go "Going.go" = true)
    (k_Going_go : PySem.W.keepIn K (.ref f_Going_go) = true)
    (a_Going_count : PySem.W.findIn K (.ref C_Going) "count" = some (some (.ref f_Going_count)))
    (i_Going_count : PySem.W.isFn K (.ref f_Going_count) = true)
    (l_Going_count : K.lookup f_Going_count = some ⟨oc_Going_count, od_Going_count, .func (PySem.W.fnOf "count" "Going.count" (defArgs s_Going_count) (defBody s_Going_count) (defScope s_Going_count) .none kV_Going_count dc_Going_count pm_Going_count an_Going_count cd_Going_count ct_Going_count), sl_Going_count⟩)
    (c_Going_count : PySem.W.codeIn K cd_Going_count "Going.count" = true)
    (k_Going_count : PySem.W.keepIn K (.ref f_Going_count) = true)
    (a_Going_put_in : PySem.W.findIn K (.ref C_Going) "put_in" = some (some (.ref f_Going_put_in)))
    (i_Going_put_in : PySem.W.isFn K (.ref f_Going_put_in) = true)
    (l_Going_put_in : K.lookup f_Going_put_in = some ⟨oc_Going_put_in, od_Going_put_in, .func (PySem.W.fnOf "put_in" "Going.put_in" (defArgs s_Going_put_in) (defBody s_Going_put_in) (defScope s_Going_put_in) .none kV_Going_put_in dc_Going_put_in pm_Going_put_in an_Going_put_in cd_Going_put_in ct_Going_put_in), sl_Going_put_in⟩)
    (c_Going_put_in : PySem.W.codeIn K cd_Going_put_in "Going.put_in" = true)
    (k_Going_put_in : PySem.W.keepIn K (.ref f_Going_put_in) = true)
    (a_Going_keep : PySem.W.findIn K (.ref C_Going) "keep" = some (some (.ref f_Going_keep)))
    (i_Going_keep : PySem.W.isFn K (.ref f_Going_keep) = true)
    (l_Going_keep : K.lookup f_Going_keep = some ⟨oc_Going_keep, od_Going_keep, .func (PySem.W.fnOf "keep" "Going.keep" (defArgs s_Going_keep) (defBody s_Going_keep) (defScope s_Going_keep) .none kV_Going_keep dc_Going_keep pm_Going_keep an_Going_keep cd_Going_keep ct_Going_keep), sl_Going_keep⟩)
    (c_Going_keep : PySem.W.codeIn K cd_Going_keep "Going.keep" = true)
    (k_Going_keep : PySem.W.keepIn K (.ref f_Going_keep) = true)
    (a_Going_behind : PySem.W.findIn K (.ref C_Going) "behind" = some (some (.ref f_Going_behind)))
    (i_Going_behind : PySem.W.isFn K (.ref f_Going_behind) = true)
    (l_Going_behind : K.lookup f_Going_behind = some ⟨oc_Going_behind, od_Going_behind, .func (PySem.W.fnOf "behind" "Going.behind" (defArgs s_Going_behind) (defBody s_Going_behind) (defScope s_Going_behind) .none kV_Going_behind dc_Going_behind pm_Going_behind an_Going_behind cd_Going_behind ct_Going_behind), sl_Going_behind⟩)
    (c_Going_behind : PySem.W.codeIn K cd_Going_behind "Going.behind" = true)
    (k_Going_behind : PySem.W.keepIn K (.ref f_Going_behind) = true)
    (a_going : PySem.W.nsIn K mainGlobals "going" = some (some (.ref f_going)))
    (l_going : K.lookup f_going = some ⟨oc_going, od_going, .func (PySem.W.fnOf "going" "going" (defArgs s_going) (defBody s_going) (defScope s_going) .none kV_going dc_going pm_going an_going cd_going ct_going), sl_going⟩)
    (c_going : PySem.W.codeIn K cd_going "going" = true)
    (k_going : PySem.W.keepIn K (.ref f_going) = true)
    (a_gone : PySem.W.nsIn K mainGlobals "gone" = some (some (.ref f_gone)))
    (l_gone : K.lookup f_gone = some ⟨oc_gone, od_gone, .func (PySem.W.fnOf "gone" "gone" (defArgs s_gone) (defBody s_gone) (defScope s_gone) .none kV_gone dc_gone pm_gone an_gone cd_gone ct_gone), sl_gone⟩)
    (c_gone : PySem.W.codeIn K cd_gone "gone" = true)
    (k_gone : PySem.W.keepIn K (.ref f_gone) = true)
    (a_cost_of : PySem.W.nsIn K mainGlobals "cost_of" = some (some (.ref f_cost_of)))
    (l_cost_of : K.lookup f_cost_of = some ⟨oc_cost_of, od_cost_of, .func (PySem.W.fnOf "cost_of" "cost_of" (defArgs s_cost_of) (defBody s_cost_of) (defScope s_cost_of) .none kV_cost_of dc_cost_of pm_cost_of an_cost_of cd_cost_of ct_cost_of), sl_cost_of⟩)
    (c_cost_of : PySem.W.codeIn K cd_cost_of "cost_of" = true)
    (k_cost_of : PySem.W.keepIn K (.ref f_cost_of) = true)
    (a_turned_back : PySem.W.nsIn K mainGlobals "turned_back" = some (some (.ref f_turned_back)))
    (l_turned_back : K.lookup f_turned_back = some ⟨oc_turned_back, od_turned_back, .func (PySem.W.fnOf "turned_back" "turned_back" (defArgs s_turned_back) (defBody s_turned_back) (defScope s_turned_back) .none kV_turned_back dc_turned_back pm_turned_back an_turned_back cd_turned_back ct_turned_back), sl_turned_back⟩)
    (c_turned_back : PySem.W.codeIn K cd_turned_back "turned_back" = true)
    (k_turned_back : PySem.W.keepIn K (.ref f_turned_back) = true)
    (a_moves_between : PySem.W.nsIn K mainGlobals "moves_between" = some (some (.ref f_moves_between)))
    (l_moves_between : K.lookup f_moves_between = some ⟨oc_moves_between, od_moves_between, .func (PySem.W.fnOf "moves_between" "moves_between" (defArgs s_moves_between) (defBody s_moves_between) (defScope s_moves_between) .none kV_moves_between dc_moves_between pm_moves_between an_moves_between cd_moves_between ct_moves_between), sl_moves_between⟩)
    (c_moves_between : PySem.W.codeIn K cd_moves_between "moves_between" = true)
    (k_moves_between : PySem.W.keepIn K (.ref f_moves_between) = true)
    (a_steps_between : PySem.W.nsIn K mainGlobals "steps_between" = some (some (.ref f_steps_between)))
    (l_steps_between : K.lookup f_steps_between = some ⟨oc_steps_between, od_steps_between, .func (PySem.W.fnOf "steps_between" "steps_between" (defArgs s_steps_between) (defBody s_steps_between) (defScope s_steps_between) .none kV_steps_between dc_steps_between pm_steps_between an_steps_between cd_steps_between ct_steps_between), sl_steps_between⟩)
    (c_steps_between : PySem.W.codeIn K cd_steps_between "steps_between" = true)
    (k_steps_between : PySem.W.keepIn K (.ref f_steps_between) = true)
    (a_way_of : PySem.W.nsIn K mainGlobals "way_of" = some (some (.ref f_way_of)))
    (l_way_of : K.lookup f_way_of = some ⟨oc_way_of, od_way_of, .func (PySem.W.fnOf "way_of" "way_of" (defArgs s_way_of) (defBody s_way_of) (defScope s_way_of) .none kV_way_of dc_way_of pm_way_of an_way_of cd_way_of ct_way_of), sl_way_of⟩)
    (c_way_of : PySem.W.codeIn K cd_way_of "way_of" = true)
    (k_way_of : PySem.W.keepIn K (.ref f_way_of) = true)
    (a_is_least_way : PySem.W.nsIn K mainGlobals "is_least_way" = some (some (.ref f_is_least_way)))
    (l_is_least_way : K.lookup f_is_least_way = some ⟨oc_is_least_way, od_is_least_way, .func (PySem.W.fnOf "is_least_way" "is_least_way" (defArgs s_is_least_way) (defBody s_is_least_way) (defScope s_is_least_way) .none kV_is_least_way dc_is_least_way pm_is_least_way an_is_least_way cd_is_least_way ct_is_least_way), sl_is_least_way⟩)
    (c_is_least_way : PySem.W.codeIn K cd_is_least_way "is_least_way" = true)
    (k_is_least_way : PySem.W.keepIn K (.ref f_is_least_way) = true)
    (a__law_bag : PySem.W.nsIn K mainGlobals "_law_bag" = some (some (.ref f__law_bag)))
    (l__law_bag : K.lookup f__law_bag = some ⟨oc__law_bag, od__law_bag, .func (PySem.W.fnOf "_law_bag" "_law_bag" (defArgs s__law_bag) (defBody s__law_bag) (defScope s__law_bag) .none kV__law_bag dc__law_bag pm__law_bag an__law_bag cd__law_bag ct__law_bag), sl__law_bag⟩)
    (c__law_bag : PySem.W.codeIn K cd__law_bag "_law_bag" = true)
    (k__law_bag : PySem.W.keepIn K (.ref f__law_bag) = true)
    (a__law_take : PySem.W.nsIn K mainGlobals "_law_take" = some (some (.ref f__law_take)))
    (l__law_take : K.lookup f__law_take = some ⟨oc__law_take, od__law_take, .func (PySem.W.fnOf "_law_take" "_law_take" (defArgs s__law_take) (defBody s__law_take) (defScope s__law_take) .none kV__law_take dc__law_take pm__law_take an__law_take cd__law_take ct__law_take), sl__law_take⟩)
    (c__law_take : PySem.W.codeIn K cd__law_take "_law_take" = true)
    (k__law_take : PySem.W.keepIn K (.ref f__law_take) = true)
    (a__law_some : PySem.W.nsIn K mainGlobals "_law_some" = some (some (.ref f__law_some)))
    (l__law_some : K.lookup f__law_some = some ⟨oc__law_some, od__law_some, .func (PySem.W.fnOf "_law_some" "_law_some" (defArgs s__law_some) (defBody s__law_some) (defScope s__law_some) .none kV__law_some dc__law_some pm__law_some an__law_some cd__law_some ct__law_some), sl__law_some⟩)
    (c__law_some : PySem.W.codeIn K cd__law_some "_law_some" = true)
    (k__law_some : PySem.W.keepIn K (.ref f__law_some) = true)
    (a__law_words : PySem.W.nsIn K mainGlobals "_law_words" = some (some (.ref f__law_words)))
    (l__law_words : K.lookup f__law_words = some ⟨oc__law_words, od__law_words, .func (PySem.W.fnOf "_law_words" "_law_words" (defArgs s__law_words) (defBody s__law_words) (defScope s__law_words) .none kV__law_words dc__law_words pm__law_words an__law_words cd__law_words ct__law_words), sl__law_words⟩)
    (c__law_words : PySem.W.codeIn K cd__law_words "_law_words" = true)
    (k__law_words : PySem.W.keepIn K (.ref f__law_words) = true)
    (a__law_leaves : PySem.W.nsIn K mainGlobals "_law_leaves" = some (some (.ref f__law_leaves)))
    (l__law_leaves : K.lookup f__law_leaves = some ⟨oc__law_leaves, od__law_leaves, .func (PySem.W.fnOf "_law_leaves" "_law_leaves" (defArgs s__law_leaves) (defBody s__law_leaves) (defScope s__law_leaves) .none kV__law_leaves dc__law_leaves pm__law_leaves an__law_leaves cd__law_leaves ct__law_leaves), sl__law_leaves⟩)
    (c__law_leaves : PySem.W.codeIn K cd__law_leaves "_law_leaves" = true)
    (k__law_leaves : PySem.W.keepIn K (.ref f__law_leaves) = true)
    (a_law : PySem.W.nsIn K mainGlobals "law" = some (some (.ref f_law)))
    (l_law : K.lookup f_law = some ⟨oc_law, od_law, .func (PySem.W.fnOf "law" "law" (defArgs s_law) (defBody s_law) (defScope s_law) .none kV_law dc_law pm_law an_law cd_law ct_law), sl_law⟩)
    (c_law : PySem.W.codeIn K cd_law "law" = true)
    (k_law : PySem.W.keepIn K (.ref f_law) = true)
    (n_abs : PySem.W.nsIn K mainGlobals "abs" = some none)
    (n_all : PySem.W.nsIn K mainGlobals "all" = some none)
    (n_bool : PySem.W.nsIn K mainGlobals "bool" = some none)
    (n_enumerate : PySem.W.nsIn K mainGlobals "enumerate" = some none)
    (n_int : PySem.W.nsIn K mainGlobals "int" = some none)
    (n_isinstance : PySem.W.nsIn K mainGlobals "isinstance" = some none)
    (n_len : PySem.W.nsIn K mainGlobals "len" = some none)
    (n_list : PySem.W.nsIn K mainGlobals "list" = some none)
    (n_max : PySem.W.nsIn K mainGlobals "max" = some none)
    (n_min : PySem.W.nsIn K mainGlobals "min" = some none)
    (n_range : PySem.W.nsIn K mainGlobals "range" = some none)
    (n_str : PySem.W.nsIn K mainGlobals "str" = some none)
    (n_sum : PySem.W.nsIn K mainGlobals "sum" = some none)
    (n_tuple : PySem.W.nsIn K mainGlobals "tuple" = some none)
    (n_zip : PySem.W.nsIn K mainGlobals "zip" = some none)
    (a_LETTERS : PySem.W.nsIn K mainGlobals "LETTERS" = some (some (.str "abcdefghijklmnopqrstuvwxyz" t_LETTERS)))
    (a_DIGITS : PySem.W.nsIn K mainGlobals "DIGITS" = some (some (.str "0123456789" t_DIGITS)))
    (a_MOST_LETTERS : PySem.W.nsIn K mainGlobals "MOST_LETTERS" = some (some (.int 8 t_MOST_LETTERS)))
    (a_RESERVED : PySem.W.nsIn K mainGlobals "RESERVED" = some (some (.ref f_RESERVED)))
    (l_RESERVED : K.lookup f_RESERVED = some ⟨.type "tuple", od_RESERVED, .seq #[.str "all" t_RESERVED0, .str "any" t_RESERVED1, .str "apply" t_RESERVED2, .str "else" t_RESERVED3, .str "first" t_RESERVED4, .str "has" t_RESERVED5, .str "if" t_RESERVED6, .str "in" t_RESERVED7, .str "last" t_RESERVED8, .str "mode" t_RESERVED9, .str "none" t_RESERVED10, .str "of" t_RESERVED11, .str "one" t_RESERVED12, .str "or" t_RESERVED13, .str "page" t_RESERVED14, .str "root" t_RESERVED15, .str "rule" t_RESERVED16, .str "some" t_RESERVED17, .str "tag" t_RESERVED18, .str "text" t_RESERVED19, .str "then" t_RESERVED20] n_RESERVED, sl_RESERVED⟩)
    (a_MOST_COUPLES : PySem.W.nsIn K mainGlobals "MOST_COUPLES" = some (some (.int 100000 t_MOST_COUPLES)))
    (a_OUT : PySem.W.nsIn K mainGlobals "OUT" = some (some (.ref f_OUT)))
    (l_OUT : K.lookup f_OUT = some ⟨.type "tuple", od_OUT, .seq #[.str "out" t_OUT0] n_OUT, sl_OUT⟩)
    (a_UP : PySem.W.nsIn K mainGlobals "UP" = some (some (.ref f_UP)))
    (l_UP : K.lookup f_UP = some ⟨.type "tuple", od_UP, .seq #[.str "up" t_UP0] n_UP, sl_UP⟩) :
    ∃ fd : FuncData, (∀ (s : Shared) (v : Value), BindsTo s fd ⟨[v], []⟩ [("script", v)]) ∧ ∀ base : Heap, K.In base → base.Ns mainGlobals mg → FnOk l.prog w K mg base CX0 12 fa fd ["script"] (spL K) := by
  have e := hfa.symm.trans (PySem.W.mg_of X G a_law)
  cases e
  have F_is_number := fun_mk (st := s_is_number) l_is_number c_is_number k_is_number
  have b_is_number := F_is_number.binds (ps := ["thing"]) fun _ _ _ _ _ _ us hl => match us, hl with | [_], _ => rfl
  have F_is_index := fun_mk (st := s_is_index) l_is_index c_is_index k_is_index
  have b_is_index := F_is_index.binds (ps := ["thing"]) fun _ _ _ _ _ _ us hl => match us, hl with | [_], _ => rfl
  have F_is_name := fun_mk (st := s_is_name) l_is_name c_is_name k_is_name
  have b_is_name := F_is_name.binds (ps := ["thing"]) fun _ _ _ _ _ _ us hl => match us, hl with | [_], _ => rfl
  have F_is_tuple_of := fun_mk (st := s_is_tuple_of) l_is_tuple_of c_is_tuple_of k_is_tuple_of
  have b_is_tuple_of := F_is_tuple_of.binds (ps := ["thing", "is_one"]) fun _ _ _ _ _ _ us hl => match us, hl with | [_, _], _ => rfl
  have F_is_sized := fun_mk (st := s_is_sized) l_is_sized c_is_sized k_is_sized
  have b_is_sized := F_is_sized.binds (ps := ["thing", "many"]) fun _ _ _ _ _ _ us hl => match us, hl with | [_, _], _ => rfl
  have F_is_node := fun_mk (st := s_is_node) l_is_node c_is_node k_is_node
  have b_is_node := F_is_node.binds (ps := ["thing"]) fun _ _ _ _ _ _ us hl => match us, hl with | [_], _ => rfl
  have F_are_nodes := fun_mk (st := s_are_nodes) l_are_nodes c_are_nodes k_are_nodes
  have b_are_nodes := F_are_nodes.binds (ps := ["thing"]) fun _ _ _ _ _ _ us hl => match us, hl with | [_], _ => rfl
  have F_is_full := fun_mk (st := s_is_full) l_is_full c_is_full k_is_full
  have b_is_full := F_is_full.binds (ps := ["nodes"]) fun _ _ _ _ _ _ us hl => match us, hl with | [_], _ => rfl
  have F_is_row := fun_mk (st := s_is_row) l_is_row c_is_row k_is_row
  have b_is_row := F_is_row.binds (ps := ["thing"]) fun _ _ _ _ _ _ us hl => match us, hl with | [_], _ => rfl
  have F_is_tree := fun_mk (st := s_is_tree) l_is_tree c_is_tree k_is_tree
  have b_is_tree := F_is_tree.binds (ps := ["thing"]) fun _ _ _ _ _ _ us hl => match us, hl with | [_], _ => rfl
  have F_check_node := fun_mk (st := s_check_node) l_check_node c_check_node k_check_node
  have b_check_node := F_check_node.binds (ps := ["row", "at"]) fun _ _ _ _ _ _ us hl => match us, hl with | [_, _], _ => rfl
  have F_end_of := fun_mk (st := s_end_of) l_end_of c_end_of k_end_of
  have b_end_of := F_end_of.binds (ps := ["row", "at"]) fun _ _ _ _ _ _ us hl => match us, hl with | [_, _], _ => rfl
  have F_roots := fun_mk (st := s_roots) l_roots c_roots k_roots
  have b_roots := F_roots.binds (ps := ["row"]) fun _ _ _ _ _ _ us hl => match us, hl with | [_], _ => rfl
  have F_tree_at := fun_mk (st := s_tree_at) l_tree_at c_tree_at k_tree_at
  have b_tree_at := F_tree_at.binds (ps := ["row", "at"]) fun _ _ _ _ _ _ us hl => match us, hl with | [_, _], _ => rfl
  have F_check_rows := fun_mk (st := s_check_rows) l_check_rows c_check_rows k_check_rows
  have b_check_rows := F_check_rows.binds (ps := ["one", "other"]) fun _ _ _ _ _ _ us hl => match us, hl with | [_, _], _ => rfl
  have F_sizes_of := fun_mk (st := s_sizes_of) l_sizes_of c_sizes_of k_sizes_of
  have b_sizes_of := F_sizes_of.binds (ps := ["row"]) fun _ _ _ _ _ _ us hl => match us, hl with | [_], _ => rfl
  have F_least_sums := fun_mk (st := s_least_sums) l_least_sums c_least_sums k_least_sums
  have b_least_sums := F_least_sums.binds (ps := ["ones", "others", "between"]) fun _ _ _ _ _ _ us hl => match us, hl with | [_, _, _], _ => rfl
  have F_inner_of := fun_mk (st := s_inner_of) l_inner_of c_inner_of k_inner_of
  have b_inner_of := F_inner_of.binds (ps := ["row"]) fun _ _ _ _ _ _ us hl => match us, hl with | [_], _ => rfl
  have F_Distances___init__ := fun_mk (st := s_Distances___init__) l_Distances___init__ c_Distances___init__ k_Distances___init__
  have b_Distances___init__ := F_Distances___init__.binds (ps := ["self", "one", "other"]) fun _ _ _ _ _ _ us hl => match us, hl with | [_, _, _], _ => rfl
  have F_Distances_below := fun_mk (st := s_Distances_below) l_Distances_below c_Distances_below k_Distances_below
  have b_Distances_below := F_Distances_below.binds (ps := ["self", "which", "numbers"]) fun _ _ _ _ _ _ us hl => match us, hl with | [_, _, _], _ => rfl
  have F_Distances_with_sizes := fun_mk (st := s_Distances_with_sizes) l_Distances_with_sizes c_Distances_with_sizes k_Distances_with_sizes
  have b_Distances_with_sizes := F_Distances_with_sizes.binds (ps := ["self", "which", "numbers"]) fun _ _ _ _ _ _ us hl => match us, hl with | [_, _, _], _ => rfl
  have F_Distances_table := fun_mk (st := s_Distances_table) l_Distances_table c_Distances_table k_Distances_table
  have b_Distances_table := F_Distances_table.binds (ps := ["self", "ones", "others"]) fun _ _ _ _ _ _ us hl => match us, hl with | [_, _, _], _ => rfl
  have F_Distances_told := fun_mk (st := s_Distances_told) l_Distances_told c_Distances_told k_Distances_told
  have b_Distances_told := F_Distances_told.binds (ps := ["self", "at", "to"]) fun _ _ _ _ _ _ us hl => match us, hl with | [_, _, _], _ => rfl
  have F_Distances_whole := fun_mk (st := s_Distances_whole) l_Distances_whole c_Distances_whole k_Distances_whole
  have b_Distances_whole := F_Distances_whole.binds (ps := ["self"]) fun _ _ _ _ _ _ us hl => match us, hl with | [_], _ => rfl
  have F_row_distance := fun_mk (st := s_row_distance) l_row_distance c_row_distance k_row_distance
  have b_row_distance := F_row_distance.binds (ps := ["one", "other"]) fun _ _ _ _ _ _ us hl => match us, hl with | [_, _], _ => rfl
  have F_tree_distance := fun_mk (st := s_tree_distance) l_tree_distance c_tree_distance k_tree_distance
  have b_tree_distance := F_tree_distance.binds (ps := ["one", "other"]) fun _ _ _ _ _ _ us hl => match us, hl with | [_, _], _ => rfl
  have F_is_step := fun_mk (st := s_is_step) l_is_step c_is_step k_is_step
  have b_is_step := F_is_step.binds (ps := ["thing"]) fun _ _ _ _ _ _ us hl => match us, hl with | [_], _ => rfl
  have F_is_way := fun_mk (st := s_is_way) l_is_way c_is_way k_is_way
  have b_is_way := F_is_way.binds (ps := ["thing"]) fun _ _ _ _ _ _ us hl => match us, hl with | [_], _ => rfl
  have F_Going___init__ := fun_mk (st := s_Going___init__) l_Going___init__ c_Going___init__ k_Going___init__
  have b_Going___init__ := F_Going___init__.binds (ps := ["self", "row", "way"]) fun _ _ _ _ _ _ us hl => match us, hl with | [_, _, _], _ => rfl
  have F_Going_go := fun_mk (st := s_Going_go) l_Going_go c_Going_go k_Going_go
  have b_Going_go := F_Going_go.binds (ps := ["self", "step"]) fun _ _ _ _ _ _ us hl => match us, hl with | [_, _], _ => rfl
  have F_Going_count := fun_mk (st := s_Going_count) l_Going_count c_Going_count k_Going_count
  have b_Going_count := F_Going_count.binds (ps := ["self"]) fun _ _ _ _ _ _ us hl => match us, hl with | [_], _ => rfl
  have F_Going_put_in := fun_mk (st := s_Going_put_in) l_Going_put_in c_Going_put_in k_Going_put_in
  have b_Going_put_in := F_Going_put_in.binds (ps := ["self", "tree"]) fun _ _ _ _ _ _ us hl => match us, hl with | [_, _], _ => rfl
  have F_Going_keep := fun_mk (st := s_Going_keep) l_Going_keep c_Going_keep k_Going_keep
  have b_Going_keep := F_Going_keep.binds (ps := ["self", "at", "step"]) fun _ _ _ _ _ _ us hl => match us, hl with | [_, _, _], _ => rfl
  have F_Going_behind := fun_mk (st := s_Going_behind) l_Going_behind c_Going_behind k_Going_behind
  have b_Going_behind := F_Going_behind.binds (ps := ["self"]) fun _ _ _ _ _ _ us hl => match us, hl with | [_], _ => rfl
  have F_going := fun_mk (st := s_going) l_going c_going k_going
  have b_going := F_going.binds (ps := ["row", "way"]) fun _ _ _ _ _ _ us hl => match us, hl with | [_, _], _ => rfl
  have F_gone := fun_mk (st := s_gone) l_gone c_gone k_gone
  have b_gone := F_gone.binds (ps := ["row", "way"]) fun _ _ _ _ _ _ us hl => match us, hl with | [_, _], _ => rfl
  have F_cost_of := fun_mk (st := s_cost_of) l_cost_of c_cost_of k_cost_of
  have b_cost_of := F_cost_of.binds (ps := ["row", "way"]) fun _ _ _ _ _ _ us hl => match us, hl with | [_, _], _ => rfl
  have F_turned_back := fun_mk (st := s_turned_back) l_turned_back c_turned_back k_turned_back
  have b_turned_back := F_turned_back.binds (ps := ["row", "way"]) fun _ _ _ _ _ _ us hl => match us, hl with | [_, _], _ => rfl
  have F_moves_between := fun_mk (st := s_moves_between) l_moves_between c_moves_between k_moves_between
  have b_moves_between := F_moves_between.binds (ps := ["distances", "ones", "others"]) fun _ _ _ _ _ _ us hl => match us, hl with | [_, _, _], _ => rfl
  have F_steps_between := fun_mk (st := s_steps_between) l_steps_between c_steps_between k_steps_between
  have b_steps_between := F_steps_between.binds (ps := ["distances", "ones", "others"]) fun _ _ _ _ _ _ us hl => match us, hl with | [_, _, _], _ => rfl
  have F_way_of := fun_mk (st := s_way_of) l_way_of c_way_of k_way_of
  have b_way_of := F_way_of.binds (ps := ["one", "other"]) fun _ _ _ _ _ _ us hl => match us, hl with | [_, _], _ => rfl
  have F_is_least_way := fun_mk (st := s_is_least_way) l_is_least_way c_is_least_way k_is_least_way
  have b_is_least_way := F_is_least_way.binds (ps := ["one", "other", "thing"]) fun _ _ _ _ _ _ us hl => match us, hl with | [_, _, _], _ => rfl
  have F__law_bag := fun_mk (st := s__law_bag) l__law_bag c__law_bag k__law_bag
  have b__law_bag := F__law_bag.binds (ps := ["script"]) fun _ _ _ _ _ _ us hl => match us, hl with | [_], _ => rfl
  have F__law_take := fun_mk (st := s__law_take) l__law_take c__law_take k__law_take
  have b__law_take := F__law_take.binds (ps := ["bag", "many"]) fun _ _ _ _ _ _ us hl => match us, hl with | [_, _], _ => rfl
  have F__law_some := fun_mk (st := s__law_some) l__law_some c__law_some k__law_some
  have b__law_some := F__law_some.binds (ps := ["bag", "things"]) fun _ _ _ _ _ _ us hl => match us, hl with | [_, _], _ => rfl
  have F__law_words := fun_mk (st := s__law_words) l__law_words c__law_words k__law_words
  have b__law_words := F__law_words.binds (ps := ["one", "other"]) fun _ _ _ _ _ _ us hl => match us, hl with | [_, _], _ => rfl
  have F__law_leaves := fun_mk (st := s__law_leaves) l__law_leaves c__law_leaves k__law_leaves
  have b__law_leaves := F__law_leaves.binds (ps := ["word"]) fun _ _ _ _ _ _ us hl => match us, hl with | [_], _ => rfl
  have F_law := fun_mk (st := s_law) l_law c_law k_law
  have b_law := F_law.binds (ps := ["script"]) fun _ _ _ _ _ _ us hl => match us, hl with | [_], _ => rfl
  let T : Txt K mg := {
    c_Distances := C_Distances
    m_Distances := PySem.W.mg_of X G a_Distances
    cl_Distances := ⟨pg_Distances, hd_Distances, po_Distances, sa_Distances⟩
    na_Distances_rows := na_Distances_rows
    na_Distances_sizes := na_Distances_sizes
    na_Distances_inner := na_Distances_inner
    na_Distances_between := na_Distances_between
    c_Going := C_Going
    m_Going := PySem.W.mg_of X G a_Going
    cl_Going := ⟨pg_Going, hd_Going, po_Going, sa_Going⟩
    na_Going_row := na_Going_row
    na_Going_inner := na_Going_inner
    na_Going_sizes := na_Going_sizes
    na_Going_cost := na_Going_cost
    na_Going_back := na_Going_back
    na_Going_tags := na_Going_tags
    na_Going_counts := na_Going_counts
    na_Going_frames := na_Going_frames
    a_is_number := f_is_number
    d_is_number := _
    F_is_number := F_is_number
    b_is_number := b_is_number
    m_is_number := PySem.W.mg_of X G a_is_number
    a_is_index := f_is_index
    d_is_index := _
    F_is_index := F_is_index
    b_is_index := b_is_index
    m_is_index := PySem.W.mg_of X G a_is_index
    a_is_name := f_is_name
    d_is_name := _
    F_is_name := F_is_name
    b_is_name := b_is_name
    m_is_name := PySem.W.mg_of X G a_is_name
    a_is_tuple_of := f_is_tuple_of
    d_is_tuple_of := _
    F_is_tuple_of := F_is_tuple_of
    b_is_tuple_of := b_is_tuple_of
    m_is_tuple_of := PySem.W.mg_of X G a_is_tuple_of
    a_is_sized := f_is_sized
    d_is_sized := _
    F_is_sized := F_is_sized
    b_is_sized := b_is_sized
    m_is_sized := PySem.W.mg_of X G a_is_sized
    a_is_node := f_is_node
    d_is_node := _
    F_is_node := F_is_node
    b_is_node := b_is_node
    m_is_node := PySem.W.mg_of X G a_is_node
    a_are_nodes := f_are_nodes
    d_are_nodes := _
    F_are_nodes := F_are_nodes
    b_are_nodes := b_are_nodes
    m_are_nodes := PySem.W.mg_of X G a_are_nodes
    a_is_full := f_is_full
    d_is_full := _
    F_is_full := F_is_full
    b_is_full := b_is_full
    m_is_full := PySem.W.mg_of X G a_is_full
    a_is_row := f_is_row
    d_is_row := _
    F_is_row := F_is_row
    b_is_row := b_is_row
    m_is_row := PySem.W.mg_of X G a_is_row
    a_is_tree := f_is_tree
    d_is_tree := _
    F_is_tree := F_is_tree
    b_is_tree := b_is_tree
    m_is_tree := PySem.W.mg_of X G a_is_tree
    a_check_node := f_check_node
    d_check_node := _
    F_check_node := F_check_node
    b_check_node := b_check_node
    m_check_node := PySem.W.mg_of X G a_check_node
    a_end_of := f_end_of
    d_end_of := _
    F_end_of := F_end_of
    b_end_of := b_end_of
    m_end_of := PySem.W.mg_of X G a_end_of
    a_roots := f_roots
    d_roots := _
    F_roots := F_roots
    b_roots := b_roots
    m_roots := PySem.W.mg_of X G a_roots
    a_tree_at := f_tree_at
    d_tree_at := _
    F_tree_at := F_tree_at
    b_tree_at := b_tree_at
    m_tree_at := PySem.W.mg_of X G a_tree_at
    a_check_rows := f_check_rows
    d_check_rows := _
    F_check_rows := F_check_rows
    b_check_rows := b_check_rows
    m_check_rows := PySem.W.mg_of X G a_check_rows
    a_sizes_of := f_sizes_of
    d_sizes_of := _
    F_sizes_of := F_sizes_of
    b_sizes_of := b_sizes_of
    m_sizes_of := PySem.W.mg_of X G a_sizes_of
    a_least_sums := f_least_sums
    d_least_sums := _
    F_least_sums := F_least_sums
    b_least_sums := b_least_sums
    m_least_sums := PySem.W.mg_of X G a_least_sums
    a_inner_of := f_inner_of
    d_inner_of := _
    F_inner_of := F_inner_of
    b_inner_of := b_inner_of
    m_inner_of := PySem.W.mg_of X G a_inner_of
    a_Distances___init__ := f_Distances___init__
    d_Distances___init__ := _
    F_Distances___init__ := F_Distances___init__
    b_Distances___init__ := b_Distances___init__
    mk_Distances := ⟨mk_Distances, a_Distances___init__, i_Distances___init__, kc_Distances⟩
    a_Distances_below := f_Distances_below
    d_Distances_below := _
    F_Distances_below := F_Distances_below
    b_Distances_below := b_Distances_below
    M_Distances_below := ⟨a_Distances_below, i_Distances_below, k_Distances_below⟩
    a_Distances_with_sizes := f_Distances_with_sizes
    d_Distances_with_sizes := _
    F_Distances_with_sizes := F_Distances_with_sizes
    b_Distances_with_sizes := b_Distances_with_sizes
    M_Distances_with_sizes := ⟨a_Distances_with_sizes, i_Distances_with_sizes, k_Distances_with_sizes⟩
    a_Distances_table := f_Distances_table
    d_Distances_table := _
    F_Distances_table := F_Distances_table
    b_Distances_table := b_Distances_table
    M_Distances_table := ⟨a_Distances_table, i_Distances_table, k_Distances_table⟩
    a_Distances_told := f_Distances_told
    d_Distances_told := _
    F_Distances_told := F_Distances_told
    b_Distances_told := b_Distances_told
    M_Distances_told := ⟨a_Distances_told, i_Distances_told, k_Distances_told⟩
    a_Distances_whole := f_Distances_whole
    d_Distances_whole := _
    F_Distances_whole := F_Distances_whole
    b_Distances_whole := b_Distances_whole
    M_Distances_whole := ⟨a_Distances_whole, i_Distances_whole, k_Distances_whole⟩
    a_row_distance := f_row_distance
    d_row_distance := _
    F_row_distance := F_row_distance
    b_row_distance := b_row_distance
    m_row_distance := PySem.W.mg_of X G a_row_distance
    a_tree_distance := f_tree_distance
    d_tree_distance := _
    F_tree_distance := F_tree_distance
    b_tree_distance := b_tree_distance
    m_tree_distance := PySem.W.mg_of X G a_tree_distance
    a_is_step := f_is_step
    d_is_step := _
    F_is_step := F_is_step
    b_is_step := b_is_step
    m_is_step := PySem.W.mg_of X G a_is_step
    a_is_way := f_is_way
    d_is_way := _
    F_is_way := F_is_way
    b_is_way := b_is_way
    m_is_way := PySem.W.mg_of X G a_is_way
    a_Going___init__ := f_Going___init__
    d_Going___init__ := _
    F_Going___init__ := F_Going___init__
    b_Going___init__ := b_Going___init__
    mk_Going := ⟨mk_Going, a_Going___init__, i_Going___init__, kc_Going⟩
    a_Going_go := f_Going_go
    d_Going_go := _
    F_Going_go := F_Going_go
    b_Going_go := b_Going_go
    M_Going_go := ⟨a_Going_go, i_Going_go, k_Going_go⟩
    a_Going_count := f_Going_count
    d_Going_count := _
    F_Going_count := F_Going_count
    b_Going_count := b_Going_count
    M_Going_count := ⟨a_Going_count, i_Going_count, k_Going_count⟩
    a_Going_put_in := f_Going_put_in
    d_Going_put_in := _
    F_Going_put_in := F_Going_put_in
    b_Going_put_in := b_Going_put_in
    M_Going_put_in := ⟨a_Going_put_in, i_Going_put_in, k_Going_put_in⟩
    a_Going_keep := f_Going_keep
    d_Going_keep := _
    F_Going_keep := F_Going_keep
    b_Going_keep := b_Going_keep
    M_Going_keep := ⟨a_Going_keep, i_Going_keep, k_Going_keep⟩
    a_Going_behind := f_Going_behind
    d_Going_behind := _
    F_Going_behind := F_Going_behind
    b_Going_behind := b_Going_behind
    M_Going_behind := ⟨a_Going_behind, i_Going_behind, k_Going_behind⟩
    a_going := f_going
    d_going := _
    F_going := F_going
    b_going := b_going
    m_going := PySem.W.mg_of X G a_going
    a_gone := f_gone
    d_gone := _
    F_gone := F_gone
    b_gone := b_gone
    m_gone := PySem.W.mg_of X G a_gone
    a_cost_of := f_cost_of
    d_cost_of := _
    F_cost_of := F_cost_of
    b_cost_of := b_cost_of
    m_cost_of := PySem.W.mg_of X G a_cost_of
    a_turned_back := f_turned_back
    d_turned_back := _
    F_turned_back := F_turned_back
    b_turned_back := b_turned_back
    m_turned_back := PySem.W.mg_of X G a_turned_back
    a_moves_between := f_moves_between
    d_moves_between := _
    F_moves_between := F_moves_between
    b_moves_between := b_moves_between
    m_moves_between := PySem.W.mg_of X G a_moves_between
    a_steps_between := f_steps_between
    d_steps_between := _
    F_steps_between := F_steps_between
    b_steps_between := b_steps_between
    m_steps_between := PySem.W.mg_of X G a_steps_between
    a_way_of := f_way_of
    d_way_of := _
    F_way_of := F_way_of
    b_way_of := b_way_of
    m_way_of := PySem.W.mg_of X G a_way_of
    a_is_least_way := f_is_least_way
    d_is_least_way := _
    F_is_least_way := F_is_least_way
    b_is_least_way := b_is_least_way
    m_is_least_way := PySem.W.mg_of X G a_is_least_way
    a__law_bag := f__law_bag
    d__law_bag := _
    F__law_bag := F__law_bag
    b__law_bag := b__law_bag
    m__law_bag := PySem.W.mg_of X G a__law_bag
    a__law_take := f__law_take
    d__law_take := _
    F__law_take := F__law_take
    b__law_take := b__law_take
    m__law_take := PySem.W.mg_of X G a__law_take
    a__law_some := f__law_some
    d__law_some := _
    F__law_some := F__law_some
    b__law_some := b__law_some
    m__law_some := PySem.W.mg_of X G a__law_some
    a__law_words := f__law_words
    d__law_words := _
    F__law_words := F__law_words
    b__law_words := b__law_words
    m__law_words := PySem.W.mg_of X G a__law_words
    a__law_leaves := f__law_leaves
    d__law_leaves := _
    F__law_leaves := F__law_leaves
    b__law_leaves := b__law_leaves
    m__law_leaves := PySem.W.mg_of X G a__law_leaves
    a_law := fa
    d_law := _
    F_law := F_law
    b_law := b_law
    m_law := PySem.W.mg_of X G a_law
    n_abs := PySem.W.mg_none_of X G n_abs
    n_all := PySem.W.mg_none_of X G n_all
    n_bool := PySem.W.mg_none_of X G n_bool
    n_enumerate := PySem.W.mg_none_of X G n_enumerate
    n_int := PySem.W.mg_none_of X G n_int
    n_isinstance := PySem.W.mg_none_of X G n_isinstance
    n_len := PySem.W.mg_none_of X G n_len
    n_list := PySem.W.mg_none_of X G n_list
    n_max := PySem.W.mg_none_of X G n_max
    n_min := PySem.W.mg_none_of X G n_min
    n_range := PySem.W.mg_none_of X G n_range
    n_str := PySem.W.mg_none_of X G n_str
    n_sum := PySem.W.mg_none_of X G n_sum
    n_tuple := PySem.W.mg_none_of X G n_tuple
    n_zip := PySem.W.mg_none_of X G n_zip
    t_LETTERS := t_LETTERS
    m_LETTERS := PySem.W.mg_of X G a_LETTERS
    t_DIGITS := t_DIGITS
    m_DIGITS := PySem.W.mg_of X G a_DIGITS
    t_MOST_LETTERS := t_MOST_LETTERS
    m_MOST_LETTERS := PySem.W.mg_of X G a_MOST_LETTERS
    a_RESERVED := f_RESERVED
    m_RESERVED := PySem.W.mg_of X G a_RESERVED
    q_RESERVED := ⟨_, _, _, l_RESERVED, rfl, rfl, by have := big_lt; show 21 ≤ sizeLine; omega, (.cons ⟨_, rfl⟩ (.cons ⟨_, rfl⟩ (.cons ⟨_, rfl⟩ (.cons ⟨_, rfl⟩ (.cons ⟨_, rfl⟩ (.cons ⟨_, rfl⟩ (.cons ⟨_, rfl⟩ (.cons ⟨_, rfl⟩ (.cons ⟨_, rfl⟩ (.cons ⟨_, rfl⟩ (.cons ⟨_, rfl⟩ (.cons ⟨_, rfl⟩ (.cons ⟨_, rfl⟩ (.cons ⟨_, rfl⟩ (.cons ⟨_, rfl⟩ (.cons ⟨_, rfl⟩ (.cons ⟨_, rfl⟩ (.cons ⟨_, rfl⟩ (.cons ⟨_, rfl⟩ (.cons ⟨_, rfl⟩ (.cons ⟨_, rfl⟩ .nil)))))))))))))))))))))⟩
    t_MOST_COUPLES := t_MOST_COUPLES
    m_MOST_COUPLES := PySem.W.mg_of X G a_MOST_COUPLES
    a_OUT := f_OUT
    m_OUT := PySem.W.mg_of X G a_OUT
    q_OUT := ⟨_, _, _, l_OUT, rfl, rfl, by have := big_lt; show 1 ≤ sizeLine; omega, (.cons ⟨_, rfl⟩ .nil)⟩
    a_UP := f_UP
    m_UP := PySem.W.mg_of X G a_UP
    q_UP := ⟨_, _, _, l_UP, rfl, rfl, by have := big_lt; show 1 ≤ sizeLine; omega, (.cons ⟨_, rfl⟩ .nil)⟩ }
  exact ⟨PySem.W.fnOf "law" "law" (defArgs s_law) (defBody s_law) (defScope s_law) .none kV_law dc_law pm_law an_law cd_law ct_law, fun s v => .of_eq rfl, fun base _ _ => ok_law (P := l.prog) (w := w) (base := base) T⟩
theorem walk {l : PySem.W.OpenLaw} {q : Program} {loose : List Str} {XP : (Str → Option Value) → Heap → Prop} {YP : World → Heap → Prop} {d : DefRec} {K : Params → PySem.W.Frag} (hn : l.most = some 63) (hdf : d.params.defaults = [])
    (hY : ∀ (w : World) (h : Heap), YP w h → (K w.params).In h)
    (F : ∀ (w : World) (mg : Str → Option Value) (fa : Addr) (h : Heap), (K w.params).In h → h.Ns mainGlobals mg → mg d.name = some (.ref fa) →
      ∃ fd : FuncData, (∀ (s : Shared) (u : Value), BindsTo s fd ⟨[u], []⟩ [("script", u)]) ∧ ∀ base : Heap, (K w.params).In base → base.Ns mainGlobals mg → FnOk l.prog w (K w.params) mg base CX0 12 fa fd ["script"] (spL (K w.params))) :
    PySem.W.WalkO q loose XP YP l.row.toRowW d [] (fun f vs => PySem.call f vs) :=
  L2.walk_of (n := 63) (k := 12) (x := "script") (CX := fun _ => CX0) (sp := fun w => spL (K w.params)) hn (by decide) hdf ⟨rfl, by decide, by decide⟩ hY F (fun _ _ a ns hl _ hS => ⟨a, ns, rfl, hS, fun _ => rfl⟩) fun _ _ _ _ _ z => z
end Pp
open PySem PySem.W PyProof.Rows
set_option maxRecDepth 100000 in
set_option maxHeartbeats 0 in
theorem PySem.Challenge.cw_putpages_k00_whole_rows_of_leaves_holds : PySem.Challenge.rw_putpages_k00_whole_rows_of_leaves.Holds := by
  w_on; o_law; k_head; (case hw => w_witness2)
  k_fill
  refine Pp.walk (l := PySem.Challenge.rw_putpages_k00_whole_rows_of_leaves) rfl rfl (fun w h Y => PySem.W.kIn_of Y) ?F
  case F =>
    intro w mg fa h KX G hmg
    refine' Pp.all_mk KX G hmg ?a_Distances ?pg_Distances ?hd_Distances ?po_Distances ?sa_Distances ?mk_Distances ?kc_Distances ?na_Distances_rows ?na_Distances_sizes ?na_Distances_inner ?na_Distances_between ?a_Going ?pg_Going ?hd_Going ?po_Going ?sa_Going ?mk_Going ?kc_Going ?na_Going_row ?na_Going_inner ?na_Going_sizes ?na_Going_cost ?na_Going_back ?na_Going_tags ?na_Going_counts ?na_Going_frames ?a_is_number ?l_is_number ?c_is_number ?k_is_number ?a_is_index ?l_is_index ?c_is_index ?k_is_index ?a_is_name ?l_is_name ?c_is_name ?k_is_name ?a_is_tuple_of ?l_is_tuple_of ?c_is_tuple_of ?k_is_tuple_of ?a_is_sized ?l_is_sized ?c_is_sized ?k_is_sized ?a_is_node ?l_is_node ?c_is_node ?k_is_node ?a_are_nodes ?l_are_nodes ?c_are_nodes ?k_are_nodes ?a_is_full ?l_is_full ?c_is_full ?k_is_full ?a_is_row ?l_is_row ?c_is_row ?k_is_row ?a_is_tree ?l_is_tree ?c_is_tree ?k_is_tree ?a_check_node ?l_check_node ?c_check_node ?k_check_node ?a_end_of ?l_end_of ?c_end_of ?k_end_of ?a_roots ?l_roots ?c_roots ?k_roots ?a_tree_at ?l_tree_at ?c_tree_at ?k_tree_at ?a_check_rows ?l_check_rows ?c_check_rows ?k_check_rows ?a_sizes_of ?l_sizes_of ?c_sizes_of ?k_sizes_of ?a_least_sums ?l_least_sums ?c_least_sums ?k_least_sums ?a_inner_of ?l_inner_of ?c_inner_of ?k_inner_of ?a_Distances___init__ ?i_Distances___init__ ?l_Distances___init__ ?c_Distances___init__ ?k_Distances___init__ ?a_Distances_below ?i_Distances_below ?l_Distances_below ?c_Distances_below ?k_Distances_below ?a_Distances_with_sizes ?i_Distances_with_sizes ?l_Distances_with_sizes ?c_Distances_with_sizes ?k_Distances_with_sizes ?a_Distances_table ?i_Distances_table ?l_Distances_table ?c_Distances_table ?k_Distances_table ?a_Distances_told ?i_Distances_told ?l_Distances_told ?c_Distances_told ?k_Distances_told ?a_Distances_whole ?i_Distances_whole ?l_Distances_whole ?c_Distances_whole ?k_Distances_whole ?a_row_distance ?l_row_distance ?c_row_distance ?k_row_distance ?a_tree_distance ?l_tree_distance ?c_tree_distance ?k_tree_distance ?a_is_step ?l_is_step ?c_is_step ?k_is_step ?a_is_way ?l_is_way ?c_is_way ?k_is_way ?a_Going___init__ ?i_Going___init__ ?l_Going___init__ ?c_Going___init__ ?k_Going___init__ ?a_Going_go ?i_Going_go ?l_Going_go ?c_Going_go ?k_Going_go ?a_Going_count ?i_Going_count ?l_Going_count ?c_Going_count ?k_Going_count ?a_Going_put_in ?i_Going_put_in ?l_Going_put_in ?c_Going_put_in ?k_Going_put_in ?a_Going_keep ?i_Going_keep ?l_Going_keep ?c_Going_keep ?k_Going_keep ?a_Going_behind ?i_Going_behind ?l_Going_behind ?c_Going_behind ?k_Going_behind ?a_going ?l_going ?c_going ?k_going ?a_gone ?l_gone ?c_gone ?k_gone ?a_cost_of ?l_cost_of ?c_cost_of ?k_cost_of ?a_turned_back ?l_turned_back ?c_turned_back ?k_turned_back ?a_moves_between ?l_moves_between ?c_moves_between ?k_moves_between ?a_steps_between ?l_steps_between ?c_steps_between ?k_steps_between ?a_way_of ?l_way_of ?c_way_of ?k_way_of ?a_is_least_way ?l_is_least_way ?c_is_least_way ?k_is_least_way ?a__law_bag ?l__law_bag ?c__law_bag ?k__law_bag ?a__law_take ?l__law_take ?c__law_take ?k__law_take ?a__law_some ?l__law_some ?c__law_some ?k__law_some ?a__law_words ?l__law_words ?c__law_words ?k__law_words ?a__law_leaves ?l__law_leaves ?c__law_leaves ?k__law_leaves ?a_law ?l_law ?c_law ?k_law ?n_abs ?n_all ?n_bool ?n_enumerate ?n_int ?n_isinstance ?n_len ?n_list ?n_max ?n_min ?n_range ?n_str ?n_sum ?n_tuple ?n_zip ?a_LETTERS ?a_DIGITS ?a_MOST_LETTERS ?a_RESERVED ?l_RESERVED ?a_MOST_COUPLES ?a_OUT ?l_OUT ?a_UP ?l_UP
    (case a_Distances => k_is)
    (case pg_Distances => k_is)
    (case hd_Distances => k_is)
    (case po_Distances => k_is)
    (case sa_Distances => k_is)
    (case mk_Distances => k_is)
    (case kc_Distances => k_is)
    (case na_Distances_rows => k_is)
    (case na_Distances_sizes => k_is)
    (case na_Distances_inner => k_is)
    (case na_Distances_between => k_is)
    (case a_Going => k_is)
    (case pg_Going => k_is)
    (case hd_Going => k_is)
    (case po_Going => k_is)
    (case sa_Going => k_is)
    (case mk_Going => k_is)
    (case kc_Going => k_is)
    (case na_Going_row => k_is)
    (case na_Going_inner => k_is)
    (case na_Going_sizes => k_is)
    (case na_Going_cost => k_is)
    (case na_Going_back => k_is)
    (case na_Going_tags => k_is)
    (case na_Going_counts => k_is)
    (case na_Going_frames => k_is)
    (case a_is_number => k_is)
    (case l_is_number => k_is)
    (case c_is_number => k_is)
    (case k_is_number => k_is)
    (case a_is_index => k_is)
    (case l_is_index => k_is)
    (case c_is_index => k_is)
    (case k_is_index => k_is)
    (case a_is_name => k_is)
    (case l_is_name => k_is)
    (case c_is_name => k_is)
    (case k_is_name => k_is)
    (case a_is_tuple_of => k_is)
    (case l_is_tuple_of => k_is)
    (case c_is_tuple_of => k_is)
    (case k_is_tuple_of => k_is)
    (case a_is_sized => k_is)
    (case l_is_sized => k_is)
    (case c_is_sized => k_is)
    (case k_is_sized => k_is)
    (case a_is_node => k_is)
    (case l_is_node => k_is)
    (case c_is_node => k_is)
    (case k_is_node => k_is)
    (case a_are_nodes => k_is)
    (case l_are_nodes => k_is)
    (case c_are_nodes => k_is)
    (case k_are_nodes => k_is)
    (case a_is_full => k_is)
    (case l_is_full => k_is)
    (case c_is_full => k_is)
    (case k_is_full => k_is)
    (case a_is_row => k_is)
    (case l_is_row => k_is)
    (case c_is_row => k_is)
    (case k_is_row => k_is)
    (case a_is_tree => k_is)
    (case l_is_tree => k_is)
    (case c_is_tree => k_is)
    (case k_is_tree => k_is)
    (case a_check_node => k_is)
    (case l_check_node => k_is)
    (case c_check_node => k_is)
    (case k_check_node => k_is)
    (case a_end_of => k_is)
    (case l_end_of => k_is)
    (case c_end_of => k_is)
    (case k_end_of => k_is)
    (case a_roots => k_is)
    (case l_roots => k_is)
    (case c_roots => k_is)
    (case k_roots => k_is)
    (case a_tree_at => k_is)
    (case l_tree_at => k_is)
    (case c_tree_at => k_is)
    (case k_tree_at => k_is)
    (case a_check_rows => k_is)
    (case l_check_rows => k_is)
    (case c_check_rows => k_is)
    (case k_check_rows => k_is)
    (case a_sizes_of => k_is)
    (case l_sizes_of => k_is)
    (case c_sizes_of => k_is)
    (case k_sizes_of => k_is)
    (case a_least_sums => k_is)
    (case l_least_sums => k_is)
    (case c_least_sums => k_is)
    (case k_least_sums => k_is)
    (case a_inner_of => k_is)
    (case l_inner_of => k_is)
    (case c_inner_of => k_is)
    (case k_inner_of => k_is)
    (case a_Distances___init__ => k_is)
    (case i_Distances___init__ => k_is)
    (case l_Distances___init__ => k_is)
    (case c_Distances___init__ => k_is)
    (case k_Distances___init__ => k_is)
    (case a_Distances_below => k_is)
    (case i_Distances_below => k_is)
    (case l_Distances_below => k_is)
    (case c_Distances_below => k_is)
    (case k_Distances_below => k_is)
    (case a_Distances_with_sizes => k_is)
    (case i_Distances_with_sizes => k_is)
    (case l_Distances_with_sizes => k_is)
    (case c_Distances_with_sizes => k_is)
    (case k_Distances_with_sizes => k_is)
    (case a_Distances_table => k_is)
    (case i_Distances_table => k_is)
    (case l_Distances_table => k_is)
    (case c_Distances_table => k_is)
    (case k_Distances_table => k_is)
    (case a_Distances_told => k_is)
    (case i_Distances_told => k_is)
    (case l_Distances_told => k_is)
    (case c_Distances_told => k_is)
    (case k_Distances_told => k_is)
    (case a_Distances_whole => k_is)
    (case i_Distances_whole => k_is)
    (case l_Distances_whole => k_is)
    (case c_Distances_whole => k_is)
    (case k_Distances_whole => k_is)
    (case a_row_distance => k_is)
    (case l_row_distance => k_is)
    (case c_row_distance => k_is)
    (case k_row_distance => k_is)
    (case a_tree_distance => k_is)
    (case l_tree_distance => k_is)
    (case c_tree_distance => k_is)
    (case k_tree_distance => k_is)
    (case a_is_step => k_is)
    (case l_is_step => k_is)
    (case c_is_step => k_is)
    (case k_is_step => k_is)
    (case a_is_way => k_is)
    (case l_is_way => k_is)
    (case c_is_way => k_is)
    (case k_is_way => k_is)
    (case a_Going___init__ => k_is)
    (case i_Going___init__ => k_is)
    (case l_Going___init__ => k_is)
    (case c_Going___init__ => k_is)
    (case k_Going___init__ => k_is)
    (case a_Going_go => k_is)
    (case i_Going_go => k_is)
    (case l_Going_go => k_is)
    (case c_Going_go => k_is)
    (case k_Going_go => k_is)
    (case a_Going_count => k_is)
    (case i_Going_count => k_is)
    (case l_Going_count => k_is)
    (case c_Going_count => k_is)
    (case k_Going_count => k_is)
    (case a_Going_put_in => k_is)
    (case i_Going_put_in => k_is)
    (case l_Going_put_in => k_is)
    (case c_Going_put_in => k_is)
    (case k_Going_put_in => k_is)
    (case a_Going_keep => k_is)
    (case i_Going_keep => k_is)
    (case l_Going_keep => k_is)
    (case c_Going_keep => k_is)
    (case k_Going_keep => k_is)
    (case a_Going_behind => k_is)
    (case i_Going_behind => k_is)
    (case l_Going_behind => k_is)
    (case c_Going_behind => k_is)
    (case k_Going_behind => k_is)
    (case a_going => k_is)
    (case l_going => k_is)
    (case c_going => k_is)
    (case k_going => k_is)
    (case a_gone => k_is)
    (case l_gone => k_is)
    (case c_gone => k_is)
    (case k_gone => k_is)
    (case a_cost_of => k_is)
    (case l_cost_of => k_is)
    (case c_cost_of => k_is)
    (case k_cost_of => k_is)
    (case a_turned_back => k_is)
    (case l_turned_back => k_is)
    (case c_turned_back => k_is)
    (case k_turned_back => k_is)
    (case a_moves_between => k_is)
    (case l_moves_between => k_is)
    (case c_moves_between => k_is)
    (case k_moves_between => k_is)
    (case a_steps_between => k_is)
    (case l_steps_between => k_is)
    (case c_steps_between => k_is)
    (case k_steps_between => k_is)
    (case a_way_of => k_is)
    (case l_way_of => k_is)
    (case c_way_of => k_is)
    (case k_way_of => k_is)
    (case a_is_least_way => k_is)
    (case l_is_least_way => k_is)
    (case c_is_least_way => k_is)
    (case k_is_least_way => k_is)
    (case a__law_bag => k_is)
    (case l__law_bag => k_is)
    (case c__law_bag => k_is)
    (case k__law_bag => k_is)
    (case a__law_take => k_is)
    (case l__law_take => k_is)
    (case c__law_take => k_is)
    (case k__law_take => k_is)
    (case a__law_some => k_is)
    (case l__law_some => k_is)
    (case c__law_some => k_is)
    (case k__law_some => k_is)
    (case a__law_words => k_is)
    (case l__law_words => k_is)
    (case c__law_words => k_is)
    (case k__law_words => k_is)
    (case a__law_leaves => k_is)
    (case l__law_leaves => k_is)
    (case c__law_leaves => k_is)
    (case k__law_leaves => k_is)
    (case a_law => k_is)
    (case l_law => k_is)
    (case c_law => k_is)
    (case k_law => k_is)
    (case n_abs => k_is)
    (case n_all => k_is)
    (case n_bool => k_is)
    (case n_enumerate => k_is)
    (case n_int => k_is)
    (case n_isinstance => k_is)
    (case n_len => k_is)
    (case n_list => k_is)
    (case n_max => k_is)
    (case n_min => k_is)
    (case n_range => k_is)
    (case n_str => k_is)
    (case n_sum => k_is)
    (case n_tuple => k_is)
    (case n_zip => k_is)
    (case a_LETTERS => k_is)
    (case a_DIGITS => k_is)
    (case a_MOST_LETTERS => k_is)
    (case a_RESERVED => k_is)
    (case l_RESERVED => k_is)
    (case a_MOST_COUPLES => k_is)
    (case a_OUT => k_is)
    (case l_OUT => k_is)
    (case a_UP => k_is)
    (case l_UP => k_is)
