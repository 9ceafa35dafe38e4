/- Copies of types: all the function's own. -/
import Derived.Test.YthnjnnnobipnfaaTyFns
set_option linter.unusedVariables false
set_option linter.unusedSimpArgs false
set_option maxRecDepth 100000
namespace Go.Proofs.Ythnjnnnobipnfaa.Abs
open Go Go.Proofs
theorem all1_enc (t : Ty) : [t.enc].all (CVal.fits true 3) = true := by simp

theorem cloneTy_loop (p q u v : Int) : ∀ (suf pre : List Ty), (pre ++ suf).length ≤ 1048576 → (∀ t ∈ suf, CC f_i_cloneTy [.v t.enc] [] = some (t.enc, [])) →
    LL f_i_cloneTy 0 lc_i_cloneTy_0 [] k_i_cloneTy_0 (((), (), (pre ++ suf).map Ty.enc, ((pre ++ suf).length : Int), (pre.length : Int), ()), (p, q, (), ()), [], (u, v, (), ()), pre.map Ty.enc, ()) =
      some (.out 0 (((), (), (pre ++ suf).map Ty.enc, ((pre ++ suf).length : Int), ((pre ++ suf).length : Int), ()), (p, q, (), ()), [], (u, v, (), ()), (pre ++ suf).map Ty.enc, ()))
  | [], pre, hl, h => by
    apply gl_i_cloneTy_0
    unfold nl_i_cloneTy_0
    simp
  | t :: suf, pre, hl, h => by
    apply gl_i_cloneTy_0
    unfold nl_i_cloneTy_0
    have ih := cloneTy_loop p q u v suf (pre ++ [t]) (by simpa using hl) (fun w hw => h w (by simp [hw]))
    simp only [List.append_assoc, List.singleton_append] at ih
    have e1 : decide ((pre.length : Int) < ((pre ++ t :: suf).length : Int)) = true := by simp; omega
    have e2 : decide ((pre.map Ty.enc).length + 1 ≤ 4294967296) = true := by
      simp at hl ⊢; omega
    have e3 : pre.map Ty.enc ++ [t.enc] = (pre ++ [t]).map Ty.enc := by simp
    rw [e1, nn_mid, get_mid, wrap_mid pre suf t hl]
    simp only [br_true', Option.bind_some, Ty.enc_fits, Ty.enc_sub, Ty.enc_isAggN, Ty.enc_cell0, Ty.enc_cell1, Ty.enc_cell2, Ty.enc_eta, h t (by simp), Bool.and_true, asSl_sl, asInt_int, e2, e3, all1_enc]
    exact ih

theorem cloneTy_law : ∀ t : Ty, t.ok → CC f_i_cloneTy [.v t.enc] [] = some (t.enc, []) := Ty.ind fun t ih hok => by
  have hloop := cloneTy_loop 0 0 t.k t.n t.a [] (by simpa using hok.len) fun u hu => ih u hu (hok.part hu)
  simp only [List.nil_append, List.length_nil, List.map_nil, Int.cast_ofNat_Int] at hloop
  rw [Ty.enc_def]
  apply go_i_cloneTy
  unfold nf_i_cloneTy
  simp only [List.length_map, hloop, Option.bind_some, loK_out, br_true', beq_self_eq_true]

theorem l1Copy_loop (k n p q u v : Int) : ∀ (suf pre : List Ty), (pre ++ suf).length ≤ 1048576 → (∀ t ∈ suf, CC f_s_l1Copy [.v t.enc] [] = some (t.enc, [])) →
    LL f_s_l1Copy 0 lc_s_l1Copy_0 [] k_s_l1Copy_0 (((), (), (), (pre.length : Int), ()), (k, n, (pre ++ suf).map Ty.enc, ()), (p, q, (), ()), [], (u, v, (), ()), pre.map Ty.enc, ()) =
      some (.out 0 (((), (), (), ((pre ++ suf).length : Int), ()), (k, n, (pre ++ suf).map Ty.enc, ()), (p, q, (), ()), [], (u, v, (), ()), (pre ++ suf).map Ty.enc, ()))
  | [], pre, hl, h => by
    apply gl_s_l1Copy_0
    unfold nl_s_l1Copy_0
    rw [lt_end]
    simp
  | t :: suf, pre, hl, h => by
    apply gl_s_l1Copy_0
    unfold nl_s_l1Copy_0
    have ih := l1Copy_loop k n p q u v suf (pre ++ [t]) (by simpa using hl) (fun w hw => h w (by simp [hw]))
    simp only [List.append_assoc, List.singleton_append] at ih
    have e2 : decide ((pre.map Ty.enc).length + 1 ≤ 4294967296) = true := by
      simp at hl ⊢; omega
    have e3 : pre.map Ty.enc ++ [t.enc] = (pre ++ [t]).map Ty.enc := by simp
    rw [lt_mid, nn_mid, get_mid, wrap_mid pre suf t hl]
    simp only [br_true', Option.bind_some, Ty.enc_fits, Ty.enc_sub, Ty.enc_isAggN, Ty.enc_cell0, Ty.enc_cell1, Ty.enc_cell2, Ty.enc_eta, h t (by simp), Bool.and_true, asSl_sl, asInt_int, e2, e3, all1_enc]
    exact ih

theorem l1Copy_law : ∀ t : Ty, t.ok → CC f_s_l1Copy [.v t.enc] [] = some (t.enc, []) := Ty.ind fun t ih hok => by
  have hloop := l1Copy_loop t.k t.n 0 0 t.k t.n t.a [] (by simpa using hok.len) fun u hu => ih u hu (hok.part hu)
  simp only [List.nil_append, List.length_nil, List.map_nil, Int.cast_ofNat_Int] at hloop
  rw [Ty.enc_def]
  apply go_s_l1Copy
  unfold nf_s_l1Copy
  simp only [hloop, Option.bind_some, loK_out, br_true', beq_self_eq_true]
end Go.Proofs.Ythnjnnnobipnfaa.Abs
