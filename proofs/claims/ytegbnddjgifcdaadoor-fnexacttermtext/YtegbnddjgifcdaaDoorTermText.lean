/- The text of a term, both ways. -/
import Derived.Test.YtegbnddjgifcdaaDoorTermPlain
import Derived.Test.YtegbnddjgifcdaaDoorTextS
set_option linter.unusedVariables false
set_option linter.unusedSectionVars false
set_option linter.unusedSimpArgs false
set_option maxRecDepth 100000
set_option maxHeartbeats 1000000
namespace Go.Proofs.YtegbnddjgifcdaaDoor.Abs
open Go Go.Proofs
open Classical

/-! One step at the head -/
theorem br_T {R : Type} {b : Bool} {x y : Option R} {z : Option R} (h : b = true) (h2 : x = z) : br b x y = z := by rw [h]; exact h2
theorem br_F {R : Type} {b : Bool} {x y : Option R} {z : Option R} (h : b = false) (h2 : y = z) : br b x y = z := by rw [h]; exact h2
theorem bd {α β : Type} {o : Option α} {a : α} {f : α → Option β} {z : Option β} (h : o = some a) (h2 : f a = z) : o.bind f = z := by rw [h]; exact h2
theorem lo_out {A R : Type} {kr : Ret → Option R} {k : Nat → A → Option R} {j : Nat} {p : A} {z : Option R} (h : k j p = z) : loK (.out j p) kr k = z := h

namespace Term
theorem kword_at {k : Int} (h : 1 ≤ k ∧ k ≤ 17) : [CVal.str [], CVal.str [(110 : UInt8)], CVal.str [(116 : UInt8)], CVal.str [(118 : UInt8)],
    CVal.str [(102 : UInt8), (110 : UInt8)], CVal.str [(97 : UInt8), (112 : UInt8), (112 : UInt8)], CVal.str [(108 : UInt8), (101 : UInt8), (116 : UInt8)],
    CVal.str [(102 : UInt8), (105 : UInt8), (120 : UInt8)], CVal.str [(105 : UInt8), (102 : UInt8)], CVal.str [(112 : UInt8), (97 : UInt8), (105 : UInt8), (114 : UInt8)],
    CVal.str [(102 : UInt8), (115 : UInt8), (116 : UInt8)], CVal.str [(115 : UInt8), (110 : UInt8), (100 : UInt8)], CVal.str [(110 : UInt8), (105 : UInt8), (108 : UInt8)],
    CVal.str [(99 : UInt8), (111 : UInt8), (110 : UInt8), (115 : UInt8)], CVal.str [(99 : UInt8), (97 : UInt8), (115 : UInt8), (101 : UInt8)], CVal.str [(111 : UInt8), (112 : UInt8)],
    CVal.str [(114 : UInt8), (97 : UInt8), (105 : UInt8), (115 : UInt8), (101 : UInt8)], CVal.str [(116 : UInt8), (114 : UInt8), (121 : UInt8)]][k.toNat]? = some (.str (kword k)) := by
  have : k = 1 ∨ k = 2 ∨ k = 3 ∨ k = 4 ∨ k = 5 ∨ k = 6 ∨ k = 7 ∨ k = 8 ∨ k = 9 ∨ k = 10 ∨ k = 11 ∨ k = 12 ∨ k = 13 ∨ k = 14 ∨ k = 15 ∨ k = 16 ∨ k = 17 := by omega
  rcases this with rfl | rfl | rfl | rfl | rfl | rfl | rfl | rfl | rfl | rfl | rfl | rfl | rfl | rfl | rfl | rfl | rfl <;> rfl
theorem kword_at2 {k : Int} (h : 1 ≤ k ∧ k ≤ 17) (h2 : k ≠ 2) : [CVal.str [], CVal.str [(110 : UInt8)], CVal.str [], CVal.str [(118 : UInt8)],
    CVal.str [(102 : UInt8), (110 : UInt8)], CVal.str [(97 : UInt8), (112 : UInt8), (112 : UInt8)], CVal.str [(108 : UInt8), (101 : UInt8), (116 : UInt8)],
    CVal.str [(102 : UInt8), (105 : UInt8), (120 : UInt8)], CVal.str [(105 : UInt8), (102 : UInt8)], CVal.str [(112 : UInt8), (97 : UInt8), (105 : UInt8), (114 : UInt8)],
    CVal.str [(102 : UInt8), (115 : UInt8), (116 : UInt8)], CVal.str [(115 : UInt8), (110 : UInt8), (100 : UInt8)], CVal.str [(110 : UInt8), (105 : UInt8), (108 : UInt8)],
    CVal.str [(99 : UInt8), (111 : UInt8), (110 : UInt8), (115 : UInt8)], CVal.str [(99 : UInt8), (97 : UInt8), (115 : UInt8), (101 : UInt8)], CVal.str [(111 : UInt8), (112 : UInt8)],
    CVal.str [(114 : UInt8), (97 : UInt8), (105 : UInt8), (115 : UInt8), (101 : UInt8)], CVal.str [(116 : UInt8), (114 : UInt8), (121 : UInt8)]][k.toNat]? = some (.str (kword k)) := by
  have : k = 1 ∨ k = 3 ∨ k = 4 ∨ k = 5 ∨ k = 6 ∨ k = 7 ∨ k = 8 ∨ k = 9 ∨ k = 10 ∨ k = 11 ∨ k = 12 ∨ k = 13 ∨ k = 14 ∨ k = 15 ∨ k = 16 ∨ k = 17 := by omega
  rcases this with rfl | rfl | rfl | rfl | rfl | rfl | rfl | rfl | rfl | rfl | rfl | rfl | rfl | rfl | rfl | rfl <;> rfl
theorem sign_at {n : Int} (h : 1 ≤ n ∧ n ≤ 5) : [CVal.str [], CVal.str [(43 : UInt8)], CVal.str [(45 : UInt8)], CVal.str [(42 : UInt8)], CVal.str [(60 : UInt8)], CVal.str [(61 : UInt8)]][n.toNat]? = some (.str (sign n)) := by
  have : n = 1 ∨ n = 2 ∨ n = 3 ∨ n = 4 ∨ n = 5 := by omega
  rcases this with rfl | rfl | rfl | rfl | rfl <;> rfl
theorem sign_len (n : Int) : (sign n).length = 1 := by
  unfold sign
  repeat' split
  all_goals rfl
/-- Whether a name stands at S, at Z. -/
theorem Head.s_iff {t : Term} (H : Head t) : t.s = [] ↔ ¬ (bindsS t.k = true ∨ t.k = 3) := by
  have h1 := H.nm
  unfold namesOk at h1
  by_cases h14 : t.k = 14
  · rw [if_pos h14] at h1
    simp only [Bool.and_eq_true] at h1
    have := (name_len h1.1).2
    exact ⟨fun e => (this e).elim, fun e => (e (.inl (by rw [h14]; rfl))).elim⟩
  · rw [if_neg h14] at h1
    simp only [Bool.and_eq_true, beq_iff_eq, Bool.or_eq_true, decide_eq_true_eq] at h1
    by_cases hb : bindsS t.k = true ∨ t.k = 3
    · have hn : isName false t.s = true := by rw [h1.2.1]; rcases hb with hb | hb <;> simp [hb]
      exact ⟨fun e => ((name_len hn).2 e).elim, fun e => (e hb).elim⟩
    · have hn : isName false t.s = false := by
        rw [h1.2.1]
        simp only [not_or] at hb
        simp [hb.1, hb.2]
      exact ⟨fun _ => hb, fun _ => by rcases h1.2.2 with e | e; exact e; rw [hn] at e; cases e⟩
theorem Head.z_iff {t : Term} (H : Head t) : t.z = [] ↔ t.k ≠ 14 := by
  have h1 := H.nm
  unfold namesOk at h1
  by_cases h14 : t.k = 14
  · rw [if_pos h14] at h1
    simp only [Bool.and_eq_true] at h1
    have := (name_len h1.2.1).2
    exact ⟨fun e => (this e).elim, fun e => (e h14).elim⟩
  · rw [if_neg h14] at h1
    simp only [Bool.and_eq_true, decide_eq_true_eq] at h1
    exact ⟨fun _ => h14, fun _ => h1.1⟩
theorem Head.t_pos {t : Term} (H : Head t) : (0 < t.t.k) ↔ hasT t.k = true := by
  cases e : hasT t.k with
  | true =>
    have := ((Ty.good_def t.t).1 (H.ty e).1).1.kind
    exact ⟨fun _ => rfl, fun _ => by omega⟩
  | false =>
    have := H.no e
    exact ⟨fun h => by omega, fun h => by cases h⟩
end Term

theorem boolWord_law (n : Int) : CC f_i_boolWord [.v (.int .i64 n)] [] = some (.str (if n = 1 then [116] else [117]), []) := by
  apply go_i_boolWord
  unfold nf_i_boolWord
  by_cases h : n = 1 <;> simp [h]
theorem headTs_loop {c0 c1 c4 c5 : Int} {c2 c3 : List UInt8} {c6 c8 : List CVal} : ∀ (suf pre : List Ty) (acc : List (List UInt8)), (pre ++ suf).length ≤ 1048576 → (∀ t ∈ suf, t.right ∧ t.ok) → acc.length + 60 * suf.length ≤ 3000000 →
    LL f_i_headTokens 1 lc_i_headTokens_1 [] k_i_headTokens_1 (((), (), (pre ++ suf).map Ty.enc, ((pre ++ suf).length : Int), (pre.length : Int), ()), (c0, c1, c2, c3, c4, c5, c6, (pre ++ suf).map Ty.enc, c8, ()), acc.map .str, ()) =
      some (.out 1 (((), (), (pre ++ suf).map Ty.enc, ((pre ++ suf).length : Int), ((pre ++ suf).length : Int), ()), (c0, c1, c2, c3, c4, c5, c6, (pre ++ suf).map Ty.enc, c8, ()), (acc ++ Ty.toksL suf).map .str, ()))
  | [], pre, acc, hl, h, hb => by
    apply gl_i_headTokens_1
    unfold nl_i_headTokens_1
    rw [lt_end']
    simp
  | t :: suf, pre, acc, hl, h, hb => by
    apply gl_i_headTokens_1
    unfold nl_i_headTokens_1
    obtain ⟨hr, hok⟩ := h t (by simp)
    have hn := hr.2.2
    simp only [List.length_cons] at hb
    have ht := tyTokens_law t hr.1 hok acc (by omega)
    have ih := headTs_loop (c0 := c0) (c1 := c1) (c2 := c2) (c3 := c3) (c4 := c4) (c5 := c5) (c6 := c6) (c8 := c8) suf (pre ++ [t]) (acc ++ t.toks) (by simpa using hl) (fun u hu => h u (by simp [hu])) (by rw [List.length_append, Ty.toks_len]; omega)
    simp only [List.append_assoc, List.singleton_append] at ih
    rw [lt_mid', nn_mid, get_mid, wrap_mid pre suf t hl]
    simp only [br_true', Option.bind_some, Ty.enc_fits, Ty.enc_sub, Ty.enc_isAggN, Ty.enc_cell0, Ty.enc_cell1, Ty.enc_cell2, Ty.enc_eta, ht, List.getElem?_cons_zero, Ty.toksL_cons]
    exact ih
/-- What comes behind the switch. -/
theorem headTail {t : Term} (hh : t.head = true) (hok : t.ok) (acc : List (List UInt8)) (hacc : acc.length ≤ 1000) :
    ((LL f_i_headTokens 1 lc_i_headTokens_1 [] k_i_headTokens_1 (((), (), t.ts.map Ty.enc, ((t.ts.map Ty.enc).length : Int), 0, ()), (t.k, t.n, t.s, t.z, t.t.k, t.t.n, t.t.a.map Ty.enc, t.ts.map Ty.enc, t.a.map Term.enc, ()), acc.map .str, ())).bind fun r =>
      loK r (fun r => some r) fun j p => br (j == 1)
        ((CC f_i_hasT [AVal.v (CVal.int .i64 p.snd.fst.1)] []).bind fun r => r.1.asBool.bind fun b => br b
          ((CC f_i_tyTokens [AVal.lref 0 0, AVal.v (CVal.agg [CVal.int .i64 p.snd.fst.snd.snd.snd.snd.1, CVal.int .i64 p.snd.fst.snd.snd.snd.snd.snd.1, CVal.sl p.snd.fst.snd.snd.snd.snd.snd.snd.1])] [PB.arr (Md.mk true false 0) false 1 p.snd.snd.1]).bind
            fun r => r.2[0]?.bind fun y => some (CVal.sl y, []))
          (some (CVal.sl p.snd.snd.1, []))) none) =
      some (.sl ((acc ++ (Ty.toksL t.ts ++ (if hasT t.k = true then t.t.toks else []))).map .str), []) := by
  have H := Term.head_of hh
  have hl := Term.ts_len H
  have hloop := headTs_loop (c0 := t.k) (c1 := t.n) (c2 := t.s) (c3 := t.z) (c4 := t.t.k) (c5 := t.t.n) (c6 := t.t.a.map Ty.enc) (c8 := t.a.map Term.enc) t.ts [] acc (by simp; omega) (fun x hx => ⟨H.tsr x hx, hok.ts hx⟩) (by omega)
  simp only [List.nil_append, List.length_nil, Int.cast_ofNat_Int] at hloop
  rw [List.length_map]
  refine bd hloop (lo_out (br_T rfl (bd (hasT_i _) (bd rfl ?_))))
  have hm : (acc ++ Ty.toksL t.ts).length ≤ 100000 := by
    have : ∀ (l : List Ty), (∀ x ∈ l, x.right) → (Ty.toksL l).length ≤ 60 * l.length := by
      intro l
      induction l with
      | nil => intro _; simp
      | cons x l ih =>
        intro h
        have h1 := Ty.toks_len x
        have h2 := (h x (by simp)).2.2
        have h3 := ih fun y hy => h y (by simp [hy])
        simp only [Ty.toksL_cons, List.length_append, List.length_cons]; omega
    have := this t.ts H.tsr
    rw [List.length_append]; omega
  cases e : hasT t.k with
  | true =>
    have hr := H.ty e
    have h2 := tyTokens_law t.t hr.1 hok.t (acc ++ Ty.toksL t.ts) (by have := hr.2.2; omega)
    rw [Ty.enc_def] at h2
    refine br_T rfl (bd h2 ?_)
    simp
  | false =>
    refine br_F rfl ?_
    simp
theorem headTokens_law {t : Term} (hh : t.head = true) (hok : t.ok) : CC f_i_headTokens [.v t.enc] [] = some (.sl ((Term.first t :: Term.rest t).map .str), []) := by
  have H := Term.head_of hh
  have hk := H.k
  rw [Term.enc_def]
  apply go_i_headTokens
  unfold nf_i_headTokens
  by_cases h2 : t.k = 2
  · obtain ⟨e1, e2⟩ := Term.bool_rest H hh h2
    refine br_T (decide_eq_true h2) (bd (boolWord_law _) (br_T rfl (bd rfl ?_)))
    rw [e1]
    unfold Term.first
    rw [if_pos h2]
    rfl
  · refine br_F (decide_eq_false h2) (bd (go_i_termWords _ rfl) (br_T (by simp; omega) (bd rfl (bd (Term.kword_at2 hk h2) (br_T rfl (bd rfl (br_T rfl (bd rfl ?_))))))))
    have hs := H.s_iff
    have hz := H.z_iff
    have hn := H.num
    have hI := Itoa_law t.n (by have := H.i; unfold i64; omega)
    have hI2 := Itoa_law (t.ts.length : Int) (by have := Term.ts_len H; unfold i64; omega)
    have hf : Term.first t = Term.kword t.k := if_neg h2
    have tail := fun (acc : List (List UInt8)) (h : acc.length ≤ 1000) => headTail hh hok acc h
    have fin : ∀ (acc : List (List UInt8)), acc = Term.first t :: (Term.opt t.s ++ (Term.opt t.z ++ Term.numW t)) → ((acc ++ (Ty.toksL t.ts ++ (if hasT t.k = true then t.t.toks else []))).map CVal.str) = ((Term.first t :: Term.rest t).map CVal.str) := by
      rintro acc rfl
      unfold Term.rest
      simp
    rw [hf] at fin ⊢
    have kc : t.k = 1 ∨ t.k = 3 ∨ t.k = 4 ∨ t.k = 5 ∨ t.k = 6 ∨ t.k = 7 ∨ t.k = 8 ∨ t.k = 9 ∨ t.k = 10 ∨ t.k = 11 ∨ t.k = 12 ∨ t.k = 13 ∨ t.k = 14 ∨ t.k = 15 ∨ t.k = 16 ∨ t.k = 17 := by omega
    rcases kc with e | e | e | e | e | e | e | e | e | e | e | e | e | e | e | e
    all_goals (rw [e] at hs hz hn)
    all_goals first
      | have hs : t.s ≠ [] := fun q => (hs.1 q) (by decide)
        refine br_T (by simp [hs]) ?_
      | have hs : t.s = [] := hs.2 (by decide)
        refine br_F (by simp [hs]) ?_
    all_goals first
      | have hz : t.z = [] := hz.2 (by decide)
        refine br_F (by simp [hz]) ?_
      | have hz : t.z ≠ [] := fun q => (hz.1 q) (by decide)
        refine br_T (by simp [hz]) ?_
    all_goals first
      | -- a number
        refine bd (a := LO.out 0 (((), (), ()), (t.k, t.n, t.s, t.z, t.t.k, t.t.n, t.t.a.map Ty.enc, t.ts.map Ty.enc, t.a.map Term.enc, ()), ((Term.kword t.k :: (Term.opt t.s ++ (Term.opt t.z ++ Term.numW t))).map CVal.str), ())) ?_ (lo_out (br_T rfl ((tail _ ?_).trans ?_)))
        rotate_left
        · simp only [List.length_cons, List.length_append]
          have q1 : (Term.opt t.s).length ≤ 1 := by unfold Term.opt; split <;> simp
          have q2 : (Term.opt t.z).length ≤ 1 := by unfold Term.opt; split <;> simp
          have q3 : (Term.numW t).length ≤ 1 := by unfold Term.numW; repeat' split
                                                   all_goals simp
          omega
        · exact congrArg (fun x => some (CVal.sl x, [])) (fin _ rfl)
        first
          | (simp [e, hs, hz, Term.opt, Term.numW, hI]; done)
          | (simp [e, hs, hz, Term.opt, Term.numW, hI2]; done)
          | (have hn2 : 1 ≤ t.n ∧ t.n ≤ 5 := of_decide_eq_true hn
             refine br_F (by simp [e]) (br_F (by simp [e]) (br_F (by simp [e]) (br_T (by simp [e]) (bd (go_i_opSigns _ rfl) (br_T (by simp; omega) (bd rfl (bd (Term.sign_at hn2) (br_T rfl (bd rfl (br_T rfl (bd rfl ?_)))))))))))
             simp [e, hs, hz, Term.opt, Term.numW])
theorem termTokens_loop : ∀ (suf pre : List Term) (acc : List (List UInt8)), (pre ++ suf).length ≤ 1048576 →
    (∀ t ∈ suf, ∀ acc : List (List UInt8), acc.length + 201 * t.nodes ≤ 4000000 → CC f_i_termTokens [.lref 0 0, .v t.enc] [PB.arr ⟨true, false, 0⟩ false 1 (acc.map .str)] = some (.nilp, [(acc ++ t.toks).map .str])) → (∀ t ∈ suf, t.toks.length ≤ 201 * t.nodes) → acc.length + 201 * Term.nodesL suf ≤ 4000000 →
    LL f_i_termTokens 0 lc_i_termTokens_0 [PSh.arr ⟨true, false, 0⟩ false 1] k_i_termTokens_0 (((), (pre ++ suf).map Term.enc, ((pre ++ suf).length : Int), (pre.length : Int), ()), acc.map .str, ()) =
      some (.out 0 (((), (pre ++ suf).map Term.enc, ((pre ++ suf).length : Int), ((pre ++ suf).length : Int), ()), (acc ++ Term.toksL suf).map .str, ()))
  | [], pre, acc, hl, h, hm, hb => by
    apply gl_i_termTokens_0
    unfold nl_i_termTokens_0
    rw [lt_end']
    simp
  | t :: suf, pre, acc, hl, h, hm, hb => by
    apply gl_i_termTokens_0
    unfold nl_i_termTokens_0
    simp only [Term.nodesL_cons] at hb
    have ht := h t (by simp) acc (by omega)
    have hmt := hm t (by simp)
    have ih := termTokens_loop suf (pre ++ [t]) (acc ++ t.toks) (by simpa using hl) (fun u hu => h u (by simp [hu])) (fun u hu => hm u (by simp [hu])) (by rw [List.length_append]; omega)
    simp only [List.append_assoc, List.singleton_append] at ih
    rw [lt_mid', nn_mid, get_mid, wrap_mid pre suf t hl]
    simp only [br_true', Option.bind_some, Term.enc_fits, Term.enc_sub, Term.enc_isAggN, Term.enc_cell0, Term.enc_cell1, Term.enc_cell2, Term.enc_cell3, Term.enc_cell4, Term.enc_cell5, Term.enc_cell6, Term.enc_cell7, Term.enc_cell8, Term.enc_eta, ht, List.getElem?_cons_zero, Term.toksL_cons]
    exact ih
theorem strs_fitsF (l : List (List UInt8)) : (l.map CVal.str).all (CVal.fitsF false [CK.str]) = true := by
  rw [List.all_eq_true]
  intro x hx
  obtain ⟨s, _, rfl⟩ := List.mem_map.1 hx
  rfl
theorem termTokens_law : ∀ t : Term, t.good → t.ok → ∀ acc : List (List UInt8), acc.length + 201 * t.nodes ≤ 4000000 →
    CC f_i_termTokens [.lref 0 0, .v t.enc] [PB.arr ⟨true, false, 0⟩ false 1 (acc.map .str)] = some (.nilp, [(acc ++ t.toks).map .str]) := Term.ind fun t ih hg hok acc hb => by
  obtain ⟨hh, hp⟩ := (Term.good_def t).1 hg
  have H := Term.head_of hh
  rw [Term.nodes_def] at hb
  have hr := Term.rest_many H
  have hloop := termTokens_loop t.a [] (acc ++ (Term.first t :: Term.rest t)) (by simpa using hok.a_len) (fun u hu => ih u hu (hp u hu) (hok.a hu)) (fun u hu => Term.toks_many u (hp u hu)) (by simp only [List.length_append, List.length_cons]; omega)
  simp only [List.nil_append, List.length_nil, Int.cast_ofNat_Int] at hloop
  have h1 := headTokens_law hh hok
  rw [Term.enc_def] at h1
  have hle : (decide ((acc.map CVal.str).length + ((Term.first t :: Term.rest t).map CVal.str).length ≤ 4294967296) && true && true) = true := by
    simp only [List.length_map, List.length_cons, Bool.and_true, decide_eq_true_eq]; omega
  rw [Term.enc_def]
  apply go_i_termTokens
  unfold nf_i_termTokens
  refine bd h1 (bd rfl (br_T (strs_fitsF _) (br_T hle ?_)))
  rw [← List.map_append, List.length_map]
  refine bd hloop (lo_out (br_T rfl ?_))
  rw [Term.toks_def]
  simp
theorem TermText_i {t : Term} (hok : t.ok) : CC f_i_TermText [.v t.enc] [] = some (.str (if t.right then t.text else []), []) := by
  have h := TermOk_i hok
  rw [Term.enc_def] at h
  rw [Term.enc_def]
  apply go_i_TermText
  unfold nf_i_TermText
  refine bd h (bd rfl ?_)
  by_cases hr : t.right
  · have hn := hr.2.2
    have h2 := termTokens_law t hr.1 hok [] (by simp; omega)
    have h4 := Term.text_len t hr.1
    have h3 := Term.toks_many t hr.1
    rw [Term.enc_def] at h2
    simp only [List.map_nil, List.nil_append] at h2
    refine br_F (by simp [hr]) (bd h2 (bd rfl (bd (Join_law t.toks (by omega) (by show t.text.length ≤ _; omega)) ?_)))
    rw [if_pos hr]
    rfl
  · refine br_T (by simp [hr]) ?_
    rw [if_neg hr]
macro "lenT" : tactic => `(tactic| refine br_T (decide_eq_true (by (try simp only [List.length_append, List.length_cons, List.length_nil]); omega)) ?_)
theorem l2Word_law {k : Int} (h : 1 ≤ k ∧ k ≤ 17) : CC f_s_l2Word [.v (.int .i64 k)] [] = some (.str (Term.kword k), []) := by
  apply go_s_l2Word
  unfold nf_s_l2Word
  exact br_T (by simp; omega) (br_T (by simp; omega) (bd (Term.kword_at h) (bd rfl (bd rfl rfl))))
theorem textTs_loop {c0 c1 c4 c5 : Int} {c2 c3 : List UInt8} {c6 c8 : List CVal} : ∀ (suf pre : List Ty) (acc : List UInt8), (pre ++ suf).length ≤ 1048576 → (∀ t ∈ suf, t.right ∧ t.ok) → acc.length + 200 * suf.length ≤ 3000000 →
    LL f_s_l2Text 1 lc_s_l2Text_1 [] k_s_l2Text_1 (((), acc, (pre.length : Int), ()), (c0, c1, c2, c3, c4, c5, c6, (pre ++ suf).map Ty.enc, c8, ()), ()) =
      some (.out 1 (((), acc ++ Ty.textL suf, ((pre ++ suf).length : Int), ()), (c0, c1, c2, c3, c4, c5, c6, (pre ++ suf).map Ty.enc, c8, ()), ()))
  | [], pre, acc, hl, h, hb => by
    apply gl_s_l2Text_1
    unfold nl_s_l2Text_1
    rw [lt_end]
    simp
  | t :: suf, pre, acc, hl, h, hb => by
    apply gl_s_l2Text_1
    unfold nl_s_l2Text_1
    obtain ⟨hr, hok⟩ := h t (by simp)
    simp only [List.length_cons] at hb
    have ht := l1Text_right hr hok
    have hlt := Term.right_text hr
    have ih := textTs_loop (c0 := c0) (c1 := c1) (c2 := c2) (c3 := c3) (c4 := c4) (c5 := c5) (c6 := c6) (c8 := c8) suf (pre ++ [t]) (acc ++ [32] ++ t.text) (by simpa using hl) (fun u hu => h u (by simp [hu])) (by simp only [List.length_append, List.length_cons, List.length_nil]; omega)
    simp only [List.append_assoc, List.singleton_append] at ih
    have h3 : (acc ++ [(32 : UInt8)]).length + t.text.length ≤ 1152921504606846976 := by simp only [List.length_append, List.length_cons, List.length_nil]; omega
    rw [lt_mid, nn_mid, get_mid, wrap_mid pre suf t hl, decide_eq_true (show acc.length + 1 ≤ 1152921504606846976 by omega)]
    simp only [br_true', Option.bind_some, Ty.enc_fits, Ty.enc_sub, ht, asStr_str, h3, decide_true, Ty.textL_cons, List.append_assoc, List.singleton_append, List.cons_append, List.nil_append]
    exact ih
theorem textA_loop {c0 c1 c4 c5 : Int} {c2 c3 : List UInt8} {c6 c7 : List CVal} : ∀ (suf pre : List Term) (acc : List UInt8), (pre ++ suf).length ≤ 1048576 → (∀ t ∈ suf, CC f_s_l2Text [.v t.enc] [] = some (.str t.text, [])) → (∀ t ∈ suf, t.text.length + 1 ≤ 800 * t.nodes) → acc.length + 800 * Term.nodesL suf ≤ 3000000 →
    LL f_s_l2Text 3 lc_s_l2Text_3 [] k_s_l2Text_3 (((), acc, (pre.length : Int), ()), (c0, c1, c2, c3, c4, c5, c6, c7, (pre ++ suf).map Term.enc, ()), ()) =
      some (.out 3 (((), acc ++ Lib.joinTail [32] (Term.toksL suf), ((pre ++ suf).length : Int), ()), (c0, c1, c2, c3, c4, c5, c6, c7, (pre ++ suf).map Term.enc, ()), ()))
  | [], pre, acc, hl, h, hm, hb => by
    apply gl_s_l2Text_3
    unfold nl_s_l2Text_3
    rw [lt_end]
    simp [Term.joinTail_nil]
  | t :: suf, pre, acc, hl, h, hm, hb => by
    apply gl_s_l2Text_3
    unfold nl_s_l2Text_3
    simp only [Term.nodesL_cons] at hb
    have ht := h t (by simp)
    have hlt := hm t (by simp)
    have ih := textA_loop (c0 := c0) (c1 := c1) (c2 := c2) (c3 := c3) (c4 := c4) (c5 := c5) (c6 := c6) (c7 := c7) suf (pre ++ [t]) (acc ++ [32] ++ t.text) (by simpa using hl) (fun u hu => h u (by simp [hu])) (fun u hu => hm u (by simp [hu])) (by simp only [List.length_append, List.length_cons, List.length_nil]; omega)
    simp only [List.append_assoc, List.singleton_append] at ih
    have h3 : (acc ++ [(32 : UInt8)]).length + t.text.length ≤ 1152921504606846976 := by simp only [List.length_append, List.length_cons, List.length_nil]; omega
    rw [lt_mid, nn_mid, get_mid, wrap_mid pre suf t hl, decide_eq_true (show acc.length + 1 ≤ 1152921504606846976 by omega)]
    simp only [br_true', Option.bind_some, Term.enc_fits, Term.enc_sub, ht, asStr_str, h3, decide_true, Term.toksL_cons, Ty.joinTail_append, Term.joinTail_toks, List.append_assoc, List.singleton_append, List.cons_append, List.nil_append]
    exact ih
theorem l2Text_law : ∀ t : Term, t.good → t.ok → t.nodes ≤ 150 → CC f_s_l2Text [.v t.enc] [] = some (.str t.text, []) := Term.ind fun t ih hg hok hb => by
  obtain ⟨hh, hp⟩ := (Term.good_def t).1 hg
  have H := Term.head_of hh
  have hk := H.k
  have hn := H.num
  have hs := H.s_iff
  have hz := H.z_iff
  have hT := H.t_pos
  have hty := H.ty
  have hni := H.i
  have hsl := H.s_len
  have hzl := H.z_len
  have htl := Term.ts_len H
  have hI := l2Int_law t.n (by omega) (by omega)
  have hI2 := l2Int_law (t.ts.length : Int) (by omega) (by omega)
  have hI3 : CC f_s_l2Int [.v (.int .i64 ((t.ts.map Ty.enc).length : Int))] [] = some (.str (Lib.itoa (t.ts.length : Int)), []) := by rw [List.length_map]; exact hI2
  have hIl := Term.itoa_short hni
  have hIl2 : (Lib.itoa (t.ts.length : Int)).length ≤ 21 := itoa_len _ (by unfold i64; omega)
  have hkl := Term.kword_len t.k
  have hsg := Term.sign_len t.n
  rw [Term.nodes_def] at hb
  have hnodes : ∀ u ∈ t.a, u.nodes ≤ 150 := fun u hu => by
    have : u.nodes ≤ Term.nodesL t.a := Term.nodes_mem hu
    omega
  have hlA : ∀ acc : List UInt8, acc.length ≤ 2000 → LL f_s_l2Text 3 lc_s_l2Text_3 [] k_s_l2Text_3 (((), acc, 0, ()), (t.k, t.n, t.s, t.z, t.t.k, t.t.n, t.t.a.map Ty.enc, t.ts.map Ty.enc, t.a.map Term.enc, ()), ()) =
      some (.out 3 (((), acc ++ Lib.joinTail [32] (Term.toksL t.a), (t.a.length : Int), ()), (t.k, t.n, t.s, t.z, t.t.k, t.t.n, t.t.a.map Ty.enc, t.ts.map Ty.enc, t.a.map Term.enc, ()), ())) := fun acc ha =>
    textA_loop t.a [] acc (by simpa using hok.a_len) (fun u hu => ih u hu (hp u hu) (hok.a hu) (hnodes u hu)) (fun u hu => Term.text_len u (hp u hu)) (by omega)
  have hlT : ∀ acc : List UInt8, acc.length ≤ 1000 → LL f_s_l2Text 1 lc_s_l2Text_1 [] k_s_l2Text_1 (((), acc, 0, ()), (t.k, t.n, t.s, t.z, t.t.k, t.t.n, t.t.a.map Ty.enc, t.ts.map Ty.enc, t.a.map Term.enc, ()), ()) =
      some (.out 1 (((), acc ++ Ty.textL t.ts, (t.ts.length : Int), ()), (t.k, t.n, t.s, t.z, t.t.k, t.t.n, t.t.a.map Ty.enc, t.ts.map Ty.enc, t.a.map Term.enc, ()), ())) := fun acc ha =>
    textTs_loop t.ts [] acc (by simp; omega) (fun x hx => ⟨H.tsr x hx, hok.ts hx⟩) (by omega)
  have htsl := Term.textL_len t.ts H.tsr
  have fin : ∀ acc : List UInt8, acc = Term.first t ++ (Lib.joinTail [32] (Term.opt t.s) ++ (Lib.joinTail [32] (Term.opt t.z) ++ (Lib.joinTail [32] (Term.numW t)))) ++ (if hasT t.k = true then 32 :: t.t.text else []) → acc.length ≤ 1000 → (hasT t.k = true → t.ts = []) →
      ((LL f_s_l2Text 1 lc_s_l2Text_1 [] k_s_l2Text_1 (((), acc, 0, ()), (t.k, t.n, t.s, t.z, t.t.k, t.t.n, t.t.a.map Ty.enc, t.ts.map Ty.enc, t.a.map Term.enc, ()), ())).bind fun r =>
        loK r (fun r => some r) fun j p => br (j == 1)
          ((LL f_s_l2Text 3 lc_s_l2Text_3 [] k_s_l2Text_3 (((), p.fst.snd.1, 0, ()), (p.snd.fst.1, p.snd.fst.snd.1, p.snd.fst.snd.snd.1, p.snd.fst.snd.snd.snd.1, p.snd.fst.snd.snd.snd.snd.1, p.snd.fst.snd.snd.snd.snd.snd.1, p.snd.fst.snd.snd.snd.snd.snd.snd.1, p.snd.fst.snd.snd.snd.snd.snd.snd.snd.1, p.snd.fst.snd.snd.snd.snd.snd.snd.snd.snd.1, ()), ())).bind fun r =>
            loK r (fun r => some r) fun j p => br (j == 3) (some (CVal.str p.fst.snd.1, [])) none) none) = some (CVal.str t.text, []) := by
    intro acc he hl hts
    refine bd (hlT acc hl) (lo_out (br_T rfl (bd (hlA _ (by simp only [List.length_append]; omega)) (lo_out (br_T rfl ?_)))))
    show some (CVal.str (acc ++ Ty.textL t.ts ++ Lib.joinTail [32] (Term.toksL t.a)), []) = _
    rw [Term.text_eq, he]
    unfold Term.rest
    simp only [Ty.joinTail_append, Ty.joinTail_toksL]
    cases e : hasT t.k with
    | true =>
      rw [hts e]
      simp only [if_true, Ty.joinTail_toks, Ty.textL_nil, List.append_assoc, List.nil_append, List.append_nil]
    | false => simp [Term.joinTail_nil]
  rw [Term.enc_def]
  apply go_s_l2Text
  unfold nf_s_l2Text
  refine bd (l2Word_law hk) ?_
  have kc : t.k = 1 ∨ t.k = 2 ∨ t.k = 3 ∨ t.k = 4 ∨ t.k = 5 ∨ t.k = 6 ∨ t.k = 7 ∨ t.k = 8 ∨ t.k = 9 ∨ t.k = 10 ∨ t.k = 11 ∨ t.k = 12 ∨ t.k = 13 ∨ t.k = 14 ∨ t.k = 15 ∨ t.k = 16 ∨ t.k = 17 := by omega
  obtain ⟨A, hA, hAl, hj⟩ : ∃ A : List UInt8, A = Term.first t ++ (if t.k = 1 ∨ t.k = 15 then Lib.joinTail [32] (Term.numW t) else []) ∧ A.length ≤ 50 ∧
      (br (decide (t.k = 1)) ((CVal.str (Term.kword t.k)).asStr.bind fun s => br (decide (s.length + 1 ≤ 1152921504606846976)) ((CC f_s_l2Int [AVal.v (CVal.int .i64 t.n)] []).bind fun r => r.1.asStr.bind fun s_1 => br (decide ((s ++ [(32 : UInt8)]).length + s_1.length ≤ 1152921504606846976))
          (some (LO.out 0 (((), s ++ [(32 : UInt8)] ++ s_1, ()), (t.k, t.n, t.s, t.z, t.t.k, t.t.n, t.t.a.map Ty.enc, t.ts.map Ty.enc, t.a.map Term.enc, ()), ()))) none) none)
        (br (decide (t.k = 2)) (br (decide (t.n = 0)) (some (LO.out 0 (((), [(117 : UInt8)], ()), (t.k, t.n, t.s, t.z, t.t.k, t.t.n, t.t.a.map Ty.enc, t.ts.map Ty.enc, t.a.map Term.enc, ()), ())))
            ((CVal.str (Term.kword t.k)).asStr.bind fun s => some (LO.out 0 (((), s, ()), (t.k, t.n, t.s, t.z, t.t.k, t.t.n, t.t.a.map Ty.enc, t.ts.map Ty.enc, t.a.map Term.enc, ()), ()))))
          (br (decide (t.k = 15)) ((CVal.str (Term.kword t.k)).asStr.bind fun s => br (decide (s.length + 1 ≤ 1152921504606846976)) (br (decide (0 ≤ t.n) && true) (br (decide (t.n.toNat < 6) && true)
              ([CVal.str [], CVal.str [(43 : UInt8)], CVal.str [(45 : UInt8)], CVal.str [(42 : UInt8)], CVal.str [(60 : UInt8)], CVal.str [(61 : UInt8)]][t.n.toNat]?.bind fun y => (y.cell 0).bind fun c => c.asStr.bind fun s_1 =>
                br (decide ((s ++ [(32 : UInt8)]).length + s_1.length ≤ 1152921504606846976)) (some (LO.out 0 (((), s ++ [(32 : UInt8)] ++ s_1, ()), (t.k, t.n, t.s, t.z, t.t.k, t.t.n, t.t.a.map Ty.enc, t.ts.map Ty.enc, t.a.map Term.enc, ()), ()))) none) none) none) none)
            ((CVal.str (Term.kword t.k)).asStr.bind fun s => some (LO.out 0 (((), s, ()), (t.k, t.n, t.s, t.z, t.t.k, t.t.n, t.t.a.map Ty.enc, t.ts.map Ty.enc, t.a.map Term.enc, ()), ())))) ) : Option (LO kj_s_l2Text_0.T)) = some (LO.out 0 (((), A, ()), (t.k, t.n, t.s, t.z, t.t.k, t.t.n, t.t.a.map Ty.enc, t.ts.map Ty.enc, t.a.map Term.enc, ()), ())) := by
    refine ⟨_, rfl, ?_, ?_⟩
    · have h5 := Term.first_len t
      have h6 := Term.numW_len H
      split
      · rw [List.length_append]; omega
      · simp; omega
    · by_cases h1 : t.k = 1
      · refine br_T (decide_eq_true h1) (bd rfl ?_)
        lenT
        refine bd hI (bd rfl ?_)
        lenT
        rw [if_pos (.inl h1)]
        unfold Term.first Term.numW
        rw [if_neg (by omega), if_pos (.inl h1), Term.joinTail_one]
        simp
      · refine br_F (decide_eq_false h1) ?_
        by_cases h2 : t.k = 2
        · have hn2 : t.n = 0 ∨ t.n = 1 := by rw [h2] at hn; unfold numberOk at hn; simp at hn; omega
          refine br_T (decide_eq_true h2) ?_
          rw [if_neg (by omega)]
          unfold Term.first
          rw [if_pos h2, h2]
          rcases hn2 with e | e <;> rw [e] <;> rfl
        · refine br_F (decide_eq_false h2) ?_
          by_cases h15 : t.k = 15
          · have hn2 : 1 ≤ t.n ∧ t.n ≤ 5 := by rw [h15] at hn; exact of_decide_eq_true hn
            refine br_T (decide_eq_true h15) (bd rfl ?_)
            lenT
            refine br_T (by simp; omega) (br_T (by simp; omega) (bd (Term.sign_at hn2) (bd rfl (bd rfl ?_))))
            lenT
            rw [if_pos (.inr h15)]
            unfold Term.first Term.numW
            rw [if_neg (by omega), if_neg (by omega), if_pos h15, Term.joinTail_one]
            simp
          · refine br_F (decide_eq_false h15) (bd rfl ?_)
            rw [if_neg (by omega)]
            unfold Term.first
            rw [if_neg h2, List.append_nil]
  refine bd hj (lo_out (br_T rfl ?_))
  clear hj
  rcases kc with e | e | e | e | e | e | e | e | e | e | e | e | e | e | e | e | e
  all_goals (rw [e] at hs hz hT hn hty)
  all_goals first
    | have hs : t.s ≠ [] := fun q => (hs.1 q) (by decide)
      refine br_T (by simp [hs]) ?_
      lenT
      lenT
    | have hs : t.s = [] := hs.2 (by decide)
      refine br_F (by simp [hs]) ?_
  all_goals first
    | have hz : t.z = [] := hz.2 (by decide)
      refine br_F (by simp [hz]) ?_
    | have hz : t.z ≠ [] := fun q => (hz.1 q) (by decide)
      refine br_T (by simp [hz]) ?_
      lenT
      lenT
  all_goals refine bd (a := (decide (t.k = 6 ∨ t.k = 7), PUnit.unit)) (by simp [e]) ?_
  all_goals first
    | have q : ¬ (t.k = 6 ∨ t.k = 7) := by omega
      refine br_F (decide_eq_false q) ?_
    | have q : t.k = 6 ∨ t.k = 7 := by omega
      refine br_T (decide_eq_true q) ?_
      lenT
      refine bd hI (bd rfl ?_)
      lenT
  all_goals first
    | have q : ¬ t.k = 3 := by omega
      refine br_F (decide_eq_false q) ?_
    | have q : t.k = 3 := by omega
      refine br_T (decide_eq_true q) ?_
      lenT
      refine bd hI3 (bd rfl ?_)
      lenT
  all_goals first
    | have hd : hasT t.k = false := by rw [e]; decide
      have hT0 : ¬ 0 < t.t.k := by
        intro q
        have := H.t_pos.1 q
        rw [hd] at this
        cases this
      refine br_F (decide_eq_false hT0) ?_
      refine fin _ ?_ ?_ ?_
      · rw [hA, e]
        simp [Term.opt, Term.numW, hs, hz, e, Term.joinTail_one, Term.joinTail_nil, hasT, List.append_assoc]
      · simp only [List.length_append, List.length_cons, List.length_nil]; omega
      · intro q
        rw [e] at q
        exact absurd q (by decide)
    | have hr := hty (by decide)
      have hx := l1Text_right hr hok.t
      have hxl := Term.right_text hr
      rw [Ty.enc_def] at hx
      refine br_T (decide_eq_true (hT.2 (by decide))) ?_
      lenT
      refine bd hx (bd rfl ?_)
      lenT
      refine fin _ ?_ ?_ ?_
      · rw [hA, e]
        simp [Term.opt, Term.numW, hs, hz, e, Term.joinTail_one, Term.joinTail_nil, hasT, List.append_assoc]
      · simp only [List.length_append, List.length_cons, List.length_nil]; omega
      · intro q
        exact H.ts_nil (by omega)
theorem TermText_s {t : Term} (hok : t.ok) : CC f_s_TermText [.v t.enc] [] = some (.str (if t.right then t.text else []), []) := by
  have h := TermOk_s hok
  rw [Term.enc_def] at h
  rw [Term.enc_def]
  apply go_s_TermText
  unfold nf_s_TermText
  refine bd h (bd rfl ?_)
  by_cases hr : t.right
  · have h2 := l2Text_law t hr.1 hok hr.2.2
    rw [Term.enc_def] at h2
    refine br_F (by simp [hr]) (bd h2 ?_)
    rw [if_pos hr]
  · refine br_T (by simp [hr]) ?_
    rw [if_neg hr]
end Go.Proofs.YtegbnddjgifcdaaDoor.Abs
