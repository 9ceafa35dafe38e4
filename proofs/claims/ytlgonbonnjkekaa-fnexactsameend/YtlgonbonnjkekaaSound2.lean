/- Reading and writing memory. -/
import Derived.Test.YtlgonbonnjkekaaSound1
set_option linter.unusedVariables false
set_option linter.unusedSectionVars false
set_option linter.unusedSimpArgs false
namespace Go.Proofs.Ytlgonbonnjkekaa.Abs
open Go

/-- What an operation leaves. -/
structure Post (F : Nat → Prop) (w : World) (μ : List Hd) (b : List Blk) (w' : World) (μ' : List Hd) (b' : List Blk) (x : AVal) (v : Value) : Prop where
  upd : Upd F w μ b w' μ' b'
  rel : Rel F w' μ' b'
  val : ARel (Or F (Own μ' b')) w' μ' b' x v
  fr : Fr (Own μ b) w w'

theorem Upd.refl {F : Nat → Prop} {w : World} {μ : List Hd} {b : List Blk} (R : Rel F w μ b) : Upd F w μ b w μ b :=
  ⟨R.len, R.len, fun i blk h hb hm => ⟨blk, h, hb, hm, .refl _ _⟩, Nat.le_refl _, fun x hx => ⟨(R.fres x hx).2, .inr hx⟩, fun _ _ _ => rfl⟩

theorem Post.same {F : Nat → Prop} {w : World} {μ : List Hd} {b : List Blk} {x : AVal} {v : Value} (R : Rel F w μ b) (h : ARel (Or F (Own μ b)) w μ b x v) :
    Post F w μ b w μ b x v := ⟨.refl R, R, h, .refl _ _⟩

theorem VerOk.trans {a b c : Blk} {h k l : Hd} (x : VerOk a h b k) (y : VerOk b k c l) : VerOk a h c l :=
  ⟨Nat.le_trans x.le y.le, fun n => y.nn (x.nn n), fun v e => y.box v (x.box v e), fun e ha hn => by
    have e1 := x.le
    have e2 := y.le
    obtain ⟨h1, h2⟩ := y.same (by omega) ha (x.nn hn)
    obtain ⟨h3, h4⟩ := x.same (by omega) h1 hn
    exact ⟨h3, by rw [h2, h4]⟩⟩

theorem Upd.trans {F : Nat → Prop} {w w1 w2 : World} {μ μ1 μ2 : List Hd} {b b1 b2 : List Blk} (U : Upd F w μ b w1 μ1 b1) (V : Upd F w1 μ1 b1 w2 μ2 b2) :
    Upd F w μ b w2 μ2 b2 := by
  refine ⟨U.len0, V.len, ?_, Nat.le_trans U.size V.size, ?_, ?_⟩
  · intro i blk h hb hm
    obtain ⟨blk1, h1, hb1, hm1, v1⟩ := U.old i blk h hb hm
    obtain ⟨blk2, h2, hb2, hm2, v2⟩ := V.old i blk1 h1 hb1 hm1
    exact ⟨blk2, h2, hb2, hm2, v1.trans v2⟩
  · intro x hx
    obtain ⟨h1, h2⟩ := V.own x hx
    refine ⟨h1, ?_⟩
    rcases h2 with h2 | h2
    · have := U.size; exact .inl (by omega)
    · exact (U.own x h2).2
  · intro x hx hn
    rw [V.mem x (Nat.lt_of_lt_of_le hx U.size) ?_, U.mem x hx hn]
    intro h
    rcases (U.own x h).2 with h' | h'
    · omega
    · exact hn h'

theorem Fr.step {F : Nat → Prop} {w w1 w2 : World} {μ μ1 : List Hd} {b b1 : List Blk} (U : Upd F w μ b w1 μ1 b1) (f : Fr (Own μ b) w w1) (g : Fr (Own μ1 b1) w1 w2) :
    Fr (Own μ b) w w2 :=
  f.trans g fun x hx ho => by
    rcases (U.own x ho).2 with h | h
    · omega
    · exact h

section
variable {P : Program} {w : World} {F N : Nat → Prop} {μ : List Hd} {b : List Blk}

theorem run_loadVar_agg {t : TypeId} {d : TypeDesc} {x o : Nat} {vs : List Value} (h : P.underlying t = some d) (ha : aggT P t = true) (hn : vs.length = P.cellsOf t)
    (hc : ∀ j v, vs[j]? = some v → w.cell? (pl x (o + j)) = some v) : (loadVar t (pl x o)).run P w = .ok (.agg vs.toArray) w := by
  have hl : (loadCells (pl x o) (P.cellsOf t)).run P w = .ok vs.toArray w := by
    rw [← hn]
    exact run_loadCells_list w (pl x o) vs fun j v hj => by rw [pl_add]; exact hc j v hj
  simp [loadVar, run_agg h, ha, run_size h, hl]

theorem run_loadVar_one {t : TypeId} {d : TypeDesc} {x o : Nat} {v : Value} (h : P.underlying t = some d) (ha : aggT P t = false)
    (hc : w.cell? (pl x o) = some v) : (loadVar t (pl x o)).run P w = .ok v w := by
  simp [loadVar, run_agg h, ha, hc]

theorem cell_of_heap {x o : Nat} {vs : List Value} {e : TypeId} {fr : Nat × Nat} (h : w.heap[x]? = some (.cells vs.toArray e fr)) : w.cell? (pl x o) = vs[o]? := by
  simp [World.cell?, pl, h]

/-- A box, at its place. -/
theorem Rel.box {i : Nat} {cs : List AVal} (R : Rel F w μ b) (h : boxOf b i = some cs) : ∃ ver x vs e, b[i]? = some ⟨ver, .box cs⟩ ∧ μ[i]? = some (.box x) ∧
    w.heap[x]? = some (.cells (List.toArray vs) e (0, 0)) ∧ AsRel (Or F (Own μ b)) w μ b true cs vs ∧ Own μ b x := by
  unfold boxOf at h
  split at h
  · rename_i ver cs' hb
    simp at h; subst h
    have hi : i < μ.length := by rw [R.len]; exact (List.getElem?_eq_some_iff.1 hb).1
    obtain ⟨x, vs, e, hx, hw, ha⟩ := R.blk i _ _ hb (List.getElem?_eq_getElem hi)
    have hm : μ[i]? = some (.box x) := by rw [List.getElem?_eq_getElem hi, hx]
    exact ⟨ver, x, vs, e, hb, hm, hw, ha, i, _, _, hb, rfl, hm, rfl⟩
  · cases h

theorem Rel.arr {i ver : Nat} {xs : List CVal} (R : Rel F w μ b) (h : arrOf b i ver = some xs) : ∃ sz base cap, b[i]? = some ⟨ver, .arr sz xs⟩ ∧ μ[i]? = some (.arr base xs.length cap sz) ∧
    xs.length ≤ cap ∧ (cap = 0 ∨ ∃ x cells e, base = some (pl x 0) ∧ w.heap[x]? = some (.cells cells e (0, 0)) ∧ cap * sz ≤ cells.size ∧ ElRel (Or F (Own μ b)) w sz x 0 xs) := by
  unfold arrOf at h
  split at h
  · rename_i ver' sz xs' hb
    obtain ⟨h1, h2⟩ := br_none h
    simp at h1 h2; subst h1 h2
    have hi : i < μ.length := by rw [R.len]; exact (List.getElem?_eq_some_iff.1 hb).1
    obtain ⟨base, cap, hx, hl, hc⟩ := R.blk i _ _ hb (List.getElem?_eq_getElem hi)
    exact ⟨sz, base, cap, hb, by rw [List.getElem?_eq_getElem hi, hx], hl, hc⟩
  · cases h

/-- Reading a part of a closed value that lies in memory. -/
theorem load_part {t : TypeId} {d : TypeDesc} {R' : Type} {c : CVal} {u : Value} {x o off : Nat} {K : AVal → Option R'} {r : R'} (hd : P.underlying t = some d) (hc : CRel N w c u)
    (hj : ∀ j, j < u.cells.size → w.cell? (pl x (o + j)) = u.cells[j]?) (hfl : (∃ n, c.isAggN n = true) ∨ c.isFlat = true)
    (h : br (aggT P t) ((c.sub off (P.cellsOf t)).bind fun d => K (.v d)) ((c.cell off).bind fun d => K (.v d)) = some r) :
    ∃ y, K (.v y) = some r ∧ ∃ v, (loadVar t (pl x (o + off))).run P w = .ok v w ∧ CRel N w y v := by
  obtain ⟨vs, hvs, hcs⟩ := CRel.cells hc hfl
  have hcell : ∀ j v, vs[j]? = some v → w.cell? (pl x (o + j)) = some v := by
    intro j v hv
    rw [hj j (by rw [hvs]; simpa using (List.getElem?_eq_some_iff.1 hv).1), hvs]
    simpa using hv
  rcases br_some h with ⟨ha, h⟩ | ⟨ha, h⟩
  · obtain ⟨y, hy, h⟩ := bind_some' h
    refine ⟨y, h, ?_⟩
    unfold CVal.sub at hy
    rcases br_some hy with ⟨h1, h2⟩ | ⟨h1, h2⟩
    · simp only [Option.some.injEq] at h2
      simp only [Bool.and_eq_true, decide_eq_true_eq] at h1
      obtain ⟨h0, h1⟩ := h1
      subst h2 h0
      obtain ⟨cs, rfl, hn⟩ := isAggN_iff h1
      obtain ⟨vs', rfl, hcs'⟩ := hc
      have : vs = vs' := by simpa [Value.cells] using hvs.symm
      subst this
      exact ⟨_, run_loadVar_agg hd ha (by rw [hcs'.len]; exact hn) (fun j v hv => by simpa using hcell j v hv), vs, rfl, hcs'⟩
    · obtain ⟨h1, h2⟩ := br_none h2
      simp only [Option.some.injEq] at h2
      simp only [decide_eq_true_eq] at h1
      subst h2
      have hcs' := (hcs.drop off).take (P.cellsOf t)
      have hlen := hcs.len
      refine ⟨.agg ((vs.drop off).take (P.cellsOf t)).toArray, run_loadVar_agg hd ha (by rw [hcs'.len]; simp; omega) ?_, _, rfl, hcs'⟩
      intro j v hv
      have hj : j < P.cellsOf t := by
        have := (List.getElem?_eq_some_iff.1 hv).1
        simp at this; omega
      rw [List.getElem?_take_of_lt hj, List.getElem?_drop] at hv
      rw [Nat.add_assoc]
      exact hcell _ _ hv
  · obtain ⟨y, hy, h⟩ := bind_some' h
    obtain ⟨v, hv, hr, _⟩ := hcs.get hy
    exact ⟨y, h, v, run_loadVar_one hd ha (hcell _ _ hv), hr⟩

theorem sureAddr_run {a : Addr} : (Instr.sureAddr (.pointer (some a))).run P w = .ok a w := rfl

theorem loadK_sound {t : TypeId} {R' : Type} {x : AVal} {v : Value} {K : AVal → Option R'} {r : R'} (R : Rel F w μ b) (hx : ARel (Or F (Own μ b)) w μ b x v)
    (h : loadK P t b x K = some r) : ∃ y, K y = some r ∧ ∃ u, (Instr.loadAt t v).run P w = .ok u w ∧ ARel (Or F (Own μ b)) w μ b y u := by
  unfold loadK at h
  split at h
  · cases h
  rename_i d hd
  split at h
  · rename_i i off
    obtain ⟨cs, hcs, h⟩ := bind_some' h
    obtain ⟨ver, x', vs, e, hb, hm, hw, ha, ho⟩ := R.box hcs
    obtain ⟨x'', hm', rfl⟩ := hx
    rw [hm] at hm'; cases hm'
    rcases br_some h with ⟨hag, h⟩ | ⟨hag, h⟩
    · obtain ⟨hl, h⟩ := br_none h
      simp only [decide_eq_true_eq] at hl
      refine ⟨_, h, .agg ((vs.drop off).take (P.cellsOf t)).toArray, ?_, ?_⟩
      · have hlen := ha.len
        simp only [Instr.loadAt, Sem.run_bind, sureAddr_run, Result.andThen_ok]
        refine run_loadVar_agg hd hag (by simp; omega) fun j v hv => ?_
        have hj : j < P.cellsOf t := by
          have := (List.getElem?_eq_some_iff.1 hv).1
          simp at this; omega
        rw [List.getElem?_take_of_lt hj, List.getElem?_drop] at hv
        rw [cell_of_heap hw]; exact hv
      · exact mkAgg_rel ((ha.drop off).take _)
    · obtain ⟨y, hy, h⟩ := bind_some' h
      obtain ⟨u, hu, hr, _⟩ := ha.get hy
      refine ⟨y, h, u, ?_, hr⟩
      simp only [Instr.loadAt, Sem.run_bind, sureAddr_run, Result.andThen_ok]
      exact run_loadVar_one hd hag (by rw [cell_of_heap hw]; exact hu)
  · rename_i i ver idx off
    obtain ⟨xs, hxs, h⟩ := bind_some' h
    obtain ⟨c, hc, h⟩ := bind_some' h
    obtain ⟨sz, base, cap, hb, hm, hl, hcap⟩ := R.arr hxs
    obtain ⟨_, blk, hd', hb', hm', hn, hle, hcur⟩ := hx
    rw [hb] at hb'; cases hb'
    rw [hm] at hm'; cases hm'
    obtain ⟨x', len, cap', sz', he, hidx, rfl⟩ := hcur rfl rfl
    cases he
    rcases hcap with h0 | ⟨x'', cells, e, hbase, hw, hsz, hel⟩
    · omega
    · cases hbase
      obtain ⟨u, ht, hcu, hz, hj⟩ := hel.get hc
      have hfl := noTup_fl ht
      obtain ⟨y, hy, u', hr, hyu⟩ := load_part (x := x') (o := 0 + idx * sz) (off := off) hd hcu (fun j hjj => hj j (by omega)) hfl h
      refine ⟨_, hy, u', ?_, hyu⟩
      simp only [Instr.loadAt, Sem.run_bind, sureAddr_run, Result.andThen_ok]
      simpa using hr
  · rename_i p
    obtain ⟨q, hq, h⟩ := bind_some' h
    cases p <;> simp [CVal.asFp] at hq
    rename_i c off
    subst hq
    obtain ⟨x', o, u, rfl, hnb, hs, ht, hcu, hj⟩ := hx
    have hfl := noTup_fl ht
    obtain ⟨y, hy, u', hr, hyu⟩ := load_part (x := x') (o := o) (off := off) hd hcu hj hfl h
    exact ⟨_, hy, u', by simp only [Instr.loadAt, Sem.run_bind, sureAddr_run, Result.andThen_ok]; exact hr, hyu⟩
  · cases h
end

end Go.Proofs.Ytlgonbonnjkekaa.Abs
