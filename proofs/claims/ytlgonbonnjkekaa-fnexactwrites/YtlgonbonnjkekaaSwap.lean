/- Operations change places. -/
import Derived.Test.YtlgonbonnjkekaaDet2
set_option linter.unusedVariables false
set_option linter.unusedSectionVars false
set_option linter.unusedSimpArgs false
namespace Go.Proofs.Ytlgonbonnjkekaa.Abs
open Go

section
variable {E : Env} {C : CallT} {ops : Array Oper} {ro : Bool}

def opV (E : Env) (C : CallT) (q : Nat) (o : Oper) (t : List AVal) (b : List Blk) : Option (AVal × List Blk) := opK E C q o t b fun x b => some (x, b)

theorem opK_eq {q : Nat} {o : Oper} {t : List AVal} {b : List Blk} {R : Type} {K : AVal → List Blk → Option R} : opK E C q o t b K = (opV E C q o t b).bind fun p => K p.1 p.2 := by
  obtain ⟨z, hz⟩ := opK_det (E := E) (C := C) (q := q) (o := o) (t := t) (b := b)
  have h1 : opK E C q o t b K = z.bind fun p => K p.1 p.2 := hz R K
  have h2 : opV E C q o t b = z.bind fun p => some (p.1, p.2) := hz _ _
  rw [h1, h2]
  cases z <;> rfl

/-- Whether an operation is carried out. -/
def want (ops : Array Oper) (o : Oper) (t : List AVal) : Option Bool :=
  match o.guard with
  | none => some true
  | some (j, w) =>
    match guardSlot ops j with
    | none => none
    | some g =>
      match t.getD g .un with
      | .v (.bool p) => some (p == w)
      | .tup [] => some false
      | _ => none

/-- What a step comes to. -/
inductive Stp (E : Env) (C : CallT) (ro : Bool) (ops : Array Oper) (o : Oper) (t : List AVal) (b : List Blk) : Bool → List AVal → List Blk → Prop where
  | ran (x : AVal) (b1 : List Blk) : want ops o t = some true → (ro = true → roOp E o t = true) → opV E C b.length o t b = some (x, b1) → Stp E C ro ops o t b true (putA t o.dst x) b1
  | skip : want ops o t = some false → Stp E C ro ops o t b false (putA t o.dst skipped) b

theorem set_same {t : List AVal} {g : Nat} {x : AVal} (h : t.getD g .un = x) (hx : x ≠ .un) : t.set g x = t := by
  rw [List.getD_eq_getElem?_getD] at h
  cases ht : t[g]? with
  | none => rw [ht] at h; exact (hx h.symm).elim
  | some y =>
    rw [ht] at h
    simp at h; subst h
    apply List.ext_getElem?
    intro j
    by_cases hj : g = j
    · subst hj; rw [List.getElem?_set_self (List.getElem?_eq_some_iff.1 ht).1, ht]
    · rw [List.getElem?_set_ne hj]

theorem stepK_inv {o : Oper} {t : List AVal} {b : List Blk} {R : Type} {r : R} {K : Bool → List AVal → List AVal → List Blk → Option R} (h : stepK E C ro ops o t b K = some r) :
    ∃ ran t' b', Stp E C ro ops o t b ran t' b' ∧ K ran t t' b' = some r := by
  have go : ∀ {b0 : Bool}, b0 = (ro && !roOp E o t) → want ops o t = some true → br b0 none (opK E C b.length o t b fun x b => K true t (putA t o.dst x) b) = some r → ∃ ran t' b', Stp E C ro ops o t b ran t' b' ∧ K ran t t' b' = some r := by
    intro b0 hb hw h
    subst hb
    cases hro : (ro && !roOp E o t) with
    | true => rw [hro] at h; cases h
    | false =>
      rw [hro] at h
      simp only [br] at h
      rw [opK_eq] at h
      cases hv : opV E C b.length o t b with
      | none => rw [hv] at h; cases h
      | some p =>
        rw [hv] at h
        exact ⟨true, _, _, .ran p.1 p.2 hw (fun e => by rw [e] at hro; simpa using hro) hv, h⟩
  unfold stepK at h
  split at h
  · rename_i hg
    exact go rfl (by simp [want, hg]) h
  · rename_i j w hg
    split at h
    · cases h
    · rename_i g hgs
      split at h
      · rename_i c hc
        cases c with
        | bool p =>
          simp only [CVal.asBool, Option.bind_some] at h
          have hs : t.set g (.v (.bool p)) = t := set_same hc (by simp)
          have hw : want ops o t = some (p == w) := by simp only [want, hg, hgs, hc]
          cases p <;> cases w <;> simp only [br] at h <;> rw [hs] at h
          · exact go rfl hw h
          · exact ⟨false, _, _, .skip hw, h⟩
          · exact ⟨false, _, _, .skip hw, h⟩
          · exact go rfl hw h
        | _ => simp [CVal.asBool] at h
      · rename_i hc
        exact ⟨false, _, _, .skip (by simp only [want, hg, hgs, hc]), h⟩
      · cases h

theorem stepK_run {o : Oper} {t t' : List AVal} {b b' : List Blk} {ran : Bool} (h : Stp E C ro ops o t b ran t' b') {R : Type} {K : Bool → List AVal → List AVal → List Blk → Option R} :
    stepK E C ro ops o t b K = K ran t t' b' := by
  have go : ∀ {x : AVal} {b1 : List Blk}, (ro = true → roOp E o t = true) → opV E C b.length o t b = some (x, b1) →
      br (ro && !roOp E o t) none (opK E C b.length o t b fun x b => K true t (putA t o.dst x) b) = K true t (putA t o.dst x) b1 := by
    intro x b1 hro hv
    have : (ro && !roOp E o t) = false := by
      cases ro with
      | false => rfl
      | true => simp [hro rfl]
    rw [this]
    simp only [br]
    rw [opK_eq, hv]
    rfl
  unfold stepK
  cases h with
  | ran x b1 hw hro hv =>
    unfold want at hw
    split at hw
    · rename_i hg
      simp only [hg]
      exact go hro hv
    · rename_i j w hg
      simp only [hg]
      split at hw
      · cases hw
      · rename_i g hgs
        simp only [hgs]
        split at hw
        · rename_i p hc
          have hs : t.set g (.v (.bool p)) = t := set_same hc (by simp)
          simp only [hc, CVal.asBool, Option.bind_some]
          cases p <;> cases w <;> simp at hw <;> simp only [br] <;> rw [hs] <;> exact go hro hv
        · cases hw
        · cases hw
  | skip hw =>
    unfold want at hw
    split at hw
    · cases hw
    · rename_i j w hg
      simp only [hg]
      split at hw
      · cases hw
      · rename_i g hgs
        simp only [hgs]
        split at hw
        · rename_i p hc
          have hs : t.set g (.v (.bool p)) = t := set_same hc (by simp)
          simp only [hc, CVal.asBool, Option.bind_some]
          cases p <;> cases w <;> simp at hw <;> simp only [br] <;> rw [hs]
        · rename_i hc
          simp only [hc]
        · cases hw

/-! Slots. -/
theorem notIn_spec {d : Option Nat} {l : List Nat} (h : notIn d l = true) : ∀ i, d = some i → i ∉ l := by
  intro i hi
  subst hi
  simpa [notIn] using h

theorem putA_get {t : List AVal} {d : Option Nat} {x : AVal} {i : Nat} (h : ∀ j, d = some j → j ≠ i) : (putA t d x)[i]? = t[i]? := by
  cases d with
  | none => rfl
  | some j => exact List.getElem?_set_ne (h j rfl)

theorem evalA_put {o : Oper} {t : List AVal} {d : Option Nat} {v : AVal} (h : notIn d (o.looksAt ops) = true) : ∀ x ∈ o.op.operands, evalA (putA t d v) x = evalA t x := by
  intro x hx
  cases x with
  | tmp i =>
    simp only [evalA, List.getD_eq_getElem?_getD]
    rw [putA_get fun j hj e => notIn_spec h j hj (by
      subst e
      exact List.mem_append_left _ (List.mem_filterMap.2 ⟨.tmp j, by simpa using hx, rfl⟩))]
  | _ => rfl

theorem want_put {o : Oper} {t : List AVal} {d : Option Nat} {v : AVal} (h : notIn d (o.looksAt ops) = true) : want ops o (putA t d v) = want ops o t := by
  unfold want
  cases hg : o.guard with
  | none => rfl
  | some gw =>
    obtain ⟨j, w⟩ := gw
    simp only
    cases hgs : guardSlot ops j with
    | none => rfl
    | some g =>
      simp only
      have : (putA t d v).getD g .un = t.getD g .un := by
        simp only [List.getD_eq_getElem?_getD]
        rw [putA_get fun i hi e => notIn_spec h i hi (by
          subst e
          unfold guardSlot at hgs
          simp [Oper.looksAt, hg, hgs])]
      rw [this]

theorem putA_comm {t : List AVal} {d e : Option Nat} {x y : AVal} (h : notIn d e.toList = true) : putA (putA t d x) e y = putA (putA t e y) d x := by
  cases d with
  | none => rfl
  | some i =>
    cases e with
    | none => rfl
    | some j =>
      have hne : i ≠ j := fun e => notIn_spec h i rfl (by simp [e])
      simp only [putA]
      exact List.set_comm _ _ hne

theorem clsOf_congr {o : Oper} {t t' : List AVal} (h : ∀ x ∈ o.op.operands, evalA t x = evalA t' x) : clsOf E o t = clsOf E o t' := by
  unfold clsOf
  rw [roOp_congr h, blindOp_congr h]

theorem opV_blind {o : Oper} {t : List AVal} (h : blindOp E o t = true) : ∃ z : Option AVal, ∀ q b, opV E C q o t b = z.map fun x => (x, b) := by
  obtain ⟨z, hz⟩ := opK_bl (C := C) (ι := Nat × List Blk) (pb := (·.2)) (qq := (·.1)) ⟨(0, [])⟩ (.inl h)
  refine ⟨z, fun q b => ?_⟩
  have : opV E C q o t b = z.bind fun x => some (x, b) := hz (q, b) _ fun x b => some (x, b)
  rw [this]
  cases z <;> rfl
theorem opV_ro {o : Oper} {t : List AVal} {q : Nat} {b b1 : List Blk} {x : AVal} (h : roOp E o t = true) (hv : opV E C q o t b = some (x, b1)) : b1 = b := by
  obtain ⟨z, hz⟩ := opK_bl (C := C) (ι := Unit) (pb := fun _ => b) (qq := fun _ => q) ⟨()⟩ (.inr ⟨h, fun _ _ => ⟨rfl, rfl⟩⟩)
  have : opV E C q o t b = z.bind fun x => some (x, b) := hz () _ fun x b => some (x, b)
  rw [this] at hv
  cases z with
  | none => cases hv
  | some z => simp at hv; exact hv.2.symm

/-- What class a step is of. -/
def cls (E : Env) (o : Oper) (t : List AVal) (ran : Bool) : Cls := cond ran (clsOf E o t) .blind

/-- What a step of its class comes to. -/
theorem Stp.spec {o : Oper} {t t' : List AVal} {b b' : List Blk} {ran : Bool} (h : Stp E C ro ops o t b ran t' b') : ∃ x, t' = putA t o.dst x ∧
    (cls E o t ran = .blind → b' = b ∧ ∀ b0, ∀ t0, (∀ y ∈ o.op.operands, evalA t0 y = evalA t y) → want ops o t0 = want ops o t → Stp E C ro ops o t0 b0 ran (putA t0 o.dst x) b0) ∧
    (cls E o t ran = .ro → b' = b) ∧
    (∀ t0, (∀ y ∈ o.op.operands, evalA t0 y = evalA t y) → want ops o t0 = want ops o t → Stp E C ro ops o t0 b ran (putA t0 o.dst x) b') := by
  cases h with
  | ran x b1 hw hro hv =>
    refine ⟨x, rfl, fun hc => ?_, fun hc => ?_, fun t0 he hw0 => ?_⟩
    · have hb : blindOp E o t = true := by
        unfold cls clsOf at hc
        cases h1 : blindOp E o t with
        | true => rfl
        | false => cases h2 : roOp E o t <;> simp [h1, h2] at hc
      obtain ⟨z, hz⟩ := opV_blind (C := C) hb
      rw [hz] at hv
      cases z with
      | none => cases hv
      | some z =>
        simp at hv
        obtain ⟨rfl, rfl⟩ := hv
        refine ⟨rfl, fun b0 t0 he hw0 => .ran z b0 (hw0.trans hw) (fun e => by rw [roOp_congr he]; exact hro e) ?_⟩
        have : opV E C b0.length o t0 b0 = opV E C b0.length o t b0 := opK_congr he
        rw [this, hz]; rfl
    · have hb : roOp E o t = true := by
        unfold cls clsOf at hc
        cases h1 : blindOp E o t with
        | true => simp [h1] at hc
        | false =>
          cases h2 : roOp E o t with
          | true => rfl
          | false => simp [h1, h2] at hc
      exact opV_ro hb hv
    · refine .ran x _ (hw0.trans hw) (fun e => by rw [roOp_congr he]; exact hro e) ?_
      have : opV E C b.length o t0 b = opV E C b.length o t b := opK_congr he
      rw [this, hv]
  | skip hw => exact ⟨skipped, rfl, fun _ => ⟨rfl, fun b0 t0 _ hw0 => .skip (hw0.trans hw)⟩, fun _ => rfl, fun t0 _ hw0 => .skip (hw0.trans hw)⟩

theorem apart_symm {p o : Oper} (h : apart ops p o = true) : apart ops o p = true := by
  unfold apart at *
  simp only [Bool.and_eq_true] at *
  obtain ⟨⟨h1, h2⟩, h3⟩ := h
  refine ⟨⟨h2, h1⟩, ?_⟩
  cases hd : o.dst with
  | none => rfl
  | some d =>
    cases hp : p.dst with
    | none => rfl
    | some e =>
      rw [hd, hp] at h3
      simp [notIn] at h3 ⊢
      exact fun e' => h3 e'.symm
theorem ok_symm {c d : Cls} (h : c.ok d = true) : d.ok c = true := by cases c <;> cases d <;> first | rfl | cases h

theorem swap {p o : Oper} {t t1 t2 : List AVal} {b b1 b2 : List Blk} {rp rr : Bool} (hap : apart ops p o = true) (h1 : Stp E C ro ops p t b rp t1 b1) (h2 : Stp E C ro ops o t1 b1 rr t2 b2)
    (hok : (cls E p t rp).ok (cls E o t1 rr) = true) :
    ∃ t1' b1', Stp E C ro ops o t b rr t1' b1' ∧ Stp E C ro ops p t1' b1' rp t2 b2 ∧ cls E o t rr = cls E o t1 rr ∧ cls E p t1' rp = cls E p t rp := by
  unfold apart at hap
  simp only [Bool.and_eq_true] at hap
  obtain ⟨⟨ha1, ha2⟩, ha3⟩ := hap
  obtain ⟨x, rfl, hb1, hr1, hg1⟩ := h1.spec
  obtain ⟨y, rfl, hb2, hr2, hg2⟩ := h2.spec
  have eo : ∀ v, ∀ z ∈ o.op.operands, evalA t z = evalA (putA t p.dst v) z := fun v z hz => (evalA_put ha1 z hz).symm
  have ep : ∀ v, ∀ z ∈ p.op.operands, evalA (putA t o.dst v) z = evalA t z := fun v z hz => evalA_put ha2 z hz
  have wo : want ops o t = want ops o (putA t p.dst x) := (want_put ha1).symm
  have wp : want ops p (putA t o.dst y) = want ops p t := want_put ha2
  have co : cls E o t rr = cls E o (putA t p.dst x) rr := by
    unfold cls
    rw [clsOf_congr (eo x)]
  have cp : cls E p (putA t o.dst y) rp = cls E p t rp := by
    unfold cls
    rw [clsOf_congr (ep y)]
  rw [putA_comm ha3]
  refine ⟨putA t o.dst y, ?_⟩
  cases hcp : cls E p t rp with
  | blind =>
    obtain ⟨rfl, hbl⟩ := hb1 hcp
    exact ⟨b2, hg2 t (eo x) wo, hbl b2 _ (ep y) wp, co, cp.trans hcp⟩
  | ro =>
    have hbb := hr1 hcp
    subst hbb
    cases hco : cls E o (putA t p.dst x) rr with
    | blind =>
      obtain ⟨rfl, hbl⟩ := hb2 hco
      exact ⟨_, hg2 t (eo x) wo, hg1 _ (ep y) wp, co.trans hco, cp.trans hcp⟩
    | ro =>
      have hbb := hr2 hco
      subst hbb
      exact ⟨_, hg2 t (eo x) wo, hg1 _ (ep y) wp, co.trans hco, cp.trans hcp⟩
    | rw => rw [hcp, hco] at hok; cases hok
  | rw =>
    cases hco : cls E o (putA t p.dst x) rr with
    | blind =>
      obtain ⟨rfl, hbl⟩ := hb2 hco
      exact ⟨b, hbl b t (eo x) wo, hg1 _ (ep y) wp, co.trans hco, cp.trans hcp⟩
    | ro => rw [hcp, hco] at hok; cases hok
    | rw => rw [hcp, hco] at hok; cases hok

theorem evD_perm {R : Type} : ∀ {l : List Nat} {acc acc' : List (Nat × Cls)} {t : List AVal} {b : List Blk} {K : List AVal → List Blk → Option R}, (∀ f : Nat × Cls → Bool, acc.all f = acc'.all f) →
    evD E C ro ops l acc t b K = evD E C ro ops l acc' t b K
  | [], _, _, _, _, _, _ => rfl
  | i :: rest, acc, acc', t, b, K, h => by
    simp only [evD]
    cases ops[i]? with
    | none => rfl
    | some o =>
      simp only
      congr 1
      funext ran t1 t' b'
      rw [h, evD_perm (acc := (i, cond ran (clsOf E o t1) .blind) :: acc) (acc' := (i, cond ran (clsOf E o t1) .blind) :: acc') fun f => by simp only [List.all_cons, h]]

theorem evD_inv {R : Type} {r : R} {i : Nat} {rest : List Nat} {acc : List (Nat × Cls)} {t : List AVal} {b : List Blk} {K : List AVal → List Blk → Option R} (h : evD E C ro ops (i :: rest) acc t b K = some r) :
    ∃ o ran t' b', ops[i]? = some o ∧ Stp E C ro ops o t b ran t' b' ∧ acc.all (fits ops i o (cls E o t ran)) = true ∧ evD E C ro ops rest ((i, cls E o t ran) :: acc) t' b' K = some r := by
  simp only [evD] at h
  cases ho : ops[i]? with
  | none => rw [ho] at h; cases h
  | some o =>
    rw [ho] at h
    obtain ⟨ran, t', b', hs, h⟩ := stepK_inv h
    cases ha : acc.all (fits ops i o (cond ran (clsOf E o t) .blind)) with
    | false => rw [ha] at h; cases h
    | true => rw [ha] at h; exact ⟨o, ran, t', b', rfl, hs, ha, h⟩

theorem evD_run {R : Type} {i : Nat} {rest : List Nat} {acc : List (Nat × Cls)} {t t' : List AVal} {b b' : List Blk} {ran : Bool} {o : Oper} {K : List AVal → List Blk → Option R} (ho : ops[i]? = some o) (hs : Stp E C ro ops o t b ran t' b')
    (ha : acc.all (fits ops i o (cls E o t ran)) = true) : evD E C ro ops (i :: rest) acc t b K = evD E C ro ops rest ((i, cls E o t ran) :: acc) t' b' K := by
  simp only [evD, ho]
  rw [stepK_run hs]
  show br (acc.all (fits ops i o (cls E o t ran))) _ none = _
  rw [ha]; rfl

theorem evD_front {R : Type} {r : R} {i : Nat} {post : List Nat} : ∀ {pre : List Nat} {acc : List (Nat × Cls)} {t : List AVal} {b : List Blk} {K : List AVal → List Blk → Option R},
    evD E C ro ops (pre ++ i :: post) acc t b K = some r → (∀ p ∈ pre, before ops ops.size i p = false) → evD E C ro ops (i :: (pre ++ post)) acc t b K = some r
  | [], _, _, _, _, h, _ => h
  | p :: pre, acc, t, b, K, h, hb => by
    obtain ⟨op, rp, t1, b1, hop, hs1, ha1, h⟩ := evD_inv h
    have ih := evD_front h fun q hq => hb q (by simp [hq])
    obtain ⟨oi, ri, t2, b2, hoi, hs2, ha2, h2⟩ := evD_inv ih
    simp only [List.all_cons, Bool.and_eq_true] at ha2
    obtain ⟨hpi, ha2⟩ := ha2
    have hbp := hb p (by simp)
    simp only [fits, hbp, Bool.false_or, hop, Bool.and_eq_true] at hpi
    obtain ⟨hap, hok⟩ := hpi
    obtain ⟨t1', b1', k1, k2, c1, c2⟩ := swap hap hs1 hs2 hok
    rw [List.cons_append, evD_run hoi k1 (by rw [c1]; exact ha2), evD_run hop k2 ?_]
    · rw [← h2, c1, c2]
      exact evD_perm fun f => by simp only [List.all_cons]; cases f (p, cls E op t rp) <;> cases f (i, cls E oi t1 ri) <;> simp
    · simp only [List.all_cons, Bool.and_eq_true]
      rw [c2]
      refine ⟨?_, ha1⟩
      rw [c1]
      simp only [fits, hoi, apart_symm hap, ok_symm hok, Bool.and_true, Bool.or_true]
end
end Go.Proofs.Ytlgonbonnjkekaa.Abs
