/- What the law rests on: part 3 of 4. -/
import Derived.WalkKit
import Derived.ProofKit
import Derived.OpenShut
import Derived.ShutString
import Derived.ChangeOld
import Derived.Below
import Derived.SizedLaws
import Derived.WideShapes
import Derived.Test.YtphigiidfanbbaaGreatRows
import Derived.Test.YtphigiidfanbbaaGreatV1
set_option linter.unusedVariables false
set_option linter.unusedSimpArgs false
set_option linter.unusedSectionVars false
/- A loop's form stands for the state: the roots renamed. -/
set_option linter.unusedVariables false
set_option linter.unusedSimpArgs false
set_option linter.unusedSectionVars false
namespace Go.Proofs.XTv

theorem rbind_same {ρ ρ' : Ren} {j : Nat} {v : Option Nat} (h : rbind ρ j v = some ρ') : rget j ρ' = some v ∧ (∀ i u, rget i ρ = some u → rget i ρ' = some u) ∧ (∀ i ∈ ρ'.map (·.1), i = j ∨ i ∈ ρ.map (·.1)) := by
  unfold rbind at h
  split at h
  · rename_i hn
    simp only [Option.some.injEq] at h
    subst h
    refine ⟨by simp [rget, Nat.beq_refl], fun i u hi => ?_, fun i hi => by simpa using hi⟩
    unfold rget
    cases hb : Nat.beq j i
    · exact hi
    · have := beq_iff'.1 hb
      subst this
      rw [hn] at hi; cases hi
  · rename_i hn
    split at h
    · simp only [Option.some.injEq] at h; subst h
      exact ⟨hn, fun i u h => h, fun i hi => .inr hi⟩
    · cases h
  · rename_i a hn
    split at h
    · rename_i b
      cases hb : Nat.beq a b
      · simp [hb] at h
      · simp only [hb, cond_true, Option.some.injEq] at h
        have := beq_iff'.1 hb
        subst this
        subst h
        exact ⟨hn, fun i u h => h, fun i hi => .inr hi⟩
    · cases h
/-- Leaves that fit their forms, the roots renamed. -/
def Bound (ρ : Ren) : List LForm → List Lf → Prop
  | [], [] => True
  | .dat t _ :: fs, ls => t.size ≤ ls.length ∧ Bound ρ fs (ls.drop t.size)
  | .own j :: fs, .own id :: r => rget j ρ = some (some id) ∧ Bound ρ fs r
  | .own j :: fs, .nil :: r => rget j ρ = some none ∧ Bound ρ fs r
  | .part j :: fs, .part id _ _ :: r => rget j ρ = some (some id) ∧ Bound ρ fs r
  | .part j :: fs, .pre id _ :: r => rget j ρ = some (some id) ∧ Bound ρ fs r
  | .part j :: fs, .own id :: r => rget j ρ = some (some id) ∧ Bound ρ fs r
  | .ptr j o :: fs, .ptr id o' :: r => o = o' ∧ rget j ρ = some (some id) ∧ Bound ρ fs r
  | .fn f :: fs, .fn f' :: r => f = f' ∧ Bound ρ fs r
  | _, _ => False
def Ext (ρ ρ' : Ren) : Prop := ∀ i u, rget i ρ = some u → rget i ρ' = some u
theorem Bound.ext {ρ ρ' : Ren} (h : Ext ρ ρ') : ∀ {fs : List LForm} {ls : List Lf}, Bound ρ fs ls → Bound ρ' fs ls := by
  intro fs
  induction fs with
  | nil => intro ls hb; cases ls with
    | nil => trivial
    | cons _ _ => exact hb.elim
  | cons f fs ih =>
    intro ls hb
    cases f with
    | dat t d => exact ⟨hb.1, ih hb.2⟩
    | own j => cases ls with
      | nil => exact hb.elim
      | cons l r => cases l <;> first | exact ⟨h _ _ hb.1, ih hb.2⟩ | exact hb.elim
    | part j => cases ls with
      | nil => exact hb.elim
      | cons l r => cases l <;> first | exact ⟨h _ _ hb.1, ih hb.2⟩ | exact hb.elim
    | ptr j o => cases ls with
      | nil => exact hb.elim
      | cons l r => cases l <;> first | exact ⟨hb.1, h _ _ hb.2.1, ih hb.2.2⟩ | exact hb.elim
    | fn f => cases ls with
      | nil => exact hb.elim
      | cons l r => cases l <;> first | exact ⟨hb.1, ih hb.2⟩ | exact hb.elim
theorem bindLs_spec {s : St} : ∀ {fs : List LForm} {ls : List Lf} {ρ ρ' : Ren}, bindLs s fs ls ρ = some ρ' → Ext ρ ρ' ∧ Bound ρ' fs ls := by
  intro fs
  induction fs with
  | nil => intro ls ρ ρ' h; cases ls with
    | nil => simp only [bindLs, Option.some.injEq] at h; subst h; exact ⟨fun i u h => h, trivial⟩
    | cons _ _ => simp [bindLs] at h
  | cons f fs ih =>
    intro ls ρ ρ' h
    have step : ∀ {j : Nat} {v : Option Nat} {r : List Lf}, (rbind ρ j v).bind (bindLs s fs r) = some ρ' → Ext ρ ρ' ∧ rget j ρ' = some v ∧ Bound ρ' fs r := by
      intro j v r h
      cases hb : rbind ρ j v with
      | none => simp [hb] at h
      | some ρ1 =>
        simp only [hb, Option.bind_some] at h
        obtain ⟨h1, h2, _⟩ := rbind_same hb
        obtain ⟨h3, h4⟩ := ih h
        exact ⟨fun i u hi => h3 i u (h2 i u hi), h3 _ _ h1, h4⟩
    cases f with
    | dat t d =>
      simp only [bindLs] at h
      cases hb : Nat.ble t.size ls.length
      · simp [hb] at h
      · simp only [hb, cond_true] at h
        obtain ⟨h1, h2⟩ := ih h
        exact ⟨h1, Nat.le_of_ble_eq_true hb, h2⟩
    | own j => cases ls with
      | nil => simp [bindLs] at h
      | cons l r => cases l <;> simp only [bindLs] at h <;> first | (obtain ⟨h1, h2, h3⟩ := step h; exact ⟨h1, h2, h3⟩) | cases h
    | part j => cases ls with
      | nil => simp [bindLs] at h
      | cons l r => cases l <;> simp only [bindLs] at h <;> first | (obtain ⟨h1, h2, h3⟩ := step h; exact ⟨h1, h2, h3⟩) | cases h
    | ptr j o => cases ls with
      | nil => simp [bindLs] at h
      | cons l r =>
        cases l <;> simp only [bindLs] at h <;> try cases h
        rename_i id o'
        cases hb : Nat.beq o o'
        · simp [hb] at h
        · simp only [hb, cond_true] at h
          obtain ⟨h1, h2, h3⟩ := step h
          exact ⟨h1, beq_iff'.1 hb, h2, h3⟩
    | fn f => cases ls with
      | nil => simp [bindLs] at h
      | cons l r =>
        cases l <;> simp only [bindLs] at h <;> try cases h
        rename_i f'
        cases hb : Nat.beq f f'
        · simp [hb] at h
        · simp only [hb, cond_true] at h
          obtain ⟨h1, h2⟩ := ih h
          exact ⟨h1, beq_iff'.1 hb, h2⟩
theorem bindSlots_spec {s : St} : ∀ {l : List (Nat × Bool × List LForm)} {ρ ρ' : Ren}, bindSlots s l ρ = some ρ' → Ext ρ ρ' ∧ ∀ p ∈ l, ∃ ls, avLs p.2.1 (s.slot p.1).2 = some ls ∧ Bound ρ' p.2.2 ls
  | [], ρ, ρ', h => by simp only [bindSlots, Option.some.injEq] at h; subst h; exact ⟨fun i u h => h, fun p hp => by cases hp⟩
  | (i, agg, fs) :: r, ρ, ρ', h => by
    simp only [bindSlots] at h
    split at h
    · rename_i ls hls
      cases hb : bindLs s fs ls ρ with
      | none => simp [hb] at h
      | some ρ1 =>
        simp only [hb, Option.bind_some] at h
        obtain ⟨h1, h2⟩ := bindLs_spec hb
        obtain ⟨h3, h4⟩ := bindSlots_spec h
        refine ⟨fun i u hi => h3 i u (h1 i u hi), fun p hp => ?_⟩
        rcases List.mem_cons.1 hp with rfl | hp
        · exact ⟨ls, hls, h2.ext h3⟩
        · exact h4 p hp
    · cases h
theorem bindRoots_spec {s : St} : ∀ {l : List (Nat × RForm)} {ρ ρ' : Ren}, bindRoots s l ρ = some ρ' → Ext ρ ρ' ∧ ∀ j fs, (j, RForm.box fs) ∈ l → ∃ id ls, rget j ρ' = some (some id) ∧ s.root id = some (.box ls) ∧ Bound ρ' fs ls
  | [], ρ, ρ', h => by simp only [bindRoots, Option.some.injEq] at h; subst h; exact ⟨fun i u h => h, fun j fs hp => by cases hp⟩
  | (j, .arr e deep d) :: r, ρ, ρ', h => by
    simp only [bindRoots] at h
    obtain ⟨h1, h2⟩ := bindRoots_spec h
    refine ⟨h1, fun j' fs hp => h2 j' fs ?_⟩
    rcases List.mem_cons.1 hp with hp | hp
    · cases hp
    · exact hp
  | (j, .box fs0) :: r, ρ, ρ', h => by
    simp only [bindRoots] at h
    split at h
    case h_2 => cases h
    case h_1 id hid =>
      split at h
      case h_2 => cases h
      case h_1 ls hls =>
        cases hb : bindLs s fs0 ls ρ with
        | none => simp [hb] at h
        | some ρ1 =>
          simp only [hb, Option.bind_some] at h
          obtain ⟨h1, h2⟩ := bindLs_spec hb
          obtain ⟨h3, h4⟩ := bindRoots_spec h
          refine ⟨fun i u hi => h3 i u (h1 i u hi), fun j' fs hp => ?_⟩
          rcases List.mem_cons.1 hp with hp | hp
          · cases hp
            exact ⟨id, ls, h3 _ _ (h1 _ _ hid), hls, h2.ext h3⟩
          · exact h4 j' fs hp
end Go.Proofs.XTv
/- A loop's form stands for the state: leaves renamed. -/
set_option linter.unusedVariables false
set_option linter.unusedSimpArgs false
set_option linter.unusedSectionVars false
namespace Go.Proofs.XTv

theorem rget_mem : ∀ {ρ : Ren} {j : Nat} {v : Option Nat}, rget j ρ = some v → (j, v) ∈ ρ
  | (i, u) :: r, j, v, h => by
    unfold rget at h
    cases hb : Nat.beq i j
    · simp only [hb, cond_false] at h
      exact List.mem_cons_of_mem _ (rget_mem h)
    · simp only [hb, cond_true, Option.some.injEq] at h
      rw [← beq_iff'.1 hb, ← h]
      exact List.mem_cons_self ..
  | [], _, _, h => by cases h
def rrev (a : Nat) : Ren → Option Nat
  | [] => none
  | (j, some b) :: r => if a = b then some j else rrev a r
  | (_, none) :: r => rrev a r
theorem mem_someIds : ∀ {ρ : Ren} {j a : Nat}, (j, some a) ∈ ρ → a ∈ someIds ρ
  | (i, none) :: r, j, a, h => by
    rcases List.mem_cons.1 h with h | h
    · cases h
    · exact mem_someIds (ρ := r) h
  | (i, some b) :: r, j, a, h => by
    rcases List.mem_cons.1 h with h | h
    · cases h; exact List.mem_cons_self ..
    · exact List.mem_cons_of_mem _ (mem_someIds h)
  | [], _, _, h => by cases h
theorem rrev_of : ∀ {ρ : Ren} {j a : Nat}, (someIds ρ).Nodup → (j, some a) ∈ ρ → rrev a ρ = some j
  | (i, none) :: r, j, a, hn, h => by
    rcases List.mem_cons.1 h with h | h
    · cases h
    · exact rrev_of (ρ := r) hn h
  | (i, some b) :: r, j, a, hn, h => by
    simp only [someIds, List.nodup_cons] at hn
    unfold rrev
    rcases List.mem_cons.1 h with h | h
    · cases h; rw [if_pos rfl]
    · have hne : a ≠ b := fun he => hn.1 (he ▸ mem_someIds h)
      rw [if_neg hne]
      exact rrev_of hn.2 h
  | [], _, _, _, h => by cases h
def renG (g : G) (ρ : Ren) : G :=
  { κ := fun j => match rget j ρ with | some (some a) => g.κ a | _ => none
    cp := fun j => match rget j ρ with | some (some a) => g.cp a | _ => 0
    ω := fun b => match g.ω b with | some a => rrev a ρ | none => none }

theorem depsIn_spec {ρ : Ren} {d0 : List Nat} : ∀ {d : Deps}, depsIn ρ d0 d = true → ∀ i ∈ dids d, (i = 0 ∧ 0 ∈ d0) ∨ (i ≠ 0 ∧ ∃ j ∈ d0, rget j ρ = some (some i))
  | [], _, i, hi => by cases hi
  | (a, v) :: r, h, i, hi => by
    unfold depsIn at h
    cases hc : (bif Nat.beq a 0 then nmem 0 d0 else d0.any (rAt ρ a))
    · rw [hc] at h; cases h
    rw [hc] at h
    simp only [cond_true] at h
    simp only [dids, List.mem_cons] at hi
    rcases hi with rfl | hi
    · cases h0 : Nat.beq i 0
      · simp only [h0, cond_false] at hc
        obtain ⟨j, hj, hm⟩ := List.any_eq_true.1 hc
        refine .inr ⟨beq_false'.1 h0, j, hj, ?_⟩
        unfold rAt at hm
        split at hm
        · rename_i b hb; rw [hb, beq_iff'.1 hm]
        · cases hm
      · simp only [h0, cond_true] at hc
        exact .inl ⟨beq_iff'.1 h0, nmem_iff.1 hc⟩
    · exact depsIn_spec h i hi
theorem dids_mk : ∀ (d : List Nat), dids (mkDeps d) = d
  | [] => rfl
  | j :: r => by rw [mkDeps, dids, dids_mk r]
theorem mkDeps_mem : ∀ {d : List Nat} {p : Nat × Nat}, p ∈ mkDeps d → p.1 ∈ d ∧ p.2 = 1
  | j :: r, p, h => by
    rcases List.mem_cons.1 h with rfl | h
    · exact ⟨List.mem_cons_self .., rfl⟩
    · exact ⟨List.mem_cons_of_mem _ (mkDeps_mem h).1, (mkDeps_mem h).2⟩
  | [], _, h => by cases h

section
variable {g : G} {s s' : St} {w : World} {N : Bd} {ρ : Ren}

theorem av_ren (hn : (someIds ρ).Nodup) {d : Deps} {d0 : List Nat} (hd : depsIn ρ d0 d = true) {b : Nat} (h0 : ∀ v, rget 0 ρ ≠ some v) (h : Av g w N d b) : Av (renG g ρ) w N (mkDeps d0) b := by
  obtain ⟨hlt, h⟩ := h
  refine ⟨hlt, ?_⟩
  rcases h with ⟨h1, h2⟩ | ⟨i, hi, h1⟩
  · refine .inl ⟨by simp only [renG, h1], h2.imp (fun h => ⟨?_, h.2⟩) (fun h => h)⟩
    rw [dids_mk]
    rcases depsIn_spec hd 0 h.1 with h | h
    · exact h.2
    · exact absurd rfl h.1
  · rcases depsIn_spec hd i hi with ⟨h2, h3⟩ | ⟨_, j, hj, hr⟩
    · exact absurd h2 h1.1
    · refine .inr ⟨j, by rw [dids_mk]; exact hj, (fun hj0 => h0 _ (hj0 ▸ hr)), ?_⟩
      simp only [renG, h1.2]
      exact rrev_of hn (rget_mem hr)
/-- What the state behind a loop's form knows of its roots. -/
structure RenOk (ρ : Ren) (ids : List Nat) (s s' : St) : Prop where
  ver : ∀ i, i = 0 ∨ i ∈ ids → s'.ver i = 1
  keys : ∀ j v, rget j ρ = some v → j ∈ ids ∧ j ≠ 0
  dist : (someIds ρ).Nodup
  arr : ∀ j (e : Ty) (xs : List e.den) deep d, s'.root j = some (.arr e xs deep d) → (∃ a, rget j ρ = some (some a) ∧ ∃ (xs0 : List e.den) (deep0 : Bool) (d0 : Deps), s.root a = some (.arr e xs0 deep0 d0) ∧ xs0.length = xs.length) ∨ (rget j ρ = some none ∧ xs = [])
  box : ∀ j ls, s'.root j = some (.box ls) → ∃ a ls0, rget j ρ = some (some a) ∧ s.root a = some (.box ls0)
theorem RenOk.bnd {ids : List Nat} (h : RenOk ρ ids s s') {d : List Nat} (hd : nsub d (0 :: ids) = true) : Bnd s' (mkDeps d) := fun p hp => by
  obtain ⟨h1, h2⟩ := mkDeps_mem hp
  have := nsub_iff.1 hd p.1 h1
  rw [h.ver p.1 (by simpa using this), h2]
  exact ⟨Nat.le_refl _, Nat.le_refl _⟩
theorem RenOk.no0 {ids : List Nat} (h : RenOk ρ ids s s') : ∀ v, rget 0 ρ ≠ some v := fun v hv => (h.keys 0 v hv).2 rfl
theorem unLs_rel {ids : List Nat} (hm : Mem N g s w) (hR : RenOk ρ ids s s') : ∀ {fs : List LForm} {ls : List Lf} {vs : List Value} {x : (lfsTy fs).den}, Bound ρ fs ls → formOk ids fs = true → unLs s ρ fs ls = some x → LsRel g s w N ls vs → LsRel (renG g ρ) s' w N (mkLs fs x) vs := by
  intro fs
  induction fs with
  | nil =>
    intro ls vs x hb hf hu hl
    cases ls with
    | nil => cases vs with
      | nil => trivial
      | cons _ _ => exact hl.elim
    | cons _ _ => exact hb.elim
  | cons f fs ih =>
    intro ls vs x hb hf hu hl
    have ver1 : ∀ {j : Nat} {v : Option Nat}, rget j ρ = some v → 1 ≤ s'.ver j := fun h => Nat.le_of_eq (hR.ver _ (.inr (hR.keys _ _ h).1)).symm
    unfold unLs at hu
    split at hu
    · cases hu
    · rename_i z r hz
      split at hu
      case h_2 => cases hu
      case h_1 y hy =>
        have hu := Option.some.inj hu
        subst hu
        have e1 := tpFst_mk (lfTy f) (lfsTy fs) z y
        have e2 := tpSnd_mk (lfTy f) (lfsTy fs) z y
        cases f with
        | dat t d =>
          simp only [un1] at hz
          cases hd : depsIn ρ d (lsDeps s (ls.take t.size))
          · simp [hd] at hz
          simp only [hd, cond_true] at hz
          split at hz
          · rename_i xx hx
            have hz := Option.some.inj hz
            cases hz
            have hf1 : nsub d (0 :: ids) = true ∧ formOk ids fs = true := by
              unfold formOk at hf
              cases hn : nsub d (0 :: ids)
              · rw [hn] at hf; cases hf
              · rw [hn] at hf; exact ⟨rfl, hf⟩
            have hsub : Sub s s := ⟨fun t => .inl rfl, fun _ _ h => ⟨h, rfl⟩, fun _ _ => rfl⟩
            obtain ⟨h1, _, _⟩ := ofAll_rel hm hsub hx (hl.take t.size)
            have h2 := leaves_rel (g := renG g ρ) (s := s') (w := w) (N := N) (hR.bnd hf1.1) 0 (h1.keep (fun b hb => av_ren hR.dist hd hR.no0 hb) (fun _ _ => rfl))
            have h3 := ih hb.2 hf1.2 hy (hl.drop t.size)
            have h4 := h2.append h3
            rw [List.take_append_drop] at h4
            have e3 : mkLs (.dat t d :: fs) (tpMk (lfTy (.dat t d)) (lfsTy fs) z y) = leaves (mkDeps d) none 0 t (tpFst (lfTy (.dat t d)) (lfsTy fs) (tpMk (lfTy (.dat t d)) (lfsTy fs) z y)) ++ mkLs fs (tpSnd (lfTy (.dat t d)) (lfsTy fs) (tpMk (lfTy (.dat t d)) (lfsTy fs) z y)) := rfl
            rw [e3, e1, e2]
            exact h4
          · cases hz
        | own j =>
          have e3 : mkLs (.own j :: fs) (tpMk (lfTy (.own j)) (lfsTy fs) z y) = .own j :: mkLs fs (tpSnd (lfTy (.own j)) (lfsTy fs) (tpMk (lfTy (.own j)) (lfsTy fs) z y)) := rfl
          rw [e3, e2]
          cases ls with
          | nil => exact hb.elim
          | cons l ls =>
            cases vs with
            | nil => exact hl.elim
            | cons v vs =>
              have hz : r = ls := (congrArg Prod.snd (Option.some.inj hz)).symm
              subst hz
              cases l <;> try exact hb.elim
              · refine ⟨⟨⟨ver1 hb.1, fun e xs deep d hroot => ?_⟩, fun _ => hl.1.2 rfl⟩, ih hb.2 hf hy hl.2⟩
                have hv := hl.1.1
                simp only [LfCore] at hv
                rcases hR.arr j e xs deep d hroot with ⟨a, h1, _⟩ | ⟨h1, h2⟩
                · rw [hb.1] at h1; cases h1
                · rw [hv, h2, ownVal]; simp [renG, h1]
              · rename_i id
                refine ⟨⟨⟨ver1 hb.1, fun e xs deep d hroot => ?_⟩, fun _ => hl.1.2 rfl⟩, ih hb.2 hf hy hl.2⟩
                rcases hR.arr j e xs deep d hroot with ⟨a, h1, xs0, deep0, d0, h2, h3⟩ | ⟨h1, h2⟩
                · rw [hb.1] at h1; cases h1
                  rw [hl.1.1.2 _ _ _ _ h2, ownVal, ownVal, h3]; simp [renG, hb.1]
                · rw [hb.1] at h1; cases h1
        | ptr j o =>
          have e3 : mkLs (.ptr j o :: fs) (tpMk (lfTy (.ptr j o)) (lfsTy fs) z y) = .ptr j o :: mkLs fs (tpSnd (lfTy (.ptr j o)) (lfsTy fs) (tpMk (lfTy (.ptr j o)) (lfsTy fs) z y)) := rfl
          rw [e3, e2]
          cases ls with
          | nil => exact hb.elim
          | cons l ls =>
            cases vs with
            | nil => exact hl.elim
            | cons v vs =>
              have hz : r = ls := (congrArg Prod.snd (Option.some.inj hz)).symm
              subst hz
              cases l <;> try exact hb.elim
              rename_i id o'
              obtain ⟨rfl, hb1, hb2⟩ := hb
              refine ⟨⟨⟨ver1 hb1, fun ls0 hroot => ?_⟩, fun _ => hl.1.2 rfl⟩, ih hb2 hf hy hl.2⟩
              obtain ⟨a, ls1, h1, h2⟩ := hR.box j ls0 hroot
              rw [hb1] at h1; cases h1
              obtain ⟨b, h3, h4⟩ := hl.1.1.2 _ h2
              exact ⟨b, by simp [renG, hb1, h3], h4⟩
        | fn f0 =>
          have e3 : mkLs (.fn f0 :: fs) (tpMk (lfTy (.fn f0)) (lfsTy fs) z y) = .fn f0 :: mkLs fs (tpSnd (lfTy (.fn f0)) (lfsTy fs) (tpMk (lfTy (.fn f0)) (lfsTy fs) z y)) := rfl
          rw [e3, e2]
          cases ls with
          | nil => exact hb.elim
          | cons l ls =>
            cases vs with
            | nil => exact hl.elim
            | cons v vs =>
              have hz : r = ls := (congrArg Prod.snd (Option.some.inj hz)).symm
              subst hz
              cases l <;> try exact hb.elim
              obtain ⟨rfl, hb2⟩ := hb
              exact ⟨hl.1, ih hb2 hf hy hl.2⟩
        | part j =>
          have e3 : mkLs (.part j :: fs) (tpMk (lfTy (.part j)) (lfsTy fs) z y) = .part j (Prod.fst (α := Int) (β := Int) (tpFst (lfTy (.part j)) (lfsTy fs) (tpMk (lfTy (.part j)) (lfsTy fs) z y))) (Prod.snd (α := Int) (β := Int) (tpFst (lfTy (.part j)) (lfsTy fs) (tpMk (lfTy (.part j)) (lfsTy fs) z y))) :: mkLs fs (tpSnd (lfTy (.part j)) (lfsTy fs) (tpMk (lfTy (.part j)) (lfsTy fs) z y)) := rfl
          rw [e3, e1, e2]
          cases ls with
          | nil => exact hb.elim
          | cons l ls =>
            cases vs with
            | nil => exact hl.elim
            | cons v vs =>
              have whole : ∀ (id : Nat) (k : Nat), rget j ρ = some (some id) → v = ownVal g id k → (∀ (e : Ty) (xs : List e.den) deep d, s.root id = some (.arr e xs deep d) → k ≤ xs.length) → LfCore (renG g ρ) s' w N (.part j 0 (k : Int)) v := by
                intro id k hb1 hv hk
                refine ⟨ver1 hb1, fun e xs deep d hroot => ?_⟩
                rcases hR.arr j e xs deep d hroot with ⟨a, h1, xs0, deep0, d0, h2, h3⟩ | ⟨h1, h2⟩
                · rw [hb1] at h1; cases h1
                  have hop := own_parts hm h2
                  have hk1 := hk _ _ _ _ h2
                  refine ⟨by omega, by omega, by omega, _, _, by rw [hv, ownVal]; rfl, by simp; omega, ?_⟩
                  by_cases hk0 : k = 0
                  · left; omega
                  · right
                    obtain ⟨b, hb⟩ := hop.2.2 (fun h => by rw [h] at hk1; simp at hk1; omega)
                    exact ⟨b, by simp [renG, hb1, hb], by rw [hb]; simp⟩
                · rw [hb1] at h1; cases h1
              cases l <;> try exact hb.elim
              · rename_i id
                simp only [un1] at hz
                split at hz
                · rename_i e0 xs0 deep0 d0 hroot0
                  have hz := Option.some.inj hz
                  cases hz
                  refine ⟨⟨?_, fun _ => hl.1.2 rfl⟩, ih hb.2 hf hy hl.2⟩
                  exact whole id xs0.length hb.1 (hl.1.1.2 _ _ _ _ hroot0) (fun e xs deep d h => by rw [hroot0] at h; cases h; exact Nat.le_refl _)
                · cases hz
              · rename_i id n
                have hz := Option.some.inj hz
                cases hz
                refine ⟨⟨⟨ver1 hb.1, fun e xs deep d hroot => ?_⟩, fun _ => hl.1.2 rfl⟩, ih hb.2 hf hy hl.2⟩
                rcases hR.arr j e xs deep d hroot with ⟨a, h1, xs0, deep0, d0, h2, h3⟩ | ⟨h1, h2⟩
                · rw [hb.1] at h1; cases h1
                  have hop := own_parts hm h2
                  obtain ⟨n0, n1, hv⟩ := hl.1.1.2 _ _ _ _ h2
                  refine ⟨Int.le_refl _, n0, by show (0 : Int) + n ≤ _; omega, _, _, by rw [hv, ownVal], by have := hop.2.1; show n.toNat ≤ _; omega, ?_⟩
                  by_cases hk0 : n = 0
                  · exact .inl hk0
                  · right
                    obtain ⟨b, hbb⟩ := hop.2.2 (fun h => by rw [h] at n1; simp at n1; omega)
                    exact ⟨b, by simp [renG, hb.1, hbb], by rw [hbb]; simp⟩
                · rw [hb.1] at h1; cases h1
              · rename_i id o n
                have hz := Option.some.inj hz
                cases hz
                refine ⟨⟨⟨ver1 hb.1, fun e xs deep d hroot => ?_⟩, fun _ => hl.1.2 rfl⟩, ih hb.2 hf hy hl.2⟩
                rcases hR.arr j e xs deep d hroot with ⟨a, h1, xs0, deep0, d0, h2, h3⟩ | ⟨h1, h2⟩
                · rw [hb.1] at h1; cases h1
                  obtain ⟨o0, n0, n1, A, cap, hv, hcap, hA⟩ := hl.1.1.2 _ _ _ _ h2
                  refine ⟨o0, n0, by show o + n ≤ _; omega, A, cap, hv, hcap, hA.imp (fun h => h) (fun ⟨b, k1, k2⟩ => ⟨b, by simp [renG, hb.1, k1], k2⟩)⟩
                · rw [hb.1] at h1; cases h1
end
end Go.Proofs.XTv
/- A loop's form stands for the state: the whole of it. -/
set_option linter.unusedVariables false
set_option linter.unusedSimpArgs false
set_option linter.unusedSectionVars false
namespace Go.Proofs.XTv

theorem mkVer_in : ∀ {l : List (Nat × RForm)} {i : Nat}, (i = 0 ∨ i ∈ l.map (·.1)) → mkVer l i = 1
  | [], i, h => by
    rcases h with rfl | h
    · rfl
    · cases h
  | (j, f) :: r, i, h => by
    simp only [mkVer, upd_eq]
    by_cases hij : i = j
    · rw [if_pos hij]
    · rw [if_neg hij]
      refine mkVer_in (h.imp (fun h => h) (fun h => ?_))
      simpa [hij] using h
theorem unRoots_spec {s : St} {ρ : Ren} : ∀ {l : List (Nat × RForm)} {y : (rootsTy l).den}, unRoots s ρ l = some y → ∀ j q, mkRoots l y j = some q → ∃ f z, (j, f) ∈ l ∧ unRoot s ρ j f = some z ∧ q = mkRoot f z
  | [], y, _, j, q, h => by cases h
  | (i, f) :: r, y, hu, j, q, h => by
    simp only [unRoots] at hu
    split at hu
    case h_2 => cases hu
    case h_1 z y' hz hy =>
      have hu := Option.some.inj hu
      subst hu
      have e1 := tpFst_mk f.ty (rootsTy r) z y'
      have e2 := tpSnd_mk f.ty (rootsTy r) z y'
      have h9 : upd (mkRoots r (tpSnd f.ty (rootsTy r) (tpMk f.ty (rootsTy r) z y'))) i (some (mkRoot f (tpFst f.ty (rootsTy r) (tpMk f.ty (rootsTy r) z y')))) j = some q := h
      rw [e1, e2, upd_eq] at h9
      clear h
      split at h9
      · rename_i hij
        subst hij
        have h := Option.some.inj h9
        exact ⟨f, z, List.mem_cons_self .., hz, h.symm⟩
      · obtain ⟨f', z', h1, h2, h3⟩ := unRoots_spec hy j q h9
        exact ⟨f', z', List.mem_cons_of_mem _ h1, h2, h3⟩
theorem unRoots_all {s : St} {ρ : Ren} : ∀ {l : List (Nat × RForm)} {y : (rootsTy l).den}, unRoots s ρ l = some y → ∀ p ∈ l, ∃ z, unRoot s ρ p.1 p.2 = some z
  | [], y, _, p, h => by cases h
  | (i, f) :: r, y, hu, p, h => by
    simp only [unRoots] at hu
    split at hu
    case h_2 => cases hu
    case h_1 z y' hz hy =>
      rcases List.mem_cons.1 h with rfl | h
      · exact ⟨z, hz⟩
      · exact unRoots_all hy p h
theorem unSlots_spec {s : St} {ρ : Ren} : ∀ {l : List (Nat × Bool × List LForm)} {x : (slotsTy l).den}, unSlots s ρ l = some x → ∀ t, mkSlots l x t = (0, .one .junk) ∨ ∃ agg fs ls z, (t, agg, fs) ∈ l ∧ avLs agg (s.slot t).2 = some ls ∧ unLs s ρ fs ls = some z ∧ mkSlots l x t = (0, bif agg then .agg (mkLs fs z) else .one ((mkLs fs z).headD .junk))
  | [], x, _, t => .inl rfl
  | (i, agg, fs) :: r, x, hu, t => by
    simp only [unSlots] at hu
    split at hu
    case h_1 => cases hu
    case h_2 ls hls =>
      split at hu
      case h_2 => cases hu
      case h_1 z x' hz hx =>
        have hu := Option.some.inj hu
        subst hu
        have e1 := tpFst_mk (lfsTy fs) (slotsTy r) z x'
        have e2 := tpSnd_mk (lfsTy fs) (slotsTy r) z x'
        have e3 : mkSlots ((i, agg, fs) :: r) (tpMk (lfsTy fs) (slotsTy r) z x') t = upd (mkSlots r (tpSnd (lfsTy fs) (slotsTy r) (tpMk (lfsTy fs) (slotsTy r) z x'))) i (0, bif agg then .agg (mkLs fs (tpFst (lfsTy fs) (slotsTy r) (tpMk (lfsTy fs) (slotsTy r) z x'))) else .one ((mkLs fs (tpFst (lfsTy fs) (slotsTy r) (tpMk (lfsTy fs) (slotsTy r) z x'))).headD .junk)) t := rfl
        rw [e3, e1, e2, upd_eq]
        split
        · rename_i hij
          subst hij
          exact .inr ⟨agg, fs, ls, z, List.mem_cons_self .., hls, hz, rfl⟩
        · rcases unSlots_spec hx t with h | ⟨a, f, l, zz, h1, h2, h3, h4⟩
          · exact .inl h
          · exact .inr ⟨a, f, l, zz, List.mem_cons_of_mem _ h1, h2, h3, h4⟩
end Go.Proofs.XTv
/- A loop's form stands for the state: MkOk. -/
set_option linter.unusedVariables false
set_option linter.unusedSimpArgs false
set_option linter.unusedSectionVars false
namespace Go.Proofs.XTv

theorem pinsOk_spec {pins : List Nat} : ∀ {ρ : Ren}, pinsOk pins ρ = true → ∀ j v, (j, v) ∈ ρ → j ∈ pins → v = some j
  | (i, u) :: r, h, j, v, hm, hj => by
    unfold pinsOk at h
    cases hp : nmem i pins
    · simp only [hp, cond_false] at h
      have hr : pinsOk pins r = true := by
        split at h
        · rename_i a; cases ha : nmem a pins
          · simpa [ha] using h
          · simp [ha] at h
        · exact h
      rcases List.mem_cons.1 hm with hm | hm
      · cases hm; exact absurd hj (nmem_false.1 hp)
      · exact pinsOk_spec hr j v hm hj
    · simp only [hp, cond_true] at h
      split at h
      · rename_i a
        cases ha : Nat.beq a i
        · simp [ha] at h
        · simp only [ha, cond_true] at h
          rcases List.mem_cons.1 hm with hm | hm
          · cases hm; rw [beq_iff'.1 ha]
          · exact pinsOk_spec h j v hm hj
      · cases h
  | [], _, _, _, hm, _ => by cases hm

section
variable {E : Env} {n : Nat} {pins : List Nat}

theorem un_parts {h : Shape} {s : St} {d : h.ty.den} (hu : un pins h s = some d) : ∃ ρ x y, (bindSlots s h.slots []).bind (bindRoots s h.roots) = some ρ ∧ shapeOk h = true ∧ (someIds ρ).Nodup ∧ (∀ a ∈ ρ.map (·.1), a ∈ h.roots.map (·.1)) ∧ 0 ∉ h.roots.map (·.1) ∧ pinsOk pins ρ = true ∧ (∀ a ∈ pins, a ∈ h.roots.map (·.1)) ∧
    unSlots s ρ h.slots = some x ∧ unRoots s ρ h.roots = some y ∧ d = tpMk (slotsTy h.slots) (rootsTy h.roots) x y := by
  unfold un at hu
  split at hu
  case h_1 => cases hu
  case h_2 ρ hρ =>
    rw [Bool.cond_eq_ite] at hu
    split at hu
    case isFalse => cases hu
    case isTrue hc =>
      simp only [Bool.and_eq_true, Bool.not_eq_true'] at hc
      obtain ⟨⟨⟨⟨⟨⟨⟨c0, c1⟩, c2⟩, c3⟩, c4⟩, c5⟩, c6⟩, c7⟩ := hc
      split at hu
      case h_2 => cases hu
      case h_1 x y hx hy =>
        exact ⟨ρ, x, y, hρ, c0, ndist_iff.1 c1, nsub_iff.1 c3, nmem_false.1 c4, c5, nsub_iff.1 c6, hx, hy, (Option.some.inj hu).symm⟩
theorem formOk_all {h : Shape} (hs : shapeOk h = true) : (∀ p ∈ h.slots, formOk (h.roots.map (·.1)) p.2.2 = true) ∧ (∀ j fs, (j, RForm.box fs) ∈ h.roots → formOk (h.roots.map (·.1)) fs = true) ∧ (∀ j e deep d, (j, RForm.arr e deep d) ∈ h.roots → nsub d (0 :: h.roots.map (·.1)) = true ∧ (deep = true → d = [])) := by
  simp only [shapeOk, Bool.and_eq_true, List.all_eq_true] at hs
  exact ⟨hs.1, fun j fs hj => hs.2 _ hj, fun j e deep d hj => by
    have := hs.2 _ hj
    simp only [Bool.and_eq_true] at this
    exact ⟨this.1, fun hd => by have h9 := this.2; rw [hd] at h9; simpa using h9⟩⟩
/-- A root's form and the root itself. -/
theorem unRoot_arr {s : St} {ρ : Ren} {j : Nat} {e : Ty} {deep : Bool} {d : List Nat} {z : (RForm.arr e deep d).ty.den} (h : unRoot s ρ j (.arr e deep d) = some z) :
    (rget j ρ = some none ∧ z = ([] : List e.den)) ∨ ∃ a deep' d', rget j ρ = some (some a) ∧ s.root a = some (.arr e z deep' d') ∧ (deep = true → deep' = true ∧ d = []) ∧ depsOk s d' = true ∧ depsIn ρ d d' = true := by
  simp only [unRoot] at h
  split at h
  · rename_i id hid
    right
    split at h
    · rename_i e' xs deep' d' hroot
      split at h
      · rename_i he
        subst he
        rw [Bool.cond_eq_ite] at h
        split at h
        · rename_i hc
          simp only [Bool.and_eq_true] at hc
          have h := Option.some.inj h
          simp only [tcast] at h
          subst h
          refine ⟨id, deep', d', hid, hroot, fun hd => ?_, hc.1.2, hc.2⟩
          have := hc.1.1
          rw [hd] at this
          simpa using this
        · cases h
      · cases h
    · cases h
  · rename_i hid
    exact .inl ⟨hid, (Option.some.inj h).symm⟩
  · cases h
theorem unRoot_box {s : St} {ρ : Ren} {j : Nat} {fs : List LForm} {z : (RForm.box fs).ty.den} (h : unRoot s ρ j (.box fs) = some z) : ∃ a ls, rget j ρ = some (some a) ∧ s.root a = some (.box ls) ∧ unLs s ρ fs ls = some z := by
  unfold unRoot at h
  cases hr : rget j ρ with
  | none => simp only [hr] at h; cases h
  | some v =>
    cases v with
    | none => simp only [hr] at h; cases h
    | some id =>
      simp only [hr] at h
      cases hq : s.root id with
      | none => simp only [hq] at h; cases h
      | some q =>
        cases q with
        | arr _ _ _ _ => simp only [hq] at h; cases h
        | box ls =>
          simp only [hq] at h
          exact ⟨id, ls, rfl, hq, h⟩
end
end Go.Proofs.XTv
/- A loop's form stands for the state: the theorem. -/
set_option linter.unusedVariables false
set_option linter.unusedSimpArgs false
set_option linter.unusedSectionVars false
namespace Go.Proofs.XTv

theorem mk_ok {E : Env} {n : Nat} {pins : List Nat} (hp : ∀ p ∈ E.pins, p.1 ∈ pins) : MkOk E n pins := by
  intro h s d g a w hu hf inv
  obtain ⟨ρ, x, y, hρ, hshape, hdist, hkeys, h0, hpins, hpsub, hx, hy, rfl⟩ := un_parts hu
  obtain ⟨hfs, hfb, hfa⟩ := formOk_all hshape
  have hm := inv.mem
  cases hb : bindSlots s h.slots [] with
  | none => rw [hb] at hρ; cases hρ
  | some ρ1 =>
    rw [hb] at hρ
    simp only [Option.bind_some] at hρ
    obtain ⟨_, hbs⟩ := bindSlots_spec hb
    obtain ⟨hext, hbr⟩ := bindRoots_spec hρ
    have e1 := tpFst_mk (slotsTy h.slots) (rootsTy h.roots) x y
    have e2 := tpSnd_mk (slotsTy h.slots) (rootsTy h.roots) x y
    have hslot' : ∀ t, (mk h (tpMk (slotsTy h.slots) (rootsTy h.roots) x y)).slot t = mkSlots h.slots x t := fun t => congrArg (fun z => mkSlots h.slots z t) e1
    have hrt' : ∀ j, (mk h (tpMk (slotsTy h.slots) (rootsTy h.roots) x y)).root j = mkRoots h.roots y j := fun j => congrArg (fun z => mkRoots h.roots z j) e2
    have hver' : ∀ j, (mk h (tpMk (slotsTy h.slots) (rootsTy h.roots) x y)).ver j = mkVer h.roots j := fun j => rfl
    generalize mk h (tpMk (slotsTy h.slots) (rootsTy h.roots) x y) = s' at hslot' hrt' hver' ⊢
    have hroot' : ∀ j q, s'.root j = some q → ∃ f z, (j, f) ∈ h.roots ∧ unRoot s ρ j f = some z ∧ q = mkRoot f z := fun j q hq => unRoots_spec hy j q (by rw [← hrt']; exact hq)
    have hR : RenOk ρ (h.roots.map (·.1)) s s' := by
      refine ⟨fun i hi => by rw [hver']; exact mkVer_in hi, fun j v hj => ?_, hdist, fun j e xs deep d hq => ?_, fun j ls hq => ?_⟩
      · have := hkeys j (List.mem_map.2 ⟨_, rget_mem hj, rfl⟩)
        exact ⟨this, fun h => h0 (h ▸ this)⟩
      · obtain ⟨f, z, h1, h2, h3⟩ := hroot' j _ hq
        cases f with
        | box fs => cases h3
        | arr e0 deep0 d0 =>
          cases h3
          rcases unRoot_arr h2 with ⟨k1, k2⟩ | ⟨a, deep', d', k1, k2, k3, k4, k5⟩
          · exact .inr ⟨k1, k2⟩
          · exact .inl ⟨a, k1, _, _, _, k2, rfl⟩
      · obtain ⟨f, z, h1, h2, h3⟩ := hroot' j _ hq
        cases f with
        | arr _ _ _ => cases h3
        | box fs =>
          obtain ⟨a, ls0, k1, k2, k3⟩ := unRoot_box h2
          exact ⟨a, ls0, k1, k2⟩
    have hω : ∀ b a j, g.ω b = some a → rget j ρ = some (some a) → (renG g ρ).ω b = some j := fun b a j h1 h2 => by
      simp only [renG, h1]; exact rrev_of hdist (rget_mem h2)
    have hκ : ∀ a j, rget j ρ = some (some a) → (renG g ρ).κ j = g.κ a ∧ (renG g ρ).cp j = g.cp a := fun a j h2 => by
      simp only [renG, h2]; exact ⟨trivial, trivial⟩
    refine ⟨renG g ρ, ⟨⟨?_, fun j q hq => ?_, fun j q hq => ?_, fun b j hb => ?_⟩, fun t => ?_, inv.size, inv.defers, inv.os, inv.tape, inv.output, inv.grown, inv.frame, fun b j hb => ?_, fun p hp' => ?_⟩, fun t => ?_⟩
    · -- no root 0
      cases hq : s'.root 0 with
      | none => rfl
      | some q =>
        obtain ⟨f, z, h1, _, _⟩ := hroot' 0 q hq
        exact absurd (List.mem_map.2 ⟨_, h1, rfl⟩) h0
    · obtain ⟨f, z, h1, h2, rfl⟩ := hroot' j q hq
      cases f with
      | box fs => trivial
      | arr e deep d =>
        cases deep
        · trivial
        · rcases unRoot_arr h2 with ⟨k1, k2⟩ | ⟨a, deep', d', k1, k2, k3, k4, k5⟩
          · show mkDeps d = []
            rw [(hfa j e true d h1).2 rfl]; rfl
          · show mkDeps d = []
            rw [(k3 rfl).2]; rfl
    · obtain ⟨f, z, h1, h2, rfl⟩ := hroot' j q hq
      have hjm : j ∈ h.roots.map (·.1) := List.mem_map.2 ⟨_, h1, rfl⟩
      refine ⟨Nat.le_of_eq (hR.ver j (.inr hjm)).symm, ?_⟩
      cases f with
      | box fs =>
        obtain ⟨a, ls, k1, k2, k3⟩ := unRoot_box h2
        obtain ⟨id2, ls2, m1, m2, m3⟩ := hbr j fs h1
        rw [k1] at m1
        cases m1
        rw [k2] at m2
        cases m2
        obtain ⟨_, b, c, T, r1, r2, r3, r4⟩ := hm.roots a _ k2
        exact ⟨b, c, T, (hκ a j k1).1.trans r1, hω b a j r2 k1, r3, unLs_rel hm hR m3 (hfb j fs h1) k3 r4⟩
      | arr e deep d =>
        obtain ⟨hd1, hd2⟩ := hfa j e deep d h1
        refine ⟨hR.bnd hd1, ?_⟩
        rcases unRoot_arr h2 with ⟨k1, k2⟩ | ⟨a, deep', d', k1, k2, k3, k4, k5⟩
        · exact .inl ⟨by simp [renG, k1], k2, by simp [renG, k1]⟩
        · obtain ⟨hv1, hbd, hrr⟩ := hm.roots a _ k2
          rcases hrr with ⟨r1, r2, r3⟩ | ⟨b, c, T, es, rest, r1, r2, r3, r4, r5, r6, r7, r8⟩
          · exact .inl ⟨(hκ a j k1).1.trans r1, r2, (hκ a j k1).2.trans r3⟩
          · refine .inr ⟨b, c, T, es, rest, (hκ a j k1).1.trans r1, hω b a j r2 k1, r3, r4, r5, by rw [(hκ a j k1).2]; exact r6, by rw [(hκ a j k1).2]; exact r7, ?_⟩
            have hcur : Cur s d' := depsOk_iff.1 k4
            cases deep with
            | true =>
              simp only [if_true]
              have hd' := (k3 rfl).1
              subst hd'
              simp only [if_true] at r8
              obtain ⟨_, S, s1, s2, s3⟩ := r8
              exact ⟨by rw [hd2 rfl]; rfl, S, s1, s2, fun b' hb' => hω b' a j (s3 b' hb') k1⟩
            | false =>
              simp only [Bool.false_eq_true, if_false]
              intro _
              have ha0 : a ≠ 0 := hm.ne0 k2
              have hj0 : j ≠ 0 := fun hh => h0 (hh ▸ hjm)
              have hA : ∀ b', Av g w E.N ((a, s.ver a) :: d') b' → Av (renG g ρ) w E.N ((j, s'.ver j) :: mkDeps d) b' := by
                rintro b' ⟨hlt, hb'⟩
                refine ⟨hlt, ?_⟩
                rcases hb' with ⟨t1, t2⟩ | ⟨i, t1, t2⟩
                · refine .inl ⟨by simp only [renG, t1], t2.imp (fun t3 => ⟨?_, t3.2⟩) (fun t3 => t3)⟩
                  have t4 := t3.1
                  simp only [dids, List.mem_cons] at t4
                  rcases t4 with t4 | t4
                  · exact absurd t4.symm ha0
                  · rcases depsIn_spec k5 0 t4 with t5 | t5
                    · simp only [dids, List.mem_cons, dids_mk]; exact .inr t5.2
                    · exact absurd rfl t5.1
                · simp only [dids, List.mem_cons] at t1
                  rcases t1 with rfl | t1
                  · exact .inr ⟨j, by simp [dids], hj0, hω b' i j t2.2 k1⟩
                  · rcases depsIn_spec k5 i t1 with t5 | ⟨_, j', t6, t7⟩
                    · exact absurd t5.1 t2.1
                    · exact .inr ⟨j', by simp [dids, dids_mk, t6], (hR.keys j' _ t7).2, hω b' i j' t2.2 t7⟩
              cases deep' with
              | false =>
                simp only [Bool.false_eq_true, if_false] at r8
                exact (r8 hcur).imp fun _ _ hr => hr.keep (fun b' hb' => ⟨hb'.1, hA b' hb'.2⟩) (fun _ _ => rfl)
              | true =>
                simp only [if_true] at r8
                obtain ⟨_, S, s1, s2, s3⟩ := r8
                have hbS := (List.nodup_cons.1 s2).1
                exact s1.reps fun x cs S1 hs1 hr => hr.repC fun b' hb' => ⟨fun hh => hbS (hh ▸ hs1 b' hb'), hm.own b' a (s3 b' (hs1 b' hb')), .inr ⟨j, by simp [dids], hj0, hω b' a j (s3 b' (hs1 b' hb')) k1⟩⟩
    · simp only [renG] at hb
      split at hb
      · rename_i a ha; exact inv.mem.own b a ha
      · cases hb
    · rw [hslot']
      rcases unSlots_spec hx t with h9 | ⟨agg, fs, ls, z, h1, h2, h3, h4⟩
      · rw [h9]; exact ⟨trivial, fun hh => by cases hh⟩
      · rw [h4]
        obtain ⟨ls2, m1, m2⟩ := hbs _ h1
        simp only at m1 m2
        rw [h2] at m1
        cases m1
        have hvr := (avLs_rel h2 (inv.slots t)).1
        have hfo := hfs _ h1
        cases agg with
        | true =>
          obtain ⟨cs, hu, hls⟩ := hvr
          exact ⟨cs, hu, unLs_rel hm hR (m2.ext hext) hfo h3 hls⟩
        | false =>
          obtain ⟨l, rfl, hl⟩ := hvr
          have := unLs_rel hm hR (m2.ext hext) hfo h3 (show LsRel g s w E.N [l] [a.tmps.getD t undef] from ⟨hl, trivial⟩)
          match hq : mkLs fs z, this with
          | [l'], this => exact this.1
          | _ :: _ :: _, this => exact this.2.elim
          | [], this => exact this.elim
    · simp only [renG] at hb
      split at hb
      · rename_i a ha; exact inv.entry b a ha
      · cases hb
    · obtain ⟨p1, p2, p3, p4⟩ := inv.pins p hp'
      have hpp := hp p hp'
      have hin := hpsub _ hpp
      obtain ⟨⟨j, f⟩, hjf, hje⟩ := List.mem_map.1 hin
      simp only at hje
      subst hje
      obtain ⟨z, hz⟩ := unRoots_all hy _ hjf
      have hv : ∃ v, rget p.1 ρ = some v := by
        cases f with
        | box fs => obtain ⟨a, ls, k1, _⟩ := unRoot_box hz; exact ⟨_, k1⟩
        | arr e deep d =>
          rcases unRoot_arr hz with ⟨k1, _⟩ | ⟨a, _, _, k1, _⟩
          · exact ⟨_, k1⟩
          · exact ⟨_, k1⟩
      obtain ⟨v, hv⟩ := hv
      have hvs := pinsOk_spec hpins _ _ (rget_mem hv) hpp
      subst hvs
      refine ⟨Nat.le_of_eq (hR.ver p.1 (.inr hin)).symm, (hκ _ _ hv).1.trans p2, (hκ _ _ hv).2.trans p3, fun e xs deep d hq => ?_⟩
      obtain ⟨f', z', h1', h2', h3'⟩ := hroot' p.1 _ hq
      cases f' with
      | box fs => cases h3'
      | arr e0 deep0 d0 =>
        cases h3'
        rcases unRoot_arr h2' with ⟨k1, _⟩ | ⟨a, deep', d', k1, k2, k3, k4, k5⟩
        · rw [hv] at k1; cases k1
        · rw [hv] at k1; cases k1
          exact p4 _ _ _ _ k2
    · rw [hslot']
      rcases unSlots_spec hx t with h9 | ⟨agg, fs, ls, z, h1, h2, h3, h4⟩
      · rw [h9]; exact ⟨rfl, fun _ _ _ h => by cases h⟩
      · rw [h4]
        refine ⟨rfl, fun _ _ _ h => ?_⟩
        cases agg <;> cases h
end Go.Proofs.XTv
/- The start of a function: its arguments as a state. -/
set_option linter.unusedVariables false
set_option linter.unusedSimpArgs false
set_option linter.unusedSectionVars false
namespace Go.Proofs.XTv

def base0 : St := { slot := fun _ => (0, .one .junk), root := upd (fun _ => none) 1 none, ver := upd (fun i => bif Nat.beq i 0 then 1 else 0) 1 1 }
def fresh0 : St := { slot := fun _ => (0, .one .junk), root := fun _ => none, ver := fun i => bif Nat.beq i 0 then 1 else 0 }
def initUps : (i : Nat) → (ps : List PK) → (inTy ps).den → List Up
  | _, [], _ => []
  | i, p :: ps, x => initUps (i + 1) ps (tpSnd p.ty (inTy ps) x) ++ (initP i p (tpFst p.ty (inTy ps) x)).2.1

theorem ups_congr : ∀ (us : List Up) {s s' : St}, s.root = s'.root → s.ver = s'.ver → (s.ups us).root = (s'.ups us).root ∧ (s.ups us).ver = (s'.ups us).ver
  | [], _, _, h1, h2 => ⟨h1, h2⟩
  | u :: us, s, s', h1, h2 => ups_congr us (s := s.up u) (s' := s'.up u) (by simp only [St.up, h1]) (by simp only [St.up, h2])
theorem initPs_roots : ∀ (i : Nat) (ps : List PK) (x : (inTy ps).den), (initPs i ps x).1.root = (base0.ups (initUps i ps x)).root ∧ (initPs i ps x).1.ver = (base0.ups (initUps i ps x)).ver
  | i, [], x => ⟨rfl, rfl⟩
  | i, p :: ps, x => by
    obtain ⟨h1, h2⟩ := initPs_roots (i + 1) ps (tpSnd p.ty (inTy ps) x)
    simp only [initPs, initUps, ups_append]
    exact ups_congr _ h1 h2
theorem initPs_slot : ∀ (i : Nat) (ps : List PK) (x : (inTy ps).den) (t : Nat), ((initPs i ps x).1.slot t).1 = 0 ∧ (t < i ∨ i + ps.length ≤ t → (initPs i ps x).1.slot t = (0, .one .junk))
  | i, [], x, t => ⟨rfl, fun _ => rfl⟩
  | i, p :: ps, x, t => by
    obtain ⟨h1, h2⟩ := initPs_slot (i + 1) ps (tpSnd p.ty (inTy ps) x) t
    simp only [initPs]
    rw [put_slot]
    split
    · rename_i h
      cases h
      refine ⟨rfl, fun h => ?_⟩
      simp only [List.length_cons] at h
      omega
    · rename_i h
      rw [ups_slot]
      refine ⟨h1, fun h' => h2 ?_⟩
      simp only [List.length_cons] at h'
      have : i ≠ t := fun he => h (he ▸ rfl)
      omega

theorem newId_eq (i j : Nat) : newId i j = (i + 1) * 256 + j := rfl
theorem ownLl_ids {base : Nat} : ∀ {off : Nat} {ms : List Lf}, (∀ u ∈ (ownLl base off ms).2, base + off ≤ u.id ∧ u.id < base + off + ms.length ∧ u.ver = 1) ∧ (upIds (ownLl base off ms).2).Nodup
  | off, [] => ⟨(fun u hu => by cases hu), List.nodup_nil⟩
  | off, m :: ms => by
    obtain ⟨h1, h2⟩ := ownLl_ids (base := base) (off := off + 1) (ms := ms)
    have rest : (ownLl base off (m :: ms)).2 = (ownLl base (off + 1) ms).2 → (∀ u ∈ (ownLl base off (m :: ms)).2, base + off ≤ u.id ∧ u.id < base + off + (m :: ms).length ∧ u.ver = 1) ∧ (upIds (ownLl base off (m :: ms)).2).Nodup := by
      intro he
      rw [he]
      refine ⟨fun u hu => ?_, h2⟩
      have := h1 u hu
      simp only [List.length_cons]
      omega
    cases m with
    | snap e x d p =>
      simp only [ownLl]
      refine ⟨fun u hu => ?_, ?_⟩
      · rcases List.mem_cons.1 hu with rfl | hu
        · simp only [List.length_cons]; exact ⟨Nat.le_refl _, by omega, trivial⟩
        · have := h1 u hu
          simp only [List.length_cons]
          omega
      · simp only [upIds, List.nodup_cons]
        refine ⟨fun hm => ?_, h2⟩
        obtain ⟨u, hu, he⟩ := mem_upIds.1 hm
        have := h1 u hu
        omega
    | _ => exact rest rfl
theorem initP_ids {i : Nat} {p : PK} {x : p.ty.den} (hs : p.ty.size < 255) : (∀ u ∈ (initP i p x).2.1, (i + 1) * 256 ≤ u.id ∧ u.id < (i + 2) * 256 ∧ u.ver = 1) ∧ (upIds (initP i p x).2.1).Nodup := by
  have own : ∀ (t : Ty) (x : t.den), t.size < 255 → (∀ u ∈ (ownLs (newId i 1) 0 t x).2, newId i 1 ≤ u.id ∧ u.id < (i + 2) * 256 ∧ u.ver = 1) ∧ (upIds (ownLs (newId i 1) 0 t x).2).Nodup := by
    intro t x ht
    obtain ⟨h1, h2⟩ := ownLl_ids (base := newId i 1) (off := 0) (ms := leaves [] none 0 t x)
    refine ⟨fun u hu => ?_, h2⟩
    have := h1 u hu
    rw [leaves_length] at this
    have e := newId_eq i 1
    exact ⟨by omega, by omega, this.2.2⟩
  cases p with
  | val t agg => exact ⟨(fun u hu => by cases hu), List.nodup_nil⟩
  | fnc f => exact ⟨(fun u hu => by cases hu), List.nodup_nil⟩
  | take t agg =>
    obtain ⟨h1, h2⟩ := own t x hs
    exact ⟨fun u hu => by have := h1 u hu; have e := newId_eq i 1; exact ⟨by omega, by omega, this.2.2⟩, h2⟩
  | lend t agg =>
    obtain ⟨h1, h2⟩ := own t x hs
    exact ⟨fun u hu => by have := h1 u hu; have e := newId_eq i 1; exact ⟨by omega, by omega, this.2.2⟩, h2⟩
  | ptr t =>
    refine ⟨fun u hu => ?_, by simp [initP, upIds]⟩
    simp only [initP, List.mem_singleton] at hu
    subst hu
    have e := newId_eq i 0
    exact ⟨by show _ ≤ newId i 0; omega, by show newId i 0 < _; omega, rfl⟩
  | ptrown t =>
    obtain ⟨h1, h2⟩ := own t x hs
    refine ⟨fun u hu => ?_, ?_⟩
    · simp only [initP, List.mem_cons] at hu
      rcases hu with rfl | hu
      · have e := newId_eq i 0
        exact ⟨by show _ ≤ newId i 0; omega, by show newId i 0 < _; omega, rfl⟩
      · have := h1 u hu; have e := newId_eq i 1; exact ⟨by omega, by omega, this.2.2⟩
    · simp only [initP, upIds, List.nodup_cons]
      refine ⟨fun hm => ?_, h2⟩
      obtain ⟨u, hu, he⟩ := mem_upIds.1 hm
      have := h1 u hu
      have e := newId_eq i 0
      have e := newId_eq i 1
      omega
theorem initUps_ids : ∀ {i : Nat} {ps : List PK} {x : (inTy ps).den}, (∀ p ∈ ps, p.ty.size < 255) → (∀ u ∈ initUps i ps x, (i + 1) * 256 ≤ u.id ∧ u.ver = 1) ∧ (upIds (initUps i ps x)).Nodup
  | i, [], x, _ => ⟨(fun u hu => by cases hu), List.nodup_nil⟩
  | i, p :: ps, x, hs => by
    obtain ⟨h1, h2⟩ := initUps_ids (i := i + 1) (x := tpSnd p.ty (inTy ps) x) (fun q hq => hs q (List.mem_cons_of_mem _ hq))
    obtain ⟨h3, h4⟩ := initP_ids (i := i) (x := tpFst p.ty (inTy ps) x) (hs p (List.mem_cons_self ..))
    simp only [initUps]
    refine ⟨fun u hu => ?_, ?_⟩
    · rcases List.mem_append.1 hu with hu | hu
      · have := h1 u hu; exact ⟨by omega, this.2⟩
      · have := h3 u hu; exact ⟨by omega, this.2.2⟩
    · rw [upIds_append, List.nodup_append]
      refine ⟨h2, h4, fun a ha b hb he => ?_⟩
      obtain ⟨u, hu, e1⟩ := mem_upIds.1 ha
      obtain ⟨v, hv, e2⟩ := mem_upIds.1 hb
      have := h1 u hu
      have := h3 v hv
      omega
theorem upsOk_of : ∀ {us : List Up} {s : St}, (upIds us).Nodup → (∀ u ∈ us, s.ver u.id < u.ver) → upsOk s us = true
  | [], _, _, _ => rfl
  | u :: us, s, hn, h => by
    simp only [upIds, List.nodup_cons] at hn
    unfold upsOk
    have h1 := h u (List.mem_cons_self ..)
    have : Nat.ble (s.ver u.id + 1) u.ver = true := Nat.ble_eq_true_of_le h1
    rw [this]
    refine upsOk_of hn.2 fun v hv => ?_
    have hne : v.id ≠ u.id := fun he => hn.1 (mem_upIds.2 ⟨v, hv, he⟩)
    simp only [St.up, upd_other _ _ hne]
    exact h v (List.mem_cons_of_mem _ hv)

/-- A leaf that the function may give back: a scalar, or a whole array that it was lent. -/
def Held (s : St) (ids : List Nat) : Lf → Prop
  | .int _ _ | .bool _ | .str _ => True
  | .own id => (∃ e xs, s.root id = some (.arr e xs true [])) ∧ id ∈ ids
  | _ => False
/-- What the caller will look at again. -/
def StartR (g : G) (s : St) (w : World) (N : Bd) (i : Nat) : (p : PK) → p.ty.den → Value → Prop
  | .lend t agg, x, v => ∃ cs, PVal agg v cs ∧ LsRel g s w N (ownLs (newId i 1) 0 t x).1 cs ∧ ∀ l ∈ (ownLs (newId i 1) 0 t x).1, Held s (upIds (ownLs (newId i 1) 0 t x).2) l
  | .ptr t, x, v => ∃ b, g.κ (newId i 0) = some b ∧ v = .pointer (some ⟨b, 0, none⟩)
  | .ptrown t, x, v => ∃ b, g.κ (newId i 0) = some b ∧ v = .pointer (some ⟨b, 0, none⟩)
  | _, _, _ => True
def StartRs (g : G) (s : St) (w : World) (N : Bd) : (i : Nat) → (ps : List PK) → (inTy ps).den → List Value → Prop
  | _, [], _, [] => True
  | i, p :: ps, x, v :: vs => StartR g s w N i p (tpFst p.ty (inTy ps) x) v ∧ StartRs g s w N (i + 1) ps (tpSnd p.ty (inTy ps) x) vs
  | _, _, _, _ => False

section
variable {P : Program} {Γ : Cx} {g g' : G} {r s s' : St} {w w' : World} {N : Bd} {n : Nat} {a : Act} {E : Env}

theorem pval_av {agg : Bool} {ls : List Lf} {v : Value} {cs : List Value} (h : PVal agg v cs) (hl : LsRel g s w N ls cs) : AVRel g s w N (bif agg then .agg ls else .one (ls.headD .junk)) v := by
  cases agg
  · rw [show cs = [v] from h] at hl
    match ls, hl with
    | [l], hl => exact hl.1
    | _ :: _ :: _, hl => exact hl.2.elim
    | [], hl => exact hl.elim
  · obtain ⟨a, rfl, rfl⟩ := h
    exact ⟨a, rfl, hl⟩
theorem leaves_kinds {d : Deps} : ∀ {off : Nat} {t : Ty} {x : t.den} {l : Lf}, l ∈ leaves d none off t x → (∃ k n, l = .int k n) ∨ (∃ b, l = .bool b) ∨ (∃ b, l = .str b) ∨ ∃ e y, l = .snap e y d none := by
  intro off t
  induction t generalizing off with
  | int k => intro x l h; simp only [leaves, List.mem_singleton] at h; subst h; exact .inl ⟨_, _, rfl⟩
  | bool => intro x l h; simp only [leaves, List.mem_singleton] at h; subst h; exact .inr (.inl ⟨_, rfl⟩)
  | str => intro x l h; simp only [leaves, List.mem_singleton] at h; subst h; exact .inr (.inr (.inl ⟨_, rfl⟩))
  | unit => intro x l h; cases h
  | sl e _ => intro x l h; simp only [leaves, List.mem_singleton] at h; subst h; exact .inr (.inr (.inr ⟨_, _, rfl⟩))
  | pair a b iha ihb =>
    intro x l h
    simp only [leaves, List.mem_append] at h
    exact h.elim (fun h => iha h) (fun h => ihb h)
theorem ownLl_held {base : Nat} {ids : List Nat} : ∀ {off : Nat} {ms : List Lf}, (∀ m ∈ ms, (∃ k n, m = .int k n) ∨ (∃ b, m = .bool b) ∨ (∃ b, m = .str b) ∨ ∃ e y, m = .snap e y [] none) →
    (∀ u ∈ (ownLl base off ms).2, s.root u.id = u.root ∧ u.id ∈ ids) → ∀ l ∈ (ownLl base off ms).1, Held s ids l
  | off, [], _, _, l, hl => by cases hl
  | off, m :: ms, hk, hr, l, hl => by
    rcases hk m (List.mem_cons_self ..) with ⟨k, n, rfl⟩ | ⟨b, rfl⟩ | ⟨b, rfl⟩ | ⟨e, y, rfl⟩ <;> simp only [ownLl] at hl hr <;> rcases List.mem_cons.1 hl with rfl | hl
    · trivial
    · exact ownLl_held (fun m hm => hk m (List.mem_cons_of_mem _ hm)) hr l hl
    · trivial
    · exact ownLl_held (fun m hm => hk m (List.mem_cons_of_mem _ hm)) hr l hl
    · trivial
    · exact ownLl_held (fun m hm => hk m (List.mem_cons_of_mem _ hm)) hr l hl
    · obtain ⟨h1, h2⟩ := hr _ (List.mem_cons_self ..)
      exact ⟨⟨_, _, h1⟩, h2⟩
    · exact ownLl_held (fun m hm => hk m (List.mem_cons_of_mem _ hm)) (fun u hu => hr u (List.mem_cons_of_mem _ hu)) l hl

theorem init_rel1 {A : Nat → Prop} {S S0 : List Nat} {d : Deps} (hd : d = [(0, 1)]) {i : Nat} {p : PK} {x : p.ty.den} {v : Value} (hr : ArgR w A p x v S) (hlt : ∀ b ∈ S, b < w.heap.size) (hup : ∀ u ∈ (initP i p x).2.1, s.ver u.id < u.ver) :
    ∃ Ps : List Place, S = Ps.flatMap (·.blocks) ∧ BackOk N g s w S0 w A d (initP i p x).2.1 Ps ∧
      ∀ (g' : G) (s' : St), Ready N g w S0 w A d (initP i p x).2.1 Ps g' s' → AVRel g' s' w N (initP i p x).1 v ∧ StartR g' s' w N i p x v := by
  subst hd
  cases p with
  | val t agg =>
    obtain ⟨rfl, cs, hp, hc⟩ := hr
    exact ⟨[], rfl, BackOk.nil, fun g' s' hrd => ⟨pval_av hp (leaves_rel hrd.bnd 0 (hc.keep hrd.reads (fun _ _ => rfl))), trivial⟩⟩
  | fnc f =>
    obtain ⟨rfl, rfl⟩ := hr
    exact ⟨[], rfl, BackOk.nil, fun g' s' hrd => ⟨⟨rfl, fun _ => rfl⟩, trivial⟩⟩
  | take t agg =>
    obtain ⟨cs, hp, hc⟩ := hr
    obtain ⟨Ps, k1, k2, k3⟩ := own_back (N := N) (g := g) (s := s) (w := w) (S := S0) (A := A) (d := [(0, 1)]) (base := newId i 1) (off := 0) hc hlt (by simp [newId]) hup
    exact ⟨Ps, k1, k2, fun g' s' hrd => ⟨pval_av hp (k3 g' s' hrd), trivial⟩⟩
  | lend t agg =>
    obtain ⟨cs, hp, hc⟩ := hr
    obtain ⟨Ps, k1, k2, k3⟩ := own_back (N := N) (g := g) (s := s) (w := w) (S := S0) (A := A) (d := [(0, 1)]) (base := newId i 1) (off := 0) hc hlt (by simp [newId]) hup
    refine ⟨Ps, k1, k2, fun g' s' hrd => ⟨pval_av hp (k3 g' s' hrd), cs, hp, k3 g' s' hrd, ?_⟩⟩
    exact ownLl_held (fun m hm => leaves_kinds hm) (fun u hu => ⟨(hrd.roots u hu).1, mem_upIds.2 ⟨u, hu, rfl⟩⟩)
  | ptr t =>
    obtain ⟨b, c, T, rfl, hh, hc, rfl⟩ := hr
    have hv0 : s.ver (newId i 0) = 0 := by
      have := hup ⟨newId i 0, some (.box (leaves [(0, 1)] none 0 t x)), 1⟩ (by simp [initP])
      simp only at this; omega
    have hb0 : newId i 0 ≠ 0 := by simp [newId]
    refine ⟨[⟨newId i 0, some b, 0, [b]⟩], rfl, ⟨by simp [initP, upIds], fun p hp hv => ?_, fun u hu q hq => ?_, fun g' s' hrd u hu q hq => ?_⟩, fun g' s' hrd => ⟨⟨⟨?_, fun ls hls => ⟨b, ?_, rfl⟩⟩, fun _ => rfl⟩, b, ?_, rfl⟩⟩
    · simp at hp; subst hp; simp only at hv; omega
    · simp [initP] at hu; subst hu
      simp only [Option.some.injEq] at hq; subst hq
      exact ⟨trivial, hb0, fun hv => by simp only at hv; omega⟩
    · simp [initP] at hu; subst hu
      simp only [Option.some.injEq] at hq; subst hq
      have hp0 := hrd.κ ⟨newId i 0, some b, 0, [b]⟩ (by simp)
      exact ⟨b, c, T, hp0.1, hrd.own ⟨newId i 0, some b, 0, [b]⟩ (by simp) b (by simp), hh, leaves_rel hrd.bnd 0 (hc.keep hrd.reads (fun _ _ => rfl))⟩
    · exact (hrd.roots ⟨newId i 0, some (.box (leaves [(0, 1)] none 0 t x)), 1⟩ (by simp [initP])).2
    · exact (hrd.κ ⟨newId i 0, some b, 0, [b]⟩ (by simp)).1
    · exact (hrd.κ ⟨newId i 0, some b, 0, [b]⟩ (by simp)).1
  | ptrown t =>
    obtain ⟨b, c, T, S', rfl, hh, hc, rfl⟩ := hr
    simp only [initP] at hup ⊢
    obtain ⟨Ps, k1, k2, k3⟩ := own_back (N := N) (g := g) (s := s) (w := w) (S := S0) (A := A) (d := [(0, 1)]) (base := newId i 1) (off := 0) hc (fun b hb => hlt b (List.mem_cons_of_mem _ hb)) (by simp [newId]) (fun u hu => hup u (List.mem_cons_of_mem _ hu))
    have hv0 : s.ver (newId i 0) = 0 := by
      have := hup ⟨newId i 0, some (.box (ownLs (newId i 1) 0 t x).1), 1⟩ (List.mem_cons_self ..)
      simp only at this; omega
    have hb0 : newId i 0 ≠ 0 := by simp [newId]
    have hright : ∀ {g' : G} {s' : St}, Ready N g w S0 w A [(0, 1)] (⟨newId i 0, some (.box (ownLs (newId i 1) 0 t x).1), 1⟩ :: (ownLs (newId i 1) 0 t x).2) (⟨newId i 0, some b, 0, [b]⟩ :: Ps) g' s' → Ready N g w S0 w A [(0, 1)] (ownLs (newId i 1) 0 t x).2 Ps g' s' :=
      fun h => Ready.right (us := [_]) (Ps := [_]) h
    refine ⟨⟨newId i 0, some b, 0, [b]⟩ :: Ps, by rw [List.flatMap_cons, ← k1]; rfl, ⟨?_, fun p hp hv => ?_, fun u hu q hq => ?_, fun g' s' hrd u hu q hq => ?_⟩, fun g' s' hrd => ⟨⟨⟨?_, fun ls hls => ⟨b, ?_, rfl⟩⟩, fun _ => rfl⟩, b, ?_, rfl⟩⟩
    · simp only [List.map_cons, upIds]; exact k2.sub.cons_cons _
    · rcases List.mem_cons.1 hp with rfl | hp
      · simp only at hv; omega
      · exact k2.keep p hp hv
    · rcases List.mem_cons.1 hu with rfl | hu
      · simp only [Option.some.injEq] at hq; subst hq
        exact ⟨trivial, hb0, fun hv => by simp only at hv; omega⟩
      · exact k2.same u hu q hq
    · rcases List.mem_cons.1 hu with rfl | hu
      · simp only [Option.some.injEq] at hq; subst hq
        have hp0 := hrd.κ ⟨newId i 0, some b, 0, [b]⟩ (List.mem_cons_self ..)
        exact ⟨b, c, T, hp0.1, hrd.own ⟨newId i 0, some b, 0, [b]⟩ (List.mem_cons_self ..) b (by simp), hh, k3 g' s' (hright hrd)⟩
      · exact k2.roots g' s' (hright hrd) u hu q hq
    · exact (hrd.roots ⟨newId i 0, some (.box (ownLs (newId i 1) 0 t x).1), 1⟩ (List.mem_cons_self ..)).2
    · exact (hrd.κ ⟨newId i 0, some b, 0, [b]⟩ (List.mem_cons_self ..)).1
    · exact (hrd.κ ⟨newId i 0, some b, 0, [b]⟩ (List.mem_cons_self ..)).1
theorem init_rel {A : Nat → Prop} {S0 : List Nat} {d : Deps} (hd : d = [(0, 1)]) : ∀ {i : Nat} {ps : List PK} {x : (inTy ps).den} {vs : List Value} {S : List Nat}, ArgsR w A ps x vs S → (∀ b ∈ S, b < w.heap.size) → (∀ u ∈ initUps i ps x, s.ver u.id < u.ver) →
    vs.length = ps.length ∧ ∃ Ps : List Place, (∀ b, b ∈ Ps.flatMap (·.blocks) ↔ b ∈ S) ∧ (S.Nodup → (Ps.flatMap (·.blocks)).Nodup) ∧ BackOk N g s w S0 w A d (initUps i ps x) Ps ∧
      ∀ (g' : G) (s' : St), Ready N g w S0 w A d (initUps i ps x) Ps g' s' → (∀ j v, vs[j]? = some v → AVRel g' s' w N ((initPs i ps x).1.slot (i + j)).2 v) ∧ StartRs g' s' w N i ps x vs
  | i, [], x, [], S, h, _, _ => by
    simp only [ArgsR] at h
    subst h
    exact ⟨rfl, [], (fun b => Iff.rfl), fun _ => List.nodup_nil, BackOk.nil, fun g' s' _ => ⟨fun j v hv => by simp at hv, trivial⟩⟩
  | i, [], x, _ :: _, S, h, _, _ => h.elim
  | i, _ :: _, x, [], S, h, _, _ => h.elim
  | i, p :: ps, x, v :: vs, S, h, hlt, hup => by
    obtain ⟨S1, S2, rfl, h1, h2⟩ := h
    simp only [initUps] at hup ⊢
    obtain ⟨hlen, P2, a1, a2, a3, a4⟩ := init_rel (S0 := S0) hd (i := i + 1) h2 (fun b hb => hlt b (List.mem_append_right _ hb)) (fun u hu => hup u (List.mem_append_left _ hu))
    obtain ⟨P1, b1, b2, b3⟩ := init_rel1 (N := N) (g := g) (S0 := S0) hd (i := i) h1 (fun b hb => hlt b (List.mem_append_left _ hb)) (fun u hu => hup u (List.mem_append_right _ hu))
    refine ⟨by simp [hlen], P2 ++ P1, fun b => ?_, fun hn => ?_, a3.append b2, fun g' s' hrd => ⟨fun j u hu => ?_, (b3 g' s' hrd.right).2, (a4 g' s' hrd.left).2⟩⟩
    · rw [List.flatMap_append, List.mem_append, List.mem_append, a1, ← b1]; exact Or.comm
    · rw [List.nodup_append] at hn
      rw [List.flatMap_append, List.nodup_append, ← b1]
      exact ⟨a2 hn.2.1, hn.1, fun b hb c hc he => hn.2.2 c hc b ((a1 b).1 hb) he.symm⟩
    · simp only [initPs]
      rw [put_slot]
      cases j with
      | zero =>
        rw [if_pos (by simp)]
        simp only [List.getElem?_cons_zero, Option.some.injEq] at hu
        subst hu
        exact (b3 g' s' hrd.right).1
      | succ j =>
        rw [if_neg (by simp), ups_slot, show i + (j + 1) = i + 1 + j by omega]
        exact (a4 g' s' hrd.left).1 j u (by simpa using hu)
end
end Go.Proofs.XTv
/- A whole function: what the evaluator says of it is what its calls do. -/
set_option linter.unusedVariables false
set_option linter.unusedSimpArgs false
set_option linter.unusedSectionVars false
namespace Go.Proofs.XTv

section
variable {P : Program} {Γ : Cx} {g g' : G} {r s s' : St} {w w' : World} {N : Bd} {n : Nat} {a : Act} {E : Env}

def lenAt (s : St) (id : Nat) : Nat := match s.root id with
  | some (.arr _ xs _ _) => xs.length
  | _ => 0
theorem initPs_pins : ∀ {i : Nat} {ps : List PK} {x : (inTy ps).den} {id : Nat}, id ∈ (initPs i ps x).2 → id ∈ upIds (initUps i ps x)
  | i, [], x, id, h => by cases h
  | i, p :: ps, x, id, h => by
    simp only [initPs] at h
    simp only [initUps, upIds_append]
    rcases List.mem_append.1 h with h | h
    · refine List.mem_append_right _ ?_
      cases p with
      | lend t agg => exact h
      | ptr t => exact h
      | ptrown t => simp only [initP, List.mem_singleton] at h; subst h; exact List.mem_cons_self ..
      | _ => cases h
    · exact List.mem_append_left _ (initPs_pins h)

noncomputable def startEnv (w : World) (A : Nat → Prop) (S : List Nat) (g : G) (s : St) (pins : List Nat) : Env :=
  ⟨w, A, (· ∈ S), pins.map fun id => (id, g.κ id, g.cp id, lenAt s id)⟩

theorem argsR_lt {A : Nat → Prop} : ∀ {ps : List PK} {x : (inTy ps).den} {vs : List Value} {S : List Nat}, ArgsR w A ps x vs S → ∀ b ∈ S, b < w.heap.size := by
  have own : ∀ {t : Ty} {x : t.den} {cs : List Value} {S : List Nat}, RepO w t x cs S → ∀ b ∈ S, b < w.heap.size := by
    intro t
    induction t with
    | int k => intro x cs S h b hb; rw [h.2] at hb; cases hb
    | bool => intro x cs S h b hb; rw [h.2] at hb; cases hb
    | str => intro x cs S h b hb; rw [h.2] at hb; cases hb
    | unit => intro x cs S h b hb; rw [h.2] at hb; cases hb
    | pair t u iht ihu =>
      intro x cs S h b hb
      obtain ⟨c1, c2, S1, S2, _, rfl, h1, h2⟩ := h
      exact (List.mem_append.1 hb).elim (iht h1 b) (ihu h2 b)
    | sl e ih =>
      intro x cs S h b hb
      rcases h with ⟨_, _, rfl⟩ | ⟨b0, cap, c, T, S', es, rest, h1, h2, h3, h4, rfl, h6, h7⟩
      · cases hb
      · rcases List.mem_cons.1 hb with rfl | hb
        · exact (Array.getElem?_eq_some_iff.1 h2).1
        · have : ∀ {xs : List e.den} {es : List Value} {S : List Nat}, RepsO (RepO w e) xs es S → ∀ b ∈ S, b < w.heap.size := by
            intro xs
            induction xs with
            | nil => intro es S h b hb; rw [h.2] at hb; cases hb
            | cons x xs ihx =>
              intro es S h b hb
              obtain ⟨c1, c2, S1, S2, _, rfl, h1, h2⟩ := h
              exact (List.mem_append.1 hb).elim (ih h1 b) (ihx h2 b)
          exact this h7 b hb
  intro ps
  induction ps with
  | nil => intro x vs S h b hb; cases vs with
    | nil => simp only [ArgsR] at h; subst h; cases hb
    | cons _ _ => exact h.elim
  | cons p ps ih =>
    intro x vs S h b hb
    cases vs with
    | nil => exact h.elim
    | cons v vs =>
      obtain ⟨S1, S2, rfl, h1, h2⟩ := h
      rcases List.mem_append.1 hb with hb | hb
      · cases p with
        | val t agg => rw [h1.1] at hb; cases hb
        | fnc f => rw [h1.2] at hb; cases hb
        | take t agg => obtain ⟨cs, _, hc⟩ := h1; exact own hc b hb
        | lend t agg => obtain ⟨cs, _, hc⟩ := h1; exact own hc b hb
        | ptr t =>
          obtain ⟨b0, c, T, _, hh, _, rfl⟩ := h1
          simp only [List.mem_singleton] at hb; subst hb
          exact (Array.getElem?_eq_some_iff.1 hh).1
        | ptrown t =>
          obtain ⟨b0, c, T, S', _, hh, hc, rfl⟩ := h1
          rcases List.mem_cons.1 hb with rfl | hb
          · exact (Array.getElem?_eq_some_iff.1 hh).1
          · exact own hc b hb
      · exact ih h2 b hb

theorem initPs_opt : ∀ (i : Nat) (ps : List PK) (x : (inTy ps).den) (t : Nat) (gg : Bool) (k : Nat × Bool) (v : AV), ((initPs i ps x).1.slot t).2 ≠ .opt gg k v
  | i, [], x, t, gg, k, v, h => by cases h
  | i, p :: ps, x, t, gg, k, v, h => by
    simp only [initPs] at h
    rw [put_slot] at h
    split at h
    · cases p with
      | val t agg => cases agg <;> cases h
      | take t agg => cases agg <;> cases h
      | lend t agg => cases agg <;> cases h
      | _ => cases h
    · rw [ups_slot] at h
      exact initPs_opt _ _ _ _ _ _ _ h
theorem StartR.slots (h : ∀ id, s'.root id = s.root id ∧ s'.ver id = s.ver id) {i : Nat} {p : PK} {x : p.ty.den} {v : Value} (hr : StartR g s w N i p x v) : StartR g s' w N i p x v := by
  cases p with
  | lend t agg =>
    obtain ⟨cs, h1, h2, h3⟩ := hr
    refine ⟨cs, h1, h2.imp fun l v _ hl => hl.slots h, fun l hl => ?_⟩
    have := h3 l hl
    cases l <;> simp only [Held] at this ⊢
    rw [(h _).1]; exact this
  | ptr t => exact hr
  | ptrown t => exact hr
  | _ => trivial
theorem StartRs.slots (h : ∀ id, s'.root id = s.root id ∧ s'.ver id = s.ver id) : ∀ {i : Nat} {ps : List PK} {x : (inTy ps).den} {vs : List Value}, StartRs g s w N i ps x vs → StartRs g s' w N i ps x vs
  | _, [], _, [], _ => trivial
  | _, _ :: _, _, _ :: _, hr => ⟨hr.1.slots h, StartRs.slots h hr.2⟩
  | _, [], _, _ :: _, hr => hr.elim
  | _, _ :: _, _, [], hr => hr.elim

/-- The start. -/
theorem start_inv {A : Nat → Prop} {S : List Nat} {ps : List PK} {x : (inTy ps).den} {vs : List Value} (hsz : ∀ p ∈ ps, p.ty.size < 255) (hr : ArgsR w A ps x vs S) (hS : S.Nodup) (hSA : ∀ b ∈ S, ¬ A b) (hA : ∀ b, A b → b < w.heap.size) (hn : ps.length ≤ n) :
    ∃ g, Inv (startEnv w A S g (initPs 0 ps x).1 (initPs 0 ps x).2) n g (initPs 0 ps x).1 { tmps := vs.toArray ++ Array.replicate (n - vs.toArray.size) undef, defers := [] } w ∧ Flat (initPs 0 ps x).1 ∧
      StartRs g (initPs 0 ps x).1 w ⟨w.heap.size, A, (· ∈ S)⟩ 0 ps x vs := by
  classical
  have hSlt := argsR_lt hr
  obtain ⟨hid, hnd⟩ := initUps_ids (i := 0) (x := x) hsz
  let N : Bd := ⟨w.heap.size, A, (· ∈ S)⟩
  let g0 : G := { κ := fun _ => none, cp := fun _ => 0, ω := fun b => if b ∈ S then some 1 else none }
  have hv0 : ∀ u ∈ initUps 0 ps x, fresh0.ver u.id < u.ver := fun u hu => by
    have := hid u hu
    have h0 : Nat.beq u.id 0 = false := beq_false'.2 (by omega)
    show (bif Nat.beq u.id 0 then 1 else 0) < u.ver
    rw [h0, this.2]; exact Nat.zero_lt_one
  have h1n : 1 ∉ upIds (initUps 0 ps x) := fun h => by
    obtain ⟨u, hu, he⟩ := mem_upIds.1 h
    have := hid u hu
    omega
  have hm0 : Mem N g0 fresh0 w := ⟨rfl, (fun id r h => by cases h), (fun id r h => by cases h), fun b id h => by
    simp only [g0] at h
    split at h
    · rename_i hb; exact hSlt b hb
    · cases h⟩
  obtain ⟨hlen, Ps, p1, p2, p3, p4⟩ := init_rel (N := N) (g := g0) (s := fresh0) (S0 := S) (A := A) (d := [(0, 1)]) rfl (i := 0) hr hSlt hv0
  have hgone : BackOk N g0 fresh0 w S w A [(0, 1)] [⟨1, none, 1⟩] [] := BackOk.gone fun u hu => by simp only [List.mem_singleton] at hu; subst hu; rfl
  have hnd1 : (upIds (⟨1, none, 1⟩ :: initUps 0 ps x)).Nodup := by simp only [upIds, List.nodup_cons]; exact ⟨h1n, hnd⟩
  have hω : ∀ b, g0.ω b = some 1 ↔ b ∈ S := fun b => by
    simp only [g0]; split <;> simp_all
  have hωn : ∀ b, b ∉ S → g0.ω b = none := fun b hb => by simp only [g0, if_neg hb]
  obtain ⟨g', hst, hrd, _⟩ := assembly (N := N) (g := g0) (s := fresh0) (w := w) (w' := w) hm0 (Nat.le_refl _) (fun b id h => by
      simp only [g0] at h
      split at h
      · rename_i hb; exact .inr hb
      · cases h) (us := ⟨1, none, 1⟩ :: initUps 0 ps x) (Ps := Ps) (S := S) (A := A) (d := [(0, 1)])
    (upsOk_of hnd1 fun u hu => by
      rcases List.mem_cons.1 hu with rfl | hu
      · exact Nat.zero_lt_one
      · exact hv0 u hu) hnd1 (hgone.append p3) (p2 hS) (fun b hb => ⟨.inl ((p1 b).1 hb), hSlt b ((p1 b).1 hb)⟩) (fun b hb => ⟨1, List.mem_cons_self .., (hω b).2 hb⟩)
    (fun b hb ha => by
      rcases ha.2 with ⟨h1, _⟩ | ⟨id, h1, h2, h3⟩
      · rw [(hω b).2 hb] at h1; cases h1
      · simp only [dids, List.mem_singleton] at h1; exact h2 h1)
    (fun b hb => .inl ⟨hA b hb, .inl ⟨hωn b (fun h => hSA b h hb), .inl ⟨by simp [dids], hb⟩⟩⟩)
    (fun p hp => by simp only [List.mem_singleton] at hp; subst hp; exact ⟨Nat.le_refl _, Nat.le_refl _⟩)
    (Nat.le_refl _) (fun _ _ _ => rfl) rfl rfl rfl
  obtain ⟨e1, e2⟩ := initPs_roots 0 ps x
  have hst' : (fresh0.ups (⟨1, none, 1⟩ :: initUps 0 ps x)).root = (initPs 0 ps x).1.root ∧ (fresh0.ups (⟨1, none, 1⟩ :: initUps 0 ps x)).ver = (initPs 0 ps x).1.ver := by
    rw [e1, e2]; exact ups_congr _ rfl rfl
  generalize fresh0.ups (⟨1, none, 1⟩ :: initUps 0 ps x) = s1 at hst hrd hst'
  obtain ⟨f1, f2⟩ := p4 g' s1 (Ready.right (us := [_]) (Ps := []) hrd)
  have hids : ∀ id, (initPs 0 ps x).1.root id = s1.root id ∧ (initPs 0 ps x).1.ver id = s1.ver id := fun id => ⟨by rw [hst'.1], by rw [hst'.2]⟩
  have hlf : ∀ l v, LfRel g' s1 w N l v → LfRel g' (initPs 0 ps x).1 w N l v := fun l v h => h.slots hids
  have hmem := hst.mem
  refine ⟨g', ⟨?_, fun t => ?_, ?_, rfl, rfl, rfl, rfl, Nat.le_refl _, fun _ _ _ => rfl, fun b id hb => ?_, fun p hp => ?_⟩, fun t => ⟨(initPs_slot 0 ps x t).1, fun gg k v hh => ?_⟩, ?_⟩
  · refine ⟨by rw [(hids 0).1]; exact hmem.zero, fun id q h => hmem.flat id q (by rw [← (hids id).1]; exact h), fun id q h => ?_, hmem.own⟩
    rw [(hids id).1] at h
    obtain ⟨k1, k2⟩ := hmem.roots id q h
    refine ⟨by rw [(hids id).2]; exact k1, ?_⟩
    have hbnd : ∀ d, Bnd (initPs 0 ps x).1 d ↔ Bnd s1 d := fun d => by simp only [Bnd, hst'.2]
    have hcur : ∀ d, Cur (initPs 0 ps x).1 d ↔ Cur s1 d := fun d => by simp only [Cur, hst'.2]
    cases q with
    | box ls =>
      obtain ⟨b, c, T, k3, k4, k5, k6⟩ := k2
      exact ⟨b, c, T, k3, k4, k5, k6.imp fun l v _ => hlf l v⟩
    | arr e xs deep d' =>
      simp only [RootRel, hcur, hbnd, hst'.2] at k2 ⊢
      exact k2
  · by_cases ht : t < vs.length
    · have := f1 t vs[t] (by simp [ht])
      rw [Nat.zero_add] at this
      have hg : (vs.toArray ++ Array.replicate (n - vs.toArray.size) undef).getD t undef = vs[t] := by
        simp [Array.getD, ht, Array.getElem_append]
        omega
      rw [hg]
      exact AVRel.imp hlf this
    · rw [(initPs_slot 0 ps x t).2 (.inr (by omega))]
      exact ⟨trivial, fun h => by cases h⟩
  · simp; omega
  · rcases hst.ent b id hb with ⟨id', h⟩ | h
    · simp only [g0] at h
      split at h
      · rename_i hb; exact .inr hb
      · cases h
    · exact .inl h
  · simp only [startEnv, List.mem_map] at hp
    obtain ⟨id, hid', rfl⟩ := hp
    obtain ⟨u, hu, he⟩ := mem_upIds.1 (initPs_pins hid')
    refine ⟨?_, rfl, rfl, fun e xs deep d h => by simp only [lenAt, h]⟩
    rw [(hids id).2, ← he]
    exact (hrd.roots u (List.mem_cons_of_mem _ hu)).2
  · exact initPs_opt 0 ps x t gg k v hh
  · exact f2.slots hids
end
end Go.Proofs.XTv
/- The end of a function: results, and what was lent, as the contract says. -/
set_option linter.unusedVariables false
set_option linter.unusedSimpArgs false
set_option linter.unusedSectionVars false
namespace Go.Proofs.XTv

section
variable {P : Program} {Γ : Cx} {g g' : G} {r s s' : St} {w w' : World} {N : Bd} {n : Nat} {a : Act} {E : Env}

theorem sub_refl (s : St) : Sub s s := ⟨fun t => .inl rfl, fun _ _ h => ⟨h, rfl⟩, fun _ _ => rfl⟩

def rvRun (tmps : Array Value) : ResultVar → Sem Value
  | .tmp t => pure (tmps.getD t undef)
  | .cell a t => do loadVar t (← asAddr (tmps.getD a undef))
def RunsTo (P : Program) (w : World) (tmps : Array Value) : List ResultVar → List Value → Prop
  | [], [] => True
  | rv :: l, v :: vs => (rvRun tmps rv).run P w = .ok v w ∧ RunsTo P w tmps l vs
  | _, _ => False
theorem mapM_run {tmps : Array Value} : ∀ {l : List ResultVar} {vs : List Value}, RunsTo P w tmps l vs → (l.mapM (rvRun tmps)).run P w = .ok vs w
  | [], [], _ => by simp
  | rv :: l, v :: vs, ⟨h1, h2⟩ => by simp [List.mapM_cons, Sem.run_bind, h1, mapM_run h2]
  | [], _ :: _, h => h.elim
  | _ :: _, [], h => h.elim
theorem results_run {fn : Func} {tmps : Array Value} {vs : List Value} (h : RunsTo P w tmps fn.results.toList vs) : (results fn tmps).run P w = .ok (resVal vs) w := by
  have h1 := mapM_run h
  have he : results fn tmps = (do let vs ← fn.results.mapM (rvRun tmps); pure (if h : vs.size = 1 then vs[0] else .tuple vs)) := rfl
  rw [he, Array.mapM_eq_mapM_toList, Sem.run_bind]
  have h2 : (List.toArray <$> List.mapM (rvRun tmps) fn.results.toList).run P w = .ok vs.toArray w := by
    rw [map_eq_pure_bind, Sem.run_bind, h1]; rfl
  rw [h2]
  simp only [Result.andThen_ok, Sem.run_pure]
  match vs with
  | [] => rfl
  | [v] => rfl
  | v :: u :: vs => simp [resVal]

theorem resVar_rel (hΓ : CxOk P Γ) (hm : Mem N g s w) (hf : Flat s) (hsl : ∀ t, AVRel g s w N (s.slot t).2 (a.tmps.getD t undef)) {rv : ResultVar} {av : AV} (h : resVar Γ s rv = some av) : ∃ v, (rvRun a.tmps rv).run P w = .ok v w ∧ AVRel g s w N av v := by
  cases rv with
  | tmp t =>
    have hs := hsl t
    simp only [resVar] at h
    have : (s.slot t).2 = av := by
      cases hq : (s.slot t).2 with
      | opt gg k v => exact absurd hq ((hf t).2 gg k v)
      | _ => rw [hq] at h; simpa [strip] using h
    rw [this] at hs
    exact ⟨_, rfl, hs⟩
  | cell t T =>
    have hs := hsl t
    simp only [resVar] at h
    split at h
    case h_2 => cases h
    case h_1 p hp =>
      rw [hp] at hs
      split at h
      case h_2 => cases h
      case h_1 ok v us hl =>
        simp only [Option.some.injEq] at h
        subst h
        obtain ⟨_, _, b, o, v', h1, h2, h3⟩ := load_rel (P := P) hΓ.ty hm (sub_refl s) hs hl
        refine ⟨v', ?_, h3⟩
        simp only [rvRun, h1]
        rw [Sem.run_bind]
        simpa [asAddr] using h2

/-- Blocks that roots of ids own. -/
def Of (g : G) (ids S : List Nat) : Prop := S.Nodup ∧ ∀ b ∈ S, ∃ i ∈ ids, g.ω b = some i
theorem Of.append {i j S T : List Nat} (h : Of g i S) (h2 : Of g j T) (hn : (i ++ j).Nodup) : Of g (i ++ j) (S ++ T) := by
  rw [List.nodup_append] at hn
  refine ⟨?_, fun b hb => ?_⟩
  · rw [List.nodup_append]
    refine ⟨h.1, h2.1, fun b hb c hc he => ?_⟩
    subst he
    obtain ⟨k1, m1, e1⟩ := h.2 b hb
    obtain ⟨k2, m2, e2⟩ := h2.2 b hc
    rw [e1] at e2; cases e2
    exact hn.2.2 k1 m1 k1 m2 rfl
  · rcases List.mem_append.1 hb with hb | hb
    · obtain ⟨k, m, e⟩ := h.2 b hb; exact ⟨k, List.mem_append_left _ m, e⟩
    · obtain ⟨k, m, e⟩ := h2.2 b hb; exact ⟨k, List.mem_append_right _ m, e⟩
theorem Of.nil {i : List Nat} : Of g i [] := ⟨List.nodup_nil, fun b hb => by cases hb⟩

theorem Av.sub {d e : Deps} (h : ∀ i ∈ dids d, i ∈ dids e) {b : Nat} (ha : Av g w N d b) : Av g w N e b := ha.mono h

theorem outR_rel (hm : Mem N g s w) {q : RK} {av : AV} {v : Value} {x : q.t.den} {ids : List Nat} {d : Deps} (h : outR s q av = some (x, ids, d)) (hv : AVRel g s w N av v) :
    ∃ S, Of g ids S ∧ ∀ (A F : Nat → Prop) (D : Deps), (∀ i ∈ dids d, i ∈ dids D) → (∀ b, Av g w N D b → A b) → (0 ∉ dids d → ∀ b, Av g w N d b → F b) → ResR w A F q x v S := by
  obtain ⟨t, agg, mode⟩ := q
  have wide : ∀ {ls : List Lf} {x : t.den}, avLs agg av = some ls → ofAll s t ls = some x → ∃ cs, PVal agg v cs ∧ LsRel g s w N ls cs ∧ RepC w (Av g w N (lsDeps s ls)) t x cs := by
    intro ls x h1 h2
    obtain ⟨cs, hp, hc⟩ := valrel_pval (avLs_rel h1 hv).1
    exact ⟨cs, hp, hc, (ofAll_rel hm (sub_refl s) h2 hc).1⟩
  cases mode with
  | ptr =>
    simp only [outR] at h
    split at h
    case h_2 => cases h
    case h_1 id =>
      split at h
      case h_2 => cases h
      case h_1 ls hls =>
        split at h
        case h_2 => cases h
        case h_1 y hy =>
          simp only [Option.some.injEq, Prod.mk.injEq] at h
          obtain ⟨rfl, rfl, rfl⟩ := h
          obtain ⟨b, hb, rfl⟩ := hv.1.2 ls hls
          obtain ⟨_, b', c, T, k1, k2, k3, k4⟩ := hm.roots id _ hls
          rw [hb] at k1; cases k1
          refine ⟨[b], ⟨by simp, fun b' hb' => ⟨id, by simp, by simp only [List.mem_singleton] at hb'; subst hb'; exact k2⟩⟩, fun A F D hD hA hF => ?_⟩
          exact ⟨b, c, T, rfl, k3, (ofAll_rel hm (sub_refl s) hy k4).1.keep (fun b' hb' => hA b' (hb'.mono hD)) (fun _ _ => rfl), rfl⟩
  | own =>
    simp only [outR] at h
    split at h
    case h_1 => cases h
    case h_2 ls hls =>
      split at h
      case h_1 => cases h
      case h_2 y hy =>
        split at h
        case h_2 => cases h
        case h_1 ids' hids =>
          simp only [Option.some.injEq, Prod.mk.injEq] at h
          obtain ⟨rfl, rfl, rfl⟩ := h
          obtain ⟨cs, hp, hc, _⟩ := wide hls hy
          obtain ⟨_, _, S, k1, k2, k3⟩ := own_gives hm (sub_refl s) hids hy hc
          exact ⟨S, ⟨k2, k3⟩, fun A F D hD hA hF => ⟨cs, hp, k1⟩⟩
  | fresh =>
    simp only [outR] at h
    split at h
    case h_1 => cases h
    case h_2 ls hls =>
      split at h
      case h_1 => cases h
      case h_2 y hy =>
        rw [Bool.cond_eq_ite] at h
        split at h
        case isTrue => cases h
        case isFalse hz =>
          simp only [Option.some.injEq, Prod.mk.injEq] at h
          obtain ⟨rfl, rfl, rfl⟩ := h
          obtain ⟨cs, hp, hc, hr⟩ := wide hls hy
          have hz' := nmem_false.1 (by simpa using hz)
          exact ⟨[], Of.nil, fun A F D hD hA hF => ⟨rfl, cs, hp, hr.keep (hF hz') (fun _ _ => rfl)⟩⟩
  | shared =>
    simp only [outR] at h
    split at h
    case h_1 => cases h
    case h_2 ls hls =>
      split at h
      case h_1 => cases h
      case h_2 y hy =>
        simp only [Option.some.injEq, Prod.mk.injEq] at h
        obtain ⟨rfl, rfl, rfl⟩ := h
        obtain ⟨cs, hp, hc, hr⟩ := wide hls hy
        exact ⟨[], Of.nil, fun A F D hD hA hF => ⟨rfl, cs, hp, hr.keep (fun b' hb' => hA b' (hb'.mono hD)) (fun _ _ => rfl)⟩⟩
theorem outRs_rel (hΓ : CxOk P Γ) (hm : Mem N g s w) (hf : Flat s) (hsl : ∀ t, AVRel g s w N (s.slot t).2 (a.tmps.getD t undef)) : ∀ {rs : List RK} {l : List ResultVar} {y : (outRs rs).den} {ids : List Nat} {d : Deps}, outRsEv Γ s rs l = some (y, ids, d) → ids.Nodup →
    ∃ vs S, RunsTo P w a.tmps l vs ∧ Of g ids S ∧ ∀ (A F : Nat → Prop) (D : Deps), (∀ i ∈ dids d, i ∈ dids D) → (∀ b, Av g w N D b → A b) → (∀ b, b < w.heap.size → ((g.ω b = none ∧ N.F b) ∨ ∃ id ∈ dids D, id ≠ 0 ∧ g.ω b = some id) → F b) → RessR w A F rs y vs S
  | [], [], y, ids, d, h, _ => by
    simp only [outRsEv, Option.some.injEq, Prod.mk.injEq] at h
    obtain ⟨_, rfl, rfl⟩ := h
    exact ⟨[], [], trivial, Of.nil, fun A F D _ _ _ => rfl⟩
  | [], _ :: _, _, _, _, h, _ => by simp [outRsEv] at h
  | _ :: _, [], _, _, _, h, _ => by simp [outRsEv] at h
  | q :: rs, rv :: l, y, ids, d, h, hn => by
    simp only [outRsEv] at h
    split at h
    case h_1 => cases h
    case h_2 av hav =>
      split at h
      case h_2 => cases h
      case h_1 x i d1 z j d2 h1 h2 =>
        simp only [Option.some.injEq, Prod.mk.injEq] at h
        obtain ⟨rfl, rfl, rfl⟩ := h
        have hn' := List.nodup_append.1 hn
        obtain ⟨v, k1, k2⟩ := resVar_rel (P := P) hΓ hm hf hsl hav
        obtain ⟨S1, k3, k4⟩ := outR_rel hm h1 k2
        obtain ⟨vs, S2, k5, k6, k7⟩ := outRs_rel hΓ hm hf hsl h2 hn'.2.1
        refine ⟨v :: vs, S1 ++ S2, ⟨k1, k5⟩, k3.append k6 hn, fun A F D hD hA hF => ⟨S1, S2, rfl, ?_, ?_⟩⟩
        · rw [tpFst_mk]
          have hD1 : ∀ i ∈ dids d1, i ∈ dids D := fun i hi => hD i (dids_join.2 (.inl hi))
          refine k4 A F D hD1 hA fun hz b hb => hF b hb.1 ?_
          rcases hb.2 with ⟨h1, h2⟩ | ⟨id, h1, h2, h3⟩
          · rcases h2 with h2 | h2
            · exact absurd h2.1 hz
            · exact .inl ⟨h1, h2⟩
          · exact .inr ⟨id, hD1 id h1, h2, h3⟩
        · rw [tpSnd_mk]
          exact k7 A F D (fun i hi => hD i (dids_join.2 (.inr hi))) hA hF

/-- A leaf that was lent, at the end. -/
theorem held_rel {g0 : G} {s0 : St} {w0 : World} {N0 : Bd} {ids : List Nat} (hp : ∀ id ∈ ids, 1 ≤ s.ver id ∧ g.κ id = g0.κ id ∧ g.cp id = g0.cp id ∧ ∀ (e : Ty) (xs : List e.den) (deep : Bool) (d : Deps), s.root id = some (.arr e xs deep d) → xs.length = lenAt s0 id) :
    ∀ {ls : List Lf} {cs : List Value}, LsRel g0 s0 w0 N0 ls cs → (∀ l ∈ ls, Held s0 ids l) → LsRel g s w N ls cs
  | [], [], _, _ => trivial
  | [], _ :: _, h, _ => h.elim
  | _ :: _, [], h, _ => h.elim
  | l :: ls, c :: cs, h, hh => by
    refine ⟨?_, held_rel hp h.2 (fun m hm => hh m (List.mem_cons_of_mem _ hm))⟩
    have h1 := h.1
    have h2 := hh l (List.mem_cons_self ..)
    refine ⟨?_, h1.2⟩
    have h1 := h1.1
    cases l with
    | int k x => exact h1
    | bool x => exact h1
    | str x => exact h1
    | own id =>
      obtain ⟨⟨e, xs, hr⟩, hid⟩ := h2
      obtain ⟨p1, p2, p3, p4⟩ := hp id hid
      refine ⟨p1, fun e' xs' deep' d' hr' => ?_⟩
      rw [h1.2 _ _ _ _ hr, ownVal, ownVal, p2, p3, p4 _ _ _ _ hr']
      simp only [lenAt, hr]
    | _ => exact h2.elim
theorem outP_rel (hm : Mem N g s w) {g0 : G} {s0 : St} {w0 : World} {N0 : Bd} {i : Nat} {p : PK} {x : p.ty.den} {v : Value} (hst : StartR g0 s0 w0 N0 i p x v)
    (hp : ∀ id ∈ (initP i p x).2.2, 1 ≤ s.ver id ∧ g.κ id = g0.κ id ∧ g.cp id = g0.cp id ∧ ∀ (e : Ty) (xs : List e.den) (deep : Bool) (d : Deps), s.root id = some (.arr e xs deep d) → xs.length = lenAt s0 id)
    {y : p.out.den} {ids : List Nat} {d : Deps} (h : outP s i p x = some (y, ids, d)) (hn : ids.Nodup) :
    ∃ S, Of g ids S ∧ ∀ (A : Nat → Prop) (D : Deps), (∀ i ∈ dids d, i ∈ dids D) → (∀ b, Av g w N D b → A b) → BackR w A p y v S := by
  cases p with
  | val t agg => simp only [outP, Option.some.injEq, Prod.mk.injEq] at h; obtain ⟨_, rfl, rfl⟩ := h; exact ⟨[], Of.nil, fun _ _ _ _ => rfl⟩
  | take t agg => simp only [outP, Option.some.injEq, Prod.mk.injEq] at h; obtain ⟨_, rfl, rfl⟩ := h; exact ⟨[], Of.nil, fun _ _ _ _ => rfl⟩
  | fnc f => simp only [outP, Option.some.injEq, Prod.mk.injEq] at h; obtain ⟨_, rfl, rfl⟩ := h; exact ⟨[], Of.nil, fun _ _ _ _ => rfl⟩
  | lend t agg =>
    simp only [outP] at h
    split at h
    case h_2 => cases h
    case h_1 z ids' hz hids =>
      simp only [Option.some.injEq, Prod.mk.injEq] at h
      obtain ⟨rfl, rfl, rfl⟩ := h
      obtain ⟨cs, h1, h2, h3⟩ := hst
      have hls : LsRel g s w N (ownLs (newId i 1) 0 t x).1 cs := held_rel hp h2 h3
      obtain ⟨_, _, S, k1, k2, k3⟩ := own_gives hm (sub_refl s) hids hz hls
      exact ⟨S, ⟨k2, k3⟩, fun A D _ _ => ⟨cs, h1, k1⟩⟩
  | ptr t =>
    simp only [outP] at h
    split at h
    case h_2 => cases h
    case h_1 ls hls =>
      split at h
      case h_2 => cases h
      case h_1 z hz =>
        simp only [Option.some.injEq, Prod.mk.injEq] at h
        obtain ⟨rfl, rfl, rfl⟩ := h
        obtain ⟨b, hb, rfl⟩ := hst
        obtain ⟨p1, p2, _, _⟩ := hp (newId i 0) (by simp [initP])
        obtain ⟨_, b', c, T, k1, k2, k3, k4⟩ := hm.roots _ _ hls
        rw [p2, hb] at k1; cases k1
        refine ⟨[b], ⟨by simp, fun b' hb' => ⟨newId i 0, by simp, by simp only [List.mem_singleton] at hb'; subst hb'; exact k2⟩⟩, fun A D hD hA => ?_⟩
        exact ⟨b, c, T, rfl, k3, (ofAll_rel hm (sub_refl s) hz k4).1.keep (fun b' hb' => hA b' (hb'.mono hD)) (fun _ _ => rfl), rfl⟩
  | ptrown t =>
    simp only [outP] at h
    split at h
    case h_2 => cases h
    case h_1 ls hls =>
      split at h
      case h_2 => cases h
      case h_1 z ids' hz hids =>
        simp only [Option.some.injEq, Prod.mk.injEq] at h
        obtain ⟨rfl, rfl, rfl⟩ := h
        obtain ⟨b, hb, rfl⟩ := hst
        obtain ⟨p1, p2, _, _⟩ := hp (newId i 0) (by simp [initP])
        obtain ⟨_, b', c, T, k1, k2, k3, k4⟩ := hm.roots _ _ hls
        rw [p2, hb] at k1; cases k1
        obtain ⟨_, _, S, m1, m2, m3⟩ := own_gives hm (sub_refl s) hids hz k4
        have h0 : Of g [newId i 0] [b] := ⟨by simp, fun b' hb' => ⟨newId i 0, by simp, by simp only [List.mem_singleton] at hb'; subst hb'; exact k2⟩⟩
        exact ⟨b :: S, h0.append ⟨m2, m3⟩ hn, fun A D _ _ => ⟨b, c, T, S, rfl, k3, m1, rfl⟩⟩
theorem outPs_rel (hm : Mem N g s w) {g0 : G} {s0 : St} {w0 : World} {N0 : Bd} : ∀ {i : Nat} {ps : List PK} {x : (inTy ps).den} {vs : List Value}, StartRs g0 s0 w0 N0 i ps x vs →
    (∀ id ∈ (initPs i ps x).2, 1 ≤ s.ver id ∧ g.κ id = g0.κ id ∧ g.cp id = g0.cp id ∧ ∀ (e : Ty) (xs : List e.den) (deep : Bool) (d : Deps), s.root id = some (.arr e xs deep d) → xs.length = lenAt s0 id) →
    ∀ {y : (outPs ps).den} {ids : List Nat} {d : Deps}, outPsEv s i ps x = some (y, ids, d) → ids.Nodup →
    ∃ S, Of g ids S ∧ ∀ (A : Nat → Prop) (D : Deps), (∀ i ∈ dids d, i ∈ dids D) → (∀ b, Av g w N D b → A b) → BacksR w A ps y vs S
  | i, [], x, [], _, _, y, ids, d, h, _ => by
    simp only [outPsEv, Option.some.injEq, Prod.mk.injEq] at h
    obtain ⟨_, rfl, rfl⟩ := h
    exact ⟨[], Of.nil, fun _ _ _ _ => rfl⟩
  | i, [], x, _ :: _, hs, _, _, _, _, _, _ => hs.elim
  | i, _ :: _, x, [], hs, _, _, _, _, _, _ => hs.elim
  | i, p :: ps, x, v :: vs, hs, hp, y, ids, d, h, hn => by
    simp only [outPsEv] at h
    split at h
    case h_2 => cases h
    case h_1 y1 i1 d1 y2 i2 d2 h1 h2 =>
      simp only [Option.some.injEq, Prod.mk.injEq] at h
      obtain ⟨rfl, rfl, rfl⟩ := h
      have hn' := List.nodup_append.1 hn
      obtain ⟨S1, k1, k2⟩ := outP_rel hm hs.1 (fun id hid => hp id (by simp only [initPs]; exact List.mem_append_left _ hid)) h1 hn'.1
      obtain ⟨S2, k3, k4⟩ := outPs_rel hm hs.2 (fun id hid => hp id (by simp only [initPs]; exact List.mem_append_right _ hid)) h2 hn'.2.1
      refine ⟨S1 ++ S2, k1.append k3 hn, fun A D hD hA => ⟨S1, S2, rfl, ?_, ?_⟩⟩
      · rw [tpFst_mk]; exact k2 A D (fun i hi => hD i (dids_join.2 (.inl hi))) hA
      · rw [tpSnd_mk]; exact k4 A D (fun i hi => hD i (dids_join.2 (.inr hi))) hA

theorem CxOk.same {Γ Γ' : Cx} (h : CxOk P Γ) (h1 : Γ'.ti = Γ.ti) (h2 : Γ'.eq = Γ.eq) : CxOk P Γ' := by
  refine ⟨fun T ti hT => ?_, fun T hT => ?_⟩
  · rw [h1] at hT
    have t := h.ty T ti hT
    refine ⟨t.info, t.pos, t.posb, t.agg, t.full, fun ha => ?_⟩
    obtain ⟨k1, d, k2, k3, k4⟩ := t.flat ha
    refine ⟨k1, d, k2, k3, ?_⟩
    unfold flatIs at k4 ⊢
    rw [h1]
    exact k4
  · rw [h2] at hT
    obtain ⟨k1, ti, k2, k3⟩ := h.eq T hT
    exact ⟨k1, ti, by rw [h1]; exact k2, k3⟩
/-- A function of the program does what the evaluator says of it. -/
theorem fun_sound (hΓ : CxOk P Γ) (hC : ∀ n C, Γ.con n = some C → Sound P n C) (hmix : P.follows .mixedOrders = true) {f : FuncId} {fn : Func} (hf : P.funcs[f]? = some fn) (hname : (fn.name == "runtime.NumGoroutine") = false) {ps : List PK} {rs : List RK}
    (hsz : ps.all (fun p => Nat.blt p.ty.size 255) = true) (hnt : Nat.ble ps.length fn.ntmps = true) (hbody : fn.body.isSome = true) : Sound P f ⟨ps, rs, evFun Γ fn ps rs⟩ := by
  refine ⟨⟨fn, hf, hbody, hname⟩, fun k x y h w args A S hr hS hSA hA => ?_⟩
  cases hb : fn.body with
  | none => rw [hb] at hbody; cases hbody
  | some c =>
    simp only [evFun, hb] at h
    have hsz' : ∀ p ∈ ps, p.ty.size < 255 := fun p hp => by
      have := List.all_eq_true.1 hsz p hp
      exact Nat.le_of_ble_eq_true this
    obtain ⟨g, inv, hflat, hst⟩ := start_inv (n := fn.ntmps) hsz' hr hS hSA hA (Nat.le_of_ble_eq_true hnt)
    refine calls_of_wp hf hb ?_
    have hΓ' : CxOk P { Γ with n := fn.ntmps } := hΓ.same rfl rfl
    have hmk : MkOk (startEnv w A S g (initPs 0 ps x).1 (initPs 0 ps x).2) fn.ntmps (initPs 0 ps x).2 := mk_ok fun p hp => by
      simp only [startEnv, List.mem_map] at hp
      obtain ⟨id, hid, rfl⟩ := hp
      exact hid
    have hw := code_sound (Γ := { Γ with n := fn.ntmps }) (pins := (initPs 0 ps x).2) hΓ' hC hmix hmk c h hflat inv
    refine wp_mono hw fun e a' w' he => ?_
    obtain ⟨key, s', rfl, h1, hf', g', inv'⟩ := he
    have fin : finish Γ fn ps rs x s' = some y → a'.defers = [] ∧ ∃ v, (results fn a'.tmps).run P w' = .ok v w' ∧ Post ps rs w A S args y v w' := by
      intro hfin
      refine ⟨inv'.defers, ?_⟩
      unfold finish at hfin
      split at hfin
      case h_2 => cases hfin
      case h_1 y1 i d1 y2 j d2 e1 e2 =>
        rw [Bool.cond_eq_ite] at hfin
        split at hfin
        case isFalse => cases hfin
        case isTrue hc =>
          have hfin := Option.some.inj hfin
          subst hfin
          rw [Bool.and_eq_true] at hc
          have hij := ndist_iff.1 hc.1
          have hdij := nmeet_false.1 (by simpa using hc.2)
          have hn' := List.nodup_append.1 hij
          obtain ⟨vs, S1, k1, k2, k3⟩ := outRs_rel (P := P) hΓ inv'.mem hf' inv'.slots e1 hn'.1
          obtain ⟨S2, k4, k5⟩ := outPs_rel inv'.mem hst (fun id hid => by
            have := inv'.pins (id, g.κ id, g.cp id, lenAt (initPs 0 ps x).1 id) (by simp only [startEnv, List.mem_map]; exact ⟨id, hid, rfl⟩)
            exact this) e2 hn'.2.1
          have hof := k2.append k4 hij
          have hF : ∀ b, b < w'.heap.size → ((g'.ω b = none ∧ (startEnv w A S g (initPs 0 ps x).1 (initPs 0 ps x).2).N.F b) ∨ ∃ id ∈ dids (djoin d1 d2), id ≠ 0 ∧ g'.ω b = some id) → ((b ∈ S ∨ w.heap.size ≤ b) ∧ b < w'.heap.size ∧ b ∉ S1 ++ S2) := by
            intro b hlt hb
            rcases hb with ⟨h1, h2⟩ | ⟨id, h1, h2, h3⟩
            · refine ⟨h2.symm, hlt, fun hm => ?_⟩
              obtain ⟨q, _, hq⟩ := hof.2 b hm
              rw [h1] at hq; cases hq
            · refine ⟨(inv'.entry b id h3).symm, hlt, fun hm => ?_⟩
              obtain ⟨q, hq1, hq⟩ := hof.2 b hm
              rw [h3] at hq; cases hq
              exact hdij id h1 hq1
          have hAv : ∀ b, Av g' w' (startEnv w A S g (initPs 0 ps x).1 (initPs 0 ps x).2).N (djoin d1 d2) b → (A b ∨ ((b ∈ S ∨ w.heap.size ≤ b) ∧ b < w'.heap.size ∧ b ∉ S1 ++ S2)) := by
            intro b hb
            rcases hb.2 with ⟨h1, h2⟩ | h2
            · rcases h2 with h2 | h2
              · exact .inl h2.2
              · exact .inr (hF b hb.1 (.inl ⟨h1, h2⟩))
            · exact .inr (hF b hb.1 (.inr h2))
          refine ⟨resVal vs, results_run k1, ⟨inv'.grown, inv'.os, inv'.tape, inv'.output, fun b hlt hb => inv'.frame b hlt hb, vs, S1, S2, rfl, hof.1, fun b hb => ?_, ?_, ?_⟩⟩
          · obtain ⟨id, _, hid⟩ := hof.2 b hb
            exact ⟨(inv'.entry b id hid).symm, inv'.mem.own b id hid⟩
          · rw [tpFst_mk]
            exact k3 _ _ (djoin d1 d2) (fun i hi => dids_join.2 (.inl hi)) hAv hF
          · rw [tpSnd_mk]
            exact k5 _ (djoin d1 d2) (fun i hi => dids_join.2 (.inr hi)) hAv
    cases key with
    | normal => exact fin h1
    | ret => exact fin h1
    | exit id => cases h1
end
end Go.Proofs.XTv
/- A law's row: its arguments opened as data; what its call gives is what the row asks. -/
set_option linter.unusedVariables false
set_option linter.unusedSimpArgs false
set_option linter.unusedSectionVars false
namespace Go.Proofs.XTv
open Go.ChangeShapes Go.WideShapes Go.ChangeAt Go.RowKit

/-! ### Sizes -/
def rup (n a : Nat) : Nat := (n + a - 1) / a * a
def alignOf : Ty → Nat
  | .int k => k.bits / 8
  | .bool => 1
  | .str => 8
  | .sl _ => 8
  | .unit => 1
  | .pair a b => max (alignOf a) (alignOf b)
/-- Where a struct's fields end that begin at 'off'. -/
def layEnd : Nat → Ty → Nat
  | off, .int k => rup off (k.bits / 8) + k.bits / 8
  | off, .bool => off + 1
  | off, .str => rup off 8 + 16
  | off, .sl _ => rup off 8 + 24
  | off, .unit => off
  | off, .pair a b => layEnd (match a with
    | .pair c d => rup off (alignOf (.pair c d)) + rup (layEnd 0 (.pair c d)) (alignOf (.pair c d))
    | a => layEnd off a) b
def bytesT (t : Ty) : Nat := rup (layEnd 0 t) (alignOf t)

/-- Data as it may come in: numbers within their kinds, lengths within what memory holds. -/
def Good : (t : Ty) → t.den → Prop
  | .int k, n => k.min ≤ n ∧ n ≤ k.max
  | .bool, _ => True
  | .str, s => s.size ≤ reachBytes
  | .sl e, xs => List.length xs * bytesT e ≤ reachBytes ∧ ∀ x ∈ xs, Good e x
  | .unit, _ => True
  | .pair a b, x => Good a x.1 ∧ Good b x.2
def bulk : (t : Ty) → t.den → Nat
  | .int _, _ => 1
  | .bool, _ => 1
  | .str, s => s.size + 1
  | .sl e, xs => (List.map (bulk e) xs).sum + 1
  | .unit, _ => 0
  | .pair a b, x => bulk a x.1 + bulk b x.2
def GoodPs : (ps : List PK) → (inTy ps).den → Prop
  | [], _ => True
  | p :: ps, x => Good p.ty (tpFst p.ty (inTy ps) x) ∧ GoodPs ps (tpSnd p.ty (inTy ps) x)
def bulkPs : (ps : List PK) → (inTy ps).den → Nat
  | [], _ => 0
  | p :: ps, x => bulk p.ty (tpFst p.ty (inTy ps) x) + bulkPs ps (tpSnd p.ty (inTy ps) x)

/-! ### The table, further -/
def chainTy : List Ty → Ty
  | [] => .unit
  | [t] => t
  | t :: ts => .pair t (chainTy ts)
def fieldTys (Γ : Cx) : Nat → List (Nat × Nat) → Option (List Ty)
  | _, [] => some []
  | o, (fo, ft) :: r => bif Nat.beq fo o then match Γ.ti ft with
      | some fi => match fieldTys Γ (o + fi.ty.size) r with
        | some ts => some (fi.ty :: ts)
        | none => none
      | none => none
    else none
def openChk (Γ : Cx) (ti : TInfo) : Bool :=
  bif ti.agg then (match fieldTys Γ 0 ti.offs with
    | some ts => decide (chainTy ts = ti.ty)
    | none => false)
  else match ti.ty with
    | .sl e => match Γ.ti ti.elem with
      | some ei => Nat.ble (bytesT e) ei.bytes
      | none => false
    | .pair _ _ => false
    | _ => true

structure UbOk {H : Type} (ub : DataW H → Nat) (ubAll : List (DataW H) → Nat) : Prop where
  lit : ∀ l, 1 ≤ ub (.lit l)
  str : ∀ b, b.length + 1 ≤ ub (.lit (.string b))
  nil : 1 ≤ ub .nil
  sl : ∀ a b, ubAll a + 1 ≤ ub (.slice a b)
  agg : ∀ a, ubAll a ≤ ub (.agg a)
  cons : ∀ d r, ub d + ubAll r ≤ ubAll (d :: r)

section
variable {H : Type} {enc : TypeId × Value → H} {P : Program} {Γ : Cx} {w : World} {spare : Nat → Bool} {held : Bool}
variable {ub : DataW H → Nat} {ubAll : List (DataW H) → Nat}

theorem reps_of {α : Type} {R : α → List Value → Prop} {f : Nat → List Value} : ∀ {n i : Nat} {xs : List α}, xs.length = n → (∀ j x, xs[j]? = some x → R x (f (i + j))) → Reps R xs ((List.range' i n).flatMap f)
  | 0, i, xs, h, _ => by
    have : xs = [] := List.eq_nil_of_length_eq_zero h
    subst this
    rfl
  | n + 1, i, [], h, _ => by simp at h
  | n + 1, i, x :: xs, h, hr => by
    refine ⟨f i, (List.range' (i + 1) n).flatMap f, by rw [List.range'_succ, List.flatMap_cons], by simpa using hr 0 x rfl, reps_of (by simpa using h) fun j y hy => ?_⟩
    have := hr (j + 1) y (by simpa using hy)
    rwa [show i + (j + 1) = i + 1 + j by omega] at this

theorem open_trod (hΓ : ∀ T ti, Γ.ti T = some ti → TyOk P Γ T ti) (hO : ∀ T ti, Γ.ti T = some ti → openChk Γ ti = true) (hu : UbOk ub ubAll) :
    ∀ (fuel : Nat) (T : Nat) (ti : TInfo) (cs : List Value) (d : DataW H) (ps : List MemPlace), Γ.ti T = some ti → DataW.trod enc P w 0 spare held fuel T cs = some (d, ps) → (∀ n ∈ d.weights P T, n ≤ reachBytes) →
      ∃ x : ti.ty.den, RepC w (fun b => b < w.heap.size) ti.ty x cs ∧ Good ti.ty x ∧ bulk ti.ty x ≤ ub d := by
  intro fuel
  induction fuel with
  | zero => intro T ti cs d ps _ h; simp [DataW.trod] at h
  | succ fuel ih =>
    intro T ti cs d ps hT h hw
    have hty := hΓ T ti hT
    have ho := hO T ti hT
    obtain ⟨i, z, hi, hsize, hbytes, _, _⟩ := hty.info
    have hcells : P.cellsOf T = ti.ty.size := by simp [Program.cellsOf, hi, hsize]
    obtain ⟨ty, agg, bytes, offs, elem⟩ := ti
    simp only at hsize hbytes hcells ⊢
    cases agg with
    | false =>
      obtain ⟨hs1, desc, hd, hwd, hfl⟩ := hty.flat rfl
      cases ty with
      | int k =>
        simp only [flatIs] at hfl
        subst hfl
        obtain ⟨n, rfl, hx, hwf⟩ := DataW.trod_int hd h
        simp only [Prod.mk.injEq] at hx
        obtain ⟨rfl, rfl⟩ := hx
        simp only [Lit.wf, Bool.and_eq_true, decide_eq_true_eq] at hwf
        exact ⟨n, rfl, hwf, hu.lit _⟩
      | bool =>
        simp only [flatIs] at hfl
        subst hfl
        obtain ⟨b, rfl, hx⟩ := DataW.trod_bool hd h
        simp only [Prod.mk.injEq] at hx
        obtain ⟨rfl, rfl⟩ := hx
        exact ⟨b, rfl, trivial, hu.lit _⟩
      | str =>
        simp only [flatIs] at hfl
        subst hfl
        obtain ⟨s, rfl, hx, _⟩ := DataW.trod_string hd h
        simp only [Prod.mk.injEq] at hx
        obtain ⟨rfl, rfl⟩ := hx
        have hl : s.data.toList.length = s.size := by rw [Array.length_toList]; rfl
        refine ⟨s, rfl, ?_, ?_⟩
        · have := hw s.data.toList.length (by rw [DataW.weights]; exact List.mem_singleton.2 rfl)
          rw [hl] at this; exact this
        · have := hu.str s.data.toList
          rw [hl] at this; exact this
      | unit => simp [Ty.size] at hs1
      | pair a b =>
        simp [openChk] at ho
      | sl e =>
        simp only [flatIs] at hfl
        obtain ⟨rfl, ei, hei, hee⟩ := hfl
        (try simp only at hei); (try simp only at hee); (try simp only at ho)
        subst hee
        have hb : bytesT ei.ty ≤ ei.bytes := by
          simp only [openChk, cond_false, hei] at ho
          exact Nat.le_of_ble_eq_true ho
        obtain ⟨ie, ze, hie, hesize, hebytes, _, _⟩ := (hΓ _ _ hei).info
        have hce : P.cellsOf elem = ei.ty.size := by simp [Program.cellsOf, hie, hesize]
        have hbe : P.bytesOf elem = ei.bytes := by simp [Program.bytesOf, hie, hebytes]
        rcases DataW.trod_slice hd h with ⟨rfl, hx⟩ | ⟨a, len, cap, elems, rest, n, hn, rfl, hx, _, hl, _, hlen, hel, _, _⟩
        · simp only [Prod.mk.injEq] at hx
          obtain ⟨rfl, rfl⟩ := hx
          exact ⟨[], ⟨none, 0, rfl, Nat.le_refl _, .inl rfl⟩, ⟨by show 0 * _ ≤ _; rw [Nat.zero_mul]; exact Nat.zero_le _, fun x hx => by cases hx⟩, hu.nil⟩
        · simp only [Prod.mk.injEq] at hx
          obtain ⟨rfl, rfl⟩ := hx
          have hn' : n = fuel := by omega
          subst hn'
          have hwl : (elems.length + rest.length) * ei.bytes ≤ reachBytes := by
            have := hw ((elems.length + rest.length) * P.bytesOf elem) (by simp [DataW.weights, hd])
            rwa [hbe] at this
          have hwe : ∀ y ∈ elems, ∀ n ∈ y.1.weights P elem, n ≤ reachBytes := by
            intro y hy n hn
            refine hw n ?_
            simp only [DataW.weights, hd, List.mem_cons, List.mem_append]
            refine .inr (.inl ?_)
            have : ∀ {l : List (DataW H)}, y.1 ∈ l → n ∈ DataW.weightsAll P elem l := by
              intro l
              induction l with
              | nil => intro h; cases h
              | cons q l ihl =>
                intro h
                simp only [DataW.weightsAll, List.mem_append]
                rcases List.mem_cons.1 h with rfl | h
                · exact .inl hn
                · exact .inr (ihl h)
            exact this (List.mem_map.2 ⟨y, hy, rfl⟩)
          -- each element
          have each : ∀ j y, elems[j]? = some y → ∃ cs' : List Value, w.cells? 0 (a.add (j * ei.ty.size)) ei.ty.size = some cs' ∧ ∃ x : ei.ty.den, RepC w (fun b => b < w.heap.size) ei.ty x cs' ∧ Good ei.ty x ∧ bulk ei.ty x ≤ ub y.1 := by
            intro j y hy
            have hj : j < len := by rw [← hlen]; exact (List.getElem?_eq_some_iff.1 hy).1
            have h1 := hel j hj
            rw [hy, hce, Option.bind_eq_some_iff] at h1
            obtain ⟨cs', h2, h3⟩ := h1
            refine ⟨cs', h2, ih elem ei cs' y.1 y.2 hei h3 (hwe y (List.mem_of_getElem? hy))⟩
          have hpos : 1 ≤ ei.ty.size := (hΓ _ _ hei).pos
          -- the data of them all
          have all : ∀ (l : List (DataW H × List MemPlace)) (i0 : Nat), (∀ j y, l[j]? = some y → elems[i0 + j]? = some y) → ∃ xs : List ei.ty.den, xs.length = l.length ∧ (∀ j x, xs[j]? = some x → ∃ cs', w.cells? 0 (a.add ((i0 + j) * ei.ty.size)) ei.ty.size = some cs' ∧ RepC w (fun b => b < w.heap.size) ei.ty x cs') ∧
              (∀ x ∈ xs, Good ei.ty x) ∧ (List.map (bulk ei.ty) xs).sum ≤ ubAll (l.map (·.1)) := by
            intro l
            induction l with
            | nil => intro i0 _; exact ⟨[], rfl, (fun j x h => by simp at h), (fun x h => by cases h), by simp⟩
            | cons y l ihl =>
              intro i0 hl'
              obtain ⟨cs', h2, x, h3, h4, h5⟩ := each i0 y (by simpa using hl' 0 y rfl)
              obtain ⟨xs, k1, k2, k3, k4⟩ := ihl (i0 + 1) (fun j z hz => by
                have := hl' (j + 1) z (by simpa using hz)
                rwa [show i0 + (j + 1) = i0 + 1 + j by omega] at this)
              refine ⟨x :: xs, by simp [k1], fun j z hz => ?_, fun z hz => ?_, ?_⟩
              · cases j with
                | zero =>
                  simp only [List.getElem?_cons_zero, Option.some.injEq] at hz
                  subst hz
                  exact ⟨cs', h2, h3⟩
                | succ j =>
                  obtain ⟨c2, m1, m2⟩ := k2 j z (by simpa using hz)
                  exact ⟨c2, by rwa [show i0 + (j + 1) = i0 + 1 + j by omega], m2⟩
              · rcases List.mem_cons.1 hz with rfl | hz
                · exact h4
                · exact k3 z hz
              · have := hu.cons y.1 (l.map (·.1))
                simp only [List.map_cons, List.sum_cons]
                omega
          obtain ⟨xs, k1, k2, k3, k4⟩ := all elems 0 (fun j y hy => by simpa using hy)
          refine ⟨xs, ⟨some a, cap, by rw [k1, hlen], by rw [k1, hlen]; exact hl, ?_⟩, ⟨?_, k3⟩, ?_⟩
          · rcases Nat.eq_zero_or_pos xs.length with h0 | h0
            · exact .inl (List.eq_nil_of_length_eq_zero h0)
            · right
              obtain ⟨c0, m1, _⟩ := k2 0 xs[0] (by simp [h0])
              obtain ⟨_, ml, mc⟩ := World.cells?_some m1
              have mc0 := mc 0 hpos
              simp only [Nat.zero_add, Nat.zero_mul, Addr.add, if_true] at mc0
              have hv0 : ∃ v, w.cell? a = some v := ⟨c0[0]'(by omega), by rw [mc0]; simp⟩
              obtain ⟨v0, hv0⟩ := hv0
              have hspot : a.spot = none := by simpa using World.cell?_spot hv0
              obtain ⟨b, o, spot⟩ := a
              simp only at hspot
              subst hspot
              -- the cells of them all
              refine ⟨b, o, (List.range' 0 xs.length).flatMap fun j => ((w.cells? 0 ((⟨b, o, none⟩ : Addr).add (j * ei.ty.size)) ei.ty.size).getD []), rfl, lt_of_cell hv0, ?_, ?_⟩
              · refine reps_of rfl fun j x hx => ?_
                obtain ⟨c2, n1, n2⟩ := k2 j x hx
                rw [n1]; exact n2
              · have each2 : ∀ j, j < xs.length → ∃ c2 : List Value, w.cells? 0 ((⟨b, o, none⟩ : Addr).add (j * ei.ty.size)) ei.ty.size = some c2 := fun j hj => by
                  obtain ⟨c2, n1, _⟩ := k2 j xs[j] (by simp [hj])
                  exact ⟨c2, by simpa using n1⟩
                have rows : ∀ (n i0 : Nat), i0 + n ≤ xs.length → IsRow w b (o + i0 * ei.ty.size) ((List.range' i0 n).flatMap fun j => ((w.cells? 0 ((⟨b, o, none⟩ : Addr).add (j * ei.ty.size)) ei.ty.size).getD [])) := by
                  intro n
                  induction n with
                  | zero => intro i0 _; exact IsRow.nil _ _ _
                  | succ n ihn =>
                    intro i0 hle
                    rw [List.range'_succ, List.flatMap_cons, IsRow.append]
                    obtain ⟨c2, n1⟩ := each2 i0 (by omega)
                    obtain ⟨_, n2, n3⟩ := World.cells?_some n1
                    rw [n1]
                    simp only [Option.getD_some]
                    refine ⟨fun j hj => ?_, ?_⟩
                    · have := n3 j (by omega)
                      rw [add_mk, add_mk] at this
                      rw [this]
                      simp
                    · have := ihn (i0 + 1) (by omega)
                      rwa [n2, show o + i0 * ei.ty.size + ei.ty.size = o + (i0 + 1) * ei.ty.size by rw [Nat.add_mul]; omega]
                have := rows xs.length 0 (by omega)
                simpa using this
          · refine Nat.le_trans (Nat.mul_le_mul_left _ hb) (Nat.le_trans (Nat.mul_le_mul_right _ ?_) hwl)
            omega
          · have := hu.sl (elems.map (·.1)) (rest.map (·.1))
            simp only [bulk]
            omega
    | true =>
      obtain ⟨fs, hst, hfld⟩ := hty.agg rfl
      obtain ⟨xs, n, hn, hx, hcl, hxl, hel⟩ := DataW.trod_struct hst h
      have hn' : n = fuel := by omega
      subst hn'
      simp only [Prod.mk.injEq] at hx
      obtain ⟨rfl, rfl⟩ := hx
      simp only [openChk, cond_true] at ho
      split at ho
      case h_2 => cases ho
      case h_1 ts hts =>
        have hch := of_decide_eq_true ho
        subst hch
        simp only at hfld hts
        rw [hcells] at hcl
        have hwe : ∀ (j : Nat) (f : Field) (y : DataW H × List MemPlace), fs[j]? = some f → xs[j]? = some y → ∀ n ∈ y.1.weights P f.type, n ≤ reachBytes := by
          intro j f y hf hy n hn
          refine hw n ?_
          simp only [DataW.weights, hst]
          exact DataW.weights_mem_each (j := j) (by simp [hf]) (by simp [hy]) n hn
        -- the fields, from one on
        have key : ∀ (l : List (Nat × Nat)) (j o : Nat) (ts : List Ty), (∀ k q, l[k]? = some q → offs[j + k]? = some q) → fieldTys Γ o l = some ts → cs.length = o + (chainTy ts).size → (l ≠ []) →
            ∃ x : (chainTy ts).den, RepC w (fun b => b < w.heap.size) (chainTy ts) x (cs.drop o) ∧ Good (chainTy ts) x ∧ bulk (chainTy ts) x ≤ ubAll ((xs.drop j).map (·.1)) := by
          intro l
          induction l with
          | nil => intro j o ts _ _ _ h; exact absurd rfl h
          | cons q l ihl =>
            intro j o ts hoff hft hlen _
            obtain ⟨fo, ft⟩ := q
            simp only [fieldTys] at hft
            rw [Bool.cond_eq_ite] at hft
            split at hft
            case isFalse => cases hft
            case isTrue hbo =>
              have hfo := beq_iff'.1 hbo
              subst hfo
              split at hft
              case h_2 => cases hft
              case h_1 fi hfi =>
                split at hft
                case h_2 => cases hft
                case h_1 ts' hts' =>
                  simp only [Option.some.injEq] at hft
                  subst hft
                  obtain ⟨fld, jj, hf1, hf2, hf3, hf4, _⟩ := hfld j fo ft (by simpa using hoff 0 _ rfl)
                  have hjlt : j < xs.length := by rw [hxl]; exact (Array.getElem?_eq_some_iff.1 hf1).1
                  have hy : xs[j]? = some xs[j] := List.getElem?_eq_getElem hjlt
                  have h1 := hel j fld hf1
                  obtain ⟨_, _, hi1, hi2, _⟩ := (hΓ _ _ hfi).info
                  have hcf : P.cellsOf fld.type = fi.ty.size := by rw [hf3]; simp [Program.cellsOf, hi1, hi2]
                  rw [hf2, hcf, hy] at h1
                  obtain ⟨x, m1, m2, m3⟩ := ih fld.type fi _ xs[j].1 xs[j].2 (by rw [hf3]; exact hfi) h1 (hwe j fld _ hf1 hy)
                  have hxd : xs.drop j = xs[j] :: xs.drop (j + 1) := List.drop_eq_getElem_cons hjlt
                  have hub := hu.cons xs[j].1 ((xs.drop (j + 1)).map (·.1))
                  rw [hxd, List.map_cons]
                  cases l with
                  | nil =>
                    simp only [fieldTys, Option.some.injEq] at hts'
                    subst hts'
                    simp only [chainTy] at hlen ⊢
                    refine ⟨x, ?_, m2, by omega⟩
                    rwa [List.take_of_length_le (by simp; omega)] at m1
                  | cons q2 l2 =>
                    cases ts' with
                    | nil =>
                      simp only [fieldTys] at hts'
                      rw [Bool.cond_eq_ite] at hts'
                      split at hts'
                      · split at hts'
                        · split at hts' <;> simp at hts'
                        · cases hts'
                      · cases hts'
                    | cons t2 ts2 =>
                      have hlen' : cs.length = fo + fi.ty.size + (chainTy (t2 :: ts2)).size := by
                        rw [hlen]; show fo + (fi.ty.size + (chainTy (t2 :: ts2)).size) = _; omega
                      obtain ⟨y, n1, n2, n3⟩ := ihl (j + 1) (fo + fi.ty.size) (t2 :: ts2) (fun k q hq => by
                        have := hoff (k + 1) q (by simpa using hq)
                        rwa [show j + (k + 1) = j + 1 + k by omega] at this) hts' hlen' (by simp)
                      refine ⟨(x, y), ⟨(cs.drop fo).take fi.ty.size, cs.drop (fo + fi.ty.size), ?_, m1, n1⟩, ⟨m2, n2⟩, ?_⟩
                      · rw [← List.drop_drop, List.take_append_drop]
                      · show bulk fi.ty x + bulk (chainTy (t2 :: ts2)) y ≤ _
                        omega
        have hne : offs ≠ [] := fun he => by
          rw [he] at hts
          simp only [fieldTys, Option.some.injEq] at hts
          have hp := hty.pos
          subst hts
          simp [chainTy, Ty.size] at hp
        obtain ⟨x, m1, m2, m3⟩ := key offs 0 0 ts (fun k q hq => by simpa using hq) hts (by rw [hcl]; simp) hne
        rw [List.drop_zero] at m1 m3
        exact ⟨x, m1, m2, Nat.le_trans m3 (hu.agg _)⟩
end
end Go.Proofs.XTv
/- A law's row: its arguments opened; what its call gives is what the row asks. -/
set_option linter.unusedVariables false
set_option linter.unusedSimpArgs false
set_option linter.unusedSectionVars false
namespace Go.Proofs.XTv
open Go.ChangeShapes Go.WideShapes Go.ChangeAt Go.RowKit

def argsChk (Γ : Cx) : List PK → List TypeId → Bool
  | [], [] => true
  | .val t agg :: ps, T :: Ts => (match Γ.ti T with
    | some ti => decide (ti.ty = t) && (ti.agg == agg)
    | none => false) && argsChk Γ ps Ts
  | _, _ => false

section
variable {H : Type} {enc : TypeId × Value → H} {P : Program} {Γ : Cx} {w : World} {spare : Nat → Bool} {held : Bool}
variable {ub : DataW H → Nat} {ubAll : List (DataW H) → Nat}

theorem open_args (hΓ : ∀ T ti, Γ.ti T = some ti → TyOk P Γ T ti) (hO : ∀ T ti, Γ.ti T = some ti → openChk Γ ti = true) (hu : UbOk ub ubAll) {base : Nat} :
    ∀ {ps : List PK} {Ts : List TypeId} {vs : List Value} {ds : List (DataW H)} {pl : List MemPlace}, argsChk Γ ps Ts = true → DataW.TrodAll enc P w 0 spare held Ts vs ds pl →
      (∀ (j : Nat) t v, Ts[j]? = some t → vs[j]? = some v → Value.okWide P w .any base t v) → (∀ n ∈ DataW.weightsEach P Ts ds, n ≤ reachBytes) →
      ∃ x : (inTy ps).den, ArgsR w (fun b => b < w.heap.size) ps x vs [] ∧ GoodPs ps x ∧ bulkPs ps x ≤ ubAll ds
  | [], [], vs, ds, pl, _, h, _, _ => by
    obtain ⟨rfl, rfl, rfl⟩ := trodAll_nil h
    exact ⟨(), rfl, trivial, Nat.zero_le _⟩
  | [], _ :: _, _, _, _, h, _, _, _ => by simp [argsChk] at h
  | p :: ps, [], _, _, _, h, _, _, _ => by cases p <;> simp [argsChk] at h
  | p :: ps, T :: Ts, vs, ds, pl, hc, h, hval, hw => by
    cases p with
    | val t agg =>
      simp only [argsChk, Bool.and_eq_true] at hc
      obtain ⟨hc1, hc2⟩ := hc
      split at hc1
      case h_2 => cases hc1
      case h_1 ti hti =>
        rw [Bool.and_eq_true] at hc1
        have ht := of_decide_eq_true hc1.1
        have ha : ti.agg = agg := by simpa using hc1.2
        subst ht ha
        obtain ⟨v0, vs0, d0, ds0, p0, q0, rfl, rfl, rfl, h0, r0⟩ := trodAll_cons h
        obtain ⟨fuel, hf⟩ := h0
        have hv := hval 0 T v0 rfl rfl
        obtain ⟨x, h1, h2, h3⟩ := open_trod hΓ hO hu fuel T ti _ _ _ hti hf (fun n hn => hw n (by simp only [DataW.weightsEach, List.mem_append]; exact .inl hn))
        obtain ⟨y, k1, k2, k3⟩ := open_args hΓ hO hu (base := base) hc2 r0 (fun j t v hj hv => hval (j + 1) t v (by simpa using hj) (by simpa using hv)) (fun n hn => hw n (by simp only [DataW.weightsEach, List.mem_append]; exact .inr hn))
        have hpv : PVal ti.agg v0 v0.cells.toList := by
          have hty := hΓ T ti hti
          cases hag : ti.agg with
          | true =>
            obtain ⟨fs, hs, _⟩ := hty.agg hag
            obtain ⟨cs, rfl, _⟩ := okWide_struct hs hv
            exact ⟨cs, rfl, rfl⟩
          | false =>
            obtain ⟨hs1, desc, hd, hwd, hfl⟩ := hty.flat hag
            have ho := hO T ti hti
            show v0.cells.toList = [v0]
            cases hq : ti.ty with
            | int k =>
              unfold flatIs at hfl
              rw [hq] at hfl
              simp only at hfl
              subst hfl
              obtain ⟨n, rfl⟩ := okWide_int hd hv
              rfl
            | bool =>
              unfold flatIs at hfl
              rw [hq] at hfl
              simp only at hfl
              subst hfl
              obtain ⟨n, rfl⟩ := okWide_bool hd hv
              rfl
            | str =>
              unfold flatIs at hfl
              rw [hq] at hfl
              simp only at hfl
              subst hfl
              obtain ⟨n, rfl⟩ := okWide_string hd hv
              rfl
            | sl e =>
              unfold flatIs at hfl
              rw [hq] at hfl
              simp only at hfl
              obtain ⟨rfl, _⟩ := hfl
              obtain ⟨a, len, cap, rfl⟩ := okWide_slice hd hv
              rfl
            | unit => rw [hq] at hs1; simp [Ty.size] at hs1
            | pair a b =>
              unfold openChk at ho
              rw [hag, hq] at ho
              simp at ho
        refine ⟨tpMk ti.ty (inTy ps) x y, ⟨[], [], rfl, ?_, ?_⟩, ⟨?_, ?_⟩, ?_⟩
        · rw [show tpFst (PK.val ti.ty ti.agg).ty (inTy ps) (tpMk ti.ty (inTy ps) x y) = x from tpFst_mk ti.ty (inTy ps) x y]
          exact ⟨rfl, _, hpv, h1⟩
        · rw [show tpSnd (PK.val ti.ty ti.agg).ty (inTy ps) (tpMk ti.ty (inTy ps) x y) = y from tpSnd_mk ti.ty (inTy ps) x y]
          exact k1
        · rw [show tpFst (PK.val ti.ty ti.agg).ty (inTy ps) (tpMk ti.ty (inTy ps) x y) = x from tpFst_mk ti.ty (inTy ps) x y]
          exact h2
        · rw [show tpSnd (PK.val ti.ty ti.agg).ty (inTy ps) (tpMk ti.ty (inTy ps) x y) = y from tpSnd_mk ti.ty (inTy ps) x y]
          exact k2
        · have hc := hu.cons d0 ds0
          show bulk ti.ty (tpFst ti.ty (inTy ps) (tpMk ti.ty (inTy ps) x y)) + bulkPs ps (tpSnd ti.ty (inTy ps) (tpMk ti.ty (inTy ps) x y)) ≤ _
          rw [tpFst_mk, tpSnd_mk]
          omega
    | _ => simp [argsChk] at hc

theorem law_calls {f : FuncId} {ps : List PK} {m : Mode} {sem : Nat → (inTy ps).den → Option (outTy ps [⟨.bool, false, m⟩]).den} (hm : m ≠ .ptr) (hs : Sound P f ⟨ps, [⟨.bool, false, m⟩], sem⟩) {args : Array Value} {x : (inTy ps).den}
    (ha : ArgsR w (fun b => b < w.heap.size) ps x args.toList []) {k : Nat} {y : (outTy ps [⟨.bool, false, m⟩]).den} (hk : sem k x = some y) (hy : tpFst (outRs [⟨.bool, false, m⟩]) (outPs ps) y = true) :
    Calls P f args w fun e w' => e = .returned (.bool true) ∧ Below w.heap.size w w' := by
  have h := hs.2 k x y hk w args.toList (fun b => b < w.heap.size) [] ha List.nodup_nil (fun b hb => by cases hb) (fun b hb => hb)
  refine Calls.mono h fun e w' he => ?_
  cases e with
  | panicked ch => exact he.elim
  | outgrown => exact he.elim
  | returned v =>
    obtain ⟨h1, h2, h3, h4, h5, vs, S1, S2, h6, h7, h8, h9, h10⟩ := he
    have hv : v = .bool true := by
      rw [h6]
      match vs, h9 with
      | [u], h9 =>
        obtain ⟨T1, T2, _, k1, _⟩ := h9
        have hu : u = .bool true := by
          have hz : ∀ z : Bool, z = true → ∀ {A F : Nat → Prop}, ResR w' A F ⟨.bool, false, m⟩ z u T1 → u = .bool true := by
            intro z hz A F hr
            subst hz
            cases m with
            | ptr => exact absurd rfl hm
            | own =>
              obtain ⟨cs, p1, p2⟩ := hr
              have p1 : cs = [u] := p1
              have p2 := p2.1
              rw [p1] at p2
              exact (List.cons.inj p2).1
            | fresh =>
              obtain ⟨_, cs, p1, p2⟩ := hr
              have p1 : cs = [u] := p1
              have p2 : cs = [.bool true] := p2
              rw [p1] at p2
              exact (List.cons.inj p2).1
            | shared =>
              obtain ⟨_, cs, p1, p2⟩ := hr
              have p1 : cs = [u] := p1
              have p2 : cs = [.bool true] := p2
              rw [p1] at p2
              exact (List.cons.inj p2).1
          exact hz _ hy k1
        rw [hu]; rfl
      | [], h9 => exact h9.elim
      | _ :: _ :: _, h9 => obtain ⟨T1, T2, _, _, k2⟩ := h9; exact k2.elim
    exact ⟨by rw [hv], ⟨h2, h3, h4, h1, fun b hb => h5 b hb (by simp)⟩⟩

theorem trodAll_below (hl : laidOutB P = true) : ∀ {Ts : List TypeId}, (∀ T ∈ Ts, P.readableRec T = true ∧ T < P.types.size) → ∀ {w' : World} {vs : List Value} {ds : List (DataW H)} {pl : List MemPlace},
    DataW.TrodAll enc P w 0 (fun _ => true) true Ts vs ds pl → Below w.heap.size w w' → (∀ x ∈ pl, x.block < w.heap.size) → DataW.TrodAll enc P w' 0 (fun b => decide (b < w.heap.size)) true Ts vs ds pl
  | [], _, w', [], [], pl, h, _, _ => h
  | [], _, _, [], _ :: _, _, h, _, _ => h.elim
  | [], _, _, _ :: _, _, _, h, _, _ => h.elim
  | _ :: _, _, _, [], _, _, h, _, _ => h.elim
  | _ :: _, _, _, _ :: _, [], _, h, _, _ => h.elim
  | T :: Ts, hT, w', v :: vs, d :: ds, pl, ⟨p, q, h1, h2, e⟩, hb, hlt => by
    subst e
    obtain ⟨r1, r2⟩ := hT T (List.mem_cons_self ..)
    exact ⟨p, q, Below.trod hl r1 r2 h1 hb (fun x hx => hlt x (List.mem_append_left _ hx)), trodAll_below hl (fun t ht => hT t (List.mem_cons_of_mem _ ht)) h2 hb (fun x hx => hlt x (List.mem_append_right _ hx)), rfl⟩

/-- A law's step: its call gives what the row asks. -/
theorem law_step (hΓ : ∀ T ti, Γ.ti T = some ti → TyOk P Γ T ti) (hO : ∀ T ti, Γ.ti T = some ti → openChk Γ ti = true) (hu : UbOk ub ubAll) (hl : laidOutB P = true) {f : FuncId} {fn : Func} {s : ChangeSpec} {ps : List PK} {m : Mode} {B : Nat}
    {sem : Nat → (inTy ps).den → Option (outTy ps [⟨.bool, false, m⟩]).den} (hm : m ≠ .ptr) (hs : Sound P f ⟨ps, [⟨.bool, false, m⟩], sem⟩) (hv : s.vars = [])
    (hpar : ∀ T ∈ fn.params.toList, P.readableRec T = true ∧ T < P.types.size) (hchk : argsChk Γ ps fn.params.toList = true) {bT : TypeId} (hres : fn.resultTypes = #[bT]) (hbT : P.underlying bT = some .bool)
    (hfn : ∀ ds : List (DataW H), ds.length = fn.params.toList.length → s.fn H (ds ++ []) = { results := [.lit (.bool true)], args := ds })
    (hlaw : ∀ x, GoodPs ps x → bulkPs ps x ≤ B → ∃ k y, sem k x = some y ∧ tpFst (outRs [⟨.bool, false, m⟩]) (outPs ps) y = true)
    {base : Nat} {args : Array Value} {ds gs : List (DataW H)} {before : List MemPlace}
    (hval : ∀ (j : Nat) t v, fn.params[j]? = some t → args[j]? = some v → Value.okWide P w .any base t v)
    (hW : DataW.Whole enc P fn.params.toList s.vars false w args.toList ds gs before) (hB : ubAll (ds ++ gs) ≤ B)
    (hsz : (DataW.weightsEach P (fn.params.toList ++ s.plain.varTypes P) (ds ++ gs)).all (· ≤ reachBytes) = true) :
    Calls P f args w fun e w' => ∃ v, e = .returned v ∧ s.post enc P fn false true false false w args v w' := by
  have hW' := hW
  have hlt := hW.lt
  obtain ⟨p, q, hA, hV, rfl, hfz, hnd⟩ := hW
  rw [hv] at hV
  obtain ⟨rfl, rfl⟩ := trodVars_none hV
  simp only [List.append_nil] at hB hsz
  have hlen : ∀ {Ts : List TypeId} {vs : List Value} {ds : List (DataW H)} {pl : List MemPlace}, DataW.TrodAll enc P w 0 (fun _ => true) true Ts vs ds pl → ds.length = Ts.length := by
    intro Ts
    induction Ts with
    | nil => intro vs ds pl h; obtain ⟨_, rfl, _⟩ := trodAll_nil h; rfl
    | cons T Ts ih =>
      intro vs ds pl h
      obtain ⟨v0, vs0, d0, ds0, p0, q0, rfl, rfl, rfl, h0, r0⟩ := trodAll_cons h
      simp [ih r0]
  have hvt : s.plain.varTypes P = [] := by
    have : s.plain.vars = [] := hv
    simp [DataSpec.varTypes, this]
  rw [hvt, List.append_nil] at hsz
  have hw : ∀ n ∈ DataW.weightsEach P fn.params.toList ds, n ≤ reachBytes := fun n hn => by
    have := List.all_eq_true.1 hsz n hn
    exact of_decide_eq_true this
  obtain ⟨x, h1, h2, h3⟩ := open_args hΓ hO hu (base := base) hchk hA (fun j t v hj hv => hval j t v (by simpa using hj) (by simpa using hv)) hw
  obtain ⟨k, y, h4, h5⟩ := hlaw x h2 (Nat.le_trans h3 hB)
  refine (law_calls hm hs h1 h4 h5).mono fun e w' ⟨he, hb⟩ => ?_
  subst he
  refine ⟨_, rfl, ds, [], p ++ [], [], p, [], hW', ?_, ?_, ?_, hb.frame _, fun h => by cases h⟩
  · rw [hfn ds (hlen hA), hres]
    exact trodAll_mk1 (shut_bool hbT true)
  · rw [hfn ds (hlen hA)]
    exact trodAll_below hl hpar hA hb (fun x hx => hlt x (List.mem_append_left _ hx))
  · rw [hfn ds (hlen hA), hv]; rfl
end
end Go.Proofs.XTv
/- The kinds of data of the program. -/
set_option linter.unusedVariables false
set_option maxRecDepth 100000
namespace Go.Proofs.XF
open Go.Proofs.XTv
abbrev TerrorAddressString : Ty := (.pair .str (.int .u64))
abbrev DerrorAddressString : Type := (ByteArray × Int)
abbrev TSubscriberID : Ty := (.pair (.int .i64) (.int .i64))
abbrev DSubscriberID : Type := (Int × Int)
abbrev TUSIM : Ty := (.pair TSubscriberID TSubscriberID)
abbrev DUSIM : Type := (DSubscriberID × DSubscriberID)
abbrev TQuota : Ty := (.pair (.int .i64) TSubscriberID)
abbrev DQuota : Type := (Int × DSubscriberID)
abbrev TNumberedPacket : Ty := (.pair (.int .i64) (.sl (.int .u8)))
abbrev DNumberedPacket : Type := (Int × (List Int))
abbrev Tl1Cur : Ty := (.pair (.sl (.int .u8)) TSubscriberID)
abbrev Dl1Cur : Type := ((List Int) × DSubscriberID)
abbrev TCell : Ty := (.pair (.int .i64) (.sl (.int .i64)))
abbrev DCell : Type := (Int × (List Int))
abbrev TboundsError : Ty := (.pair (.int .i64) (.pair (.int .i64) (.pair .bool (.int .u8))))
abbrev DboundsError : Type := (Int × (Int × (Bool × Int)))
abbrev TAuthResponse : Ty := (.pair (.int .i64) TQuota)
abbrev DAuthResponse : Type := (Int × DQuota)
abbrev TSubscription : Ty := (.pair (.int .i64) (.pair (.int .i64) TCell))
abbrev DSubscription : Type := (Int × (Int × DCell))
abbrev TAuthVector : Ty := (.pair (.int .i64) TAuthResponse)
abbrev DAuthVector : Type := (Int × DAuthResponse)
abbrev TSendWindow : Ty := (.pair (.int .i64) (.sl TNumberedPacket))
abbrev DSendWindow : Type := (Int × (List DNumberedPacket))
abbrev TSecuredMessage : Ty := (.pair (.int .i64) (.pair (.int .i64) (.pair (.sl (.int .u8)) (.int .i64))))
abbrev DSecuredMessage : Type := (Int × (Int × ((List Int) × Int)))
abbrev TReceiveWindow : Ty := (.pair (.int .i64) (.pair (.sl TNumberedPacket) (.sl (.sl (.int .u8)))))
abbrev DReceiveWindow : Type := (Int × ((List DNumberedPacket) × (List (List Int))))
abbrev TAccount : Ty := (.pair (.int .i64) (.pair (.int .i64) (.pair (.int .i64) (.sl TSubscriberID))))
abbrev DAccount : Type := (Int × (Int × (Int × (List DSubscriberID))))
abbrev TRadioPacket : Ty := (.pair (.int .i64) (.pair (.int .i64) TSecuredMessage))
abbrev DRadioPacket : Type := (Int × (Int × DSecuredMessage))
abbrev TSignal : Ty := (.pair (.int .i64) (.pair (.int .i64) (.pair (.int .i64) (.pair (.int .i64) (.pair (.int .i64) (.pair TAuthVector (.int .i64)))))))
abbrev DSignal : Type := (Int × (Int × (Int × (Int × (Int × (DAuthVector × Int))))))
abbrev TDevice : Ty := (.pair TUSIM (.pair (.int .i64) (.pair (.int .i64) (.pair (.int .i64) (.pair (.int .i64) (.pair (.int .i64) (.pair .bool (.pair (.int .i64) TReceiveWindow))))))))
abbrev DDevice : Type := (DUSIM × (Int × (Int × (Int × (Int × (Int × (Bool × (Int × DReceiveWindow))))))))
abbrev TDeviceResult : Ty := (.pair TDevice (.sl TSignal))
abbrev DDeviceResult : Type := (DDevice × (List DSignal))
abbrev TFlight : Ty := (.pair (.int .i64) (.pair .bool (.pair .bool (.pair (.int .i64) (.pair TSignal TRadioPacket)))))
abbrev DFlight : Type := (Int × (Bool × (Bool × (Int × (DSignal × DRadioPacket)))))
abbrev TSession : Ty := (.pair TUSIM (.pair TSubscription (.pair (.int .i64) (.pair TAuthVector (.pair (.int .i64) (.pair (.int .i64) (.pair (.int .i64) (.pair (.int .i64) (.pair (.int .i64) (.pair (.int .i64) (.pair TQuota (.pair (.sl (.sl (.int .u8))) (.pair TSendWindow TAuthResponse)))))))))))))
abbrev DSession : Type := (DUSIM × (DSubscription × (Int × (DAuthVector × (Int × (Int × (Int × (Int × (Int × (Int × (DQuota × ((List (List Int)) × (DSendWindow × DAuthResponse)))))))))))))
abbrev TSessionResult : Ty := (.pair TSession (.sl TSignal))
abbrev DSessionResult : Type := (DSession × (List DSignal))
abbrev TTransmission : Ty := (.pair TSession (.pair TAccount (.pair (.sl TSignal) (.sl TRadioPacket))))
abbrev DTransmission : Type := (DSession × (DAccount × ((List DSignal) × (List DRadioPacket))))
abbrev TNetwork : Ty := (.pair (.sl TCell) (.pair (.sl TDevice) (.pair (.sl TSession) (.pair (.sl TAccount) (.pair (.sl TFlight) (.pair (.int .i64) TUSIM))))))
abbrev DNetwork : Type := ((List DCell) × ((List DDevice) × ((List DSession) × ((List DAccount) × ((List DFlight) × (Int × DUSIM))))))
end Go.Proofs.XF
/- Plain laws: first lemmas on the words that a printed function is made of. No program in sight. -/
set_option linter.unusedVariables false
set_option linter.unusedSimpArgs false
namespace Go.Proofs.XF
open Go Go.Proofs.XTv

/-! ### Numbers -/
theorem wrap_i64 {x : Int} (h1 : -9223372036854775808 ≤ x) (h2 : x ≤ 9223372036854775807) : IntKind.i64.wrap x = x := by
  simp [IntKind.wrap, IntKind.signed, IntKind.bits]
  omega
theorem wrap_u8 {x : Int} (h1 : 0 ≤ x) (h2 : x ≤ 255) : IntKind.u8.wrap x = x := by
  simp [IntKind.wrap, IntKind.signed, IntKind.bits]
  omega
theorem wrap_wrap_u8 (x : Int) : IntKind.u8.wrap (IntKind.u8.wrap x) = IntKind.u8.wrap x := by
  simp [IntKind.wrap, IntKind.signed, IntKind.bits]
theorem iadd_eq {x y : Int} (h1 : -9223372036854775808 ≤ x + y) (h2 : x + y ≤ 9223372036854775807) : iadd .i64 x y = x + y := wrap_i64 h1 h2
theorem isub_eq {x y : Int} (h1 : -9223372036854775808 ≤ x - y) (h2 : x - y ≤ 9223372036854775807) : isub .i64 x y = x - y := wrap_i64 h1 h2
theorem imul_eq {x y : Int} (h1 : -9223372036854775808 ≤ x * y) (h2 : x * y ≤ 9223372036854775807) : imul .i64 x y = x * y := wrap_i64 h1 h2
theorem iadd_nat {i : Nat} (h : i < 9223372036854775807) : iadd .i64 (i : Int) 1 = ((i + 1 : Nat) : Int) := by
  rw [iadd_eq (by omega) (by omega)]; rfl
theorem ilt_t {x y : Int} (h : x < y) : ilt x y = true := decide_eq_true h
theorem ilt_f {x y : Int} (h : ¬ x < y) : ilt x y = false := decide_eq_false h
theorem ile_t {x y : Int} (h : x ≤ y) : ile x y = true := decide_eq_true h
theorem ile_f {x y : Int} (h : ¬ x ≤ y) : ile x y = false := decide_eq_false h
theorem ieq_t {x y : Int} (h : x = y) : ieq x y = true := by simp [ieq, h]
theorem ieq_f {x y : Int} (h : x ≠ y) : ieq x y = false := by simp [ieq, h]
theorem ine_t {x y : Int} (h : x ≠ y) : ine x y = true := by simp [ine, h]
theorem ine_f {x y : Int} (h : x = y) : ine x y = false := by simp [ine, h]
theorem ine_self (x : Int) : ine x x = false := ine_f rfl
theorem ieq_self (x : Int) : ieq x x = true := ieq_t rfl
theorem bne_self (b : Bool) : bne' b b = false := by cases b <;> rfl
theorem seq_self (s : ByteArray) : seq' s s = true := by simp [seq']
theorem dnot_t : dnot true = false := rfl
theorem dnot_f : dnot false = true := rfl

/-! ### Lists -/
theorem ilt_len {α : Type} (i : Nat) (l : List α) : ilt (i : Int) (llen l) = decide (i < l.length) := by simp [ilt, llen]
theorem ilt_nat (i n : Nat) : ilt (i : Int) (n : Int) = decide (i < n) := by simp [ilt]
theorem idx_len {α : Type} (i : Nat) (l : List α) : idxOk (i : Int) (llen l) = decide (i < l.length) := by simp [idxOk, llen]
theorem ilt_zero_len {α : Type} (l : List α) : ilt (llen l) 0 = false := ilt_f (by simp [llen])
theorem lget_nat {e : Ty} (l : List e.den) {i : Nat} (h : i < l.length) : lget e l (i : Int) = l[i] := by simp [lget, h]
theorem lset_nat {α : Type} (l : List α) (i : Nat) (v : α) : lset l (i : Int) v = l.set i v := by simp [lset]
theorem llen_eq {α : Type} (l : List α) : llen l = (l.length : Int) := rfl
theorem lcat_eq {α : Type} (l m : List α) : lcat l m = l ++ m := rfl
theorem lcat_nil {α : Type} (l : List α) : lcat [] l = l := rfl
theorem llen_cat {α : Type} (l m : List α) : llen (lcat l m) = llen l + llen m := by simp [llen, lcat]
theorem app_ok {α : Type} {l m : List α} {b : Nat} (h : (l.length + m.length) * b ≤ 140737488355328) : appOk l m b = true := decide_eq_true h
theorem make_ok {n : Nat} {b : Nat} (h : n * b ≤ 281474976710656) : makeOk (n : Int) (n : Int) b = true := decide_eq_true ⟨by omega, Int.le_refl _, by
    have h2 : ((n * b : Nat) : Int) ≤ 281474976710656 := by omega
    rwa [Int.natCast_mul] at h2⟩
theorem make_len {α : Type} {l : List α} {b : Nat} (h : l.length * b ≤ 281474976710656) : makeOk (llen l) (llen l) b = true := make_ok h
theorem lrep_len {e : Ty} {α : Type} (l : List α) : lrep e (llen l) = List.replicate l.length e.dflt := by simp [lrep, llen]
theorem llen_rep {e : Ty} {α : Type} (l : List α) : llen (lrep e (llen l)) = llen l := by simp [lrep, llen]
/-- A copy over a list as long. -/
theorem lcopy_all {e : Ty} (x : List e.den) : lcopy (lrep e (llen x)) 0 (llen (lrep e (llen x))) x = x := by
  rw [llen_rep]
  simp [lcopy, lrep, llen]
theorem take_set {α : Type} (xs : List α) (d : α) {i : Nat} (h : i < xs.length) : (xs.take i ++ List.replicate (xs.length - i) d).set i xs[i] = xs.take (i + 1) ++ List.replicate (xs.length - (i + 1)) d := by
  have hi : (xs.take i).length = i := by simp; omega
  rw [List.set_append, if_neg (by omega), hi, Nat.sub_self]
  have hr : List.replicate (xs.length - i) d = d :: List.replicate (xs.length - (i + 1)) d := by
    rw [show xs.length - i = (xs.length - (i + 1)) + 1 by omega, List.replicate_succ]
  rw [hr, List.set_cons_zero, List.take_succ_eq_append_getElem h, List.append_assoc]
  rfl
theorem take_snoc {α : Type} (xs : List α) {i : Nat} (h : i < xs.length) : xs.take i ++ [xs[i]] = xs.take (i + 1) := (List.take_succ_eq_append_getElem h).symm

/-! ### Steps -/
theorem ob_some {α β : Type} (a : α) (f : α → Option β) : obind (some a) f = f a := rfl
theorem ob_none {α β : Type} (f : α → Option β) : obind none f = none := rfl
theorem sel_l {α β γ : Type} (f : α → γ) (g : β → γ) (a : α) : selim f g (.inl a) = f a := rfl
theorem sel_r {α β γ : Type} (f : α → γ) (g : β → γ) (b : β) : selim f g (.inr b) = g b := rfl
theorem ob_ite {α β : Type} (c : Bool) (a b : Option α) (f : α → Option β) : obind (bif c then a else b) f = bif c then obind a f else obind b f := by cases c <;> rfl
theorem ob_eta {α : Type} (a : Option α) : obind a (fun v => some v) = a := by cases a <;> rfl
theorem bif_true (b : Bool) : (bif b then true else false) = b := by cases b <;> rfl
theorem bif_some {α : Type} (b : Bool) (x y : α) : (bif b then some x else some y) = some (bif b then x else y) := by cases b <;> rfl
theorem bif_and (a b : Bool) : (bif a then b else false) = (a && b) := by cases a <;> rfl
theorem bif_or (a b : Bool) : (bif a then true else b) = (a || b) := by cases a <;> rfl

/-- So many rounds as no loop here needs. -/
def FU : Nat := 18446744073709551616
theorem loop_up {D E : Type} {step : D → Option (D ⊕ E)} {e : E} : ∀ (n N : Nat) (st : Nat → D), n < N → (∀ i, i < n → step (st i) = some (.inl (st (i + 1)))) → step (st n) = some (.inr e) → loopN step N (st 0) = some e
  | _, 0, _, h, _, _ => absurd h (Nat.not_lt_zero _)
  | 0, N + 1, st, _, _, he => by rw [loopN, he]; rfl
  | n + 1, N + 1, st, h, hs, he => by
    rw [loopN, hs 0 (Nat.zero_lt_succ _), ob_some, sel_l]
    exact loop_up n N (fun i => st (i + 1)) (by omega) (fun i hi => hs (i + 1) (by omega)) he
/-- With what is known of each state. -/
theorem loop_inv {D E : Type} {step : D → Option (D ⊕ E)} (I : D → Prop) (μ : D → Nat) (Q : E → Prop) (h : ∀ d, I d → (∃ d', step d = some (.inl d') ∧ I d' ∧ μ d' < μ d) ∨ ∃ e, step d = some (.inr e) ∧ Q e) : ∀ (N : Nat) (d : D), I d → μ d < N → ∃ e, loopN step N d = some e ∧ Q e
  | 0, d, _, hn => absurd hn (Nat.not_lt_zero _)
  | N + 1, d, hd, hn => by
    rcases h d hd with ⟨d', h1, h2, h3⟩ | ⟨e, h1, h2⟩
    · obtain ⟨e, h4, h5⟩ := loop_inv I μ Q h N d' h2 (by omega)
      exact ⟨e, by rw [loopN, h1, ob_some, sel_l, h4], h5⟩
    · exact ⟨e, by rw [loopN, h1]; rfl, h2⟩

/-! ### Data within bounds -/
/-- Numbers within their kinds, slices and strings not too long. -/
def Ok : (t : Ty) → t.den → Prop
  | .int k, n => k.min ≤ n ∧ n ≤ k.max
  | .bool, _ => True
  | .str, s => s.size ≤ 281474976710656
  | .sl e, xs => List.length xs ≤ 4294967296 ∧ ∀ x ∈ xs, Ok e x
  | .unit, _ => True
  | .pair a b, x => Ok a x.1 ∧ Ok b x.2
/-- Numbers within their kinds, slices no longer than memory holds. -/
def Good' : (t : Ty) → t.den → Prop
  | .int k, n => k.min ≤ n ∧ n ≤ k.max
  | .bool, _ => True
  | .str, s => s.size ≤ 281474976710656
  | .sl e, xs => List.length xs ≤ 281474976710656 ∧ ∀ x ∈ xs, Good' e x
  | .unit, _ => True
  | .pair a b, x => Good' a x.1 ∧ Good' b x.2
/-- How many places all slices of a datum have. -/
def cnt : (t : Ty) → t.den → Nat
  | .sl e, xs => List.length xs + (List.map (cnt e) xs).sum
  | .pair a b, x => cnt a x.1 + cnt b x.2
  | _, _ => 0

theorem good_get {e : Ty} {xs : List e.den} (h : Good' (.sl e) xs) {i : Nat} (hi : i < xs.length) : Good' e xs[i] := h.2 _ (List.getElem_mem hi)
theorem good_len {e : Ty} {xs : List e.den} (h : Good' (.sl e) xs) : xs.length ≤ 281474976710656 := h.1
theorem ok_get {e : Ty} {xs : List e.den} (h : Ok (.sl e) xs) {i : Nat} (hi : i < xs.length) : Ok e xs[i] := h.2 _ (List.getElem_mem hi)
theorem ok_len {e : Ty} {xs : List e.den} (h : Ok (.sl e) xs) : xs.length ≤ 4294967296 := h.1
theorem u8_bd {n : Int} (h : Ok (.int .u8) n) : 0 ≤ n ∧ n ≤ 255 := h
theorem i64_bd {n : Int} (h : Ok (.int .i64) n) : -9223372036854775808 ≤ n ∧ n ≤ 9223372036854775807 := h

/-- All rounds go well, or one says no. -/
theorem all_loop {D E : Type} {step : D → Option (D ⊕ E)} (p : Nat → Bool) {fin bad : E} (st : Nat → D) (n : Nat) (h1 : ∀ i, i < n → step (st i) = some (bif p i then .inl (st (i + 1)) else .inr bad)) (h2 : step (st n) = some (.inr fin)) {N : Nat} (hN : n < N) :
    loopN step N (st 0) = some (if ∀ i, i < n → p i = true then fin else bad) := by
  have key : ∀ (m i N : Nat), m = n - i → i ≤ n → m < N → (∀ j, j < i → p j = true) → loopN step N (st i) = some (if ∀ i, i < n → p i = true then fin else bad) := by
    intro m
    induction m with
    | zero =>
      intro i N hm hi hN hp
      have : i = n := by omega
      subst this
      cases N with
      | zero => omega
      | succ N => rw [loopN, h2, ob_some, sel_r, if_pos hp]
    | succ m ih =>
      intro i N hm hi hN hp
      have hlt : i < n := by omega
      cases N with
      | zero => omega
      | succ N =>
        rw [loopN, h1 i hlt]
        cases hpi : p i
        · rw [cond_false, ob_some, sel_r, if_neg (fun h => by rw [h i hlt] at hpi; cases hpi)]
        · rw [cond_true, ob_some, sel_l]
          refine ih (i + 1) N (by omega) (by omega) (by omega) fun j hj => ?_
          rcases Nat.lt_succ_iff_lt_or_eq.1 hj with h | h
          · exact hp j h
          · rw [h]; exact hpi
  exact key n 0 N (by omega) (by omega) hN (fun j hj => by omega)
/-! ### Loops of the laws' own functions -/
section
variable {e : Ty} {k : Nat} (hk : FU ≤ k)
theorem to_loop (hk : FU ≤ k) {s : (List e.den × Int) × List e.den → Option ((List e.den × Int) × List e.den ⊕ List e.den)} {xs : List e.den} (hl : xs.length ≤ 4294967296)
    (h1 : ∀ (i : Nat) (acc : List e.den) (hi : i < xs.length), acc.length = xs.length → s ((xs, (i : Int)), acc) = some (.inl ((xs, ((i + 1 : Nat) : Int)), acc.set i xs[i])))
    (h2 : ∀ acc, s ((xs, (xs.length : Int)), acc) = some (.inr acc)) : loopN s k ((xs, 0), lrep e (llen xs)) = some xs := by
  have := loop_up (step := s) (e := xs) xs.length k (fun i => ((xs, (i : Int)), xs.take i ++ List.replicate (xs.length - i) e.dflt)) (by unfold FU at hk; omega)
    (fun i hi => by rw [h1 i _ hi (by simp; omega), take_set xs _ hi]) (by rw [h2]; simp)
  rw [lrep_len]
  simpa using this
theorem copy_loop (hk : FU ≤ k) {s : (List e.den × Int × Int) × List e.den → Option ((List e.den × Int × Int) × List e.den ⊕ List e.den)} {xs : List e.den} (hl : xs.length ≤ 4294967296)
    (h1 : ∀ (i : Nat) (acc : List e.den) (hi : i < xs.length), acc.length = xs.length → s ((xs, (xs.length : Int), (i : Int)), acc) = some (.inl ((xs, (xs.length : Int), ((i + 1 : Nat) : Int)), acc.set i xs[i])))
    (h2 : ∀ acc, s ((xs, (xs.length : Int), (xs.length : Int)), acc) = some (.inr acc)) : loopN s k ((xs, llen xs, 0), lrep e (llen xs)) = some xs := by
  have := loop_up (step := s) (e := xs) xs.length k (fun i => ((xs, (xs.length : Int), (i : Int)), xs.take i ++ List.replicate (xs.length - i) e.dflt)) (by unfold FU at hk; omega)
    (fun i hi => by rw [h1 i _ hi (by simp; omega), take_set xs _ hi]) (by rw [h2]; simp)
  rw [lrep_len, llen_eq]
  simpa using this
theorem cat_loop (hk : FU ≤ k) {s : (List e.den × Int) × List e.den → Option ((List e.den × Int) × List e.den ⊕ List e.den)} {xs : List e.den} (hl : xs.length ≤ 4294967296)
    (h1 : ∀ (i : Nat) (hi : i < xs.length), s ((xs, (i : Int)), xs.take i) = some (.inl ((xs, ((i + 1 : Nat) : Int)), xs.take i ++ [xs[i]])))
    (h2 : s ((xs, (xs.length : Int)), xs) = some (.inr xs)) : loopN s k ((xs, 0), []) = some xs := by
  have := loop_up (step := s) (e := xs) xs.length k (fun i => ((xs, (i : Int)), xs.take i)) (by unfold FU at hk; omega)
    (fun i hi => by rw [h1 i hi, take_snoc xs hi]) (by rw [List.take_length]; exact h2)
  simpa using this
theorem eq_loop (hk : FU ≤ k) {s : List e.den × List e.den × Int → Option (List e.den × List e.den × Int ⊕ Unit ⊕ Bool)} {xs : List e.den} (hl : xs.length ≤ 4294967296)
    (h1 : ∀ (i : Nat) (hi : i < xs.length), s (xs, xs, (i : Int)) = some (.inl (xs, xs, ((i + 1 : Nat) : Int))))
    (h2 : s (xs, xs, (xs.length : Int)) = some (.inr (.inl ()))) : loopN s k (xs, xs, 0) = some (.inl ()) :=
  loop_up (step := s) (e := .inl ()) xs.length k (fun i => (xs, xs, (i : Int))) (by unfold FU at hk; omega) h1 h2
/-- Sizes taken off one after the other. -/
theorem sz_loop (hk : FU ≤ k) (c : e.den → Nat) {s : List e.den × Int × Int → Option (List e.den × Int × Int ⊕ Int ⊕ Int)} {xs : List e.den} (hl : xs.length ≤ 281474976710656)
    (h1 : ∀ (i : Nat) (hi : i < xs.length) (L : Int), 0 ≤ L → L ≤ 4294967296 → s (xs, L, (i : Int)) = if (c xs[i] : Int) ≤ L then some (.inl (xs, L - c xs[i], ((i + 1 : Nat) : Int))) else some (.inr (.inr (-1))))
    (h2 : ∀ L, s (xs, L, (xs.length : Int)) = some (.inr (.inl L))) {L : Int} (hL0 : 0 ≤ L) (hL : L ≤ 4294967296) :
    loopN s k (xs, L, 0) = some (if ((xs.map c).sum : Int) ≤ L then .inl (L - ((xs.map c).sum : Nat)) else .inr (-1)) := by
  have key : ∀ (n i : Nat) (N : Nat) (L : Int), n = xs.length - i → i ≤ xs.length → n < N → 0 ≤ L → L ≤ 4294967296 → loopN s N (xs, L, (i : Int)) = some (if (((xs.drop i).map c).sum : Int) ≤ L then .inl (L - (((xs.drop i).map c).sum : Nat)) else .inr (-1)) := by
    intro n
    induction n with
    | zero =>
      intro i N L hn hi hN h0 hL
      have : i = xs.length := by omega
      subst this
      cases N with
      | zero => omega
      | succ N => rw [loopN, h2]; simp [ob_some, sel_r, h0]
    | succ n ih =>
      intro i N L hn hi hN h0 hL
      have hlt : i < xs.length := by omega
      cases N with
      | zero => omega
      | succ N =>
        rw [loopN, h1 i hlt L h0 hL]
        have hd : xs.drop i = xs[i] :: xs.drop (i + 1) := List.drop_eq_getElem_cons hlt
        by_cases hc : (c xs[i] : Int) ≤ L
        · rw [if_pos hc, ob_some, sel_l, ih (i + 1) N _ (by omega) (by omega) (by omega) (by omega) (by omega), hd]
          simp only [List.map_cons, List.sum_cons]
          congr 1
          by_cases h3 : ((((xs.drop (i + 1)).map c).sum : Nat) : Int) ≤ L - c xs[i]
          · rw [if_pos h3, if_pos (by omega)]; congr 1; omega
          · rw [if_neg h3, if_neg (by omega)]
        · rw [if_neg hc, ob_some, sel_r, hd]
          simp only [List.map_cons, List.sum_cons]
          rw [if_neg (by omega)]
  have := key (xs.length) 0 k L (by omega) (by omega) (by unfold FU at hk; omega) hL0 hL
  simpa using this
end

/-! ### Marks -/
/-- Elements marked one after the other. -/
def mkL {α : Type} (m : α → Nat → α × Nat) : List α → Nat → List α × Nat
  | [], n => ([], n)
  | x :: xs, n => ((m x n).1 :: (mkL m xs (m x n).2).1, (mkL m xs (m x n).2).2)
theorem mkL_len {α : Type} (m : α → Nat → α × Nat) : ∀ (xs : List α) (n : Nat), (mkL m xs n).1.length = xs.length
  | [], _ => rfl
  | x :: xs, n => by simp [mkL, mkL_len m xs]
theorem mkL_bd {α : Type} (m : α → Nat → α × Nat) (c : α → Nat) : ∀ (xs : List α), (∀ x ∈ xs, ∀ n, n ≤ (m x n).2 ∧ (m x n).2 ≤ n + c x) → ∀ n, n ≤ (mkL m xs n).2 ∧ (mkL m xs n).2 ≤ n + (xs.map c).sum
  | [], _, n => by simp [mkL]
  | x :: xs, h, n => by
    have h1 := h x (List.mem_cons_self ..) n
    have h2 := mkL_bd m c xs (fun y hy => h y (List.mem_cons_of_mem _ hy)) (m x n).2
    simp only [mkL, List.map_cons, List.sum_cons]
    omega
section
variable {α : Type} {k : Nat} (hk : FU ≤ k)
theorem mark_loop (hk : FU ≤ k) (m : α → Nat → α × Nat) (c : α → Nat) {s : (Int × Int) × List α → Option ((Int × Int) × List α ⊕ Int × List α)} {xs : List α} (hl : xs.length ≤ 4294967296)
    (hb : ∀ x ∈ xs, ∀ n, n ≤ (m x n).2 ∧ (m x n).2 ≤ n + c x)
    (h1 : ∀ (ys : List α) (i n : Nat) (hi : i < ys.length), ys[i] ∈ xs → ys.length = xs.length → n + c ys[i] ≤ 4611686018427387904 → s (((n : Int), (i : Int)), ys) = some (.inl ((((m ys[i] n).2 : Int), ((i + 1 : Nat) : Int)), ys.set i (m ys[i] n).1)))
    (h2 : ∀ (ys : List α) (n : Int), s ((n, (ys.length : Int)), ys) = some (.inr (n, ys))) {n : Nat} (hn : n + (xs.map c).sum ≤ 4611686018427387904) :
    loopN s k (((n : Int), 0), xs) = some (((mkL m xs n).2 : Int), (mkL m xs n).1) := by
  have key : ∀ (rest done : List α) (n N : Nat), (∀ x ∈ rest, x ∈ xs) → done.length + rest.length = xs.length → rest.length < N → n + (rest.map c).sum ≤ 4611686018427387904 → loopN s N (((n : Int), (done.length : Int)), done ++ rest) = some (((mkL m rest n).2 : Int), done ++ (mkL m rest n).1) := by
    intro rest
    induction rest with
    | nil =>
      intro done n N _ hlen hN _
      cases N with
      | zero => omega
      | succ N => rw [loopN]; have := h2 done n; simp only [List.append_nil, mkL]; rw [this]; rfl
    | cons x rest ih =>
      intro done n N hm hlen hN hs
      cases N with
      | zero => omega
      | succ N =>
        simp only [List.map_cons, List.sum_cons, List.length_cons] at hs hlen hN
        have hx := hm x (List.mem_cons_self ..)
        have hget : (done ++ x :: rest)[done.length]'(by simp) = x := by simp
        rw [loopN, h1 (done ++ x :: rest) done.length n (by simp) (by rw [hget]; exact hx) (by simp; omega) (by rw [hget]; omega), hget, ob_some, sel_l]
        have hb1 := hb x hx n
        have := ih (done ++ [(m x n).1]) (m x n).2 N (fun y hy => hm y (List.mem_cons_of_mem _ hy)) (by simp; omega) (by omega) (by omega)
        simp only [mkL]
        have hset : (done ++ x :: rest).set done.length (m x n).1 = done ++ [(m x n).1] ++ rest := by simp
        rw [hset]
        have hl2 : ((done.length + 1 : Nat) : Int) = ((done ++ [(m x n).1]).length : Int) := by simp
        rw [hl2, this]
        simp
  have := key xs [] n k (fun x h => h) (by simp) (by unfold FU at hk; omega) hn
  simpa using this
theorem held_loop (hk : FU ≤ k) (m : α → Nat → α × Nat) (c : α → Nat) {s : List α × Int × Int → Option (List α × Int × Int ⊕ Int ⊕ Int)} {xs : List α} (hl : xs.length ≤ 4294967296)
    (hb : ∀ x ∈ xs, ∀ n, n ≤ (m x n).2 ∧ (m x n).2 ≤ n + c x)
    (h1 : ∀ (ys : List α) (x : α) (i n : Nat) (hi : i < ys.length), x ∈ xs → ys.length = xs.length → ys[i] = (m x n).1 → n + c x ≤ 4611686018427387904 → s (ys, (n : Int), (i : Int)) = some (.inl (ys, ((m x n).2 : Int), ((i + 1 : Nat) : Int))))
    (h2 : ∀ (ys : List α) (n : Int), s (ys, n, (ys.length : Int)) = some (.inr (.inl n))) {n : Nat} (hn : n + (xs.map c).sum ≤ 4611686018427387904) :
    loopN s k ((mkL m xs n).1, (n : Int), 0) = some (.inl ((mkL m xs n).2 : Int)) := by
  have key : ∀ (rest : List α) (done : List α) (n N : Nat), (∀ x ∈ rest, x ∈ xs) → done.length + rest.length = xs.length → rest.length < N → n + (rest.map c).sum ≤ 4611686018427387904 → loopN s N (done ++ (mkL m rest n).1, (n : Int), (done.length : Int)) = some (.inl ((mkL m rest n).2 : Int)) := by
    intro rest
    induction rest with
    | nil =>
      intro done n N _ hlen hN _
      cases N with
      | zero => omega
      | succ N => rw [loopN]; have := h2 done n; simp only [List.append_nil, mkL]; rw [this]; rfl
    | cons x rest ih =>
      intro done n N hm hlen hN hs
      cases N with
      | zero => omega
      | succ N =>
        simp only [List.map_cons, List.sum_cons, List.length_cons] at hs hlen hN
        have hx := hm x (List.mem_cons_self ..)
        simp only [mkL]
        have hlen2 : (done ++ (m x n).1 :: (mkL m rest (m x n).2).1).length = xs.length := by simp [mkL_len]; omega
        rw [loopN, h1 _ x done.length n (by rw [hlen2]; omega) hx hlen2 (by simp) (by omega), ob_some, sel_l]
        have hb1 := hb x hx n
        have := ih (done ++ [(m x n).1]) (m x n).2 N (fun y hy => hm y (List.mem_cons_of_mem _ hy)) (by simp; omega) (by omega) (by omega)
        have hl2 : ((done.length + 1 : Nat) : Int) = ((done ++ [(m x n).1]).length : Int) := by simp
        rw [hl2, ← this]
        simp
  have := key xs [] n k (fun x h => h) (by simp) (by unfold FU at hk; omega) hn
  simpa using this
end
end Go.Proofs.XF
/- What a row says of its arguments, as the plain laws take it. -/
set_option linter.unusedVariables false
set_option linter.unusedSimpArgs false
namespace Go.Proofs.XTv
open Go.Proofs.XF

/-- Every element takes room. -/
def roomy : Ty → Bool
  | .sl e => Nat.ble 1 (bytesT e) && roomy e
  | .pair a b => roomy a && roomy b
  | _ => true
theorem good_plain : ∀ {t : Ty} {x : t.den}, roomy t = true → Good t x → Good' t x
  | .int _, _, _, h => h
  | .bool, _, _, _ => trivial
  | .unit, _, _, _ => trivial
  | .str, s, _, h => by
    have h : s.size ≤ reachBytes := h
    have := reachBytes_lt
    show s.size ≤ 281474976710656
    omega
  | .sl e, xs, hr, h => by
    simp only [roomy, Bool.and_eq_true] at hr
    obtain ⟨h1, h2⟩ := h
    refine ⟨?_, fun y hy => good_plain hr.2 (h2 y hy)⟩
    have hb := Nat.le_of_ble_eq_true hr.1
    have h3 : List.length xs * 1 ≤ List.length xs * bytesT e := Nat.mul_le_mul_left _ hb
    have := reachBytes_lt
    omega
  | .pair a b, x, hr, h => by
    simp only [roomy, Bool.and_eq_true] at hr
    exact ⟨good_plain hr.1 h.1, good_plain hr.2 h.2⟩
end Go.Proofs.XTv
/- The program's functions, as plain Lean. -/
set_option linter.unusedVariables false
set_option maxRecDepth 100000
namespace Go.Proofs.XF
open Go Go.Proofs.XTv
def laws_szIntS.f (k : Nat) (x : List Int × Int) : Option Int :=
    bif ilt (isub IntKind.i64 x.snd (llen x.fst)) 0 then some (-1) else some (isub IntKind.i64 x.snd (llen x.fst))

def laws_szCell.f (k : Nat) (x : DNumberedPacket × Int) : Option Int :=
    obind (laws_szIntS.f k (x.fst.snd, x.snd)) fun v0 => bif ilt v0 0 then some (-1) else some v0

def laws_szCellS.s0 (k : Nat) (d0 : List DNumberedPacket × DSubscriberID) : Option (List DNumberedPacket × DSubscriberID ⊕ Int ⊕ Int) :=
    bif ilt d0.snd.snd (llen d0.fst) then
    bif idxOk d0.snd.snd (llen d0.fst) then
      obind (laws_szCell.f k (lget TCell d0.fst d0.snd.snd, d0.snd.fst)) fun v1 =>
        bif ilt v1 0 then some (Sum.inr (Sum.inr (-1))) else some (Sum.inl (d0.fst, v1, iadd IntKind.i64 d0.snd.snd 1))
    else none
  else some (Sum.inr (Sum.inl d0.snd.fst))
def laws_szCellS.f (k : Nat) (x : List DNumberedPacket × Int) : Option Int :=
    bif ilt (isub IntKind.i64 x.snd (llen x.fst)) 0 then some (-1)
  else
    obind (loopN (laws_szCellS.s0 k) k (x.fst, isub IntKind.i64 x.snd (llen x.fst), 0)) fun v2 =>
      selim (fun v3 => some v3) (fun v4 => some v4) v2

def laws_szCellMap.f (k : Nat) (x : List DNumberedPacket × Int) : Option Int :=
    obind (laws_szCellS.f k x) fun v0 => bif ilt v0 0 then some (-1) else some v0

def laws_szByteS.f (k : Nat) (x : List Int × Int) : Option Int :=
    bif ilt (isub IntKind.i64 x.snd (llen x.fst)) 0 then some (-1) else some (isub IntKind.i64 x.snd (llen x.fst))

def laws_szPayload.f (k : Nat) (x : List Int × Int) : Option Int :=
    obind (laws_szByteS.f k x) fun v0 => bif ilt v0 0 then some (-1) else some v0

def laws_szPayloadS.s0 (k : Nat) (d0 : List (List Int) × DSubscriberID) : Option (List (List Int) × DSubscriberID ⊕ Int ⊕ Int) :=
    bif ilt d0.snd.snd (llen d0.fst) then
    bif idxOk d0.snd.snd (llen d0.fst) then
      obind (laws_szPayload.f k (lget (Ty.sl (Ty.int IntKind.u8)) d0.fst d0.snd.snd, d0.snd.fst)) fun v1 =>
        bif ilt v1 0 then some (Sum.inr (Sum.inr (-1))) else some (Sum.inl (d0.fst, v1, iadd IntKind.i64 d0.snd.snd 1))
    else none
  else some (Sum.inr (Sum.inl d0.snd.fst))
def laws_szPayloadS.f (k : Nat) (x : List (List Int) × Int) : Option Int :=
    bif ilt (isub IntKind.i64 x.snd (llen x.fst)) 0 then some (-1)
  else
    obind (loopN (laws_szPayloadS.s0 k) k (x.fst, isub IntKind.i64 x.snd (llen x.fst), 0)) fun v2 =>
      selim (fun v3 => some v3) (fun v4 => some v4) v2

def laws_szNumberedPacket.f (k : Nat) (x : DNumberedPacket × Int) : Option Int :=
    obind (laws_szByteS.f k (x.fst.snd, x.snd)) fun v0 => bif ilt v0 0 then some (-1) else some v0

def laws_szNumberedPacketS.s0 (k : Nat) (d0 : List DNumberedPacket × DSubscriberID) : Option (List DNumberedPacket × DSubscriberID ⊕ Int ⊕ Int) :=
    bif ilt d0.snd.snd (llen d0.fst) then
    bif idxOk d0.snd.snd (llen d0.fst) then
      obind (laws_szNumberedPacket.f k (lget TNumberedPacket d0.fst d0.snd.snd, d0.snd.fst)) fun v1 =>
        bif ilt v1 0 then some (Sum.inr (Sum.inr (-1))) else some (Sum.inl (d0.fst, v1, iadd IntKind.i64 d0.snd.snd 1))
    else none
  else some (Sum.inr (Sum.inl d0.snd.fst))
def laws_szNumberedPacketS.f (k : Nat) (x : List DNumberedPacket × Int) : Option Int :=
    bif ilt (isub IntKind.i64 x.snd (llen x.fst)) 0 then some (-1)
  else
    obind (loopN (laws_szNumberedPacketS.s0 k) k (x.fst, isub IntKind.i64 x.snd (llen x.fst), 0)) fun v2 =>
      selim (fun v3 => some v3) (fun v4 => some v4) v2

def laws_szReceiveWindow.f (k : Nat) (x : DReceiveWindow × Int) : Option Int :=
    obind (laws_szNumberedPacketS.f k (x.fst.snd.fst, x.snd)) fun v0 =>
    bif ilt v0 0 then some (-1)
    else obind (laws_szPayloadS.f k (x.fst.snd.snd, v0)) fun v1 => bif ilt v1 0 then some (-1) else some v1

def laws_szDevice.f (k : Nat) (x : DDevice × Int) : Option Int :=
    obind (laws_szReceiveWindow.f k (x.fst.snd.snd.snd.snd.snd.snd.snd.snd, x.snd)) fun v0 =>
    bif ilt v0 0 then some (-1) else some v0

def laws_szDeviceS.s0 (k : Nat) (d0 : List DDevice × DSubscriberID) : Option (List DDevice × DSubscriberID ⊕ Int ⊕ Int) :=
    bif ilt d0.snd.snd (llen d0.fst) then
    bif idxOk d0.snd.snd (llen d0.fst) then
      obind (laws_szDevice.f k (lget TDevice d0.fst d0.snd.snd, d0.snd.fst)) fun v1 =>
        bif ilt v1 0 then some (Sum.inr (Sum.inr (-1))) else some (Sum.inl (d0.fst, v1, iadd IntKind.i64 d0.snd.snd 1))
    else none
  else some (Sum.inr (Sum.inl d0.snd.fst))
def laws_szDeviceS.f (k : Nat) (x : List DDevice × Int) : Option Int :=
    bif ilt (isub IntKind.i64 x.snd (llen x.fst)) 0 then some (-1)
  else
    obind (loopN (laws_szDeviceS.s0 k) k (x.fst, isub IntKind.i64 x.snd (llen x.fst), 0)) fun v2 =>
      selim (fun v3 => some v3) (fun v4 => some v4) v2

def laws_szSubscription.f (k : Nat) (x : DSubscription × Int) : Option Int :=
    obind (laws_szIntS.f k (x.fst.snd.snd.snd, x.snd)) fun v0 => bif ilt v0 0 then some (-1) else some v0

def laws_szSendWindow.f (k : Nat) (x : DSendWindow × Int) : Option Int :=
    obind (laws_szNumberedPacketS.f k (x.fst.snd, x.snd)) fun v0 => bif ilt v0 0 then some (-1) else some v0

def laws_szSession.f (k : Nat) (x : DSession × Int) : Option Int :=
    obind (laws_szSubscription.f k (x.fst.snd.fst, x.snd)) fun v0 =>
    bif ilt v0 0 then some (-1)
    else
      obind (laws_szPayloadS.f k (x.fst.snd.snd.snd.snd.snd.snd.snd.snd.snd.snd.snd.fst, v0)) fun v1 =>
        bif ilt v1 0 then some (-1)
        else
          obind (laws_szSendWindow.f k (x.fst.snd.snd.snd.snd.snd.snd.snd.snd.snd.snd.snd.snd.fst, v1)) fun v2 =>
            bif ilt v2 0 then some (-1) else some v2

def laws_szSessionS.s0 (k : Nat) (d0 : List DSession × DSubscriberID) : Option (List DSession × DSubscriberID ⊕ Int ⊕ Int) :=
    bif ilt d0.snd.snd (llen d0.fst) then
    bif idxOk d0.snd.snd (llen d0.fst) then
      obind (laws_szSession.f k (lget TSession d0.fst d0.snd.snd, d0.snd.fst)) fun v1 =>
        bif ilt v1 0 then some (Sum.inr (Sum.inr (-1))) else some (Sum.inl (d0.fst, v1, iadd IntKind.i64 d0.snd.snd 1))
    else none
  else some (Sum.inr (Sum.inl d0.snd.fst))
def laws_szSessionS.f (k : Nat) (x : List DSession × Int) : Option Int :=
    bif ilt (isub IntKind.i64 x.snd (llen x.fst)) 0 then some (-1)
  else
    obind (loopN (laws_szSessionS.s0 k) k (x.fst, isub IntKind.i64 x.snd (llen x.fst), 0)) fun v2 =>
      selim (fun v3 => some v3) (fun v4 => some v4) v2

def laws_szReservationS.f (k : Nat) (x : List DSubscriberID × Int) : Option Int :=
    bif ilt (isub IntKind.i64 x.snd (llen x.fst)) 0 then some (-1) else some (isub IntKind.i64 x.snd (llen x.fst))

def laws_szAccount.f (k : Nat) (x : DAccount × Int) : Option Int :=
    obind (laws_szReservationS.f k (x.fst.snd.snd.snd, x.snd)) fun v0 => bif ilt v0 0 then some (-1) else some v0

def laws_szAccountS.s0 (k : Nat) (d0 : List DAccount × DSubscriberID) : Option (List DAccount × DSubscriberID ⊕ Int ⊕ Int) :=
    bif ilt d0.snd.snd (llen d0.fst) then
    bif idxOk d0.snd.snd (llen d0.fst) then
      obind (laws_szAccount.f k (lget TAccount d0.fst d0.snd.snd, d0.snd.fst)) fun v1 =>
        bif ilt v1 0 then some (Sum.inr (Sum.inr (-1))) else some (Sum.inl (d0.fst, v1, iadd IntKind.i64 d0.snd.snd 1))
    else none
  else some (Sum.inr (Sum.inl d0.snd.fst))
def laws_szAccountS.f (k : Nat) (x : List DAccount × Int) : Option Int :=
    bif ilt (isub IntKind.i64 x.snd (llen x.fst)) 0 then some (-1)
  else
    obind (loopN (laws_szAccountS.s0 k) k (x.fst, isub IntKind.i64 x.snd (llen x.fst), 0)) fun v2 =>
      selim (fun v3 => some v3) (fun v4 => some v4) v2

def laws_szSecuredMessage.f (k : Nat) (x : DSecuredMessage × Int) : Option Int :=
    obind (laws_szByteS.f k (x.fst.snd.snd.fst, x.snd)) fun v0 => bif ilt v0 0 then some (-1) else some v0

def laws_szRadioPacket.f (k : Nat) (x : DRadioPacket × Int) : Option Int :=
    obind (laws_szSecuredMessage.f k (x.fst.snd.snd, x.snd)) fun v0 => bif ilt v0 0 then some (-1) else some v0

def laws_szFlight.f (k : Nat) (x : DFlight × Int) : Option Int :=
    obind (laws_szRadioPacket.f k (x.fst.snd.snd.snd.snd.snd, x.snd)) fun v0 => bif ilt v0 0 then some (-1) else some v0

def laws_szFlightS.s0 (k : Nat) (d0 : List DFlight × DSubscriberID) : Option (List DFlight × DSubscriberID ⊕ Int ⊕ Int) :=
    bif ilt d0.snd.snd (llen d0.fst) then
    bif idxOk d0.snd.snd (llen d0.fst) then
      obind (laws_szFlight.f k (lget TFlight d0.fst d0.snd.snd, d0.snd.fst)) fun v1 =>
        bif ilt v1 0 then some (Sum.inr (Sum.inr (-1))) else some (Sum.inl (d0.fst, v1, iadd IntKind.i64 d0.snd.snd 1))
    else none
  else some (Sum.inr (Sum.inl d0.snd.fst))
def laws_szFlightS.f (k : Nat) (x : List DFlight × Int) : Option Int :=
    bif ilt (isub IntKind.i64 x.snd (llen x.fst)) 0 then some (-1)
  else
    obind (loopN (laws_szFlightS.s0 k) k (x.fst, isub IntKind.i64 x.snd (llen x.fst), 0)) fun v2 =>
      selim (fun v3 => some v3) (fun v4 => some v4) v2

def laws_szNetwork.f (k : Nat) (x : DNetwork × Int) : Option Int :=
    obind (laws_szCellMap.f k (x.fst.fst, x.snd)) fun v0 =>
    bif ilt v0 0 then some (-1)
    else
      obind (laws_szDeviceS.f k (x.fst.snd.fst, v0)) fun v1 =>
        bif ilt v1 0 then some (-1)
        else
          obind (laws_szSessionS.f k (x.fst.snd.snd.fst, v1)) fun v2 =>
            bif ilt v2 0 then some (-1)
            else
              obind (laws_szAccountS.f k (x.fst.snd.snd.snd.fst, v2)) fun v3 =>
                bif ilt v3 0 then some (-1)
                else
                  obind (laws_szFlightS.f k (x.fst.snd.snd.snd.snd.fst, v3)) fun v4 =>
                    bif ilt v4 0 then some (-1) else some v4

def spec_l1In.f (k : Nat) (x : DQuota) : Option Bool :=
    some (bif ile x.snd.fst x.fst then ile x.fst x.snd.snd else false)

def spec_IsValidPool.f (k : Nat) (x : DSubscriberID) : Option Bool :=
    obind (spec_l1In.f k (x.fst, 1, 6)) fun v0 =>
    bif bif ile 0 x.fst then true else dnot v0 then
      obind (bif v0 then spec_l1In.f k (x.snd, 0, isub IntKind.i64 (ishl IntKind.i64 1 x.fst) 1) else some false)
        fun v1 => some (bif v0 then v1 else false)
    else none

def spec_IsServerUp.f (k : Nat) (x : DSubscriberID × Int) : Option Bool :=
    obind (spec_IsValidPool.f k x.fst) fun v0 =>
    obind (bif v0 then spec_l1In.f k (x.snd, 0, isub IntKind.i64 x.fst.fst 1) else some false) fun v1 =>
      bif bif ile 0 x.snd then true else dnot (bif v0 then v1 else false) then
        some (bif bif v0 then v1 else false then ieq (iand IntKind.i64 (ishr IntKind.i64 x.fst.snd x.snd) 1) 1 else false)
      else none

def spec_Mod.f (k : Nat) (x : DSubscriberID) : Option Int :=
    obind (spec_l1In.f k (x.snd, 1, 1000000000000)) fun v0 =>
    bif dnot v0 then some 0
    else
      bif ine x.snd 0 then
        bif ine x.snd 0 then some (irem IntKind.i64 (iadd IntKind.i64 (irem IntKind.i64 x.fst x.snd) x.snd) x.snd)
        else none
      else none

def spec_Hash.s0 (k : Nat) (d0 : Dl1Cur) : Option (Dl1Cur ⊕ Int) :=
    bif ilt d0.snd.snd (llen d0.fst) then
    bif idxOk d0.snd.snd (llen d0.fst) then
      obind (spec_Mod.f k (lget (Ty.int IntKind.i64) d0.fst d0.snd.snd, 2147483647)) fun v1 =>
        bif ine 2147483647 0 then
          some
            (Sum.inl
              (d0.fst,
                irem IntKind.i64 (iadd IntKind.i64 (iadd IntKind.i64 (imul IntKind.i64 d0.snd.fst 1000003) v1) 13)
                  2147483647,
                iadd IntKind.i64 d0.snd.snd 1))
        else none
    else none
  else some (Sum.inr d0.snd.fst)
def spec_Hash.f (k : Nat) (x : List Int) : Option Int :=
    obind (loopN (spec_Hash.s0 k) k (x, 11, 0)) fun v2 => some v2

def spec_KeyedHash.f (k : Nat) (x : DNumberedPacket) : Option Int :=
    bif appOk [x.fst] x.snd 8 then
    bif appOk (lcat [x.fst] x.snd) [x.fst] 8 then
      obind (spec_Hash.f k (lcat (lcat [x.fst] x.snd) [x.fst])) fun v0 => some v0
    else none
  else none

def spec_RendezvousWeight.f (k : Nat) (x : DSubscriberID) : Option Int :=
    obind (spec_KeyedHash.f k (17, [x.fst, x.snd])) fun v0 =>
    bif ine 2147483647 0 then some (irem IntKind.i64 (imul IntKind.i64 v0 v0) 2147483647) else none

def spec_SelectServer.s0 (k : Nat) (d0 : DQuota × DSubscriberID) : Option (DQuota × DSubscriberID ⊕ Int) :=
    bif bif ilt d0.fst.snd.snd d0.snd.fst then ilt d0.fst.snd.snd 6 else false then
    obind (spec_IsServerUp.f k (d0.snd, d0.fst.snd.snd)) fun v1 =>
      obind
        (bif dand v1 (dnot (ilt d0.fst.snd.fst 0)) then spec_RendezvousWeight.f k (d0.fst.snd.snd, d0.fst.fst)
        else some 0)
        fun v2 =>
        obind
          (bif dand v1 (dnot (ilt d0.fst.snd.fst 0)) then spec_RendezvousWeight.f k (d0.fst.snd.fst, d0.fst.fst)
          else some 0)
          fun v3 =>
          bif bif v1 then bif ilt d0.fst.snd.fst 0 then true else ilt v3 v2 else false then
            some (Sum.inl ((d0.fst.fst, d0.fst.snd.snd, iadd IntKind.i64 d0.fst.snd.snd 1), d0.snd))
          else some (Sum.inl ((d0.fst.fst, d0.fst.snd.fst, iadd IntKind.i64 d0.fst.snd.snd 1), d0.snd))
  else some (Sum.inr d0.fst.snd.fst)
def spec_SelectServer.f (k : Nat) (x : DSubscriberID × Int) : Option Int :=
    obind (loopN (spec_SelectServer.s0 k) k ((x.snd, -1, 0), x.fst)) fun v4 => some v4

def spec_ServerFor.f (k : Nat) (x : DNetwork × Int) : Option Int :=
    obind (spec_SelectServer.f k (x.fst.snd.snd.snd.snd.snd.snd.fst, x.snd)) fun v0 => some v0

def laws_toIntS.s0  (d0 : (List Int × Int) × List Int) : Option ((List Int × Int) × List Int ⊕ List Int) :=
    bif ilt d0.fst.snd (llen d0.fst.fst) then
    bif idxOk d0.fst.snd (llen d0.fst.fst) then
      bif idxOk d0.fst.snd (llen d0.snd) then
        some
          (Sum.inl
            ((d0.fst.fst, iadd IntKind.i64 d0.fst.snd 1),
              lset d0.snd d0.fst.snd (lget (Ty.int IntKind.i64) d0.fst.fst d0.fst.snd)))
      else none
    else none
  else some (Sum.inr d0.snd)
def laws_toIntS.f (k : Nat) (x : List Int) : Option (List Int) :=
    bif makeOk (llen x) (llen x) 8 then
    obind (loopN laws_toIntS.s0 k ((x, 0), lrep (Ty.int IntKind.i64) (llen x))) fun v1 => some v1
  else none

def laws_toCell.f (k : Nat) (x : DNumberedPacket) : Option DNumberedPacket :=
    obind (laws_toIntS.f k x.snd) fun v0 => some (x.fst, v0)

def laws_toCellS.s0 (k : Nat) (d0 : (List DNumberedPacket × Int) × List DNumberedPacket) : Option ((List DNumberedPacket × Int) × List DNumberedPacket ⊕ List DNumberedPacket) :=
    bif ilt d0.fst.snd (llen d0.fst.fst) then
    bif idxOk d0.fst.snd (llen d0.fst.fst) then
      obind (laws_toCell.f k (lget TCell d0.fst.fst d0.fst.snd)) fun v1 =>
        bif idxOk d0.fst.snd (llen d0.snd) then
          some (Sum.inl ((d0.fst.fst, iadd IntKind.i64 d0.fst.snd 1), lset d0.snd d0.fst.snd v1))
        else none
    else none
  else some (Sum.inr d0.snd)
def laws_toCellS.f (k : Nat) (x : List DNumberedPacket) : Option (List DNumberedPacket) :=
    bif makeOk (llen x) (llen x) 32 then obind (loopN (laws_toCellS.s0 k) k ((x, 0), lrep TCell (llen x))) fun v2 => some v2
  else none

def laws_toCellMap.f (k : Nat) (x : List DNumberedPacket) : Option (List DNumberedPacket) :=
    obind (laws_toCellS.f k x) fun v0 => some v0

def laws_toSubscriberID.f (k : Nat) (x : DSubscriberID) : Option DSubscriberID :=
    some x

def laws_toUSIM.f (k : Nat) (x : DUSIM) : Option DUSIM :=
    obind (laws_toSubscriberID.f k x.fst) fun v0 => some (v0, x.snd)

def laws_toByteS.s0  (d0 : (List Int × Int) × List Int) : Option ((List Int × Int) × List Int ⊕ List Int) :=
    bif ilt d0.fst.snd (llen d0.fst.fst) then
    bif idxOk d0.fst.snd (llen d0.fst.fst) then
      bif idxOk d0.fst.snd (llen d0.snd) then
        some
          (Sum.inl
            ((d0.fst.fst, iadd IntKind.i64 d0.fst.snd 1),
              lset d0.snd d0.fst.snd (lget (Ty.int IntKind.u8) d0.fst.fst d0.fst.snd)))
      else none
    else none
  else some (Sum.inr d0.snd)
def laws_toByteS.f (k : Nat) (x : List Int) : Option (List Int) :=
    bif makeOk (llen x) (llen x) 1 then
    obind (loopN laws_toByteS.s0 k ((x, 0), lrep (Ty.int IntKind.u8) (llen x))) fun v1 => some v1
  else none

def laws_toPayload.f (k : Nat) (x : List Int) : Option (List Int) :=
    obind (laws_toByteS.f k x) fun v0 => some v0

def laws_toPayloadS.s0 (k : Nat) (d0 : (List (List Int) × Int) × List (List Int)) : Option ((List (List Int) × Int) × List (List Int) ⊕ List (List Int)) :=
    bif ilt d0.fst.snd (llen d0.fst.fst) then
    bif idxOk d0.fst.snd (llen d0.fst.fst) then
      obind (laws_toPayload.f k (lget (Ty.sl (Ty.int IntKind.u8)) d0.fst.fst d0.fst.snd)) fun v1 =>
        bif idxOk d0.fst.snd (llen d0.snd) then
          some (Sum.inl ((d0.fst.fst, iadd IntKind.i64 d0.fst.snd 1), lset d0.snd d0.fst.snd v1))
        else none
    else none
  else some (Sum.inr d0.snd)
def laws_toPayloadS.f (k : Nat) (x : List (List Int)) : Option (List (List Int)) :=
    bif makeOk (llen x) (llen x) 24 then
    obind (loopN (laws_toPayloadS.s0 k) k ((x, 0), lrep (Ty.sl (Ty.int IntKind.u8)) (llen x))) fun v2 => some v2
  else none

def laws_toNumberedPacket.f (k : Nat) (x : DNumberedPacket) : Option DNumberedPacket :=
    obind (laws_toByteS.f k x.snd) fun v0 => some (x.fst, v0)

def laws_toNumberedPacketS.s0 (k : Nat) (d0 : (List DNumberedPacket × Int) × List DNumberedPacket) : Option ((List DNumberedPacket × Int) × List DNumberedPacket ⊕ List DNumberedPacket) :=
    bif ilt d0.fst.snd (llen d0.fst.fst) then
    bif idxOk d0.fst.snd (llen d0.fst.fst) then
      obind (laws_toNumberedPacket.f k (lget TNumberedPacket d0.fst.fst d0.fst.snd)) fun v1 =>
        bif idxOk d0.fst.snd (llen d0.snd) then
          some (Sum.inl ((d0.fst.fst, iadd IntKind.i64 d0.fst.snd 1), lset d0.snd d0.fst.snd v1))
        else none
    else none
  else some (Sum.inr d0.snd)
def laws_toNumberedPacketS.f (k : Nat) (x : List DNumberedPacket) : Option (List DNumberedPacket) :=
    bif makeOk (llen x) (llen x) 32 then
    obind (loopN (laws_toNumberedPacketS.s0 k) k ((x, 0), lrep TNumberedPacket (llen x))) fun v2 => some v2
  else none

def laws_toReceiveWindow.f (k : Nat) (x : DReceiveWindow) : Option DReceiveWindow :=
    obind (laws_toNumberedPacketS.f k x.snd.fst) fun v0 =>
    obind (laws_toPayloadS.f k x.snd.snd) fun v1 => some (x.fst, v0, v1)

def laws_toDevice.f (k : Nat) (x : DDevice) : Option DDevice :=
    obind (laws_toUSIM.f k x.fst) fun v0 =>
    obind (laws_toReceiveWindow.f k x.snd.snd.snd.snd.snd.snd.snd.snd) fun v1 =>
      some
        (v0, x.snd.fst, x.snd.snd.fst, x.snd.snd.snd.fst, x.snd.snd.snd.snd.fst, x.snd.snd.snd.snd.snd.fst,
          x.snd.snd.snd.snd.snd.snd.fst, x.snd.snd.snd.snd.snd.snd.snd.fst, v1)

def laws_toDeviceS.s0 (k : Nat) (d0 : (List DDevice × Int) × List DDevice) : Option ((List DDevice × Int) × List DDevice ⊕ List DDevice) :=
    bif ilt d0.fst.snd (llen d0.fst.fst) then
    bif idxOk d0.fst.snd (llen d0.fst.fst) then
      obind (laws_toDevice.f k (lget TDevice d0.fst.fst d0.fst.snd)) fun v1 =>
        bif idxOk d0.fst.snd (llen d0.snd) then
          some (Sum.inl ((d0.fst.fst, iadd IntKind.i64 d0.fst.snd 1), lset d0.snd d0.fst.snd v1))
        else none
    else none
  else some (Sum.inr d0.snd)
def laws_toDeviceS.f (k : Nat) (x : List DDevice) : Option (List DDevice) :=
    bif makeOk (llen x) (llen x) 144 then
    obind (loopN (laws_toDeviceS.s0 k) k ((x, 0), lrep TDevice (llen x))) fun v2 => some v2
  else none

def laws_toSubscriberRecord.f (k : Nat) (x : DUSIM) : Option DUSIM :=
    obind (laws_toSubscriberID.f k x.fst) fun v0 => some (v0, x.snd)

def laws_toSubscription.f (k : Nat) (x : DSubscription) : Option DSubscription :=
    obind (laws_toIntS.f k x.snd.snd.snd) fun v0 => some (x.fst, x.snd.fst, x.snd.snd.fst, v0)

def laws_toAuthVector.f (k : Nat) (x : DAuthVector) : Option DAuthVector :=
    some x

def laws_toPagingState.f (k : Nat) (x : DQuota) : Option DQuota :=
    some x

def laws_toSendWindow.f (k : Nat) (x : DSendWindow) : Option DSendWindow :=
    obind (laws_toNumberedPacketS.f k x.snd) fun v0 => some (x.fst, v0)

def laws_toQuota.f (k : Nat) (x : DQuota) : Option DQuota :=
    some x

def laws_toSession.f (k : Nat) (x : DSession) : Option DSession :=
    obind (laws_toSubscriberRecord.f k x.fst) fun v0 =>
    obind (laws_toSubscription.f k x.snd.fst) fun v1 =>
      obind (laws_toAuthVector.f k x.snd.snd.snd.fst) fun v2 =>
        obind (laws_toPagingState.f k x.snd.snd.snd.snd.snd.snd.snd.snd.snd.snd.fst) fun v3 =>
          obind (laws_toPayloadS.f k x.snd.snd.snd.snd.snd.snd.snd.snd.snd.snd.snd.fst) fun v4 =>
            obind (laws_toSendWindow.f k x.snd.snd.snd.snd.snd.snd.snd.snd.snd.snd.snd.snd.fst) fun v5 =>
              obind (laws_toQuota.f k x.snd.snd.snd.snd.snd.snd.snd.snd.snd.snd.snd.snd.snd.snd) fun v6 =>
                some
                  (v0, v1, x.snd.snd.fst, v2, x.snd.snd.snd.snd.fst, x.snd.snd.snd.snd.snd.fst,
                    x.snd.snd.snd.snd.snd.snd.fst, x.snd.snd.snd.snd.snd.snd.snd.fst,
                    x.snd.snd.snd.snd.snd.snd.snd.snd.fst, x.snd.snd.snd.snd.snd.snd.snd.snd.snd.fst, v3, v4, v5,
                    x.snd.snd.snd.snd.snd.snd.snd.snd.snd.snd.snd.snd.snd.fst, v6)

def laws_toSessionS.s0 (k : Nat) (d0 : (List DSession × Int) × List DSession) : Option ((List DSession × Int) × List DSession ⊕ List DSession) :=
    bif ilt d0.fst.snd (llen d0.fst.fst) then
    bif idxOk d0.fst.snd (llen d0.fst.fst) then
      obind (laws_toSession.f k (lget TSession d0.fst.fst d0.fst.snd)) fun v1 =>
        bif idxOk d0.fst.snd (llen d0.snd) then
          some (Sum.inl ((d0.fst.fst, iadd IntKind.i64 d0.fst.snd 1), lset d0.snd d0.fst.snd v1))
        else none
    else none
  else some (Sum.inr d0.snd)
def laws_toSessionS.f (k : Nat) (x : List DSession) : Option (List DSession) :=
    bif makeOk (llen x) (llen x) 288 then
    obind (loopN (laws_toSessionS.s0 k) k ((x, 0), lrep TSession (llen x))) fun v2 => some v2
  else none

def laws_toReservation.f (k : Nat) (x : DSubscriberID) : Option DSubscriberID :=
    some x

def laws_toReservationS.s0 (k : Nat) (d0 : (List DSubscriberID × Int) × List DSubscriberID) : Option ((List DSubscriberID × Int) × List DSubscriberID ⊕ List DSubscriberID) :=
    bif ilt d0.fst.snd (llen d0.fst.fst) then
    bif idxOk d0.fst.snd (llen d0.fst.fst) then
      obind (laws_toReservation.f k (lget TSubscriberID d0.fst.fst d0.fst.snd)) fun v1 =>
        bif idxOk d0.fst.snd (llen d0.snd) then
          some (Sum.inl ((d0.fst.fst, iadd IntKind.i64 d0.fst.snd 1), lset d0.snd d0.fst.snd v1))
        else none
    else none
  else some (Sum.inr d0.snd)
def laws_toReservationS.f (k : Nat) (x : List DSubscriberID) : Option (List DSubscriberID) :=
    bif makeOk (llen x) (llen x) 16 then
    obind (loopN (laws_toReservationS.s0 k) k ((x, 0), lrep TSubscriberID (llen x))) fun v2 => some v2
  else none

def laws_toAccount.f (k : Nat) (x : DAccount) : Option DAccount :=
    obind (laws_toReservationS.f k x.snd.snd.snd) fun v0 => some (x.fst, x.snd.fst, x.snd.snd.fst, v0)

def laws_toAccountS.s0 (k : Nat) (d0 : (List DAccount × Int) × List DAccount) : Option ((List DAccount × Int) × List DAccount ⊕ List DAccount) :=
    bif ilt d0.fst.snd (llen d0.fst.fst) then
    bif idxOk d0.fst.snd (llen d0.fst.fst) then
      obind (laws_toAccount.f k (lget TAccount d0.fst.fst d0.fst.snd)) fun v1 =>
        bif idxOk d0.fst.snd (llen d0.snd) then
          some (Sum.inl ((d0.fst.fst, iadd IntKind.i64 d0.fst.snd 1), lset d0.snd d0.fst.snd v1))
        else none
    else none
  else some (Sum.inr d0.snd)
def laws_toAccountS.f (k : Nat) (x : List DAccount) : Option (List DAccount) :=
    bif makeOk (llen x) (llen x) 48 then
    obind (loopN (laws_toAccountS.s0 k) k ((x, 0), lrep TAccount (llen x))) fun v2 => some v2
  else none

def laws_toSignal.f (k : Nat) (x : DSignal) : Option DSignal :=
    obind (laws_toAuthVector.f k x.snd.snd.snd.snd.snd.fst) fun v0 =>
    some (x.fst, x.snd.fst, x.snd.snd.fst, x.snd.snd.snd.fst, x.snd.snd.snd.snd.fst, v0, x.snd.snd.snd.snd.snd.snd)

def laws_toSecuredMessage.f (k : Nat) (x : DSecuredMessage) : Option DSecuredMessage :=
    obind (laws_toByteS.f k x.snd.snd.fst) fun v0 => some (x.fst, x.snd.fst, v0, x.snd.snd.snd)

def laws_toRadioPacket.f (k : Nat) (x : DRadioPacket) : Option DRadioPacket :=
    obind (laws_toSecuredMessage.f k x.snd.snd) fun v0 => some (x.fst, x.snd.fst, v0)

def laws_toFlight.f (k : Nat) (x : DFlight) : Option DFlight :=
    obind (laws_toSignal.f k x.snd.snd.snd.snd.fst) fun v0 =>
    obind (laws_toRadioPacket.f k x.snd.snd.snd.snd.snd) fun v1 =>
      some (x.fst, x.snd.fst, x.snd.snd.fst, x.snd.snd.snd.fst, v0, v1)

def laws_toFlightS.s0 (k : Nat) (d0 : (List DFlight × Int) × List DFlight) : Option ((List DFlight × Int) × List DFlight ⊕ List DFlight) :=
    bif ilt d0.fst.snd (llen d0.fst.fst) then
    bif idxOk d0.fst.snd (llen d0.fst.fst) then
      obind (laws_toFlight.f k (lget TFlight d0.fst.fst d0.fst.snd)) fun v1 =>
        bif idxOk d0.fst.snd (llen d0.snd) then
          some (Sum.inl ((d0.fst.fst, iadd IntKind.i64 d0.fst.snd 1), lset d0.snd d0.fst.snd v1))
        else none
    else none
  else some (Sum.inr d0.snd)
def laws_toFlightS.f (k : Nat) (x : List DFlight) : Option (List DFlight) :=
    bif makeOk (llen x) (llen x) 176 then
    obind (loopN (laws_toFlightS.s0 k) k ((x, 0), lrep TFlight (llen x))) fun v2 => some v2
  else none

def laws_toServerPool.f (k : Nat) (x : DSubscriberID) : Option DSubscriberID :=
    some x

def laws_toNetwork.f (k : Nat) (x : DNetwork) : Option DNetwork :=
    obind (laws_toCellMap.f k x.fst) fun v0 =>
    obind (laws_toDeviceS.f k x.snd.fst) fun v1 =>
      obind (laws_toSessionS.f k x.snd.snd.fst) fun v2 =>
        obind (laws_toAccountS.f k x.snd.snd.snd.fst) fun v3 =>
          obind (laws_toFlightS.f k x.snd.snd.snd.snd.fst) fun v4 =>
            obind (laws_toServerPool.f k x.snd.snd.snd.snd.snd.snd.fst) fun v5 =>
              some (v0, v1, v2, v3, v4, x.snd.snd.snd.snd.snd.fst, v5, x.snd.snd.snd.snd.snd.snd.snd)

def impl_InRange.f (k : Nat) (x : DQuota) : Option Bool :=
    some (bif ile x.snd.fst x.fst then ile x.fst x.snd.snd else false)

def impl_IsValidPool.f (k : Nat) (x : DSubscriberID) : Option Bool :=
    obind (impl_InRange.f k (x.fst, 1, 6)) fun v0 =>
    bif bif ile 0 x.fst then true else dnot v0 then
      obind (bif v0 then impl_InRange.f k (x.snd, 0, isub IntKind.i64 (ishl IntKind.i64 1 x.fst) 1) else some false)
        fun v1 => some (bif v0 then v1 else false)
    else none

def impl_IsServerUp.f (k : Nat) (x : DSubscriberID × Int) : Option Bool :=
    obind (impl_IsValidPool.f k x.fst) fun v0 =>
    obind (bif v0 then impl_InRange.f k (x.snd, 0, isub IntKind.i64 x.fst.fst 1) else some false) fun v1 =>
      bif bif ile 0 x.snd then true else dnot (bif v0 then v1 else false) then
        some (bif bif v0 then v1 else false then ieq (iand IntKind.i64 (ishr IntKind.i64 x.fst.snd x.snd) 1) 1 else false)
      else none

def impl_Mod.f (k : Nat) (x : DSubscriberID) : Option Int :=
    obind (impl_InRange.f k (x.snd, 1, 1000000000000)) fun v0 =>
    bif dnot v0 then some 0
    else
      bif ine x.snd 0 then
        bif ilt (irem IntKind.i64 x.fst x.snd) 0 then some (iadd IntKind.i64 (irem IntKind.i64 x.fst x.snd) x.snd)
        else some (irem IntKind.i64 x.fst x.snd)
      else none

def impl_hashStep.f (k : Nat) (x : DSubscriberID) : Option Int :=
    obind (impl_Mod.f k (x.snd, 2147483647)) fun v0 =>
    bif ine 2147483647 0 then
      some (irem IntKind.i64 (iadd IntKind.i64 (iadd IntKind.i64 (imul IntKind.i64 x.fst 1000003) v0) 13) 2147483647)
    else none

def impl_KeyedHash.s0 (k : Nat) (d1 : Int × Int × Dl1Cur) : Option (Int × Int × Dl1Cur ⊕ DSubscriberID) :=
    bif ilt d1.snd.snd.snd.snd d1.snd.snd.snd.fst then
    bif idxOk d1.snd.snd.snd.snd (llen d1.snd.snd.fst) then
      obind (impl_hashStep.f k (d1.snd.fst, lget (Ty.int IntKind.i64) d1.snd.snd.fst d1.snd.snd.snd.snd)) fun v2 =>
        some (Sum.inl (d1.fst, v2, d1.snd.snd.fst, d1.snd.snd.snd.fst, iadd IntKind.i64 d1.snd.snd.snd.snd 1))
    else none
  else some (Sum.inr (d1.fst, d1.snd.fst))
def impl_KeyedHash.f (k : Nat) (x : DNumberedPacket) : Option Int :=
    obind (impl_hashStep.f k (11, x.fst)) fun v0 =>
    obind (loopN (impl_KeyedHash.s0 k) k (x.fst, v0, x.snd, llen x.snd, 0)) fun v3 =>
      obind (impl_hashStep.f k (v3.snd, v3.fst)) fun v4 => some v4

def impl_RendezvousWeight.f (k : Nat) (x : DSubscriberID) : Option Int :=
    obind (impl_KeyedHash.f k (17, [x.fst, x.snd])) fun v0 =>
    bif ine 2147483647 0 then some (irem IntKind.i64 (imul IntKind.i64 v0 v0) 2147483647) else none

def impl_SelectServer.s0 (k : Nat) (d1 : DAuthResponse × DSubscriberID) : Option (DAuthResponse × DSubscriberID ⊕ Int) :=
    bif ilt d1.fst.snd.snd.snd d1.snd.fst then
    obind (impl_IsServerUp.f k (d1.snd, d1.fst.snd.snd.snd)) fun v2 =>
      bif dnot v2 then
        some (Sum.inl ((d1.fst.fst, d1.fst.snd.fst, d1.fst.snd.snd.fst, iadd IntKind.i64 d1.fst.snd.snd.snd 1), d1.snd))
      else
        obind (impl_RendezvousWeight.f k (d1.fst.snd.snd.snd, d1.fst.fst)) fun v3 =>
          bif ilt d1.fst.snd.snd.fst v3 then
            some (Sum.inl ((d1.fst.fst, d1.fst.snd.snd.snd, v3, iadd IntKind.i64 d1.fst.snd.snd.snd 1), d1.snd))
          else
            some
              (Sum.inl ((d1.fst.fst, d1.fst.snd.fst, d1.fst.snd.snd.fst, iadd IntKind.i64 d1.fst.snd.snd.snd 1), d1.snd))
  else some (Sum.inr d1.fst.snd.fst)
def impl_SelectServer.f (k : Nat) (x : DSubscriberID × Int) : Option Int :=
    obind (impl_IsValidPool.f k x.fst) fun v0 =>
    bif dnot v0 then some (-1) else obind (loopN (impl_SelectServer.s0 k) k ((x.snd, -1, -1, 0), x.fst)) fun v4 => some v4

def impl_ServerFor.f (k : Nat) (x : DNetwork × Int) : Option Int :=
    obind (impl_SelectServer.f k (x.fst.snd.snd.snd.snd.snd.snd.fst, x.snd)) fun v0 => some v0

def laws_eqIntS.s0  (d0 : List Int × List Int × Int) : Option (List Int × List Int × Int ⊕ Unit ⊕ Bool) :=
    bif ilt d0.snd.snd (llen d0.fst) then
    bif idxOk d0.snd.snd (llen d0.fst) then
      bif idxOk d0.snd.snd (llen d0.snd.fst) then
        bif ine (lget (Ty.int IntKind.i64) d0.fst d0.snd.snd) (lget (Ty.int IntKind.i64) d0.snd.fst d0.snd.snd) then
          some (Sum.inr (Sum.inr false))
        else some (Sum.inl (d0.fst, d0.snd.fst, iadd IntKind.i64 d0.snd.snd 1))
      else none
    else none
  else some (Sum.inr (Sum.inl ()))
def laws_eqIntS.f (k : Nat) (x : List Int × List Int) : Option Bool :=
    bif ine (llen x.fst) (llen x.snd) then some false
  else obind (loopN laws_eqIntS.s0 k (x.fst, x.snd, 0)) fun v1 => selim (fun v2 => some true) (fun v3 => some v3) v1

def laws_eqCell.f (k : Nat) (x : DNumberedPacket × DNumberedPacket) : Option Bool :=
    bif ine x.fst.fst x.snd.fst then some false
  else obind (laws_eqIntS.f k (x.fst.snd, x.snd.snd)) fun v0 => bif dnot v0 then some false else some true

def laws_eqCellS.s0 (k : Nat) (d0 : List DNumberedPacket × List DNumberedPacket × Int) : Option (List DNumberedPacket × List DNumberedPacket × Int ⊕ Unit ⊕ Bool) :=
    bif ilt d0.snd.snd (llen d0.fst) then
    bif idxOk d0.snd.snd (llen d0.fst) then
      bif idxOk d0.snd.snd (llen d0.snd.fst) then
        obind (laws_eqCell.f k (lget TCell d0.fst d0.snd.snd, lget TCell d0.snd.fst d0.snd.snd)) fun v1 =>
          bif dnot v1 then some (Sum.inr (Sum.inr false))
          else some (Sum.inl (d0.fst, d0.snd.fst, iadd IntKind.i64 d0.snd.snd 1))
      else none
    else none
  else some (Sum.inr (Sum.inl ()))
def laws_eqCellS.f (k : Nat) (x : List DNumberedPacket × List DNumberedPacket) : Option Bool :=
    bif ine (llen x.fst) (llen x.snd) then some false
  else obind (loopN (laws_eqCellS.s0 k) k (x.fst, x.snd, 0)) fun v2 => selim (fun v3 => some true) (fun v4 => some v4) v2

def laws_eqCellMap.f (k : Nat) (x : List DNumberedPacket × List DNumberedPacket) : Option Bool :=
    obind (laws_eqCellS.f k x) fun v0 => bif dnot v0 then some false else some true

def laws_eqSubscriberID.f (k : Nat) (x : DUSIM) : Option Bool :=
    bif ine x.fst.fst x.snd.fst then some false else bif ine x.fst.snd x.snd.snd then some false else some true

def laws_eqUSIM.f (k : Nat) (x : DUSIM × DUSIM) : Option Bool :=
    obind (laws_eqSubscriberID.f k (x.fst.fst, x.snd.fst)) fun v0 =>
    bif dnot v0 then some false
    else
      bif ine x.fst.snd.fst x.snd.snd.fst then some false
      else bif ine x.fst.snd.snd x.snd.snd.snd then some false else some true

def laws_eqByteS.s0  (d0 : List Int × List Int × Int) : Option (List Int × List Int × Int ⊕ Unit ⊕ Bool) :=
    bif ilt d0.snd.snd (llen d0.fst) then
    bif idxOk d0.snd.snd (llen d0.fst) then
      bif idxOk d0.snd.snd (llen d0.snd.fst) then
        bif ine (lget (Ty.int IntKind.u8) d0.fst d0.snd.snd) (lget (Ty.int IntKind.u8) d0.snd.fst d0.snd.snd) then
          some (Sum.inr (Sum.inr false))
        else some (Sum.inl (d0.fst, d0.snd.fst, iadd IntKind.i64 d0.snd.snd 1))
      else none
    else none
  else some (Sum.inr (Sum.inl ()))
def laws_eqByteS.f (k : Nat) (x : List Int × List Int) : Option Bool :=
    bif ine (llen x.fst) (llen x.snd) then some false
  else obind (loopN laws_eqByteS.s0 k (x.fst, x.snd, 0)) fun v1 => selim (fun v2 => some true) (fun v3 => some v3) v1

def laws_eqPayload.f (k : Nat) (x : List Int × List Int) : Option Bool :=
    obind (laws_eqByteS.f k x) fun v0 => bif dnot v0 then some false else some true

def laws_eqPayloadS.s0 (k : Nat) (d0 : List (List Int) × List (List Int) × Int) : Option (List (List Int) × List (List Int) × Int ⊕ Unit ⊕ Bool) :=
    bif ilt d0.snd.snd (llen d0.fst) then
    bif idxOk d0.snd.snd (llen d0.fst) then
      bif idxOk d0.snd.snd (llen d0.snd.fst) then
        obind
          (laws_eqPayload.f k
            (lget (Ty.sl (Ty.int IntKind.u8)) d0.fst d0.snd.snd, lget (Ty.sl (Ty.int IntKind.u8)) d0.snd.fst d0.snd.snd))
          fun v1 =>
          bif dnot v1 then some (Sum.inr (Sum.inr false))
          else some (Sum.inl (d0.fst, d0.snd.fst, iadd IntKind.i64 d0.snd.snd 1))
      else none
    else none
  else some (Sum.inr (Sum.inl ()))
def laws_eqPayloadS.f (k : Nat) (x : List (List Int) × List (List Int)) : Option Bool :=
    bif ine (llen x.fst) (llen x.snd) then some false
  else
    obind (loopN (laws_eqPayloadS.s0 k) k (x.fst, x.snd, 0)) fun v2 => selim (fun v3 => some true) (fun v4 => some v4) v2

def laws_eqNumberedPacket.f (k : Nat) (x : DNumberedPacket × DNumberedPacket) : Option Bool :=
    bif ine x.fst.fst x.snd.fst then some false
  else obind (laws_eqByteS.f k (x.fst.snd, x.snd.snd)) fun v0 => bif dnot v0 then some false else some true

def laws_eqNumberedPacketS.s0 (k : Nat) (d0 : List DNumberedPacket × List DNumberedPacket × Int) : Option (List DNumberedPacket × List DNumberedPacket × Int ⊕ Unit ⊕ Bool) :=
    bif ilt d0.snd.snd (llen d0.fst) then
    bif idxOk d0.snd.snd (llen d0.fst) then
      bif idxOk d0.snd.snd (llen d0.snd.fst) then
        obind
          (laws_eqNumberedPacket.f k (lget TNumberedPacket d0.fst d0.snd.snd, lget TNumberedPacket d0.snd.fst d0.snd.snd))
          fun v1 =>
          bif dnot v1 then some (Sum.inr (Sum.inr false))
          else some (Sum.inl (d0.fst, d0.snd.fst, iadd IntKind.i64 d0.snd.snd 1))
      else none
    else none
  else some (Sum.inr (Sum.inl ()))
def laws_eqNumberedPacketS.f (k : Nat) (x : List DNumberedPacket × List DNumberedPacket) : Option Bool :=
    bif ine (llen x.fst) (llen x.snd) then some false
  else
    obind (loopN (laws_eqNumberedPacketS.s0 k) k (x.fst, x.snd, 0)) fun v2 =>
      selim (fun v3 => some true) (fun v4 => some v4) v2

def laws_eqReceiveWindow.f (k : Nat) (x : DReceiveWindow × DReceiveWindow) : Option Bool :=
    bif ine x.fst.fst x.snd.fst then some false
  else
    obind (laws_eqNumberedPacketS.f k (x.fst.snd.fst, x.snd.snd.fst)) fun v0 =>
      bif dnot v0 then some false
      else obind (laws_eqPayloadS.f k (x.fst.snd.snd, x.snd.snd.snd)) fun v1 => bif dnot v1 then some false else some true

def laws_eqDevice.f (k : Nat) (x : DDevice × DDevice) : Option Bool :=
    obind (laws_eqUSIM.f k (x.fst.fst, x.snd.fst)) fun v0 =>
    bif dnot v0 then some false
    else
      bif ine x.fst.snd.fst x.snd.snd.fst then some false
      else
        bif ine x.fst.snd.snd.fst x.snd.snd.snd.fst then some false
        else
          bif ine x.fst.snd.snd.snd.fst x.snd.snd.snd.snd.fst then some false
          else
            bif ine x.fst.snd.snd.snd.snd.fst x.snd.snd.snd.snd.snd.fst then some false
            else
              bif ine x.fst.snd.snd.snd.snd.snd.fst x.snd.snd.snd.snd.snd.snd.fst then some false
              else
                bif bne' x.fst.snd.snd.snd.snd.snd.snd.fst x.snd.snd.snd.snd.snd.snd.snd.fst then some false
                else
                  bif ine x.fst.snd.snd.snd.snd.snd.snd.snd.fst x.snd.snd.snd.snd.snd.snd.snd.snd.fst then some false
                  else
                    obind
                      (laws_eqReceiveWindow.f k
                        (x.fst.snd.snd.snd.snd.snd.snd.snd.snd, x.snd.snd.snd.snd.snd.snd.snd.snd.snd))
                      fun v1 => bif dnot v1 then some false else some true

def laws_eqDeviceS.s0 (k : Nat) (d0 : List DDevice × List DDevice × Int) : Option (List DDevice × List DDevice × Int ⊕ Unit ⊕ Bool) :=
    bif ilt d0.snd.snd (llen d0.fst) then
    bif idxOk d0.snd.snd (llen d0.fst) then
      bif idxOk d0.snd.snd (llen d0.snd.fst) then
        obind (laws_eqDevice.f k (lget TDevice d0.fst d0.snd.snd, lget TDevice d0.snd.fst d0.snd.snd)) fun v1 =>
          bif dnot v1 then some (Sum.inr (Sum.inr false))
          else some (Sum.inl (d0.fst, d0.snd.fst, iadd IntKind.i64 d0.snd.snd 1))
      else none
    else none
  else some (Sum.inr (Sum.inl ()))
def laws_eqDeviceS.f (k : Nat) (x : List DDevice × List DDevice) : Option Bool :=
    bif ine (llen x.fst) (llen x.snd) then some false
  else
    obind (loopN (laws_eqDeviceS.s0 k) k (x.fst, x.snd, 0)) fun v2 => selim (fun v3 => some true) (fun v4 => some v4) v2

def laws_eqSubscriberRecord.f (k : Nat) (x : DUSIM × DUSIM) : Option Bool :=
    obind (laws_eqSubscriberID.f k (x.fst.fst, x.snd.fst)) fun v0 =>
    bif dnot v0 then some false
    else
      bif ine x.fst.snd.fst x.snd.snd.fst then some false
      else bif ine x.fst.snd.snd x.snd.snd.snd then some false else some true

def laws_eqSubscription.f (k : Nat) (x : DSubscription × DSubscription) : Option Bool :=
    bif ine x.fst.fst x.snd.fst then some false
  else
    bif ine x.fst.snd.fst x.snd.snd.fst then some false
    else
      bif ine x.fst.snd.snd.fst x.snd.snd.snd.fst then some false
      else
        obind (laws_eqIntS.f k (x.fst.snd.snd.snd, x.snd.snd.snd.snd)) fun v0 =>
          bif dnot v0 then some false else some true

def laws_eqAuthVector.f (k : Nat) (x : DAuthVector × DAuthVector) : Option Bool :=
    bif ine x.fst.fst x.snd.fst then some false
  else
    bif ine x.fst.snd.fst x.snd.snd.fst then some false
    else
      bif ine x.fst.snd.snd.fst x.snd.snd.snd.fst then some false
      else
        bif ine x.fst.snd.snd.snd.fst x.snd.snd.snd.snd.fst then some false
        else bif ine x.fst.snd.snd.snd.snd x.snd.snd.snd.snd.snd then some false else some true

def laws_eqPagingState.f (k : Nat) (x : DQuota × DQuota) : Option Bool :=
    bif ine x.fst.fst x.snd.fst then some false
  else
    bif ine x.fst.snd.fst x.snd.snd.fst then some false
    else bif ine x.fst.snd.snd x.snd.snd.snd then some false else some true

def laws_eqSendWindow.f (k : Nat) (x : DSendWindow × DSendWindow) : Option Bool :=
    bif ine x.fst.fst x.snd.fst then some false
  else obind (laws_eqNumberedPacketS.f k (x.fst.snd, x.snd.snd)) fun v0 => bif dnot v0 then some false else some true

def laws_eqQuota.f (k : Nat) (x : DQuota × DQuota) : Option Bool :=
    bif ine x.fst.fst x.snd.fst then some false
  else
    bif ine x.fst.snd.fst x.snd.snd.fst then some false
    else bif ine x.fst.snd.snd x.snd.snd.snd then some false else some true

def laws_eqSession.f (k : Nat) (x : DSession × DSession) : Option Bool :=
    obind (laws_eqSubscriberRecord.f k (x.fst.fst, x.snd.fst)) fun v0 =>
    bif dnot v0 then some false
    else
      obind (laws_eqSubscription.f k (x.fst.snd.fst, x.snd.snd.fst)) fun v1 =>
        bif dnot v1 then some false
        else
          bif ine x.fst.snd.snd.fst x.snd.snd.snd.fst then some false
          else
            obind (laws_eqAuthVector.f k (x.fst.snd.snd.snd.fst, x.snd.snd.snd.snd.fst)) fun v2 =>
              bif dnot v2 then some false
              else
                bif ine x.fst.snd.snd.snd.snd.fst x.snd.snd.snd.snd.snd.fst then some false
                else
                  bif ine x.fst.snd.snd.snd.snd.snd.fst x.snd.snd.snd.snd.snd.snd.fst then some false
                  else
                    bif ine x.fst.snd.snd.snd.snd.snd.snd.fst x.snd.snd.snd.snd.snd.snd.snd.fst then some false
                    else
                      bif ine x.fst.snd.snd.snd.snd.snd.snd.snd.fst x.snd.snd.snd.snd.snd.snd.snd.snd.fst then some false
                      else
                        bif ine x.fst.snd.snd.snd.snd.snd.snd.snd.snd.fst x.snd.snd.snd.snd.snd.snd.snd.snd.snd.fst then
                          some false
                        else
                          bif
                              ine x.fst.snd.snd.snd.snd.snd.snd.snd.snd.snd.fst
                                x.snd.snd.snd.snd.snd.snd.snd.snd.snd.snd.fst then
                            some false
                          else
                            obind
                              (laws_eqPagingState.f k
                                (x.fst.snd.snd.snd.snd.snd.snd.snd.snd.snd.snd.fst,
                                  x.snd.snd.snd.snd.snd.snd.snd.snd.snd.snd.snd.fst))
                              fun v3 =>
                              bif dnot v3 then some false
                              else
                                obind
                                  (laws_eqPayloadS.f k
                                    (x.fst.snd.snd.snd.snd.snd.snd.snd.snd.snd.snd.snd.fst,
                                      x.snd.snd.snd.snd.snd.snd.snd.snd.snd.snd.snd.snd.fst))
                                  fun v4 =>
                                  bif dnot v4 then some false
                                  else
                                    obind
                                      (laws_eqSendWindow.f k
                                        (x.fst.snd.snd.snd.snd.snd.snd.snd.snd.snd.snd.snd.snd.fst,
                                          x.snd.snd.snd.snd.snd.snd.snd.snd.snd.snd.snd.snd.snd.fst))
                                      fun v5 =>
                                      bif dnot v5 then some false
                                      else
                                        bif
                                            ine x.fst.snd.snd.snd.snd.snd.snd.snd.snd.snd.snd.snd.snd.snd.fst
                                              x.snd.snd.snd.snd.snd.snd.snd.snd.snd.snd.snd.snd.snd.snd.fst then
                                          some false
                                        else
                                          obind
                                            (laws_eqQuota.f k
                                              (x.fst.snd.snd.snd.snd.snd.snd.snd.snd.snd.snd.snd.snd.snd.snd,
                                                x.snd.snd.snd.snd.snd.snd.snd.snd.snd.snd.snd.snd.snd.snd.snd))
                                            fun v6 => bif dnot v6 then some false else some true

def laws_eqSessionS.s0 (k : Nat) (d0 : List DSession × List DSession × Int) : Option (List DSession × List DSession × Int ⊕ Unit ⊕ Bool) :=
    bif ilt d0.snd.snd (llen d0.fst) then
    bif idxOk d0.snd.snd (llen d0.fst) then
      bif idxOk d0.snd.snd (llen d0.snd.fst) then
        obind (laws_eqSession.f k (lget TSession d0.fst d0.snd.snd, lget TSession d0.snd.fst d0.snd.snd)) fun v1 =>
          bif dnot v1 then some (Sum.inr (Sum.inr false))
          else some (Sum.inl (d0.fst, d0.snd.fst, iadd IntKind.i64 d0.snd.snd 1))
      else none
    else none
  else some (Sum.inr (Sum.inl ()))
def laws_eqSessionS.f (k : Nat) (x : List DSession × List DSession) : Option Bool :=
    bif ine (llen x.fst) (llen x.snd) then some false
  else
    obind (loopN (laws_eqSessionS.s0 k) k (x.fst, x.snd, 0)) fun v2 => selim (fun v3 => some true) (fun v4 => some v4) v2

def laws_eqReservation.f (k : Nat) (x : DUSIM) : Option Bool :=
    bif ine x.fst.fst x.snd.fst then some false else bif ine x.fst.snd x.snd.snd then some false else some true

def laws_eqReservationS.s0 (k : Nat) (d0 : List DSubscriberID × List DSubscriberID × Int) : Option (List DSubscriberID × List DSubscriberID × Int ⊕ Unit ⊕ Bool) :=
    bif ilt d0.snd.snd (llen d0.fst) then
    bif idxOk d0.snd.snd (llen d0.fst) then
      bif idxOk d0.snd.snd (llen d0.snd.fst) then
        obind (laws_eqReservation.f k (lget TSubscriberID d0.fst d0.snd.snd, lget TSubscriberID d0.snd.fst d0.snd.snd))
          fun v1 =>
          bif dnot v1 then some (Sum.inr (Sum.inr false))
          else some (Sum.inl (d0.fst, d0.snd.fst, iadd IntKind.i64 d0.snd.snd 1))
      else none
    else none
  else some (Sum.inr (Sum.inl ()))
def laws_eqReservationS.f (k : Nat) (x : List DSubscriberID × List DSubscriberID) : Option Bool :=
    bif ine (llen x.fst) (llen x.snd) then some false
  else
    obind (loopN (laws_eqReservationS.s0 k) k (x.fst, x.snd, 0)) fun v2 =>
      selim (fun v3 => some true) (fun v4 => some v4) v2

def laws_eqAccount.f (k : Nat) (x : DAccount × DAccount) : Option Bool :=
    bif ine x.fst.fst x.snd.fst then some false
  else
    bif ine x.fst.snd.fst x.snd.snd.fst then some false
    else
      bif ine x.fst.snd.snd.fst x.snd.snd.snd.fst then some false
      else
        obind (laws_eqReservationS.f k (x.fst.snd.snd.snd, x.snd.snd.snd.snd)) fun v0 =>
          bif dnot v0 then some false else some true

def laws_eqAccountS.s0 (k : Nat) (d0 : List DAccount × List DAccount × Int) : Option (List DAccount × List DAccount × Int ⊕ Unit ⊕ Bool) :=
    bif ilt d0.snd.snd (llen d0.fst) then
    bif idxOk d0.snd.snd (llen d0.fst) then
      bif idxOk d0.snd.snd (llen d0.snd.fst) then
        obind (laws_eqAccount.f k (lget TAccount d0.fst d0.snd.snd, lget TAccount d0.snd.fst d0.snd.snd)) fun v1 =>
          bif dnot v1 then some (Sum.inr (Sum.inr false))
          else some (Sum.inl (d0.fst, d0.snd.fst, iadd IntKind.i64 d0.snd.snd 1))
      else none
    else none
  else some (Sum.inr (Sum.inl ()))
def laws_eqAccountS.f (k : Nat) (x : List DAccount × List DAccount) : Option Bool :=
    bif ine (llen x.fst) (llen x.snd) then some false
  else
    obind (loopN (laws_eqAccountS.s0 k) k (x.fst, x.snd, 0)) fun v2 => selim (fun v3 => some true) (fun v4 => some v4) v2

def laws_eqSignal.f (k : Nat) (x : DSignal × DSignal) : Option Bool :=
    bif ine x.fst.fst x.snd.fst then some false
  else
    bif ine x.fst.snd.fst x.snd.snd.fst then some false
    else
      bif ine x.fst.snd.snd.fst x.snd.snd.snd.fst then some false
      else
        bif ine x.fst.snd.snd.snd.fst x.snd.snd.snd.snd.fst then some false
        else
          bif ine x.fst.snd.snd.snd.snd.fst x.snd.snd.snd.snd.snd.fst then some false
          else
            obind (laws_eqAuthVector.f k (x.fst.snd.snd.snd.snd.snd.fst, x.snd.snd.snd.snd.snd.snd.fst)) fun v0 =>
              bif dnot v0 then some false
              else bif ine x.fst.snd.snd.snd.snd.snd.snd x.snd.snd.snd.snd.snd.snd.snd then some false else some true

def laws_eqSecuredMessage.f (k : Nat) (x : DSecuredMessage × DSecuredMessage) : Option Bool :=
    bif ine x.fst.fst x.snd.fst then some false
  else
    bif ine x.fst.snd.fst x.snd.snd.fst then some false
    else
      obind (laws_eqByteS.f k (x.fst.snd.snd.fst, x.snd.snd.snd.fst)) fun v0 =>
        bif dnot v0 then some false else bif ine x.fst.snd.snd.snd x.snd.snd.snd.snd then some false else some true

def laws_eqRadioPacket.f (k : Nat) (x : DRadioPacket × DRadioPacket) : Option Bool :=
    bif ine x.fst.fst x.snd.fst then some false
  else
    bif ine x.fst.snd.fst x.snd.snd.fst then some false
    else
      obind (laws_eqSecuredMessage.f k (x.fst.snd.snd, x.snd.snd.snd)) fun v0 =>
        bif dnot v0 then some false else some true

def laws_eqFlight.f (k : Nat) (x : DFlight × DFlight) : Option Bool :=
    bif ine x.fst.fst x.snd.fst then some false
  else
    bif bne' x.fst.snd.fst x.snd.snd.fst then some false
    else
      bif bne' x.fst.snd.snd.fst x.snd.snd.snd.fst then some false
      else
        bif ine x.fst.snd.snd.snd.fst x.snd.snd.snd.snd.fst then some false
        else
          obind (laws_eqSignal.f k (x.fst.snd.snd.snd.snd.fst, x.snd.snd.snd.snd.snd.fst)) fun v0 =>
            bif dnot v0 then some false
            else
              obind (laws_eqRadioPacket.f k (x.fst.snd.snd.snd.snd.snd, x.snd.snd.snd.snd.snd.snd)) fun v1 =>
                bif dnot v1 then some false else some true

def laws_eqFlightS.s0 (k : Nat) (d0 : List DFlight × List DFlight × Int) : Option (List DFlight × List DFlight × Int ⊕ Unit ⊕ Bool) :=
    bif ilt d0.snd.snd (llen d0.fst) then
    bif idxOk d0.snd.snd (llen d0.fst) then
      bif idxOk d0.snd.snd (llen d0.snd.fst) then
        obind (laws_eqFlight.f k (lget TFlight d0.fst d0.snd.snd, lget TFlight d0.snd.fst d0.snd.snd)) fun v1 =>
          bif dnot v1 then some (Sum.inr (Sum.inr false))
          else some (Sum.inl (d0.fst, d0.snd.fst, iadd IntKind.i64 d0.snd.snd 1))
      else none
    else none
  else some (Sum.inr (Sum.inl ()))
def laws_eqFlightS.f (k : Nat) (x : List DFlight × List DFlight) : Option Bool :=
    bif ine (llen x.fst) (llen x.snd) then some false
  else
    obind (loopN (laws_eqFlightS.s0 k) k (x.fst, x.snd, 0)) fun v2 => selim (fun v3 => some true) (fun v4 => some v4) v2

def laws_eqServerPool.f (k : Nat) (x : DUSIM) : Option Bool :=
    bif ine x.fst.fst x.snd.fst then some false else bif ine x.fst.snd x.snd.snd then some false else some true

def laws_eqNetwork.f (k : Nat) (x : DNetwork × DNetwork) : Option Bool :=
    obind (laws_eqCellMap.f k (x.fst.fst, x.snd.fst)) fun v0 =>
    bif dnot v0 then some false
    else
      obind (laws_eqDeviceS.f k (x.fst.snd.fst, x.snd.snd.fst)) fun v1 =>
        bif dnot v1 then some false
        else
          obind (laws_eqSessionS.f k (x.fst.snd.snd.fst, x.snd.snd.snd.fst)) fun v2 =>
            bif dnot v2 then some false
            else
              obind (laws_eqAccountS.f k (x.fst.snd.snd.snd.fst, x.snd.snd.snd.snd.fst)) fun v3 =>
                bif dnot v3 then some false
                else
                  obind (laws_eqFlightS.f k (x.fst.snd.snd.snd.snd.fst, x.snd.snd.snd.snd.snd.fst)) fun v4 =>
                    bif dnot v4 then some false
                    else
                      bif ine x.fst.snd.snd.snd.snd.snd.fst x.snd.snd.snd.snd.snd.snd.fst then some false
                      else
                        obind
                          (laws_eqServerPool.f k (x.fst.snd.snd.snd.snd.snd.snd.fst, x.snd.snd.snd.snd.snd.snd.snd.fst))
                          fun v5 =>
                          bif dnot v5 then some false
                          else
                            bif ine x.fst.snd.snd.snd.snd.snd.snd.snd.fst x.snd.snd.snd.snd.snd.snd.snd.snd.fst then
                              some false
                            else
                              bif ine x.fst.snd.snd.snd.snd.snd.snd.snd.snd x.snd.snd.snd.snd.snd.snd.snd.snd.snd then
                                some false
                              else some true

def laws_FnExactServerFor.f (k : Nat) (x : DNetwork × Int) : Option Bool :=
    obind (laws_szNetwork.f k (x.fst, 1048576)) fun v0 =>
    bif ilt v0 0 then some true
    else
      obind (laws_toNetwork.f k x.fst) fun v1 =>
        obind (spec_ServerFor.f k (v1, x.snd)) fun v2 =>
          obind (laws_toNetwork.f k x.fst) fun v3 =>
            obind (impl_ServerFor.f k (v3, x.snd)) fun v4 =>
              bif ine v4 v2 then some false
              else
                obind (laws_toNetwork.f k x.fst) fun v5 =>
                  obind (laws_eqNetwork.f k (v3, v5)) fun v6 => bif dnot v6 then some false else some true

end Go.Proofs.XF
/- Plain laws: what the laws' own functions (to, eq, sz, mark, held) do, for every kind of data at once. -/
set_option linter.unusedVariables false
set_option linter.unusedSimpArgs false
namespace Go.Proofs.XF
open Go Go.Proofs.XTv

theorem lset_lset {α : Type} (l : List α) (i : Int) (v w : α) : lset (lset l i v) i w = lset l i w := by simp [lset]
theorem llen_lset {α : Type} (l : List α) (i : Int) (v : α) : llen (lset l i v) = llen l := by simp [lset, llen]
theorem lget_lset {e : Ty} (l : List e.den) {i : Nat} (h : i < l.length) (v : e.den) : lget e (lset l (i : Int) v) (i : Int) = v := by simp [lget, lset, h]

/-- An element, all its numbers marked. -/
def mkE : (t : Ty) → t.den → Nat → t.den × Nat
  | .int .i64, _, n => ((n : Int), n + 1)
  | .int k, _, n => (k.wrap (n : Int), n + 1)
  | .bool, _, n => (ieq (irem .i64 (n : Int) 3) 0, n + 1)
  | .str, x, n => (x, n)
  | .sl e, xs, n => mkL (mkE e) xs n
  | .unit, x, n => (x, n)
  | .pair a b, x, n => (((mkE a x.1 n).1, (mkE b x.2 (mkE a x.1 n).2).1), (mkE b x.2 (mkE a x.1 n).2).2)
/-- A datum that was handed over by value: what its slices hold is marked. -/
def mkTop : (t : Ty) → t.den → Nat → t.den × Nat
  | .int _, x, n => (x, n)
  | .bool, x, n => (x, n)
  | .str, x, n => (x, n)
  | .sl e, xs, n => mkL (mkE e) xs n
  | .unit, x, n => (x, n)
  | .pair a b, x, n => (((mkTop a x.1 n).1, (mkTop b x.2 (mkTop a x.1 n).2).1), (mkTop b x.2 (mkTop a x.1 n).2).2)
def cE : (t : Ty) → t.den → Nat
  | .int _, _ => 1
  | .bool, _ => 1
  | .str, _ => 0
  | .sl e, xs => (List.map (cE e) xs).sum
  | .unit, _ => 0
  | .pair a b, x => cE a x.1 + cE b x.2
def cTop : (t : Ty) → t.den → Nat
  | .sl e, xs => (List.map (cE e) xs).sum
  | .pair a b, x => cTop a x.1 + cTop b x.2
  | _, _ => 0
theorem mkL_eq {α : Type} (m : α → Nat → α × Nat) (c : α → Nat) : ∀ (xs : List α), (∀ x ∈ xs, ∀ n, (m x n).2 = n + c x) → ∀ n, (mkL m xs n).2 = n + (xs.map c).sum
  | [], _, n => rfl
  | x :: xs, h, n => by
    have h1 := h x (List.mem_cons_self ..) n
    have h2 := mkL_eq m c xs (fun y hy => h y (List.mem_cons_of_mem _ hy)) (m x n).2
    simp only [mkL, List.map_cons, List.sum_cons]
    omega
theorem mkE_n : ∀ (t : Ty) (x : t.den) (n : Nat), (mkE t x n).2 = n + cE t x
  | .int k, _, _ => by cases k <;> rfl
  | .bool, _, _ => rfl
  | .str, _, _ => rfl
  | .unit, _, _ => rfl
  | .sl e, xs, n => mkL_eq _ _ xs (fun x _ n => mkE_n e x n) n
  | .pair a b, x, n => by
    have h1 := mkE_n a x.1 n
    have h2 := mkE_n b x.2 (mkE a x.1 n).2
    simp only [mkE, cE]
    omega
theorem mkTop_n : ∀ (t : Ty) (x : t.den) (n : Nat), (mkTop t x n).2 = n + cTop t x
  | .int _, _, _ => rfl
  | .bool, _, _ => rfl
  | .str, _, _ => rfl
  | .unit, _, _ => rfl
  | .sl e, xs, n => mkL_eq _ _ xs (fun x _ n => mkE_n e x n) n
  | .pair a b, x, n => by
    have h1 := mkTop_n a x.1 n
    have h2 := mkTop_n b x.2 (mkTop a x.1 n).2
    simp only [mkTop, cTop]
    omega
/-- The elements' own numbers, at the most. -/
def elMax : Ty → Nat
  | .sl e => max e.size (elMax e)
  | .pair a b => max (elMax a) (elMax b)
  | _ => 0
theorem cE_le : ∀ (t : Ty) (x : t.den) (M : Nat), elMax t ≤ M → cE t x ≤ t.size + M * cnt t x
  | .int _, _, _, _ => by simp [cE, Ty.size]
  | .bool, _, _, _ => by simp [cE, Ty.size]
  | .str, _, _, _ => by simp [cE, Ty.size]
  | .unit, _, _, _ => by simp [cE, Ty.size]
  | .sl e, xs, M, h => by
    simp only [elMax] at h
    have key : ∀ l : List e.den, (l.map (cE e)).sum ≤ M * (l.length + (l.map (cnt e)).sum) := by
      intro l
      induction l with
      | nil => simp
      | cons y l ih =>
        have h1 := cE_le e y M (by omega)
        have h2 : e.size ≤ M := by omega
        simp only [List.map_cons, List.sum_cons, List.length_cons]
        have : M * (l.length + 1 + (cnt e y + (l.map (cnt e)).sum)) = M + M * cnt e y + M * (l.length + (l.map (cnt e)).sum) := by
          simp only [Nat.mul_add, Nat.mul_one]; omega
        omega
    have := key xs
    simp only [cE, cnt]
    omega
  | .pair a b, x, M, h => by
    simp only [elMax] at h
    have h1 := cE_le a x.1 M (by omega)
    have h2 := cE_le b x.2 M (by omega)
    simp only [cE, cnt, Ty.size, Nat.mul_add]
    omega
theorem cTop_le : ∀ (t : Ty) (x : t.den) (M : Nat), elMax t ≤ M → cTop t x ≤ M * cnt t x
  | .int _, _, _, _ => by simp [cTop]
  | .bool, _, _, _ => by simp [cTop]
  | .str, _, _, _ => by simp [cTop]
  | .unit, _, _, _ => by simp [cTop]
  | .sl e, xs, M, h => by
    simp only [elMax] at h
    have key : ∀ l : List e.den, (l.map (cE e)).sum ≤ M * (l.length + (l.map (cnt e)).sum) := by
      intro l
      induction l with
      | nil => simp
      | cons y l ih =>
        have h1 := cE_le e y M (by omega)
        have h2 : e.size ≤ M := by omega
        simp only [List.map_cons, List.sum_cons, List.length_cons]
        have : M * (l.length + 1 + (cnt e y + (l.map (cnt e)).sum)) = M + M * cnt e y + M * (l.length + (l.map (cnt e)).sum) := by
          simp only [Nat.mul_add, Nat.mul_one]; omega
        omega
    have := key xs
    simp only [cTop, cnt]
    omega
  | .pair a b, x, M, h => by
    simp only [elMax] at h
    have h1 := cTop_le a x.1 M (by omega)
    have h2 := cTop_le b x.2 M (by omega)
    simp only [cTop, cnt, Nat.mul_add]
    omega
/-- A datum with few places is no great one. -/
theorem ok_of_cnt : ∀ (t : Ty) (x : t.den), Good' t x → cnt t x ≤ 4294967296 → Ok t x
  | .int _, _, h, _ => h
  | .bool, _, _, _ => trivial
  | .str, _, h, _ => h
  | .unit, _, _, _ => trivial
  | .sl e, xs, h, hc => by
    simp only [cnt] at hc
    refine ⟨by show List.length xs ≤ _; omega, fun y hy => ok_of_cnt e y (h.2 y hy) ?_⟩
    have : ∀ {l : List e.den}, y ∈ l → cnt e y ≤ (l.map (cnt e)).sum := by
      intro l
      induction l with
      | nil => intro h; cases h
      | cons z l ih =>
        intro h
        simp only [List.map_cons, List.sum_cons]
        rcases List.mem_cons.1 h with rfl | h
        · omega
        · have := ih h; omega
    have := this hy
    omega
  | .pair a b, x, h, hc => by
    simp only [cnt] at hc
    exact ⟨ok_of_cnt a x.1 h.1 (by omega), ok_of_cnt b x.2 h.2 (by omega)⟩

theorem sz_seq {a b : Nat} {L : Int} (h0 : 0 ≤ L) {f : Int → Option Int} (hf : ∀ M, 0 ≤ M → M ≤ L → f M = some (if (b : Int) ≤ M then M - b else -1)) :
    (obind (some (if (a : Int) ≤ L then L - a else -1)) fun v => bif ilt v 0 then some (-1) else f v) = some (if ((a + b : Nat) : Int) ≤ L then L - (a + b : Nat) else -1) := by
  rw [ob_some]
  by_cases h : (a : Int) ≤ L
  · rw [if_pos h, ilt_f (by omega), cond_false, hf _ (by omega) (by omega)]
    by_cases h2 : (b : Int) ≤ L - a
    · rw [if_pos h2, if_pos (by omega)]; congr 1; omega
    · rw [if_neg h2, if_neg (by omega)]
  · rw [if_neg h, ilt_t (by omega), cond_true, if_neg (by omega)]
theorem sz_end {a : Nat} {L : Int} (h0 : 0 ≤ L) : (obind (some (if (a : Int) ≤ L then L - a else -1)) fun v => bif ilt v 0 then some (-1) else some v) = some (if (a : Int) ≤ L then L - a else -1) := by
  rw [ob_some]
  by_cases h : (a : Int) ≤ L
  · rw [if_pos h, ilt_f (by omega), cond_false]
  · rw [if_neg h, ilt_t (by omega), cond_true]
theorem sum_zero {α : Type} : ∀ l : List α, (List.map (fun _ => 0) l).sum = 0
  | [] => rfl
  | _ :: l => by rw [List.map_cons, List.sum_cons, sum_zero l]
theorem ilt_nn (n : Nat) : ilt (n : Int) 0 = false := ilt_f (by omega)
theorem mkLE_n (e : Ty) (xs : List e.den) (n : Nat) : (mkL (mkE e) xs n).2 = n + (xs.map (cE e)).sum := mkL_eq _ _ _ (fun x _ n => mkE_n e x n) n
theorem held_seq {n : Nat} {f : Int → Option Int} : (obind (some (n : Int)) fun v => bif ilt v 0 then some (-1) else f v) = f n := by
  rw [ob_some, ilt_f (by omega), cond_false]
/-! ### The chain of a law -/
theorem ob_of {α β : Type} {m : Option α} {v : α} (h : m = some v) {f : α → Option β} {r : Option β} (hf : f v = r) : obind m f = r := by rw [h]; exact hf
theorem bif_t {α : Type} {c : Bool} (hc : c = true) {a b r : α} (h : a = r) : (bif c then a else b) = r := by rw [hc]; exact h
theorem bif_f {α : Type} {c : Bool} (hc : c = false) {a b r : α} (h : b = r) : (bif c then a else b) = r := by rw [hc]; exact h
theorem ob_bif {α β : Type} {c : Bool} (hc : c = true) {m m2 : Option α} {v : α} (h : m = some v) {f : α → Option β} {r : Option β} (hf : f v = r) : obind (bif c then m else m2) f = r := by rw [hc, cond_true, h]; exact hf
theorem law_sz {c : Nat} {L : Int} (h0 : 0 ≤ L) {m : Option Int} (hm : m = some (if (c : Int) ≤ L then L - c else -1)) {f : Int → Option Bool} (hf : (c : Int) ≤ L → f (L - c) = some true) :
    (obind m fun v => bif ilt v 0 then some true else f v) = some true := by
  rw [hm, ob_some]
  by_cases h : (c : Int) ≤ L
  · rw [if_pos h, ilt_f (by omega), cond_false]; exact hf h
  · rw [if_neg h, ilt_t (by omega), cond_true]
end Go.Proofs.XF
/- The laws' own functions: what they do to each kind of data. -/
set_option linter.unusedVariables false
set_option linter.unusedSimpArgs false
set_option maxRecDepth 4000
namespace Go.Proofs.XF
open Go Go.Proofs.XTv
theorem toReservation {k : Nat} (hk : FU ≤ k) {x : (TSubscriberID : Ty).den} (h : Ok TSubscriberID x) : laws_toReservation.f k x = some x := by
  unfold laws_toReservation.f
  rfl
theorem toReservationS {k : Nat} (hk : FU ≤ k) {x : ((.sl TSubscriberID) : Ty).den} (h : Ok (.sl TSubscriberID) x) : laws_toReservationS.f k x = some x := by
  have hl := ok_len h
  unfold laws_toReservationS.f
  rw [make_len (by omega), cond_true, to_loop hk (e := TSubscriberID) (s := (laws_toReservationS.s0 k)) (ok_len h) (fun i acc hi hl => by
    have hi' : i < acc.length := hl ▸ hi
    simp only [laws_toReservationS.s0, ilt_len, idx_len, decide_eq_true hi, decide_eq_true hi', cond_true, lget_nat _ hi, toReservation hk (ok_get h hi), ob_some, lset_nat, iadd_nat (show i < 9223372036854775807 by omega)]) (fun acc => by
    simp only [laws_toReservationS.s0, ilt_len, Nat.lt_irrefl, decide_false, cond_false]), ob_some]
theorem toAccount {k : Nat} (hk : FU ≤ k) {x : (TAccount : Ty).den} (h : Ok TAccount x) : laws_toAccount.f k x = some x := by
  have e0 := toReservationS hk (x := x.2.2.2) h.2.2.2
  unfold laws_toAccount.f
  simp only [e0, ob_some]
theorem toAccountS {k : Nat} (hk : FU ≤ k) {x : ((.sl TAccount) : Ty).den} (h : Ok (.sl TAccount) x) : laws_toAccountS.f k x = some x := by
  have hl := ok_len h
  unfold laws_toAccountS.f
  rw [make_len (by omega), cond_true, to_loop hk (e := TAccount) (s := (laws_toAccountS.s0 k)) (ok_len h) (fun i acc hi hl => by
    have hi' : i < acc.length := hl ▸ hi
    simp only [laws_toAccountS.s0, ilt_len, idx_len, decide_eq_true hi, decide_eq_true hi', cond_true, lget_nat _ hi, toAccount hk (ok_get h hi), ob_some, lset_nat, iadd_nat (show i < 9223372036854775807 by omega)]) (fun acc => by
    simp only [laws_toAccountS.s0, ilt_len, Nat.lt_irrefl, decide_false, cond_false]), ob_some]
theorem toAuthVector {k : Nat} (hk : FU ≤ k) {x : (TAuthVector : Ty).den} (h : Ok TAuthVector x) : laws_toAuthVector.f k x = some x := by
  unfold laws_toAuthVector.f
  rfl
theorem toByteS {k : Nat} (hk : FU ≤ k) {x : ((.sl (.int .u8)) : Ty).den} (h : Ok (.sl (.int .u8)) x) : laws_toByteS.f k x = some x := by
  have hl := ok_len h
  unfold laws_toByteS.f
  rw [make_len (by omega), cond_true, to_loop hk (e := (.int .u8)) (s := laws_toByteS.s0) (ok_len h) (fun i acc hi hl => by
    have hi' : i < acc.length := hl ▸ hi
    simp only [laws_toByteS.s0, ilt_len, idx_len, decide_eq_true hi, decide_eq_true hi', cond_true, lget_nat _ hi, ob_some, lset_nat, iadd_nat (show i < 9223372036854775807 by omega)]) (fun acc => by
    simp only [laws_toByteS.s0, ilt_len, Nat.lt_irrefl, decide_false, cond_false]), ob_some]
theorem toIntS {k : Nat} (hk : FU ≤ k) {x : ((.sl (.int .i64)) : Ty).den} (h : Ok (.sl (.int .i64)) x) : laws_toIntS.f k x = some x := by
  have hl := ok_len h
  unfold laws_toIntS.f
  rw [make_len (by omega), cond_true, to_loop hk (e := (.int .i64)) (s := laws_toIntS.s0) (ok_len h) (fun i acc hi hl => by
    have hi' : i < acc.length := hl ▸ hi
    simp only [laws_toIntS.s0, ilt_len, idx_len, decide_eq_true hi, decide_eq_true hi', cond_true, lget_nat _ hi, ob_some, lset_nat, iadd_nat (show i < 9223372036854775807 by omega)]) (fun acc => by
    simp only [laws_toIntS.s0, ilt_len, Nat.lt_irrefl, decide_false, cond_false]), ob_some]
theorem toCell {k : Nat} (hk : FU ≤ k) {x : (TCell : Ty).den} (h : Ok TCell x) : laws_toCell.f k x = some x := by
  have e0 := toIntS hk (x := x.2) h.2
  unfold laws_toCell.f
  simp only [e0, ob_some]
theorem toCellS {k : Nat} (hk : FU ≤ k) {x : ((.sl TCell) : Ty).den} (h : Ok (.sl TCell) x) : laws_toCellS.f k x = some x := by
  have hl := ok_len h
  unfold laws_toCellS.f
  rw [make_len (by omega), cond_true, to_loop hk (e := TCell) (s := (laws_toCellS.s0 k)) (ok_len h) (fun i acc hi hl => by
    have hi' : i < acc.length := hl ▸ hi
    simp only [laws_toCellS.s0, ilt_len, idx_len, decide_eq_true hi, decide_eq_true hi', cond_true, lget_nat _ hi, toCell hk (ok_get h hi), ob_some, lset_nat, iadd_nat (show i < 9223372036854775807 by omega)]) (fun acc => by
    simp only [laws_toCellS.s0, ilt_len, Nat.lt_irrefl, decide_false, cond_false]), ob_some]
theorem toCellMap {k : Nat} (hk : FU ≤ k) {x : ((.sl TCell) : Ty).den} (h : Ok (.sl TCell) x) : laws_toCellMap.f k x = some x := by
  have e0 := toCellS hk (x := x) h
  unfold laws_toCellMap.f
  simp only [e0, ob_some]
theorem toSubscriberID {k : Nat} (hk : FU ≤ k) {x : (TSubscriberID : Ty).den} (h : Ok TSubscriberID x) : laws_toSubscriberID.f k x = some x := by
  unfold laws_toSubscriberID.f
  rfl
theorem toUSIM {k : Nat} (hk : FU ≤ k) {x : (TUSIM : Ty).den} (h : Ok TUSIM x) : laws_toUSIM.f k x = some x := by
  have e0 := toSubscriberID hk (x := x.1) h.1
  unfold laws_toUSIM.f
  simp only [e0, ob_some]
theorem toPayload {k : Nat} (hk : FU ≤ k) {x : ((.sl (.int .u8)) : Ty).den} (h : Ok (.sl (.int .u8)) x) : laws_toPayload.f k x = some x := by
  have e0 := toByteS hk (x := x) h
  unfold laws_toPayload.f
  simp only [e0, ob_some]
theorem toPayloadS {k : Nat} (hk : FU ≤ k) {x : ((.sl (.sl (.int .u8))) : Ty).den} (h : Ok (.sl (.sl (.int .u8))) x) : laws_toPayloadS.f k x = some x := by
  have hl := ok_len h
  unfold laws_toPayloadS.f
  rw [make_len (by omega), cond_true, to_loop hk (e := (.sl (.int .u8))) (s := (laws_toPayloadS.s0 k)) (ok_len h) (fun i acc hi hl => by
    have hi' : i < acc.length := hl ▸ hi
    simp only [laws_toPayloadS.s0, ilt_len, idx_len, decide_eq_true hi, decide_eq_true hi', cond_true, lget_nat _ hi, toPayload hk (ok_get h hi), ob_some, lset_nat, iadd_nat (show i < 9223372036854775807 by omega)]) (fun acc => by
    simp only [laws_toPayloadS.s0, ilt_len, Nat.lt_irrefl, decide_false, cond_false]), ob_some]
theorem toNumberedPacket {k : Nat} (hk : FU ≤ k) {x : (TNumberedPacket : Ty).den} (h : Ok TNumberedPacket x) : laws_toNumberedPacket.f k x = some x := by
  have e0 := toByteS hk (x := x.2) h.2
  unfold laws_toNumberedPacket.f
  simp only [e0, ob_some]
theorem toNumberedPacketS {k : Nat} (hk : FU ≤ k) {x : ((.sl TNumberedPacket) : Ty).den} (h : Ok (.sl TNumberedPacket) x) : laws_toNumberedPacketS.f k x = some x := by
  have hl := ok_len h
  unfold laws_toNumberedPacketS.f
  rw [make_len (by omega), cond_true, to_loop hk (e := TNumberedPacket) (s := (laws_toNumberedPacketS.s0 k)) (ok_len h) (fun i acc hi hl => by
    have hi' : i < acc.length := hl ▸ hi
    simp only [laws_toNumberedPacketS.s0, ilt_len, idx_len, decide_eq_true hi, decide_eq_true hi', cond_true, lget_nat _ hi, toNumberedPacket hk (ok_get h hi), ob_some, lset_nat, iadd_nat (show i < 9223372036854775807 by omega)]) (fun acc => by
    simp only [laws_toNumberedPacketS.s0, ilt_len, Nat.lt_irrefl, decide_false, cond_false]), ob_some]
theorem toReceiveWindow {k : Nat} (hk : FU ≤ k) {x : (TReceiveWindow : Ty).den} (h : Ok TReceiveWindow x) : laws_toReceiveWindow.f k x = some x := by
  have e0 := toNumberedPacketS hk (x := x.2.1) h.2.1
  have e1 := toPayloadS hk (x := x.2.2) h.2.2
  unfold laws_toReceiveWindow.f
  simp only [e0, e1, ob_some]
theorem toDevice {k : Nat} (hk : FU ≤ k) {x : (TDevice : Ty).den} (h : Ok TDevice x) : laws_toDevice.f k x = some x := by
  have e0 := toUSIM hk (x := x.1) h.1
  have e1 := toReceiveWindow hk (x := x.2.2.2.2.2.2.2.2) h.2.2.2.2.2.2.2.2
  unfold laws_toDevice.f
  simp only [e0, e1, ob_some]
theorem toDeviceS {k : Nat} (hk : FU ≤ k) {x : ((.sl TDevice) : Ty).den} (h : Ok (.sl TDevice) x) : laws_toDeviceS.f k x = some x := by
  have hl := ok_len h
  unfold laws_toDeviceS.f
  rw [make_len (by omega), cond_true, to_loop hk (e := TDevice) (s := (laws_toDeviceS.s0 k)) (ok_len h) (fun i acc hi hl => by
    have hi' : i < acc.length := hl ▸ hi
    simp only [laws_toDeviceS.s0, ilt_len, idx_len, decide_eq_true hi, decide_eq_true hi', cond_true, lget_nat _ hi, toDevice hk (ok_get h hi), ob_some, lset_nat, iadd_nat (show i < 9223372036854775807 by omega)]) (fun acc => by
    simp only [laws_toDeviceS.s0, ilt_len, Nat.lt_irrefl, decide_false, cond_false]), ob_some]
theorem toSignal {k : Nat} (hk : FU ≤ k) {x : (TSignal : Ty).den} (h : Ok TSignal x) : laws_toSignal.f k x = some x := by
  have e0 := toAuthVector hk (x := x.2.2.2.2.2.1) h.2.2.2.2.2.1
  unfold laws_toSignal.f
  simp only [e0, ob_some]
theorem toSecuredMessage {k : Nat} (hk : FU ≤ k) {x : (TSecuredMessage : Ty).den} (h : Ok TSecuredMessage x) : laws_toSecuredMessage.f k x = some x := by
  have e0 := toByteS hk (x := x.2.2.1) h.2.2.1
  unfold laws_toSecuredMessage.f
  simp only [e0, ob_some]
theorem toRadioPacket {k : Nat} (hk : FU ≤ k) {x : (TRadioPacket : Ty).den} (h : Ok TRadioPacket x) : laws_toRadioPacket.f k x = some x := by
  have e0 := toSecuredMessage hk (x := x.2.2) h.2.2
  unfold laws_toRadioPacket.f
  simp only [e0, ob_some]
theorem toFlight {k : Nat} (hk : FU ≤ k) {x : (TFlight : Ty).den} (h : Ok TFlight x) : laws_toFlight.f k x = some x := by
  have e0 := toSignal hk (x := x.2.2.2.2.1) h.2.2.2.2.1
  have e1 := toRadioPacket hk (x := x.2.2.2.2.2) h.2.2.2.2.2
  unfold laws_toFlight.f
  simp only [e0, e1, ob_some]
theorem toFlightS {k : Nat} (hk : FU ≤ k) {x : ((.sl TFlight) : Ty).den} (h : Ok (.sl TFlight) x) : laws_toFlightS.f k x = some x := by
  have hl := ok_len h
  unfold laws_toFlightS.f
  rw [make_len (by omega), cond_true, to_loop hk (e := TFlight) (s := (laws_toFlightS.s0 k)) (ok_len h) (fun i acc hi hl => by
    have hi' : i < acc.length := hl ▸ hi
    simp only [laws_toFlightS.s0, ilt_len, idx_len, decide_eq_true hi, decide_eq_true hi', cond_true, lget_nat _ hi, toFlight hk (ok_get h hi), ob_some, lset_nat, iadd_nat (show i < 9223372036854775807 by omega)]) (fun acc => by
    simp only [laws_toFlightS.s0, ilt_len, Nat.lt_irrefl, decide_false, cond_false]), ob_some]
theorem toSubscriberRecord {k : Nat} (hk : FU ≤ k) {x : (TUSIM : Ty).den} (h : Ok TUSIM x) : laws_toSubscriberRecord.f k x = some x := by
  have e0 := toSubscriberID hk (x := x.1) h.1
  unfold laws_toSubscriberRecord.f
  simp only [e0, ob_some]
theorem toSubscription {k : Nat} (hk : FU ≤ k) {x : (TSubscription : Ty).den} (h : Ok TSubscription x) : laws_toSubscription.f k x = some x := by
  have e0 := toIntS hk (x := x.2.2.2) h.2.2.2
  unfold laws_toSubscription.f
  simp only [e0, ob_some]
theorem toPagingState {k : Nat} (hk : FU ≤ k) {x : (TQuota : Ty).den} (h : Ok TQuota x) : laws_toPagingState.f k x = some x := by
  unfold laws_toPagingState.f
  rfl
theorem toSendWindow {k : Nat} (hk : FU ≤ k) {x : (TSendWindow : Ty).den} (h : Ok TSendWindow x) : laws_toSendWindow.f k x = some x := by
  have e0 := toNumberedPacketS hk (x := x.2) h.2
  unfold laws_toSendWindow.f
  simp only [e0, ob_some]
theorem toQuota {k : Nat} (hk : FU ≤ k) {x : (TQuota : Ty).den} (h : Ok TQuota x) : laws_toQuota.f k x = some x := by
  unfold laws_toQuota.f
  rfl
theorem toSession {k : Nat} (hk : FU ≤ k) {x : (TSession : Ty).den} (h : Ok TSession x) : laws_toSession.f k x = some x := by
  have e0 := toSubscriberRecord hk (x := x.1) h.1
  have e1 := toSubscription hk (x := x.2.1) h.2.1
  have e2 := toAuthVector hk (x := x.2.2.2.1) h.2.2.2.1
  have e3 := toPagingState hk (x := x.2.2.2.2.2.2.2.2.2.2.1) h.2.2.2.2.2.2.2.2.2.2.1
  have e4 := toPayloadS hk (x := x.2.2.2.2.2.2.2.2.2.2.2.1) h.2.2.2.2.2.2.2.2.2.2.2.1
  have e5 := toSendWindow hk (x := x.2.2.2.2.2.2.2.2.2.2.2.2.1) h.2.2.2.2.2.2.2.2.2.2.2.2.1
  have e6 := toQuota hk (x := x.2.2.2.2.2.2.2.2.2.2.2.2.2.2) h.2.2.2.2.2.2.2.2.2.2.2.2.2.2
  unfold laws_toSession.f
  simp only [e0, e1, e2, e3, e4, e5, e6, ob_some]
theorem toSessionS {k : Nat} (hk : FU ≤ k) {x : ((.sl TSession) : Ty).den} (h : Ok (.sl TSession) x) : laws_toSessionS.f k x = some x := by
  have hl := ok_len h
  unfold laws_toSessionS.f
  rw [make_len (by omega), cond_true, to_loop hk (e := TSession) (s := (laws_toSessionS.s0 k)) (ok_len h) (fun i acc hi hl => by
    have hi' : i < acc.length := hl ▸ hi
    simp only [laws_toSessionS.s0, ilt_len, idx_len, decide_eq_true hi, decide_eq_true hi', cond_true, lget_nat _ hi, toSession hk (ok_get h hi), ob_some, lset_nat, iadd_nat (show i < 9223372036854775807 by omega)]) (fun acc => by
    simp only [laws_toSessionS.s0, ilt_len, Nat.lt_irrefl, decide_false, cond_false]), ob_some]
theorem toServerPool {k : Nat} (hk : FU ≤ k) {x : (TSubscriberID : Ty).den} (h : Ok TSubscriberID x) : laws_toServerPool.f k x = some x := by
  unfold laws_toServerPool.f
  rfl
theorem toNetwork {k : Nat} (hk : FU ≤ k) {x : (TNetwork : Ty).den} (h : Ok TNetwork x) : laws_toNetwork.f k x = some x := by
  have e0 := toCellMap hk (x := x.1) h.1
  have e1 := toDeviceS hk (x := x.2.1) h.2.1
  have e2 := toSessionS hk (x := x.2.2.1) h.2.2.1
  have e3 := toAccountS hk (x := x.2.2.2.1) h.2.2.2.1
  have e4 := toFlightS hk (x := x.2.2.2.2.1) h.2.2.2.2.1
  have e5 := toServerPool hk (x := x.2.2.2.2.2.2.1) h.2.2.2.2.2.2.1
  unfold laws_toNetwork.f
  simp only [e0, e1, e2, e3, e4, e5, ob_some]
theorem eqReservation {k : Nat} (hk : FU ≤ k) {x : (TSubscriberID : Ty).den} (h : Ok TSubscriberID x) : laws_eqReservation.f k (x, x) = some true := by
  unfold laws_eqReservation.f
  simp only [ob_some, cond_true, cond_false, dnot_t, dnot_f, ine_self, bne_self, seq_self, ilt_nn]
theorem eqReservationS {k : Nat} (hk : FU ≤ k) {x : ((.sl TSubscriberID) : Ty).den} (h : Ok (.sl TSubscriberID) x) : laws_eqReservationS.f k (x, x) = some true := by
  have hl := ok_len h
  unfold laws_eqReservationS.f
  simp only [ine_self, cond_false]
  rw [eq_loop hk (e := TSubscriberID) (s := (laws_eqReservationS.s0 k)) (ok_len h) (fun i hi => by
    simp only [laws_eqReservationS.s0, ilt_len, idx_len, decide_eq_true hi, lget_nat _ hi, iadd_nat (show i < 9223372036854775807 by omega), eqReservation hk (ok_get h hi), ob_some, cond_true, cond_false, dnot_t, dnot_f, ine_self, bne_self, seq_self, ilt_nn]) (by
    simp only [laws_eqReservationS.s0, ilt_len, Nat.lt_irrefl, decide_false, cond_false])]
  rfl
theorem eqAccount {k : Nat} (hk : FU ≤ k) {x : (TAccount : Ty).den} (h : Ok TAccount x) : laws_eqAccount.f k (x, x) = some true := by
  have e0 := eqReservationS hk (x := x.2.2.2) h.2.2.2
  unfold laws_eqAccount.f
  simp only [e0, ob_some, cond_true, cond_false, dnot_t, dnot_f, ine_self, bne_self, seq_self, ilt_nn]
theorem eqAccountS {k : Nat} (hk : FU ≤ k) {x : ((.sl TAccount) : Ty).den} (h : Ok (.sl TAccount) x) : laws_eqAccountS.f k (x, x) = some true := by
  have hl := ok_len h
  unfold laws_eqAccountS.f
  simp only [ine_self, cond_false]
  rw [eq_loop hk (e := TAccount) (s := (laws_eqAccountS.s0 k)) (ok_len h) (fun i hi => by
    simp only [laws_eqAccountS.s0, ilt_len, idx_len, decide_eq_true hi, lget_nat _ hi, iadd_nat (show i < 9223372036854775807 by omega), eqAccount hk (ok_get h hi), ob_some, cond_true, cond_false, dnot_t, dnot_f, ine_self, bne_self, seq_self, ilt_nn]) (by
    simp only [laws_eqAccountS.s0, ilt_len, Nat.lt_irrefl, decide_false, cond_false])]
  rfl
theorem eqAuthVector {k : Nat} (hk : FU ≤ k) {x : (TAuthVector : Ty).den} (h : Ok TAuthVector x) : laws_eqAuthVector.f k (x, x) = some true := by
  unfold laws_eqAuthVector.f
  simp only [ob_some, cond_true, cond_false, dnot_t, dnot_f, ine_self, bne_self, seq_self, ilt_nn]
theorem eqByteS {k : Nat} (hk : FU ≤ k) {x : ((.sl (.int .u8)) : Ty).den} (h : Ok (.sl (.int .u8)) x) : laws_eqByteS.f k (x, x) = some true := by
  have hl := ok_len h
  unfold laws_eqByteS.f
  simp only [ine_self, cond_false]
  rw [eq_loop hk (e := (.int .u8)) (s := laws_eqByteS.s0) (ok_len h) (fun i hi => by
    simp only [laws_eqByteS.s0, ilt_len, idx_len, decide_eq_true hi, lget_nat _ hi, iadd_nat (show i < 9223372036854775807 by omega), ob_some, cond_true, cond_false, dnot_t, dnot_f, ine_self, bne_self, seq_self, ilt_nn]) (by
    simp only [laws_eqByteS.s0, ilt_len, Nat.lt_irrefl, decide_false, cond_false])]
  rfl
theorem eqIntS {k : Nat} (hk : FU ≤ k) {x : ((.sl (.int .i64)) : Ty).den} (h : Ok (.sl (.int .i64)) x) : laws_eqIntS.f k (x, x) = some true := by
  have hl := ok_len h
  unfold laws_eqIntS.f
  simp only [ine_self, cond_false]
  rw [eq_loop hk (e := (.int .i64)) (s := laws_eqIntS.s0) (ok_len h) (fun i hi => by
    simp only [laws_eqIntS.s0, ilt_len, idx_len, decide_eq_true hi, lget_nat _ hi, iadd_nat (show i < 9223372036854775807 by omega), ob_some, cond_true, cond_false, dnot_t, dnot_f, ine_self, bne_self, seq_self, ilt_nn]) (by
    simp only [laws_eqIntS.s0, ilt_len, Nat.lt_irrefl, decide_false, cond_false])]
  rfl
theorem eqCell {k : Nat} (hk : FU ≤ k) {x : (TCell : Ty).den} (h : Ok TCell x) : laws_eqCell.f k (x, x) = some true := by
  have e0 := eqIntS hk (x := x.2) h.2
  unfold laws_eqCell.f
  simp only [e0, ob_some, cond_true, cond_false, dnot_t, dnot_f, ine_self, bne_self, seq_self, ilt_nn]
theorem eqCellS {k : Nat} (hk : FU ≤ k) {x : ((.sl TCell) : Ty).den} (h : Ok (.sl TCell) x) : laws_eqCellS.f k (x, x) = some true := by
  have hl := ok_len h
  unfold laws_eqCellS.f
  simp only [ine_self, cond_false]
  rw [eq_loop hk (e := TCell) (s := (laws_eqCellS.s0 k)) (ok_len h) (fun i hi => by
    simp only [laws_eqCellS.s0, ilt_len, idx_len, decide_eq_true hi, lget_nat _ hi, iadd_nat (show i < 9223372036854775807 by omega), eqCell hk (ok_get h hi), ob_some, cond_true, cond_false, dnot_t, dnot_f, ine_self, bne_self, seq_self, ilt_nn]) (by
    simp only [laws_eqCellS.s0, ilt_len, Nat.lt_irrefl, decide_false, cond_false])]
  rfl
theorem eqCellMap {k : Nat} (hk : FU ≤ k) {x : ((.sl TCell) : Ty).den} (h : Ok (.sl TCell) x) : laws_eqCellMap.f k (x, x) = some true := by
  have e0 := eqCellS hk (x := x) h
  unfold laws_eqCellMap.f
  simp only [e0, ob_some, cond_true, cond_false, dnot_t, dnot_f, ine_self, bne_self, seq_self, ilt_nn]
theorem eqSubscriberID {k : Nat} (hk : FU ≤ k) {x : (TSubscriberID : Ty).den} (h : Ok TSubscriberID x) : laws_eqSubscriberID.f k (x, x) = some true := by
  unfold laws_eqSubscriberID.f
  simp only [ob_some, cond_true, cond_false, dnot_t, dnot_f, ine_self, bne_self, seq_self, ilt_nn]
theorem eqUSIM {k : Nat} (hk : FU ≤ k) {x : (TUSIM : Ty).den} (h : Ok TUSIM x) : laws_eqUSIM.f k (x, x) = some true := by
  have e0 := eqSubscriberID hk (x := x.1) h.1
  unfold laws_eqUSIM.f
  simp only [e0, ob_some, cond_true, cond_false, dnot_t, dnot_f, ine_self, bne_self, seq_self, ilt_nn]
theorem eqPayload {k : Nat} (hk : FU ≤ k) {x : ((.sl (.int .u8)) : Ty).den} (h : Ok (.sl (.int .u8)) x) : laws_eqPayload.f k (x, x) = some true := by
  have e0 := eqByteS hk (x := x) h
  unfold laws_eqPayload.f
  simp only [e0, ob_some, cond_true, cond_false, dnot_t, dnot_f, ine_self, bne_self, seq_self, ilt_nn]
theorem eqPayloadS {k : Nat} (hk : FU ≤ k) {x : ((.sl (.sl (.int .u8))) : Ty).den} (h : Ok (.sl (.sl (.int .u8))) x) : laws_eqPayloadS.f k (x, x) = some true := by
  have hl := ok_len h
  unfold laws_eqPayloadS.f
  simp only [ine_self, cond_false]
  rw [eq_loop hk (e := (.sl (.int .u8))) (s := (laws_eqPayloadS.s0 k)) (ok_len h) (fun i hi => by
    simp only [laws_eqPayloadS.s0, ilt_len, idx_len, decide_eq_true hi, lget_nat _ hi, iadd_nat (show i < 9223372036854775807 by omega), eqPayload hk (ok_get h hi), ob_some, cond_true, cond_false, dnot_t, dnot_f, ine_self, bne_self, seq_self, ilt_nn]) (by
    simp only [laws_eqPayloadS.s0, ilt_len, Nat.lt_irrefl, decide_false, cond_false])]
  rfl
theorem eqNumberedPacket {k : Nat} (hk : FU ≤ k) {x : (TNumberedPacket : Ty).den} (h : Ok TNumberedPacket x) : laws_eqNumberedPacket.f k (x, x) = some true := by
  have e0 := eqByteS hk (x := x.2) h.2
  unfold laws_eqNumberedPacket.f
  simp only [e0, ob_some, cond_true, cond_false, dnot_t, dnot_f, ine_self, bne_self, seq_self, ilt_nn]
theorem eqNumberedPacketS {k : Nat} (hk : FU ≤ k) {x : ((.sl TNumberedPacket) : Ty).den} (h : Ok (.sl TNumberedPacket) x) : laws_eqNumberedPacketS.f k (x, x) = some true := by
  have hl := ok_len h
  unfold laws_eqNumberedPacketS.f
  simp only [ine_self, cond_false]
  rw [eq_loop hk (e := TNumberedPacket) (s := (laws_eqNumberedPacketS.s0 k)) (ok_len h) (fun i hi => by
    simp only [laws_eqNumberedPacketS.s0, ilt_len, idx_len, decide_eq_true hi, lget_nat _ hi, iadd_nat (show i < 9223372036854775807 by omega), eqNumberedPacket hk (ok_get h hi), ob_some, cond_true, cond_false, dnot_t, dnot_f, ine_self, bne_self, seq_self, ilt_nn]) (by
    simp only [laws_eqNumberedPacketS.s0, ilt_len, Nat.lt_irrefl, decide_false, cond_false])]
  rfl
theorem eqReceiveWindow {k : Nat} (hk : FU ≤ k) {x : (TReceiveWindow : Ty).den} (h : Ok TReceiveWindow x) : laws_eqReceiveWindow.f k (x, x) = some true := by
  have e0 := eqNumberedPacketS hk (x := x.2.1) h.2.1
  have e1 := eqPayloadS hk (x := x.2.2) h.2.2
  unfold laws_eqReceiveWindow.f
  simp only [e0, e1, ob_some, cond_true, cond_false, dnot_t, dnot_f, ine_self, bne_self, seq_self, ilt_nn]
theorem eqDevice {k : Nat} (hk : FU ≤ k) {x : (TDevice : Ty).den} (h : Ok TDevice x) : laws_eqDevice.f k (x, x) = some true := by
  have e0 := eqUSIM hk (x := x.1) h.1
  have e1 := eqReceiveWindow hk (x := x.2.2.2.2.2.2.2.2) h.2.2.2.2.2.2.2.2
  unfold laws_eqDevice.f
  simp only [e0, e1, ob_some, cond_true, cond_false, dnot_t, dnot_f, ine_self, bne_self, seq_self, ilt_nn]
theorem eqSignal {k : Nat} (hk : FU ≤ k) {x : (TSignal : Ty).den} (h : Ok TSignal x) : laws_eqSignal.f k (x, x) = some true := by
  have e0 := eqAuthVector hk (x := x.2.2.2.2.2.1) h.2.2.2.2.2.1
  unfold laws_eqSignal.f
  simp only [e0, ob_some, cond_true, cond_false, dnot_t, dnot_f, ine_self, bne_self, seq_self, ilt_nn]
theorem eqDeviceS {k : Nat} (hk : FU ≤ k) {x : ((.sl TDevice) : Ty).den} (h : Ok (.sl TDevice) x) : laws_eqDeviceS.f k (x, x) = some true := by
  have hl := ok_len h
  unfold laws_eqDeviceS.f
  simp only [ine_self, cond_false]
  rw [eq_loop hk (e := TDevice) (s := (laws_eqDeviceS.s0 k)) (ok_len h) (fun i hi => by
    simp only [laws_eqDeviceS.s0, ilt_len, idx_len, decide_eq_true hi, lget_nat _ hi, iadd_nat (show i < 9223372036854775807 by omega), eqDevice hk (ok_get h hi), ob_some, cond_true, cond_false, dnot_t, dnot_f, ine_self, bne_self, seq_self, ilt_nn]) (by
    simp only [laws_eqDeviceS.s0, ilt_len, Nat.lt_irrefl, decide_false, cond_false])]
  rfl
theorem eqSecuredMessage {k : Nat} (hk : FU ≤ k) {x : (TSecuredMessage : Ty).den} (h : Ok TSecuredMessage x) : laws_eqSecuredMessage.f k (x, x) = some true := by
  have e0 := eqByteS hk (x := x.2.2.1) h.2.2.1
  unfold laws_eqSecuredMessage.f
  simp only [e0, ob_some, cond_true, cond_false, dnot_t, dnot_f, ine_self, bne_self, seq_self, ilt_nn]
theorem eqRadioPacket {k : Nat} (hk : FU ≤ k) {x : (TRadioPacket : Ty).den} (h : Ok TRadioPacket x) : laws_eqRadioPacket.f k (x, x) = some true := by
  have e0 := eqSecuredMessage hk (x := x.2.2) h.2.2
  unfold laws_eqRadioPacket.f
  simp only [e0, ob_some, cond_true, cond_false, dnot_t, dnot_f, ine_self, bne_self, seq_self, ilt_nn]
theorem eqFlight {k : Nat} (hk : FU ≤ k) {x : (TFlight : Ty).den} (h : Ok TFlight x) : laws_eqFlight.f k (x, x) = some true := by
  have e0 := eqSignal hk (x := x.2.2.2.2.1) h.2.2.2.2.1
  have e1 := eqRadioPacket hk (x := x.2.2.2.2.2) h.2.2.2.2.2
  unfold laws_eqFlight.f
  simp only [e0, e1, ob_some, cond_true, cond_false, dnot_t, dnot_f, ine_self, bne_self, seq_self, ilt_nn]
theorem eqFlightS {k : Nat} (hk : FU ≤ k) {x : ((.sl TFlight) : Ty).den} (h : Ok (.sl TFlight) x) : laws_eqFlightS.f k (x, x) = some true := by
  have hl := ok_len h
  unfold laws_eqFlightS.f
  simp only [ine_self, cond_false]
  rw [eq_loop hk (e := TFlight) (s := (laws_eqFlightS.s0 k)) (ok_len h) (fun i hi => by
    simp only [laws_eqFlightS.s0, ilt_len, idx_len, decide_eq_true hi, lget_nat _ hi, iadd_nat (show i < 9223372036854775807 by omega), eqFlight hk (ok_get h hi), ob_some, cond_true, cond_false, dnot_t, dnot_f, ine_self, bne_self, seq_self, ilt_nn]) (by
    simp only [laws_eqFlightS.s0, ilt_len, Nat.lt_irrefl, decide_false, cond_false])]
  rfl
theorem eqSubscriberRecord {k : Nat} (hk : FU ≤ k) {x : (TUSIM : Ty).den} (h : Ok TUSIM x) : laws_eqSubscriberRecord.f k (x, x) = some true := by
  have e0 := eqSubscriberID hk (x := x.1) h.1
  unfold laws_eqSubscriberRecord.f
  simp only [e0, ob_some, cond_true, cond_false, dnot_t, dnot_f, ine_self, bne_self, seq_self, ilt_nn]
theorem eqSubscription {k : Nat} (hk : FU ≤ k) {x : (TSubscription : Ty).den} (h : Ok TSubscription x) : laws_eqSubscription.f k (x, x) = some true := by
  have e0 := eqIntS hk (x := x.2.2.2) h.2.2.2
  unfold laws_eqSubscription.f
  simp only [e0, ob_some, cond_true, cond_false, dnot_t, dnot_f, ine_self, bne_self, seq_self, ilt_nn]
theorem eqPagingState {k : Nat} (hk : FU ≤ k) {x : (TQuota : Ty).den} (h : Ok TQuota x) : laws_eqPagingState.f k (x, x) = some true := by
  unfold laws_eqPagingState.f
  simp only [ob_some, cond_true, cond_false, dnot_t, dnot_f, ine_self, bne_self, seq_self, ilt_nn]
theorem eqSendWindow {k : Nat} (hk : FU ≤ k) {x : (TSendWindow : Ty).den} (h : Ok TSendWindow x) : laws_eqSendWindow.f k (x, x) = some true := by
  have e0 := eqNumberedPacketS hk (x := x.2) h.2
  unfold laws_eqSendWindow.f
  simp only [e0, ob_some, cond_true, cond_false, dnot_t, dnot_f, ine_self, bne_self, seq_self, ilt_nn]
theorem eqQuota {k : Nat} (hk : FU ≤ k) {x : (TQuota : Ty).den} (h : Ok TQuota x) : laws_eqQuota.f k (x, x) = some true := by
  unfold laws_eqQuota.f
  simp only [ob_some, cond_true, cond_false, dnot_t, dnot_f, ine_self, bne_self, seq_self, ilt_nn]
theorem eqSession {k : Nat} (hk : FU ≤ k) {x : (TSession : Ty).den} (h : Ok TSession x) : laws_eqSession.f k (x, x) = some true := by
  have e0 := eqSubscriberRecord hk (x := x.1) h.1
  have e1 := eqSubscription hk (x := x.2.1) h.2.1
  have e2 := eqAuthVector hk (x := x.2.2.2.1) h.2.2.2.1
  have e3 := eqPagingState hk (x := x.2.2.2.2.2.2.2.2.2.2.1) h.2.2.2.2.2.2.2.2.2.2.1
  have e4 := eqPayloadS hk (x := x.2.2.2.2.2.2.2.2.2.2.2.1) h.2.2.2.2.2.2.2.2.2.2.2.1
  have e5 := eqSendWindow hk (x := x.2.2.2.2.2.2.2.2.2.2.2.2.1) h.2.2.2.2.2.2.2.2.2.2.2.2.1
  have e6 := eqQuota hk (x := x.2.2.2.2.2.2.2.2.2.2.2.2.2.2) h.2.2.2.2.2.2.2.2.2.2.2.2.2.2
  unfold laws_eqSession.f
  simp only [e0, e1, e2, e3, e4, e5, e6, ob_some, cond_true, cond_false, dnot_t, dnot_f, ine_self, bne_self, seq_self, ilt_nn]
theorem eqSessionS {k : Nat} (hk : FU ≤ k) {x : ((.sl TSession) : Ty).den} (h : Ok (.sl TSession) x) : laws_eqSessionS.f k (x, x) = some true := by
  have hl := ok_len h
  unfold laws_eqSessionS.f
  simp only [ine_self, cond_false]
  rw [eq_loop hk (e := TSession) (s := (laws_eqSessionS.s0 k)) (ok_len h) (fun i hi => by
    simp only [laws_eqSessionS.s0, ilt_len, idx_len, decide_eq_true hi, lget_nat _ hi, iadd_nat (show i < 9223372036854775807 by omega), eqSession hk (ok_get h hi), ob_some, cond_true, cond_false, dnot_t, dnot_f, ine_self, bne_self, seq_self, ilt_nn]) (by
    simp only [laws_eqSessionS.s0, ilt_len, Nat.lt_irrefl, decide_false, cond_false])]
  rfl
theorem eqServerPool {k : Nat} (hk : FU ≤ k) {x : (TSubscriberID : Ty).den} (h : Ok TSubscriberID x) : laws_eqServerPool.f k (x, x) = some true := by
  unfold laws_eqServerPool.f
  simp only [ob_some, cond_true, cond_false, dnot_t, dnot_f, ine_self, bne_self, seq_self, ilt_nn]
theorem eqNetwork {k : Nat} (hk : FU ≤ k) {x : (TNetwork : Ty).den} (h : Ok TNetwork x) : laws_eqNetwork.f k (x, x) = some true := by
  have e0 := eqCellMap hk (x := x.1) h.1
  have e1 := eqDeviceS hk (x := x.2.1) h.2.1
  have e2 := eqSessionS hk (x := x.2.2.1) h.2.2.1
  have e3 := eqAccountS hk (x := x.2.2.2.1) h.2.2.2.1
  have e4 := eqFlightS hk (x := x.2.2.2.2.1) h.2.2.2.2.1
  have e5 := eqServerPool hk (x := x.2.2.2.2.2.2.1) h.2.2.2.2.2.2.1
  unfold laws_eqNetwork.f
  simp only [e0, e1, e2, e3, e4, e5, ob_some, cond_true, cond_false, dnot_t, dnot_f, ine_self, bne_self, seq_self, ilt_nn]
theorem szReservationS {k : Nat} (hk : FU ≤ k) {x : ((.sl TSubscriberID) : Ty).den} (h : Good' (.sl TSubscriberID) x) {L : Int} (h0 : 0 ≤ L) (h1 : L ≤ 4294967296) : laws_szReservationS.f k (x, L) = some (if (cnt (.sl TSubscriberID) x : Int) ≤ L then L - cnt (.sl TSubscriberID) x else -1) := by
  have hl := good_len h
  have hs : isub .i64 L (llen x) = L - (x.length : Int) := isub_eq (by show _ ≤ L - (x.length : Int); omega) (by show L - (x.length : Int) ≤ _; omega)
  have hc : cnt (.sl TSubscriberID) x = x.length := by
    show x.length + (x.map fun _ => 0).sum = _
    rw [sum_zero]; rfl
  unfold laws_szReservationS.f
  simp only [hs, hc]
  by_cases hd : (x.length : Int) ≤ L
  · rw [ilt_f (by omega), cond_false, if_pos hd]
  · rw [ilt_t (by omega), cond_true, if_neg hd]
theorem szAccount {k : Nat} (hk : FU ≤ k) {x : (TAccount : Ty).den} (h : Good' TAccount x) {L : Int} (h0 : 0 ≤ L) (h1 : L ≤ 4294967296) : laws_szAccount.f k (x, L) = some (if (cnt TAccount x : Int) ≤ L then L - cnt TAccount x else -1) := by
  have hc : cnt TAccount x = cnt (.sl TSubscriberID) x.2.2.2 := by simp only [cnt]; try omega
  rw [hc]
  unfold laws_szAccount.f
  have e0 := szReservationS hk (x := x.2.2.2) h.2.2.2 (L := L) h0 h1
  (try simp only [])
  rw [e0]
  exact sz_end h0
theorem szAccountS {k : Nat} (hk : FU ≤ k) {x : ((.sl TAccount) : Ty).den} (h : Good' (.sl TAccount) x) {L : Int} (h0 : 0 ≤ L) (h1 : L ≤ 4294967296) : laws_szAccountS.f k (x, L) = some (if (cnt (.sl TAccount) x : Int) ≤ L then L - cnt (.sl TAccount) x else -1) := by
  have hl := good_len h
  have hs : isub .i64 L (llen x) = L - (x.length : Int) := isub_eq (by show _ ≤ L - (x.length : Int); omega) (by show L - (x.length : Int) ≤ _; omega)
  have hcn : cnt (.sl TAccount) x = x.length + (x.map (cnt TAccount)).sum := rfl
  rw [hcn]
  unfold laws_szAccountS.f
  simp only [hs]
  by_cases hc : (x.length : Int) ≤ L
  · rw [ilt_f (by omega), cond_false, sz_loop hk (e := TAccount) (cnt TAccount) (s := (laws_szAccountS.s0 k)) hl (fun i hi L h0 h1 => by
      have e1 := szAccount hk (good_get h hi) h0 h1
      simp only [laws_szAccountS.s0, ilt_len, idx_len, decide_eq_true hi, lget_nat _ hi, iadd_nat (show i < 9223372036854775807 by omega), e1, ob_some, cond_true]
      by_cases hd : (cnt TAccount x[i] : Int) ≤ L
      · rw [if_pos hd, if_pos hd, ilt_f (by omega), cond_false]
      · rw [if_neg hd, if_neg hd, ilt_t (by omega), cond_true]) (fun L => by
      simp only [laws_szAccountS.s0, ilt_len, Nat.lt_irrefl, decide_false, cond_false]) (by omega) (by omega), ob_some]
    by_cases hd : ((x.map (cnt TAccount)).sum : Int) ≤ L - x.length
    · rw [if_pos hd, sel_l, if_pos (by omega)]; congr 1; omega
    · rw [if_neg hd, sel_r, if_neg (by omega)]
  · rw [ilt_t (by omega), cond_true, if_neg (by omega)]
theorem szByteS {k : Nat} (hk : FU ≤ k) {x : ((.sl (.int .u8)) : Ty).den} (h : Good' (.sl (.int .u8)) x) {L : Int} (h0 : 0 ≤ L) (h1 : L ≤ 4294967296) : laws_szByteS.f k (x, L) = some (if (cnt (.sl (.int .u8)) x : Int) ≤ L then L - cnt (.sl (.int .u8)) x else -1) := by
  have hl := good_len h
  have hs : isub .i64 L (llen x) = L - (x.length : Int) := isub_eq (by show _ ≤ L - (x.length : Int); omega) (by show L - (x.length : Int) ≤ _; omega)
  have hc : cnt (.sl (.int .u8)) x = x.length := by
    show x.length + (x.map fun _ => 0).sum = _
    rw [sum_zero]; rfl
  unfold laws_szByteS.f
  simp only [hs, hc]
  by_cases hd : (x.length : Int) ≤ L
  · rw [ilt_f (by omega), cond_false, if_pos hd]
  · rw [ilt_t (by omega), cond_true, if_neg hd]
theorem szIntS {k : Nat} (hk : FU ≤ k) {x : ((.sl (.int .i64)) : Ty).den} (h : Good' (.sl (.int .i64)) x) {L : Int} (h0 : 0 ≤ L) (h1 : L ≤ 4294967296) : laws_szIntS.f k (x, L) = some (if (cnt (.sl (.int .i64)) x : Int) ≤ L then L - cnt (.sl (.int .i64)) x else -1) := by
  have hl := good_len h
  have hs : isub .i64 L (llen x) = L - (x.length : Int) := isub_eq (by show _ ≤ L - (x.length : Int); omega) (by show L - (x.length : Int) ≤ _; omega)
  have hc : cnt (.sl (.int .i64)) x = x.length := by
    show x.length + (x.map fun _ => 0).sum = _
    rw [sum_zero]; rfl
  unfold laws_szIntS.f
  simp only [hs, hc]
  by_cases hd : (x.length : Int) ≤ L
  · rw [ilt_f (by omega), cond_false, if_pos hd]
  · rw [ilt_t (by omega), cond_true, if_neg hd]
theorem szCell {k : Nat} (hk : FU ≤ k) {x : (TCell : Ty).den} (h : Good' TCell x) {L : Int} (h0 : 0 ≤ L) (h1 : L ≤ 4294967296) : laws_szCell.f k (x, L) = some (if (cnt TCell x : Int) ≤ L then L - cnt TCell x else -1) := by
  have hc : cnt TCell x = cnt (.sl (.int .i64)) x.2 := by simp only [cnt]; try omega
  rw [hc]
  unfold laws_szCell.f
  have e0 := szIntS hk (x := x.2) h.2 (L := L) h0 h1
  (try simp only [])
  rw [e0]
  exact sz_end h0
theorem szCellS {k : Nat} (hk : FU ≤ k) {x : ((.sl TCell) : Ty).den} (h : Good' (.sl TCell) x) {L : Int} (h0 : 0 ≤ L) (h1 : L ≤ 4294967296) : laws_szCellS.f k (x, L) = some (if (cnt (.sl TCell) x : Int) ≤ L then L - cnt (.sl TCell) x else -1) := by
  have hl := good_len h
  have hs : isub .i64 L (llen x) = L - (x.length : Int) := isub_eq (by show _ ≤ L - (x.length : Int); omega) (by show L - (x.length : Int) ≤ _; omega)
  have hcn : cnt (.sl TCell) x = x.length + (x.map (cnt TCell)).sum := rfl
  rw [hcn]
  unfold laws_szCellS.f
  simp only [hs]
  by_cases hc : (x.length : Int) ≤ L
  · rw [ilt_f (by omega), cond_false, sz_loop hk (e := TCell) (cnt TCell) (s := (laws_szCellS.s0 k)) hl (fun i hi L h0 h1 => by
      have e1 := szCell hk (good_get h hi) h0 h1
      simp only [laws_szCellS.s0, ilt_len, idx_len, decide_eq_true hi, lget_nat _ hi, iadd_nat (show i < 9223372036854775807 by omega), e1, ob_some, cond_true]
      by_cases hd : (cnt TCell x[i] : Int) ≤ L
      · rw [if_pos hd, if_pos hd, ilt_f (by omega), cond_false]
      · rw [if_neg hd, if_neg hd, ilt_t (by omega), cond_true]) (fun L => by
      simp only [laws_szCellS.s0, ilt_len, Nat.lt_irrefl, decide_false, cond_false]) (by omega) (by omega), ob_some]
    by_cases hd : ((x.map (cnt TCell)).sum : Int) ≤ L - x.length
    · rw [if_pos hd, sel_l, if_pos (by omega)]; congr 1; omega
    · rw [if_neg hd, sel_r, if_neg (by omega)]
  · rw [ilt_t (by omega), cond_true, if_neg (by omega)]
theorem szCellMap {k : Nat} (hk : FU ≤ k) {x : ((.sl TCell) : Ty).den} (h : Good' (.sl TCell) x) {L : Int} (h0 : 0 ≤ L) (h1 : L ≤ 4294967296) : laws_szCellMap.f k (x, L) = some (if (cnt (.sl TCell) x : Int) ≤ L then L - cnt (.sl TCell) x else -1) := by
  have hc : cnt (.sl TCell) x = cnt (.sl TCell) x := by simp only [cnt]; try omega
  rw [hc]
  unfold laws_szCellMap.f
  have e0 := szCellS hk (x := x) h (L := L) h0 h1
  (try simp only [])
  rw [e0]
  exact sz_end h0
theorem szPayload {k : Nat} (hk : FU ≤ k) {x : ((.sl (.int .u8)) : Ty).den} (h : Good' (.sl (.int .u8)) x) {L : Int} (h0 : 0 ≤ L) (h1 : L ≤ 4294967296) : laws_szPayload.f k (x, L) = some (if (cnt (.sl (.int .u8)) x : Int) ≤ L then L - cnt (.sl (.int .u8)) x else -1) := by
  have hc : cnt (.sl (.int .u8)) x = cnt (.sl (.int .u8)) x := by simp only [cnt]; try omega
  rw [hc]
  unfold laws_szPayload.f
  have e0 := szByteS hk (x := x) h (L := L) h0 h1
  (try simp only [])
  rw [e0]
  exact sz_end h0
theorem szPayloadS {k : Nat} (hk : FU ≤ k) {x : ((.sl (.sl (.int .u8))) : Ty).den} (h : Good' (.sl (.sl (.int .u8))) x) {L : Int} (h0 : 0 ≤ L) (h1 : L ≤ 4294967296) : laws_szPayloadS.f k (x, L) = some (if (cnt (.sl (.sl (.int .u8))) x : Int) ≤ L then L - cnt (.sl (.sl (.int .u8))) x else -1) := by
  have hl := good_len h
  have hs : isub .i64 L (llen x) = L - (x.length : Int) := isub_eq (by show _ ≤ L - (x.length : Int); omega) (by show L - (x.length : Int) ≤ _; omega)
  have hcn : cnt (.sl (.sl (.int .u8))) x = x.length + (x.map (cnt (.sl (.int .u8)))).sum := rfl
  rw [hcn]
  unfold laws_szPayloadS.f
  simp only [hs]
  by_cases hc : (x.length : Int) ≤ L
  · rw [ilt_f (by omega), cond_false, sz_loop hk (e := (.sl (.int .u8))) (cnt (.sl (.int .u8))) (s := (laws_szPayloadS.s0 k)) hl (fun i hi L h0 h1 => by
      have e1 := szPayload hk (good_get h hi) h0 h1
      simp only [laws_szPayloadS.s0, ilt_len, idx_len, decide_eq_true hi, lget_nat _ hi, iadd_nat (show i < 9223372036854775807 by omega), e1, ob_some, cond_true]
      by_cases hd : (cnt (.sl (.int .u8)) x[i] : Int) ≤ L
      · rw [if_pos hd, if_pos hd, ilt_f (by omega), cond_false]
      · rw [if_neg hd, if_neg hd, ilt_t (by omega), cond_true]) (fun L => by
      simp only [laws_szPayloadS.s0, ilt_len, Nat.lt_irrefl, decide_false, cond_false]) (by omega) (by omega), ob_some]
    by_cases hd : ((x.map (cnt (.sl (.int .u8)))).sum : Int) ≤ L - x.length
    · rw [if_pos hd, sel_l, if_pos (by omega)]; congr 1; omega
    · rw [if_neg hd, sel_r, if_neg (by omega)]
  · rw [ilt_t (by omega), cond_true, if_neg (by omega)]
theorem szNumberedPacket {k : Nat} (hk : FU ≤ k) {x : (TNumberedPacket : Ty).den} (h : Good' TNumberedPacket x) {L : Int} (h0 : 0 ≤ L) (h1 : L ≤ 4294967296) : laws_szNumberedPacket.f k (x, L) = some (if (cnt TNumberedPacket x : Int) ≤ L then L - cnt TNumberedPacket x else -1) := by
  have hc : cnt TNumberedPacket x = cnt (.sl (.int .u8)) x.2 := by simp only [cnt]; try omega
  rw [hc]
  unfold laws_szNumberedPacket.f
  have e0 := szByteS hk (x := x.2) h.2 (L := L) h0 h1
  (try simp only [])
  rw [e0]
  exact sz_end h0
theorem szNumberedPacketS {k : Nat} (hk : FU ≤ k) {x : ((.sl TNumberedPacket) : Ty).den} (h : Good' (.sl TNumberedPacket) x) {L : Int} (h0 : 0 ≤ L) (h1 : L ≤ 4294967296) : laws_szNumberedPacketS.f k (x, L) = some (if (cnt (.sl TNumberedPacket) x : Int) ≤ L then L - cnt (.sl TNumberedPacket) x else -1) := by
  have hl := good_len h
  have hs : isub .i64 L (llen x) = L - (x.length : Int) := isub_eq (by show _ ≤ L - (x.length : Int); omega) (by show L - (x.length : Int) ≤ _; omega)
  have hcn : cnt (.sl TNumberedPacket) x = x.length + (x.map (cnt TNumberedPacket)).sum := rfl
  rw [hcn]
  unfold laws_szNumberedPacketS.f
  simp only [hs]
  by_cases hc : (x.length : Int) ≤ L
  · rw [ilt_f (by omega), cond_false, sz_loop hk (e := TNumberedPacket) (cnt TNumberedPacket) (s := (laws_szNumberedPacketS.s0 k)) hl (fun i hi L h0 h1 => by
      have e1 := szNumberedPacket hk (good_get h hi) h0 h1
      simp only [laws_szNumberedPacketS.s0, ilt_len, idx_len, decide_eq_true hi, lget_nat _ hi, iadd_nat (show i < 9223372036854775807 by omega), e1, ob_some, cond_true]
      by_cases hd : (cnt TNumberedPacket x[i] : Int) ≤ L
      · rw [if_pos hd, if_pos hd, ilt_f (by omega), cond_false]
      · rw [if_neg hd, if_neg hd, ilt_t (by omega), cond_true]) (fun L => by
      simp only [laws_szNumberedPacketS.s0, ilt_len, Nat.lt_irrefl, decide_false, cond_false]) (by omega) (by omega), ob_some]
    by_cases hd : ((x.map (cnt TNumberedPacket)).sum : Int) ≤ L - x.length
    · rw [if_pos hd, sel_l, if_pos (by omega)]; congr 1; omega
    · rw [if_neg hd, sel_r, if_neg (by omega)]
  · rw [ilt_t (by omega), cond_true, if_neg (by omega)]
theorem szReceiveWindow {k : Nat} (hk : FU ≤ k) {x : (TReceiveWindow : Ty).den} (h : Good' TReceiveWindow x) {L : Int} (h0 : 0 ≤ L) (h1 : L ≤ 4294967296) : laws_szReceiveWindow.f k (x, L) = some (if (cnt TReceiveWindow x : Int) ≤ L then L - cnt TReceiveWindow x else -1) := by
  have hc : cnt TReceiveWindow x = cnt (.sl TNumberedPacket) x.2.1 + (cnt (.sl (.sl (.int .u8))) x.2.2) := by simp only [cnt]; try omega
  rw [hc]
  unfold laws_szReceiveWindow.f
  have e0 := szNumberedPacketS hk (x := x.2.1) h.2.1 (L := L) h0 h1
  (try simp only [])
  rw [e0]
  refine sz_seq h0 fun M1 h01 h11 => ?_
  have hM1 : M1 ≤ 4294967296 := Int.le_trans h11 h1
  have e1 := szPayloadS hk (x := x.2.2) h.2.2 (L := M1) h01 hM1
  rw [e1]
  exact sz_end h01
theorem szDevice {k : Nat} (hk : FU ≤ k) {x : (TDevice : Ty).den} (h : Good' TDevice x) {L : Int} (h0 : 0 ≤ L) (h1 : L ≤ 4294967296) : laws_szDevice.f k (x, L) = some (if (cnt TDevice x : Int) ≤ L then L - cnt TDevice x else -1) := by
  have hc : cnt TDevice x = cnt TReceiveWindow x.2.2.2.2.2.2.2.2 := by simp only [cnt]; try omega
  rw [hc]
  unfold laws_szDevice.f
  have e0 := szReceiveWindow hk (x := x.2.2.2.2.2.2.2.2) h.2.2.2.2.2.2.2.2 (L := L) h0 h1
  (try simp only [])
  rw [e0]
  exact sz_end h0
theorem szDeviceS {k : Nat} (hk : FU ≤ k) {x : ((.sl TDevice) : Ty).den} (h : Good' (.sl TDevice) x) {L : Int} (h0 : 0 ≤ L) (h1 : L ≤ 4294967296) : laws_szDeviceS.f k (x, L) = some (if (cnt (.sl TDevice) x : Int) ≤ L then L - cnt (.sl TDevice) x else -1) := by
  have hl := good_len h
  have hs : isub .i64 L (llen x) = L - (x.length : Int) := isub_eq (by show _ ≤ L - (x.length : Int); omega) (by show L - (x.length : Int) ≤ _; omega)
  have hcn : cnt (.sl TDevice) x = x.length + (x.map (cnt TDevice)).sum := rfl
  rw [hcn]
  unfold laws_szDeviceS.f
  simp only [hs]
  by_cases hc : (x.length : Int) ≤ L
  · rw [ilt_f (by omega), cond_false, sz_loop hk (e := TDevice) (cnt TDevice) (s := (laws_szDeviceS.s0 k)) hl (fun i hi L h0 h1 => by
      have e1 := szDevice hk (good_get h hi) h0 h1
      simp only [laws_szDeviceS.s0, ilt_len, idx_len, decide_eq_true hi, lget_nat _ hi, iadd_nat (show i < 9223372036854775807 by omega), e1, ob_some, cond_true]
      by_cases hd : (cnt TDevice x[i] : Int) ≤ L
      · rw [if_pos hd, if_pos hd, ilt_f (by omega), cond_false]
      · rw [if_neg hd, if_neg hd, ilt_t (by omega), cond_true]) (fun L => by
      simp only [laws_szDeviceS.s0, ilt_len, Nat.lt_irrefl, decide_false, cond_false]) (by omega) (by omega), ob_some]
    by_cases hd : ((x.map (cnt TDevice)).sum : Int) ≤ L - x.length
    · rw [if_pos hd, sel_l, if_pos (by omega)]; congr 1; omega
    · rw [if_neg hd, sel_r, if_neg (by omega)]
  · rw [ilt_t (by omega), cond_true, if_neg (by omega)]
theorem szSecuredMessage {k : Nat} (hk : FU ≤ k) {x : (TSecuredMessage : Ty).den} (h : Good' TSecuredMessage x) {L : Int} (h0 : 0 ≤ L) (h1 : L ≤ 4294967296) : laws_szSecuredMessage.f k (x, L) = some (if (cnt TSecuredMessage x : Int) ≤ L then L - cnt TSecuredMessage x else -1) := by
  have hc : cnt TSecuredMessage x = cnt (.sl (.int .u8)) x.2.2.1 := by simp only [cnt]; try omega
  rw [hc]
  unfold laws_szSecuredMessage.f
  have e0 := szByteS hk (x := x.2.2.1) h.2.2.1 (L := L) h0 h1
  (try simp only [])
  rw [e0]
  exact sz_end h0
theorem szRadioPacket {k : Nat} (hk : FU ≤ k) {x : (TRadioPacket : Ty).den} (h : Good' TRadioPacket x) {L : Int} (h0 : 0 ≤ L) (h1 : L ≤ 4294967296) : laws_szRadioPacket.f k (x, L) = some (if (cnt TRadioPacket x : Int) ≤ L then L - cnt TRadioPacket x else -1) := by
  have hc : cnt TRadioPacket x = cnt TSecuredMessage x.2.2 := by simp only [cnt]; try omega
  rw [hc]
  unfold laws_szRadioPacket.f
  have e0 := szSecuredMessage hk (x := x.2.2) h.2.2 (L := L) h0 h1
  (try simp only [])
  rw [e0]
  exact sz_end h0
theorem szFlight {k : Nat} (hk : FU ≤ k) {x : (TFlight : Ty).den} (h : Good' TFlight x) {L : Int} (h0 : 0 ≤ L) (h1 : L ≤ 4294967296) : laws_szFlight.f k (x, L) = some (if (cnt TFlight x : Int) ≤ L then L - cnt TFlight x else -1) := by
  have hc : cnt TFlight x = cnt TRadioPacket x.2.2.2.2.2 := by simp only [cnt]; try omega
  rw [hc]
  unfold laws_szFlight.f
  have e0 := szRadioPacket hk (x := x.2.2.2.2.2) h.2.2.2.2.2 (L := L) h0 h1
  (try simp only [])
  rw [e0]
  exact sz_end h0
theorem szFlightS {k : Nat} (hk : FU ≤ k) {x : ((.sl TFlight) : Ty).den} (h : Good' (.sl TFlight) x) {L : Int} (h0 : 0 ≤ L) (h1 : L ≤ 4294967296) : laws_szFlightS.f k (x, L) = some (if (cnt (.sl TFlight) x : Int) ≤ L then L - cnt (.sl TFlight) x else -1) := by
  have hl := good_len h
  have hs : isub .i64 L (llen x) = L - (x.length : Int) := isub_eq (by show _ ≤ L - (x.length : Int); omega) (by show L - (x.length : Int) ≤ _; omega)
  have hcn : cnt (.sl TFlight) x = x.length + (x.map (cnt TFlight)).sum := rfl
  rw [hcn]
  unfold laws_szFlightS.f
  simp only [hs]
  by_cases hc : (x.length : Int) ≤ L
  · rw [ilt_f (by omega), cond_false, sz_loop hk (e := TFlight) (cnt TFlight) (s := (laws_szFlightS.s0 k)) hl (fun i hi L h0 h1 => by
      have e1 := szFlight hk (good_get h hi) h0 h1
      simp only [laws_szFlightS.s0, ilt_len, idx_len, decide_eq_true hi, lget_nat _ hi, iadd_nat (show i < 9223372036854775807 by omega), e1, ob_some, cond_true]
      by_cases hd : (cnt TFlight x[i] : Int) ≤ L
      · rw [if_pos hd, if_pos hd, ilt_f (by omega), cond_false]
      · rw [if_neg hd, if_neg hd, ilt_t (by omega), cond_true]) (fun L => by
      simp only [laws_szFlightS.s0, ilt_len, Nat.lt_irrefl, decide_false, cond_false]) (by omega) (by omega), ob_some]
    by_cases hd : ((x.map (cnt TFlight)).sum : Int) ≤ L - x.length
    · rw [if_pos hd, sel_l, if_pos (by omega)]; congr 1; omega
    · rw [if_neg hd, sel_r, if_neg (by omega)]
  · rw [ilt_t (by omega), cond_true, if_neg (by omega)]
theorem szSubscription {k : Nat} (hk : FU ≤ k) {x : (TSubscription : Ty).den} (h : Good' TSubscription x) {L : Int} (h0 : 0 ≤ L) (h1 : L ≤ 4294967296) : laws_szSubscription.f k (x, L) = some (if (cnt TSubscription x : Int) ≤ L then L - cnt TSubscription x else -1) := by
  have hc : cnt TSubscription x = cnt (.sl (.int .i64)) x.2.2.2 := by simp only [cnt]; try omega
  rw [hc]
  unfold laws_szSubscription.f
  have e0 := szIntS hk (x := x.2.2.2) h.2.2.2 (L := L) h0 h1
  (try simp only [])
  rw [e0]
  exact sz_end h0
theorem szSendWindow {k : Nat} (hk : FU ≤ k) {x : (TSendWindow : Ty).den} (h : Good' TSendWindow x) {L : Int} (h0 : 0 ≤ L) (h1 : L ≤ 4294967296) : laws_szSendWindow.f k (x, L) = some (if (cnt TSendWindow x : Int) ≤ L then L - cnt TSendWindow x else -1) := by
  have hc : cnt TSendWindow x = cnt (.sl TNumberedPacket) x.2 := by simp only [cnt]; try omega
  rw [hc]
  unfold laws_szSendWindow.f
  have e0 := szNumberedPacketS hk (x := x.2) h.2 (L := L) h0 h1
  (try simp only [])
  rw [e0]
  exact sz_end h0
theorem szSession {k : Nat} (hk : FU ≤ k) {x : (TSession : Ty).den} (h : Good' TSession x) {L : Int} (h0 : 0 ≤ L) (h1 : L ≤ 4294967296) : laws_szSession.f k (x, L) = some (if (cnt TSession x : Int) ≤ L then L - cnt TSession x else -1) := by
  have hc : cnt TSession x = cnt TSubscription x.2.1 + (cnt (.sl (.sl (.int .u8))) x.2.2.2.2.2.2.2.2.2.2.2.1 + (cnt TSendWindow x.2.2.2.2.2.2.2.2.2.2.2.2.1)) := by simp only [cnt]; try omega
  rw [hc]
  unfold laws_szSession.f
  have e0 := szSubscription hk (x := x.2.1) h.2.1 (L := L) h0 h1
  (try simp only [])
  rw [e0]
  refine sz_seq h0 fun M1 h01 h11 => ?_
  have hM1 : M1 ≤ 4294967296 := Int.le_trans h11 h1
  have e1 := szPayloadS hk (x := x.2.2.2.2.2.2.2.2.2.2.2.1) h.2.2.2.2.2.2.2.2.2.2.2.1 (L := M1) h01 hM1
  rw [e1]
  refine sz_seq h01 fun M2 h02 h12 => ?_
  have hM2 : M2 ≤ 4294967296 := Int.le_trans h12 hM1
  have e2 := szSendWindow hk (x := x.2.2.2.2.2.2.2.2.2.2.2.2.1) h.2.2.2.2.2.2.2.2.2.2.2.2.1 (L := M2) h02 hM2
  rw [e2]
  exact sz_end h02
theorem szSessionS {k : Nat} (hk : FU ≤ k) {x : ((.sl TSession) : Ty).den} (h : Good' (.sl TSession) x) {L : Int} (h0 : 0 ≤ L) (h1 : L ≤ 4294967296) : laws_szSessionS.f k (x, L) = some (if (cnt (.sl TSession) x : Int) ≤ L then L - cnt (.sl TSession) x else -1) := by
  have hl := good_len h
  have hs : isub .i64 L (llen x) = L - (x.length : Int) := isub_eq (by show _ ≤ L - (x.length : Int); omega) (by show L - (x.length : Int) ≤ _; omega)
  have hcn : cnt (.sl TSession) x = x.length + (x.map (cnt TSession)).sum := rfl
  rw [hcn]
  unfold laws_szSessionS.f
  simp only [hs]
  by_cases hc : (x.length : Int) ≤ L
  · rw [ilt_f (by omega), cond_false, sz_loop hk (e := TSession) (cnt TSession) (s := (laws_szSessionS.s0 k)) hl (fun i hi L h0 h1 => by
      have e1 := szSession hk (good_get h hi) h0 h1
      simp only [laws_szSessionS.s0, ilt_len, idx_len, decide_eq_true hi, lget_nat _ hi, iadd_nat (show i < 9223372036854775807 by omega), e1, ob_some, cond_true]
      by_cases hd : (cnt TSession x[i] : Int) ≤ L
      · rw [if_pos hd, if_pos hd, ilt_f (by omega), cond_false]
      · rw [if_neg hd, if_neg hd, ilt_t (by omega), cond_true]) (fun L => by
      simp only [laws_szSessionS.s0, ilt_len, Nat.lt_irrefl, decide_false, cond_false]) (by omega) (by omega), ob_some]
    by_cases hd : ((x.map (cnt TSession)).sum : Int) ≤ L - x.length
    · rw [if_pos hd, sel_l, if_pos (by omega)]; congr 1; omega
    · rw [if_neg hd, sel_r, if_neg (by omega)]
  · rw [ilt_t (by omega), cond_true, if_neg (by omega)]
theorem szNetwork {k : Nat} (hk : FU ≤ k) {x : (TNetwork : Ty).den} (h : Good' TNetwork x) {L : Int} (h0 : 0 ≤ L) (h1 : L ≤ 4294967296) : laws_szNetwork.f k (x, L) = some (if (cnt TNetwork x : Int) ≤ L then L - cnt TNetwork x else -1) := by
  have hc : cnt TNetwork x = cnt (.sl TCell) x.1 + (cnt (.sl TDevice) x.2.1 + (cnt (.sl TSession) x.2.2.1 + (cnt (.sl TAccount) x.2.2.2.1 + (cnt (.sl TFlight) x.2.2.2.2.1)))) := by simp only [cnt]; try omega
  rw [hc]
  unfold laws_szNetwork.f
  have e0 := szCellMap hk (x := x.1) h.1 (L := L) h0 h1
  (try simp only [])
  rw [e0]
  refine sz_seq h0 fun M1 h01 h11 => ?_
  have hM1 : M1 ≤ 4294967296 := Int.le_trans h11 h1
  have e1 := szDeviceS hk (x := x.2.1) h.2.1 (L := M1) h01 hM1
  rw [e1]
  refine sz_seq h01 fun M2 h02 h12 => ?_
  have hM2 : M2 ≤ 4294967296 := Int.le_trans h12 hM1
  have e2 := szSessionS hk (x := x.2.2.1) h.2.2.1 (L := M2) h02 hM2
  rw [e2]
  refine sz_seq h02 fun M3 h03 h13 => ?_
  have hM3 : M3 ≤ 4294967296 := Int.le_trans h13 hM2
  have e3 := szAccountS hk (x := x.2.2.2.1) h.2.2.2.1 (L := M3) h03 hM3
  rw [e3]
  refine sz_seq h03 fun M4 h04 h14 => ?_
  have hM4 : M4 ≤ 4294967296 := Int.le_trans h14 hM3
  have e4 := szFlightS hk (x := x.2.2.2.2.1) h.2.2.2.2.1 (L := M4) h04 hM4
  rw [e4]
  exact sz_end h04
end Go.Proofs.XF
/- Plain laws: program and reference agree: copies, devices, sessions. -/
set_option linter.unusedVariables false
set_option linter.unusedSimpArgs false
set_option linter.unusedSectionVars false
set_option maxRecDepth 4000
namespace Go.Proofs.XF
open Go Go.Proofs.XTv

theorem app1 {α : Type} {l : List α} {v : α} {b : Nat} (h : l.length ≤ 4294967296) (hb : b ≤ 16384) : appOk l [v] b = true := by
  refine app_ok ?_
  have : (l.length + 1) * b ≤ 4294967297 * 16384 := Nat.mul_le_mul (by omega) hb
  show (l.length + 1) * b ≤ _
  omega
theorem app0 {α : Type} {l : List α} {b : Nat} (h : l.length ≤ 4294967296) (hb : b ≤ 16384) : appOk [] l b = true := by
  refine app_ok ?_
  have : l.length * b ≤ 4294967296 * 16384 := Nat.mul_le_mul h hb
  simp only [List.length_nil, Nat.zero_add]
  omega
theorem okn {n : Int} (h : -2147483648 ≤ n ∧ n ≤ 2147483647) : Ok (.int .i64) n := by
  show -9223372036854775808 ≤ n ∧ n ≤ 9223372036854775807
  omega
theorem takeL {α : Type} {l : List α} {i : Nat} (h : i < l.length) (hl : l.length ≤ 4294967296) : (l.take i).length ≤ 4294967296 := by simp; omega

section
variable {k : Nat} (hk : FU ≤ k)
/-! ### Copies -/
theorem in_eq (x : DQuota) : impl_InRange.f k x = spec_l1In.f k x := rfl
def bytesFrom : List DNumberedPacket → Int → Int
  | [], n => n
  | p :: ps, n => bytesFrom ps (iadd .i64 n (llen p.2))
theorem bytesFrom_snoc (p : DNumberedPacket) : ∀ (l : List DNumberedPacket) (n : Int), bytesFrom (l ++ [p]) n = iadd .i64 (bytesFrom l n) (llen p.2)
  | [], n => rfl
  | q :: l, n => bytesFrom_snoc p l _
end
end Go.Proofs.XF
/- Plain laws: which receivers and devices are valid. -/
set_option linter.unusedVariables false
set_option linter.unusedSimpArgs false
set_option linter.unusedSectionVars false
set_option maxRecDepth 4000
namespace Go.Proofs.XF
open Go Go.Proofs.XTv

def fitB (l : List (List Int)) (j : Nat) : Bool := dnot (ilt 60 (llen (lget (.sl (.int .u8)) l (j : Int))))
def recvB (x : DReceiveWindow) (i : Nat) : Bool :=
  (bif ile (iadd .i64 x.1 1) (lget TNumberedPacket x.2.1 (i : Int)).1 then ile (lget TNumberedPacket x.2.1 (i : Int)).1 (isub .i64 (iadd .i64 x.1 8) 1) else false) &&
  dnot (ilt 60 (llen (lget TNumberedPacket x.2.1 (i : Int)).2)) &&
  dnot (ilt 0 (i : Int) && ile (lget TNumberedPacket x.2.1 (i : Int)).1 (lget TNumberedPacket x.2.1 (isub .i64 (i : Int) 1)).1)
def recvOk (x : DReceiveWindow) : Bool :=
  decide (ieq x.1 (iadd .i64 (llen x.2.2) 1) = true ∧ ile (llen x.2.2) 24 = true ∧ (∀ j, j < x.2.2.length → fitB x.2.2 j = true) ∧ ile (llen x.2.1) 8 = true ∧ ∀ i, i < x.2.1.length → recvB x i = true)
theorem idx_pred {α : Type} {l : List α} {i : Nat} (hi : i < l.length) (hl : l.length ≤ 4294967296) (h : ilt 0 (i : Int) = true) : idxOk (isub .i64 (i : Int) 1) (llen l) = true := by
  have h0 : (0 : Int) < (i : Int) := of_decide_eq_true h
  rw [isub_eq (by omega) (by omega)]
  exact decide_eq_true ⟨by omega, by show (i : Int) - 1 < (l.length : Int); omega⟩
theorem not_ilt_ile (x y : Int) : dnot (ilt x y) = ile y x := by
  by_cases h : x < y
  · rw [ilt_t h, ile_f (by omega)]; rfl
  · rw [ilt_f h, ile_t (by omega)]; rfl
theorem not_ine (x y : Int) : dnot (ine x y) = ieq x y := by
  unfold dnot ine ieq bne
  rw [Bool.not_not]
theorem ine_not (x y : Int) : ine x y = dnot (ieq x y) := rfl

section
variable {k : Nat} (hk : FU ≤ k)
def inB (x l h : Int) : Bool := bif ile l x then ile x h else false
theorem i_in (x l h : Int) : impl_InRange.f k (x, l, h) = some (inB x l h) := rfl
theorem s_in (x l h : Int) : spec_l1In.f k (x, l, h) = some (inB x l h) := rfl
theorem in_23 (x : Int) : inB x 2 3 = (ieq x 2 || ieq x 3) := by
  unfold inB
  by_cases h2 : x = 2
  · subst h2; rfl
  · by_cases h3 : x = 3
    · subst h3; rfl
    · rw [ieq_f h2, ieq_f h3]
      by_cases h : 2 ≤ x
      · rw [ile_t h, cond_true, ile_f (by omega)]; rfl
      · rw [ile_f h]; rfl
theorem ob_pick {α β : Type} (c : Bool) (a b : α) (f : α → Option β) : obind (bif c then some a else some b) f = f (bif c then a else b) := by cases c <;> rfl
end
end Go.Proofs.XF
/- Plain laws: hashes, keys, message codes: program and reference reckon the same. -/
set_option linter.unusedVariables false
set_option linter.unusedSimpArgs false
set_option linter.unusedSectionVars false
set_option maxRecDepth 4000
namespace Go.Proofs.XF
open Go Go.Proofs.XTv

def modF (x m : Int) : Int := if 1 ≤ m ∧ m ≤ 1000000000000 then x % m else 0
theorem modF_bd {x m : Int} (h : 1 ≤ m) (h2 : m ≤ 1000000000000) : 0 ≤ modF x m ∧ modF x m < m := by
  unfold modF
  rw [if_pos ⟨h, h2⟩]
  exact ⟨Int.emod_nonneg x (by omega), Int.emod_lt_of_pos x (by omega)⟩
theorem tmod_bd (x : Int) {m : Int} (h : 0 < m) : -m < x.tmod m ∧ x.tmod m < m := by
  constructor
  · have := Int.lt_tmod_of_pos x h; omega
  · exact Int.tmod_lt_of_pos x h
theorem tmod_emod (x : Int) {m : Int} (h : 0 < m) : x % m = if x.tmod m < 0 then x.tmod m + m else x.tmod m := by
  have hb := tmod_bd x h
  have h1 : x = m * x.tdiv m + x.tmod m := (Int.mul_tdiv_add_tmod x m).symm
  split
  · have : x = (x.tmod m + m) + m * (x.tdiv m - 1) := by rw [Int.mul_sub]; omega
    rw [this, Int.add_mul_emod_self_left]
    have e : x.tmod m + m + m * (x.tdiv m - 1) = x := this.symm
    rw [e]
    exact Int.emod_eq_of_lt (by omega) (by omega)
  · conv => lhs; rw [h1, Int.add_comm, Int.add_mul_emod_self_left]
    exact Int.emod_eq_of_lt (by omega) (by omega)
def hstep (h x : Int) : Int := irem .i64 (iadd .i64 (iadd .i64 (imul .i64 h 1000003) (modF x 2147483647)) 13) 2147483647
theorem hstep_bd {h x : Int} (h0 : 0 ≤ h) (h1 : h < 2147483647) : 0 ≤ hstep h x ∧ hstep h x < 2147483647 := by
  have hb := modF_bd (x := x) (m := 2147483647) (by omega) (by omega)
  unfold hstep
  rw [imul_eq (by omega) (by omega), iadd_eq (x := h * 1000003) (y := modF x 2147483647) (by omega) (by omega), iadd_eq (by omega) (by omega)]
  unfold irem
  have := tmod_bd (h * 1000003 + modF x 2147483647 + 13) (m := 2147483647) (by omega)
  exact ⟨Int.tmod_nonneg _ (by omega), this.2⟩
def hfold (h : Int) (l : List Int) : Int := l.foldl hstep h
theorem hfold_bd : ∀ (l : List Int) {h : Int}, 0 ≤ h → h < 2147483647 → 0 ≤ hfold h l ∧ hfold h l < 2147483647
  | [], h, h0, h1 => ⟨h0, h1⟩
  | x :: l, h, h0, h1 => by
    have := hstep_bd (x := x) h0 h1
    exact hfold_bd l this.1 this.2
theorem hfold_snoc (h : Int) (l : List Int) (x : Int) : hfold h (l ++ [x]) = hstep (hfold h l) x := by simp [hfold]
def khash (key : Int) (l : List Int) : Int := hfold 11 (key :: l ++ [key])
theorem khash_bd (key : Int) (l : List Int) : 0 ≤ khash key l ∧ khash key l < 2147483647 := hfold_bd _ (by omega) (by omega)
def derive (key x : Int) : Int := if khash key [9, x] = 0 then 1 else khash key [9, x]
theorem derive_bd (key x : Int) : 1 ≤ derive key x ∧ derive key x < 2147483647 := by
  have := khash_bd key [9, x]
  unfold derive
  split <;> omega
def pathKey (key : Int) (l : List Int) : Int := l.foldl derive key
theorem pathKey_snoc (key : Int) (l : List Int) (x : Int) : pathKey key (l ++ [x]) = derive (pathKey key l) x := by simp [pathKey]
def macF (key : Int) (m : DSignal) : Int := khash (pathKey key [1, 2]) [23, m.1, m.2.1, m.2.2.1, m.2.2.2.1, m.2.2.2.2.1]

section
variable {k : Nat} (hk : FU ≤ k)
theorem i_mod (hk : FU ≤ k) (x m : Int) : impl_Mod.f k (x, m) = some (modF x m) := by
  unfold impl_Mod.f
  rw [i_in, ob_some]
  unfold inB modF
  by_cases h : 1 ≤ m ∧ m ≤ 1000000000000
  · rw [ile_t h.1, ile_t h.2, if_pos h, ine_t (show m ≠ 0 by omega)]
    simp only [cond_true, dnot_t, cond_false]
    have hb := tmod_bd x (m := m) (by omega)
    rw [tmod_emod x (m := m) (by omega)]
    unfold irem
    by_cases hn : x.tmod m < 0
    · rw [ilt_t hn, cond_true, if_pos hn, iadd_eq (by omega) (by omega)]
    · rw [ilt_f hn, cond_false, if_neg hn]
  · rw [if_neg h]
    by_cases h1 : 1 ≤ m
    · rw [ile_t h1, cond_true, ile_f (by omega)]; rfl
    · rw [ile_f h1]; rfl
theorem s_mod (hk : FU ≤ k) (x m : Int) : spec_Mod.f k (x, m) = some (modF x m) := by
  unfold spec_Mod.f
  rw [s_in, ob_some]
  unfold inB modF
  by_cases h : 1 ≤ m ∧ m ≤ 1000000000000
  · rw [ile_t h.1, ile_t h.2, if_pos h, ine_t (show m ≠ 0 by omega)]
    simp only [cond_true, dnot_t, cond_false]
    have hb := tmod_bd x (m := m) (by omega)
    rw [tmod_emod x (m := m) (by omega)]
    unfold irem
    rw [iadd_eq (by omega) (by omega)]
    by_cases hn : x.tmod m < 0
    · rw [if_pos hn, Int.tmod_eq_of_lt (by omega) (by omega)]
    · rw [if_neg hn, Int.tmod_eq_emod_of_nonneg (by omega), Int.add_emod_right, Int.emod_eq_of_lt (by omega) (by omega)]
  · rw [if_neg h]
    by_cases h1 : 1 ≤ m
    · rw [ile_t h1, cond_true, ile_f (by omega)]; rfl
    · rw [ile_f h1]; rfl
theorem i_hashStep (hk : FU ≤ k) (h x : Int) : impl_hashStep.f k (h, x) = some (hstep h x) := by
  unfold impl_hashStep.f
  rw [i_mod hk, ob_some]; rfl
theorem s_hash (hk : FU ≤ k) {l : List Int} (hl : l.length ≤ 8589934592) : spec_Hash.f k l = some (hfold 11 l) := by
  have := loop_up (step := spec_Hash.s0 k) (e := hfold 11 l) l.length k (fun i => (l, hfold 11 (l.take i), (i : Int))) (by unfold FU at hk; omega)
    (fun i hi => by
      simp only [spec_Hash.s0, ilt_len, idx_len, decide_eq_true hi, cond_true, lget_nat (e := .int .i64) _ hi, s_mod hk, ob_some, iadd_nat (show i < 9223372036854775807 by omega)]
      rw [← take_snoc l hi, hfold_snoc]; rfl)
    (by simp only [spec_Hash.s0, ilt_len, Nat.lt_irrefl, decide_false, cond_false, List.take_length])
  unfold spec_Hash.f
  rw [show loopN (spec_Hash.s0 k) k (l, 11, 0) = some (hfold 11 l) by simpa [hfold] using this, ob_some]
theorem s_khash (hk : FU ≤ k) {key : Int} {l : List Int} (hl : l.length ≤ 8589934000) : spec_KeyedHash.f k (key, l) = some (khash key l) := by
  unfold spec_KeyedHash.f
  rw [app_ok (by simp; omega), app_ok (by simp [lcat]; omega)]
  simp only [cond_true]
  rw [s_hash hk (by simp [lcat]; omega), ob_some]
  rfl
theorem i_khash (hk : FU ≤ k) {key : Int} {l : List Int} (hl : l.length ≤ 8589934592) : impl_KeyedHash.f k (key, l) = some (khash key l) := by
  have := loop_up (step := impl_KeyedHash.s0 k) (e := (key, hfold 11 (key :: l))) l.length k (fun i => (key, hfold 11 (key :: l.take i), l, (l.length : Int), (i : Int))) (by unfold FU at hk; omega)
    (fun i hi => by
      simp only [impl_KeyedHash.s0, ilt_nat, idx_len, decide_eq_true hi, cond_true, lget_nat (e := .int .i64) _ hi, i_hashStep hk, ob_some, iadd_nat (show i < 9223372036854775807 by omega)]
      rw [← take_snoc l hi, ← List.cons_append, hfold_snoc])
    (by simp only [impl_KeyedHash.s0, ilt_nat, Nat.lt_irrefl, decide_false, cond_false, List.take_length])
  unfold impl_KeyedHash.f
  rw [i_hashStep hk, ob_some, llen_eq]
  rw [show loopN (impl_KeyedHash.s0 k) k (key, hstep 11 key, l, (l.length : Int), 0) = some (key, hfold 11 (key :: l)) by simpa [hfold] using this, ob_some, i_hashStep hk, ob_some]
  unfold khash
  rw [hfold_snoc]
end
end Go.Proofs.XF
/- Plain laws: which server is chosen. -/
set_option linter.unusedVariables false
set_option linter.unusedSimpArgs false
set_option linter.unusedSectionVars false
set_option maxRecDepth 4000
namespace Go.Proofs.XF
open Go Go.Proofs.XTv
def poolB (p : DSubscriberID) : Bool := inB p.1 1 6 && inB p.2 0 (isub .i64 (ishl .i64 1 p.1) 1)
def upB (p : DSubscriberID) (i : Int) : Bool := poolB p && (inB i 0 (isub .i64 p.1 1) && ieq (iand .i64 (ishr .i64 p.2 i) 1) 1)
def wF (i key : Int) : Int := irem .i64 (imul .i64 (khash 17 [i, key]) (khash 17 [i, key])) 2147483647
def bestN (p : DSubscriberID) (key : Int) : Nat → Int
  | 0 => -1
  | i + 1 => bif upB p i && (ilt (bestN p key i) 0 || ilt (wF (bestN p key i) key) (wF i key)) then (i : Int) else bestN p key i
def bwN (p : DSubscriberID) (key : Int) (i : Nat) : Int := bif ilt (bestN p key i) 0 then -1 else wF (bestN p key i) key
theorem wF_nn (i key : Int) : 0 ≤ wF i key := by
  have h := khash_bd 17 [i, key]
  have h2 : khash 17 [i, key] * khash 17 [i, key] ≤ 2147483647 * 2147483647 := Int.mul_le_mul (by omega) (by omega) h.1 (by omega)
  have h3 : 0 ≤ khash 17 [i, key] * khash 17 [i, key] := Int.mul_nonneg h.1 h.1
  unfold wF irem imul
  generalize khash 17 [i, key] * khash 17 [i, key] = m at h2 h3
  have e : IntKind.i64.wrap m = m := by
    have := iadd_eq (x := m) (y := 0) (by omega) (by omega)
    unfold iadd at this
    rwa [Int.add_zero] at this
  rw [e]
  exact Int.tmod_nonneg _ h3
section
variable {k : Nat} (hk : FU ≤ k)
theorem pool_ile {x : Int} (h : inB x 1 6 = true) : ile 0 x = true := by
  unfold inB at h
  cases hh : ile 1 x
  · rw [hh] at h; cases h
  · have : (1 : Int) ≤ x := of_decide_eq_true hh
    exact ile_t (by omega)
theorem i_pool (p : DSubscriberID) : impl_IsValidPool.f k p = some (poolB p) := by
  unfold impl_IsValidPool.f poolB
  simp only [i_in, ob_some]
  cases h : inB p.1 1 6
  · cases ile 0 p.1 <;> rfl
  · rw [pool_ile h]; rfl
theorem s_pool (p : DSubscriberID) : spec_IsValidPool.f k p = some (poolB p) := by
  unfold spec_IsValidPool.f poolB
  simp only [s_in, ob_some]
  cases h : inB p.1 1 6
  · cases ile 0 p.1 <;> rfl
  · rw [pool_ile h]; rfl
theorem i_up (p : DSubscriberID) (i : Nat) : impl_IsServerUp.f k (p, (i : Int)) = some (upB p i) := by
  unfold impl_IsServerUp.f upB
  simp only [i_pool, i_in, ob_some, ob_pick, ile_t (show (0 : Int) ≤ (i : Int) by omega), cond_true]
  cases poolB p
  · rfl
  · cases inB (i : Int) 0 (isub .i64 p.1 1) <;> rfl
theorem s_up (p : DSubscriberID) (i : Nat) : spec_IsServerUp.f k (p, (i : Int)) = some (upB p i) := by
  unfold spec_IsServerUp.f upB
  simp only [s_pool, s_in, ob_some, ob_pick, ile_t (show (0 : Int) ≤ (i : Int) by omega), cond_true]
  cases poolB p
  · rfl
  · cases inB (i : Int) 0 (isub .i64 p.1 1) <;> rfl
theorem i_w (hk : FU ≤ k) (i key : Int) : impl_RendezvousWeight.f k (i, key) = some (wF i key) := by
  unfold impl_RendezvousWeight.f
  rw [i_khash hk (by simp), ob_some]; rfl
theorem s_w (hk : FU ≤ k) (i key : Int) : spec_RendezvousWeight.f k (i, key) = some (wF i key) := by
  unfold spec_RendezvousWeight.f
  rw [s_khash hk (by simp), ob_some]; rfl
theorem s_select (hk : FU ≤ k) (p : DSubscriberID) (key : Int) : spec_SelectServer.f k (p, key) = some (bestN p key (min p.1.toNat 6)) := by
  have := loop_up (step := spec_SelectServer.s0 k) (e := bestN p key (min p.1.toNat 6)) (min p.1.toNat 6) k (fun i => ((key, bestN p key i, (i : Int)), p)) (by unfold FU at hk; omega)
    (fun i hi => by
      have h1 : ilt (i : Int) p.1 = true := ilt_t (by omega)
      have h2 : ilt (i : Int) 6 = true := ilt_t (by omega)
      simp only [spec_SelectServer.s0, h1, h2, cond_true, s_up, ob_some, s_w hk, ob_pick, iadd_nat (show i < 9223372036854775807 by omega)]
      rw [show bestN p key (i + 1) = (bif upB p i && (ilt (bestN p key i) 0 || ilt (wF (bestN p key i) key) (wF i key)) then (i : Int) else bestN p key i) from rfl]
      cases upB p i
      · rfl
      · cases ilt (bestN p key i) 0
        · cases hw : ilt (wF (bestN p key i) key) (wF i key) <;> simp [dand, dnot, hw]
        · rfl)
    (by
      have e : (bif ilt ((min p.1.toNat 6 : Nat) : Int) p.1 then ilt ((min p.1.toNat 6 : Nat) : Int) 6 else false) = false := by
        by_cases h : ((min p.1.toNat 6 : Nat) : Int) < p.1
        · rw [ilt_t h, ilt_f (by omega)]; rfl
        · rw [ilt_f h]; rfl
      simp only [spec_SelectServer.s0, e, cond_false])
  unfold spec_SelectServer.f
  rw [show loopN (spec_SelectServer.s0 k) k ((key, -1, 0), p) = _ from this, ob_some]
theorem best_no {p : DSubscriberID} (h : poolB p = false) (key : Int) : ∀ n, bestN p key n = -1
  | 0 => rfl
  | n + 1 => by
    show (bif upB p n && _ then (n : Int) else bestN p key n) = _
    unfold upB
    rw [h]
    exact best_no h key n
theorem i_select (hk : FU ≤ k) (p : DSubscriberID) (key : Int) : impl_SelectServer.f k (p, key) = some (bestN p key (min p.1.toNat 6)) := by
  unfold impl_SelectServer.f
  simp only [i_pool, ob_some]
  cases hp : poolB p
  · rw [best_no hp]; rfl
  · have hb : 1 ≤ p.1 ∧ p.1 ≤ 6 := by
      unfold poolB at hp
      rw [Bool.and_eq_true] at hp
      have h := hp.1
      unfold inB at h
      cases hh : ile 1 p.1
      · rw [hh] at h; cases h
      · rw [hh] at h; exact ⟨of_decide_eq_true hh, of_decide_eq_true h⟩
    have := loop_up (step := impl_SelectServer.s0 k) (e := bestN p key (min p.1.toNat 6)) (min p.1.toNat 6) k (fun i => ((key, bestN p key i, bwN p key i, (i : Int)), p)) (by unfold FU at hk; omega)
      (fun i hi => by
        have h1 : ilt (i : Int) p.1 = true := ilt_t (by omega)
        have hw := wF_nn i key
        simp only [impl_SelectServer.s0, h1, cond_true, i_up, ob_some, i_w hk, iadd_nat (show i < 9223372036854775807 by omega)]
        have e1 : bestN p key (i + 1) = (bif upB p i && (ilt (bestN p key i) 0 || ilt (wF (bestN p key i) key) (wF i key)) then (i : Int) else bestN p key i) := rfl
        unfold bwN
        rw [e1]
        cases upB p i
        · rfl
        · cases hn : ilt (bestN p key i) 0
          · cases hv : ilt (wF (bestN p key i) key) (wF i key)
            · simp [dnot, hn, hv]
            · simp [dnot, hn, hv, ilt_nn]
          · have : ilt (-1) (wF i key) = true := ilt_t (by omega)
            simp [dnot, hn, this, ilt_nn])
      (by
        have e : ilt ((min p.1.toNat 6 : Nat) : Int) p.1 = false := ilt_f (by omega)
        simp only [impl_SelectServer.s0, e, cond_false])
    rw [dnot_t, cond_false, show loopN (impl_SelectServer.s0 k) k ((key, -1, -1, 0), p) = _ from this, ob_some]
theorem both_ServerFor (hk : FU ≤ k) {x : (.pair TNetwork (.int .i64) : Ty).den} (h : Ok (.pair TNetwork (.int .i64)) x) (hn : cnt (.pair TNetwork (.int .i64)) x ≤ 1048576) : ∃ r, spec_ServerFor.f k x = some r ∧ impl_ServerFor.f k x = some r := by
  refine ⟨bestN x.1.2.2.2.2.2.2.1 x.2 (min x.1.2.2.2.2.2.2.1.1.toNat 6), ?_, ?_⟩
  · unfold spec_ServerFor.f; rw [s_select hk, ob_some]
  · unfold impl_ServerFor.f; rw [i_select hk, ob_some]
end
end Go.Proofs.XF
/- The exact laws. -/
set_option linter.unusedVariables false
set_option linter.unusedSimpArgs false
set_option maxRecDepth 4000
namespace Go.Proofs.XF
open Go Go.Proofs.XTv
theorem law_ServerFor {k : Nat} (hk : FU ≤ k) {x : ((.pair TNetwork (.int .i64)) : Ty).den} (hg : Good' (.pair TNetwork (.int .i64)) x) : laws_FnExactServerFor.f k x = some true := by
  unfold laws_FnExactServerFor.f
  refine law_sz (by omega) (szNetwork hk hg.1 (by omega) (by omega)) fun hc0 => ?_
  have ho0 : Ok TNetwork x.1 := ok_of_cnt _ _ hg.1 (by omega)
  have hz1 : cnt (.int .i64) x.2 = 0 := by simp only [cnt]
  have ho1 : Ok (.int .i64) x.2 := ok_of_cnt _ _ hg.2 (by omega)
  have hn : cnt (.pair TNetwork (.int .i64)) x ≤ 1048576 := by
    show cnt TNetwork x.1 + (cnt (.int .i64) x.2) ≤ _
    omega
  obtain ⟨r, hs, hi⟩ := both_ServerFor hk (x := x) ⟨ho0, ho1⟩ hn
  refine ob_of (toNetwork hk ho0) ?_
  refine ob_of hs ?_
  refine ob_of (toNetwork hk ho0) ?_
  refine ob_of hi ?_
  refine bif_f (by simp only [ilt_nn, dnot_t, dnot_f, cond_true, cond_false, ine_self, bne_self, seq_self]) ?_
  refine ob_of (toNetwork hk ho0) ?_
  refine ob_of (eqNetwork hk ho0) ?_
  refine bif_f (by simp only [ilt_nn, dnot_t, dnot_f, cond_true, cond_false, ine_self, bne_self, seq_self]) ?_
  rfl
end Go.Proofs.XF
/- What the program says of its types. -/
set_option linter.unusedVariables false
set_option maxRecDepth 100000
namespace Go.Proofs.YtphigiidfanbbaaGreat.XS
open Go Go.Proofs.XTv Go.Proofs.XF
def look {α : Type} (l : List (Nat × α)) (n : Nat) : Option α := match l with
  | [] => none
  | (m, a) :: r => bif Nat.beq m n then some a else look r n
theorem look_mem {α : Type} : ∀ {l : List (Nat × α)} {n : Nat} {a : α}, look l n = some a → (n, a) ∈ l
  | (m, b) :: r, n, a, h => by
    unfold look at h
    cases hb : Nat.beq m n
    · simp only [hb, cond_false] at h; exact List.mem_cons_of_mem _ (look_mem h)
    · simp only [hb, cond_true, Option.some.injEq] at h
      rw [Nat.eq_of_beq_eq_true hb, h]; exact List.mem_cons_self ..
def tis : List (Nat × TInfo) := [
  (3, ⟨(.int .i64), false, 8, [], 0⟩),
  (4, ⟨.bool, false, 1, [], 0⟩),
  (5, ⟨(.int .u8), false, 1, [], 0⟩),
  (22, ⟨(.sl TCell), false, 24, [], 152⟩),
  (24, ⟨(.sl TCell), true, 24, [(0, 22)], 0⟩),
  (25, ⟨(.sl TDevice), false, 24, [], 77⟩),
  (26, ⟨(.sl TSession), false, 24, [], 93⟩),
  (27, ⟨(.sl TAccount), false, 24, [], 97⟩),
  (28, ⟨(.sl TFlight), false, 24, [], 107⟩),
  (30, ⟨TSubscriberID, true, 16, [(0, 3), (1, 3)], 0⟩),
  (32, ⟨TNetwork, true, 160, [(0, 24), (1, 25), (2, 26), (3, 27), (4, 28), (5, 3), (6, 30), (8, 3), (9, 3)], 0⟩),
  (35, ⟨(.sl TCell), false, 24, [], 161⟩),
  (37, ⟨(.sl TCell), true, 24, [(0, 35)], 0⟩),
  (38, ⟨(.sl TDevice), false, 24, [], 119⟩),
  (39, ⟨(.sl TSession), false, 24, [], 130⟩),
  (40, ⟨(.sl TAccount), false, 24, [], 134⟩),
  (41, ⟨(.sl TFlight), false, 24, [], 142⟩),
  (42, ⟨TSubscriberID, true, 16, [(0, 3), (1, 3)], 0⟩),
  (44, ⟨TNetwork, true, 160, [(0, 37), (1, 38), (2, 39), (3, 40), (4, 41), (5, 3), (6, 42), (8, 3), (9, 3)], 0⟩),
  (69, ⟨TSubscriberID, true, 16, [(0, 3), (1, 3)], 0⟩),
  (71, ⟨TUSIM, true, 32, [(0, 69), (2, 3), (3, 3)], 0⟩),
  (72, ⟨(.sl TNumberedPacket), false, 24, [], 213⟩),
  (73, ⟨(.sl (.sl (.int .u8))), false, 24, [], 192⟩),
  (75, ⟨TReceiveWindow, true, 56, [(0, 3), (1, 72), (2, 73)], 0⟩),
  (77, ⟨TDevice, true, 144, [(0, 71), (4, 3), (5, 3), (6, 3), (7, 3), (8, 3), (9, 4), (10, 3), (11, 75)], 0⟩),
  (80, ⟨TUSIM, true, 32, [(0, 69), (2, 3), (3, 3)], 0⟩),
  (81, ⟨(.sl (.int .i64)), false, 24, [], 3⟩),
  (83, ⟨TSubscription, true, 48, [(0, 3), (1, 3), (2, 3), (3, 81)], 0⟩),
  (85, ⟨TAuthVector, true, 40, [(0, 3), (1, 3), (2, 3), (3, 3), (4, 3)], 0⟩),
  (87, ⟨TQuota, true, 24, [(0, 3), (1, 3), (2, 3)], 0⟩),
  (89, ⟨TSendWindow, true, 32, [(0, 3), (1, 72)], 0⟩),
  (91, ⟨TQuota, true, 24, [(0, 3), (1, 3), (2, 3)], 0⟩),
  (93, ⟨TSession, true, 288, [(0, 80), (4, 83), (8, 3), (9, 85), (14, 3), (15, 3), (16, 3), (17, 3), (18, 3), (19, 3), (20, 87), (23, 73), (24, 89), (26, 3), (27, 91)], 0⟩),
  (95, ⟨(.sl TSubscriberID), false, 24, [], 203⟩),
  (97, ⟨TAccount, true, 48, [(0, 3), (1, 3), (2, 3), (3, 95)], 0⟩),
  (100, ⟨TSignal, true, 88, [(0, 3), (1, 3), (2, 3), (3, 3), (4, 3), (5, 85), (10, 3)], 0⟩),
  (101, ⟨(.sl (.int .u8)), false, 24, [], 5⟩),
  (103, ⟨TSecuredMessage, true, 48, [(0, 3), (1, 3), (2, 101), (3, 3)], 0⟩),
  (105, ⟨TRadioPacket, true, 64, [(0, 3), (1, 3), (2, 103)], 0⟩),
  (107, ⟨TFlight, true, 176, [(0, 3), (1, 4), (2, 4), (3, 3), (4, 100), (15, 105)], 0⟩),
  (111, ⟨TSubscriberID, true, 16, [(0, 3), (1, 3)], 0⟩),
  (113, ⟨TUSIM, true, 32, [(0, 111), (2, 3), (3, 3)], 0⟩),
  (114, ⟨(.sl TNumberedPacket), false, 24, [], 215⟩),
  (115, ⟨(.sl (.sl (.int .u8))), false, 24, [], 198⟩),
  (117, ⟨TReceiveWindow, true, 56, [(0, 3), (1, 114), (2, 115)], 0⟩),
  (119, ⟨TDevice, true, 144, [(0, 113), (4, 3), (5, 3), (6, 3), (7, 3), (8, 3), (9, 4), (10, 3), (11, 117)], 0⟩),
  (122, ⟨TUSIM, true, 32, [(0, 111), (2, 3), (3, 3)], 0⟩),
  (123, ⟨TSubscription, true, 48, [(0, 3), (1, 3), (2, 3), (3, 81)], 0⟩),
  (124, ⟨TAuthVector, true, 40, [(0, 3), (1, 3), (2, 3), (3, 3), (4, 3)], 0⟩),
  (125, ⟨TQuota, true, 24, [(0, 3), (1, 3), (2, 3)], 0⟩),
  (127, ⟨TSendWindow, true, 32, [(0, 3), (1, 114)], 0⟩),
  (128, ⟨TQuota, true, 24, [(0, 3), (1, 3), (2, 3)], 0⟩),
  (130, ⟨TSession, true, 288, [(0, 122), (4, 123), (8, 3), (9, 124), (14, 3), (15, 3), (16, 3), (17, 3), (18, 3), (19, 3), (20, 125), (23, 115), (24, 127), (26, 3), (27, 128)], 0⟩),
  (132, ⟨(.sl TSubscriberID), false, 24, [], 201⟩),
  (134, ⟨TAccount, true, 48, [(0, 3), (1, 3), (2, 3), (3, 132)], 0⟩),
  (137, ⟨TSignal, true, 88, [(0, 3), (1, 3), (2, 3), (3, 3), (4, 3), (5, 124), (10, 3)], 0⟩),
  (138, ⟨TSecuredMessage, true, 48, [(0, 3), (1, 3), (2, 101), (3, 3)], 0⟩),
  (140, ⟨TRadioPacket, true, 64, [(0, 3), (1, 3), (2, 138)], 0⟩),
  (142, ⟨TFlight, true, 176, [(0, 3), (1, 4), (2, 4), (3, 3), (4, 137), (15, 140)], 0⟩),
  (152, ⟨TCell, true, 32, [(0, 3), (1, 81)], 0⟩),
  (161, ⟨TCell, true, 32, [(0, 3), (1, 81)], 0⟩),
  (192, ⟨(.sl (.int .u8)), true, 24, [(0, 101)], 0⟩),
  (198, ⟨(.sl (.int .u8)), true, 24, [(0, 101)], 0⟩),
  (201, ⟨TSubscriberID, true, 16, [(0, 3), (1, 3)], 0⟩),
  (203, ⟨TSubscriberID, true, 16, [(0, 3), (1, 3)], 0⟩),
  (213, ⟨TNumberedPacket, true, 32, [(0, 3), (1, 101)], 0⟩),
  (215, ⟨TNumberedPacket, true, 32, [(0, 3), (1, 101)], 0⟩)]
def eqs : List Nat := []
def cx0 : Cx := { ti := look tis, eq := fun t => nmem t eqs, con := fun _ => none, loop := fun _ => none }
theorem tis_ok : tis.all (fun p => tyChk Tryz.prog cx0 p.1 p.2 && openChk cx0 p.2) = true := by kernel_rfl
theorem eqs_ok : eqs.all (fun t => !(Tryz.prog.eqGuardType Tryz.prog.depth t) && (match look tis t with | some ti => (match eqTyChk Tryz.prog 100 t (flatTy ti.ty) with | some [] => true | _ => false) | none => false)) = true := by kernel_rfl
theorem ty_ok : ∀ T ti, cx0.ti T = some ti → TyOk Tryz.prog cx0 T ti := fun T ti h => by
  have h1 := List.all_eq_true.1 tis_ok (T, ti) (look_mem h)
  rw [Bool.and_eq_true] at h1
  exact tyChk_ok h1.1
theorem open_ok : ∀ T ti, cx0.ti T = some ti → openChk cx0 ti = true := fun T ti h => by
  have h1 := List.all_eq_true.1 tis_ok (T, ti) (look_mem h)
  rw [Bool.and_eq_true] at h1
  exact h1.2
theorem cx_ok : CxOk Tryz.prog cx0 := ⟨ty_ok, fun T h => by
  have h1 := List.all_eq_true.1 eqs_ok T (nmem_iff.1 h)
  rw [Bool.and_eq_true, Bool.not_eq_true'] at h1
  refine ⟨h1.1, ?_⟩
  cases ht : look tis T with
  | none => simp [ht] at h1
  | some ti =>
    refine ⟨ti, ht, ?_⟩
    have h2 := h1.2
    rw [ht] at h2
    simp only at h2
    split at h2
    · assumption
    · cases h2⟩
end Go.Proofs.YtphigiidfanbbaaGreat.XS
