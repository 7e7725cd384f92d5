/- What the law rests on: part 5 of 5. -/
import Derived.Test.YtaghlbodihgkmaaRows
import Derived.Test.YtaghlbodihgkmaaV3
set_option linter.unusedVariables false
set_option linter.unusedSimpArgs false
set_option linter.unusedSectionVars false
/- Plain laws: drawn sessions, whole. -/
set_option linter.unusedVariables false
set_option linter.unusedSimpArgs false
set_option linter.unusedSectionVars false
set_option maxRecDepth 4000
namespace Go.Proofs.XF
open Go Go.Proofs.XTv

/-- A session out of the parts that a loop carries. -/
def unp (P : DUSIM × Int × Int × Int × Int × DAuthVector × Int × Int × Int × Int × Int × Int × DQuota × DAuthVector) (roam : List Int) (sub : List (List Int)) (una : List DNumberedPacket) : DSession :=
  (P.1, (P.2.1, P.2.2.1, P.2.2.2.1, roam), P.2.2.2.2.1, P.2.2.2.2.2.1, P.2.2.2.2.2.2.1, P.2.2.2.2.2.2.2.1, P.2.2.2.2.2.2.2.2.1, P.2.2.2.2.2.2.2.2.2.1, P.2.2.2.2.2.2.2.2.2.2.1, P.2.2.2.2.2.2.2.2.2.2.2.1,
    P.2.2.2.2.2.2.2.2.2.2.2.2.1, sub, (P.2.2.2.2.2.2.2.2.2.2.2.2.2.1, una), P.2.2.2.2.2.2.2.2.2.2.2.2.2.2)
theorem lget_ok {e : Ty} {l : List e.den} {i : Int} (h : Ok (.sl e) l) (hi : idxOk i (llen l) = true) : Ok e (lget e l i) := by
  have hi := of_decide_eq_true hi
  obtain ⟨j, rfl⟩ := Int.eq_ofNat_of_zero_le hi.1
  have hj : j < l.length := by have h2 : (j : Int) < (l.length : Int) := hi.2; omega
  show Ok e (lget e l (j : Int))
  rw [lget_nat l hj]
  exact ok_get h hj
section
variable {k : Nat} (hk : FU ≤ k)
theorem s_quotaOk (q : DQuota) : spec_IsValidQuota.f k q = some (ile 0 q.1 && inB q.2.1 0 100000 && inB q.2.2 0 q.2.1) := by
  unfold spec_IsValidQuota.f
  simp only [s_in, ob_some, ob_pick]
  generalize ile 0 q.1 = a
  generalize inB q.2.1 0 100000 = b
  generalize inB q.2.2 0 q.2.1 = c
  revert a b c
  decide
def remF (q : DQuota) : Int := bif (ile 0 q.1 && inB q.2.1 0 100000 && inB q.2.2 0 q.2.1) then isub .i64 q.2.1 q.2.2 else 0
theorem s_remaining (q : DQuota) : spec_RemainingQuota.f k q = some (remF q) := by
  unfold spec_RemainingQuota.f remF
  rw [s_quotaOk, ob_some]
  cases (ile 0 q.1 && inB q.2.1 0 100000 && inB q.2.2 0 q.2.1) <;> rfl
theorem d_active (hk : FU ≤ k) {c : Dl1Cur} (h : CurOk c) : ∃ r c', spec_l30Active.f k c = some (r, c') ∧ SOk r ∧ CurOk c' := by
  obtain ⟨a, c1, e1, a1, a2, h1⟩ := d_pair hk h
  obtain ⟨p, c2, e2, p1, p2, h2⟩ := d_plan hk h1
  obtain ⟨q, c3, e3, q0, q1, _, h3⟩ := d_below hk h2 4
  have q1 := q1 (by omega)
  obtain ⟨s0, e4, hs0⟩ : ∃ s, spec_NewSession.f k ((a.2.1, a.2.2.1, a.1.2.2), p, q) = some s ∧ SOk s := by
    have z : Ok (.int .i64) (0 : Int) := okn (by omega)
    refine ⟨((a.2.1, a.2.2.1, a.1.2.2), p, 0, (0, 0, 0, 0, 0), 0, 0, 0, 0, 0, 0, (0, 0, 0), [], (1, []), 0, q, 0, 0), ?_, ⟨⟨a2.1, a2.2.1, a1.2.2⟩, p1, z, ⟨z, z, z, z, z⟩, z, z, z, z, z, z, ⟨z, z, z⟩, ok_nil _, ⟨okn (n := 1) (by omega), ok_nil _⟩, z, okn (n := q) (by omega), z, z⟩, by show (0 : Nat) ≤ 24; omega, ⟨okn (n := 1) (by omega), ok_nil _⟩, by show (0 : Nat) ≤ 8; omega, by show (1 : Int) ≤ 1; omega, by show (1 : Int) ≤ 100000; omega⟩
    unfold spec_NewSession.f
    simp only [s_plan hk p1, ob_some]
  obtain ⟨n, c4, e5, n0, n1, _, h4⟩ := d_below hk h3 6
  have n1 := n1 (by omega)
  have hloop := loop_inv (step := spec_l30Active.s0 k) (fun d => d.1 ≤ 6 ∧ CurOk d.2.1 ∧ SOk (unp d.2.2.2.1 d.2.2.2.2.1 d.2.2.2.2.2.1 d.2.2.2.2.2.2)) (fun d => d.1.toNat) (fun e => CurOk e.1 ∧ SOk (unp e.2.2.1 e.2.2.2.1 e.2.2.2.2.1 e.2.2.2.2.2))
    (fun d ⟨i0, i1, i2⟩ => by
      unfold spec_l30Active.s0
      by_cases hi : 0 < d.1
      · left
        have hs : isub .i64 d.1 1 = d.1 - 1 := isub_eq (by omega) (by omega)
        obtain ⟨x, c5, e6, x0, x1, _, h5⟩ := d_below hk i1 4
        have x1 := x1 (by omega)
        obtain ⟨l, c6, e7, l1, l2, h6⟩ := d_bytes hk h5 (n := x) (by omega)
        obtain ⟨r, b, e8, hr⟩ := d_submit hk i2 (ok_bytes l1 l2)
        unfold unp at e8
        rw [ilt_t hi]
        simp only [cond_true, e6, e7, e8, ob_some]
        exact ⟨_, rfl, ⟨by show isub .i64 d.1 1 ≤ 6; omega, h6, hr⟩, by show (isub .i64 d.1 1).toNat < d.1.toNat; omega⟩
      · right
        rw [ilt_f hi]
        exact ⟨_, rfl, i1, i2⟩) k
    (n, c4, (((0, 0), 0, 0), (0, 0, 0, []), 0, (0, 0, 0, 0, 0), 0, 0, 0, 0, 0, 0, (0, 0, 0), [], (0, []), 0, 0, 0, 0), (s0.1, s0.2.1.1, s0.2.1.2.1, s0.2.1.2.2.1, s0.2.2.1, s0.2.2.2.1, s0.2.2.2.2.1, s0.2.2.2.2.2.1, s0.2.2.2.2.2.2.1, s0.2.2.2.2.2.2.2.1, s0.2.2.2.2.2.2.2.2.1, s0.2.2.2.2.2.2.2.2.2.1, s0.2.2.2.2.2.2.2.2.2.2.1, s0.2.2.2.2.2.2.2.2.2.2.2.2.1.1, s0.2.2.2.2.2.2.2.2.2.2.2.2.2), s0.2.1.2.2.2, s0.2.2.2.2.2.2.2.2.2.2.2.1, s0.2.2.2.2.2.2.2.2.2.2.2.2.1.2)
    ⟨by show n ≤ 6; omega, h4, hs0⟩ (by unfold FU at hk; show n.toNat < k; omega)
  obtain ⟨e, he, he1, he2⟩ := hloop
  obtain ⟨b1, c5, e6, h5⟩ := d_once hk he1 6
  unfold spec_l30Active.f
  simp only [e1, e2, e3, e4, e5, ob_some, he, e6]
  cases b1
  · simp only [cond_false]
    obtain ⟨x, c6, e7, x0, x1, _, h6⟩ := d_below hk h5 4
    obtain ⟨r1, e8, hr1⟩ := d_attach hk (m := (1, x, 0, 0, 0, (0, 0, 0, 0, 0), 0)) he2
    unfold unp at e8
    obtain ⟨b2, c7, e9, h7⟩ := d_once hk h6 6
    simp only [e7, e8, e9, ob_some]
    cases b2
    · simp only [cond_false]
      obtain ⟨y, c8, e10, y0, y1, _, h8⟩ := d_below hk h7 4
      have y1 := y1 (by omega)
      have z : Ok (.int .i64) (0 : Int) := okn (by omega)
      obtain ⟨r2, e11, hr2⟩ := d_response hk (m := (3, y, r1.1.2.2.2.2.1, 0, r1.1.2.2.2.1.2.2.2.1, (0, 0, 0, 0, 0), 0)) hr1 ⟨okn (n := 3) (by omega), okn (n := y) (by omega), hr1.1.2.2.2.2.1, z, hr1.1.2.2.2.1.2.2.2.1, ⟨z, z, z, z, z⟩, z⟩
      obtain ⟨u, c9, e12, u0, u1, _, h9⟩ := d_below hk h8 20
      obtain ⟨v, c10, e13, v0, v1, _, h10⟩ := d_below hk h9 4
      have v1 := v1 (by omega)
      simp only [e10, e11, e12, e13, ob_some]
      have hs3 : SOk (unp (r2.1.1, r2.1.2.1.1, r2.1.2.1.2.1, r2.1.2.1.2.2.1, r2.1.2.2.1, r2.1.2.2.2.1, r2.1.2.2.2.2.1, r2.1.2.2.2.2.2.1, r2.1.2.2.2.2.2.2.1, r2.1.2.2.2.2.2.2.2.1, r2.1.2.2.2.2.2.2.2.2.1, r2.1.2.2.2.2.2.2.2.2.2.1, r2.1.2.2.2.2.2.2.2.2.2.2.1, r2.1.2.2.2.2.2.2.2.2.2.2.2.2.1.1, r2.1.2.2.2.2.2.2.2.2.2.2.2.2.2.1, r2.1.2.2.2.2.2.2.2.2.2.2.2.2.2.2.1, iadd .i64 10 u, r2.1.2.2.2.2.2.2.2.2.2.2.2.2.2.2.2.2) r2.1.2.1.2.2.2 r2.1.2.2.2.2.2.2.2.2.2.2.2.1 r2.1.2.2.2.2.2.2.2.2.2.2.2.2.1.2) := by
        obtain ⟨k1, k2, k3⟩ := hr2
        exact ⟨⟨k1.1, k1.2.1, k1.2.2.1, k1.2.2.2.1, k1.2.2.2.2.1, k1.2.2.2.2.2.1, k1.2.2.2.2.2.2.1, k1.2.2.2.2.2.2.2.1, k1.2.2.2.2.2.2.2.2.1, k1.2.2.2.2.2.2.2.2.2.1, k1.2.2.2.2.2.2.2.2.2.2.1, k1.2.2.2.2.2.2.2.2.2.2.2.1, k1.2.2.2.2.2.2.2.2.2.2.2.2.1, k1.2.2.2.2.2.2.2.2.2.2.2.2.2.1, k1.2.2.2.2.2.2.2.2.2.2.2.2.2.2.1, ok_add _ _, k1.2.2.2.2.2.2.2.2.2.2.2.2.2.2.2.2⟩, k2, k3⟩
      have hloop2 := loop_inv (step := spec_l30Active.s1 k) (fun d => d.1 ≤ 6 ∧ CurOk d.2.1 ∧ SOk (unp d.2.2.2.1 d.2.2.2.2.1 d.2.2.2.2.2.1 d.2.2.2.2.2.2)) (fun d => d.1.toNat) (fun e => CurOk e.1 ∧ SOk (unp e.2.2.1 e.2.2.2.1 e.2.2.2.2.1 e.2.2.2.2.2))
        (fun d ⟨i0, i1, i2⟩ => by
          unfold spec_l30Active.s1
          by_cases hi : 0 < d.1
          · have hs : isub .i64 d.1 1 = d.1 - 1 := isub_eq (by omega) (by omega)
            rw [ilt_t hi]
            simp only [cond_true]
            obtain ⟨j1, j2, j3⟩ := i2
            by_cases hc : d.2.2.2.1.2.2.2.2.2.2.2.2.2.2.2.2.2.1 ≤ llen d.2.2.2.2.2.1
            · left
              have hn1 : 1 ≤ d.2.2.2.1.2.2.2.2.2.2.2.2.2.2.2.2.2.1 := j3.2.2.1
              have hn2 : d.2.2.2.1.2.2.2.2.2.2.2.2.2.2.2.2.2.1 ≤ 100000 := j3.2.2.2
              have hc' : d.2.2.2.1.2.2.2.2.2.2.2.2.2.2.2.2.2.1 ≤ (d.2.2.2.2.2.1.length : Int) := hc
              have hix : idxOk (isub .i64 d.2.2.2.1.2.2.2.2.2.2.2.2.2.2.2.2.2.1 1) (llen d.2.2.2.2.2.1) = true := by
                rw [isub_eq (by omega) (by omega)]
                exact decide_eq_true ⟨by omega, by show _ < (d.2.2.2.2.2.1.length : Int); omega⟩
              have hdat : Ok (.sl (.int .u8)) (lget (.sl (.int .u8)) d.2.2.2.2.2.1 (isub .i64 d.2.2.2.1.2.2.2.2.2.2.2.2.2.2.2.2.2.1 1)) := lget_ok j1.2.2.2.2.2.2.2.2.2.2.2.1 hix
              obtain ⟨w', pk, bb, e14, hw⟩ := s_send hk (w := (d.2.2.2.1.2.2.2.2.2.2.2.2.2.2.2.2.2.1, d.2.2.2.2.2.2)) j3 hdat
              rw [ile_t hc, hix]
              simp only [cond_true, e14, ob_some]
              rw [s_bytes hk (show w'.2.length ≤ 4294967296 by have := hw.2.1; omega), s_remaining]
              simp only [ob_pick]
              cases (bif bb then ile (bif bb then bytesFrom w'.2 0 else 0) (bif bb then remF d.2.2.2.1.2.2.2.2.2.2.2.2.2.2.2.2.2.2.2 else 0) else false)
              · simp only [cond_false]
                exact ⟨_, rfl, ⟨by show isub .i64 d.1 1 ≤ 6; omega, i1, j1, j2, j3⟩, by show (isub .i64 d.1 1).toNat < d.1.toNat; omega⟩
              · simp only [cond_true]
                exact ⟨_, rfl, ⟨by show isub .i64 d.1 1 ≤ 6; omega, i1, ⟨j1.1, j1.2.1, j1.2.2.1, j1.2.2.2.1, j1.2.2.2.2.1, j1.2.2.2.2.2.1, j1.2.2.2.2.2.2.1, j1.2.2.2.2.2.2.2.1, j1.2.2.2.2.2.2.2.2.1, j1.2.2.2.2.2.2.2.2.2.1, j1.2.2.2.2.2.2.2.2.2.2.1, j1.2.2.2.2.2.2.2.2.2.2.2.1, hw.1, j1.2.2.2.2.2.2.2.2.2.2.2.2.2⟩, j2, hw⟩, by show (isub .i64 d.1 1).toNat < d.1.toNat; omega⟩
            · right
              rw [ile_f hc]
              exact ⟨_, rfl, i1, j1, j2, j3⟩
          · right
            rw [ilt_f hi]
            exact ⟨_, rfl, i1, i2⟩) k
        (v, c10, e.2.1, (r2.1.1, r2.1.2.1.1, r2.1.2.1.2.1, r2.1.2.1.2.2.1, r2.1.2.2.1, r2.1.2.2.2.1, r2.1.2.2.2.2.1, r2.1.2.2.2.2.2.1, r2.1.2.2.2.2.2.2.1, r2.1.2.2.2.2.2.2.2.1, r2.1.2.2.2.2.2.2.2.2.1, r2.1.2.2.2.2.2.2.2.2.2.1, r2.1.2.2.2.2.2.2.2.2.2.2.1, r2.1.2.2.2.2.2.2.2.2.2.2.2.2.1.1, r2.1.2.2.2.2.2.2.2.2.2.2.2.2.2.1, r2.1.2.2.2.2.2.2.2.2.2.2.2.2.2.2.1, iadd .i64 10 u, r2.1.2.2.2.2.2.2.2.2.2.2.2.2.2.2.2.2), r2.1.2.1.2.2.2, r2.1.2.2.2.2.2.2.2.2.2.2.2.1, r2.1.2.2.2.2.2.2.2.2.2.2.2.2.1.2)
        ⟨by show v ≤ 6; omega, h10, hs3⟩ (by unfold FU at hk; show v.toNat < k; omega)
      obtain ⟨f, hf, hf1, hf2⟩ := hloop2
      rw [hf]
      exact ⟨_, _, rfl, hf2, hf1⟩
    · simp only [cond_true]
      exact ⟨_, _, rfl, hr1, h7⟩
  · simp only [cond_true]
    exact ⟨_, _, rfl, he2, h5⟩
/-- Any drawn session: its streams are in bounds, its numbers may be odd. -/
theorem d_any (hk : FU ≤ k) {c : Dl1Cur} (h : CurOk c) : ∃ r c', spec_l30Any.f k c = some (r, c') ∧ Ok TSession r ∧ r.2.2.2.2.2.2.2.2.2.2.2.1.length ≤ 24 ∧ r.2.2.2.2.2.2.2.2.2.2.2.2.1.2.length ≤ 9 ∧ CurOk c' := by
  obtain ⟨s, c1, e1, hs, h1⟩ := d_active hk h
  obtain ⟨a, c2, e2, a0, a1, _, h2⟩ := d_below hk h1 14
  obtain ⟨j1, j2, j3⟩ := hs
  have j4 : s.2.2.2.2.2.2.2.2.2.2.2.2.1.2.length ≤ 9 := by have := j3.2.1; omega
  unfold spec_l30Any.f
  simp only [e1, e2, ob_some]
  cases ieq a 0
  rotate_left
  · obtain ⟨x, c3, e3, x0, x1, _, h3⟩ := d_below hk h2 4
    simp only [cond_true, e3, ob_some]
    exact ⟨_, _, rfl, ⟨j1.1, j1.2.1, ok_sub _ _, j1.2.2.2⟩, j2, j4, h3⟩
  cases ieq a 1
  rotate_left
  · obtain ⟨x, c3, e3, x1, h3⟩ := d_int hk h2 (l := [0, -1, 2147483647]) (by simp)
    simp only [cond_true, cond_false, e3, ob_some]
    exact ⟨_, _, rfl, ⟨j1.1, j1.2.1, j1.2.2.1, j1.2.2.2.1, j1.2.2.2.2.1, j1.2.2.2.2.2.1, ok_mem x1 (by simp), j1.2.2.2.2.2.2.2⟩, j2, j4, h3⟩
  cases ieq a 2
  rotate_left
  · obtain ⟨x, c3, e3, x1, h3⟩ := d_int hk h2 (l := [-1, 999999, 1000000]) (by simp)
    simp only [cond_true, cond_false, e3, ob_some]
    exact ⟨_, _, rfl, ⟨j1.1, j1.2.1, j1.2.2.1, j1.2.2.2.1, ok_mem x1 (by simp), j1.2.2.2.2.2⟩, j2, j4, h3⟩
  cases ieq a 3
  rotate_left
  · obtain ⟨x, c3, e3, x1, h3⟩ := d_int hk h2 (l := [-1, 999999, 1000000]) (by simp)
    simp only [cond_true, cond_false, e3, ob_some]
    exact ⟨_, _, rfl, ⟨j1.1, j1.2.1, j1.2.2.1, j1.2.2.2.1, j1.2.2.2.2.1, j1.2.2.2.2.2.1, j1.2.2.2.2.2.2.1, ok_mem x1 (by simp), j1.2.2.2.2.2.2.2.2⟩, j2, j4, h3⟩
  cases ieq a 4
  rotate_left
  · obtain ⟨x, c3, e3, x1, h3⟩ := d_int hk h2 (l := [-1, 5, 6]) (by simp)
    simp only [cond_true, cond_false, e3, ob_some]
    exact ⟨_, _, rfl, ⟨j1.1, j1.2.1, j1.2.2.1, j1.2.2.2.1, j1.2.2.2.2.1, j1.2.2.2.2.2.1, j1.2.2.2.2.2.2.1, j1.2.2.2.2.2.2.2.1, j1.2.2.2.2.2.2.2.2.1, ok_mem x1 (by simp), j1.2.2.2.2.2.2.2.2.2.2⟩, j2, j4, h3⟩
  cases ieq a 5
  rotate_left
  · obtain ⟨w, c3, e3, w1, w2, h3⟩ := d_anySender hk h2
    simp only [cond_true, cond_false, e3, ob_some]
    exact ⟨_, _, rfl, ⟨j1.1, j1.2.1, j1.2.2.1, j1.2.2.2.1, j1.2.2.2.2.1, j1.2.2.2.2.2.1, j1.2.2.2.2.2.2.1, j1.2.2.2.2.2.2.2.1, j1.2.2.2.2.2.2.2.2.1, j1.2.2.2.2.2.2.2.2.2.1, j1.2.2.2.2.2.2.2.2.2.2.1, j1.2.2.2.2.2.2.2.2.2.2.2.1, w1, j1.2.2.2.2.2.2.2.2.2.2.2.2.2⟩, j2, w2, h3⟩
  cases ieq a 6
  rotate_left
  · obtain ⟨x, c3, e3, x0, x1, _, h3⟩ := d_below hk h2 4
    have x1 := x1 (by omega)
    simp only [cond_true, cond_false, e3, ob_some]
    exact ⟨_, _, rfl, ⟨j1.1, j1.2.1, j1.2.2.1, j1.2.2.2.1, j1.2.2.2.2.1, j1.2.2.2.2.2.1, j1.2.2.2.2.2.2.1, j1.2.2.2.2.2.2.2.1, j1.2.2.2.2.2.2.2.2.1, j1.2.2.2.2.2.2.2.2.2.1, j1.2.2.2.2.2.2.2.2.2.2.1, j1.2.2.2.2.2.2.2.2.2.2.2.1, j1.2.2.2.2.2.2.2.2.2.2.2.2.1, j1.2.2.2.2.2.2.2.2.2.2.2.2.2.1, j1.2.2.2.2.2.2.2.2.2.2.2.2.2.2.1, okn (n := x) (by omega), j1.2.2.2.2.2.2.2.2.2.2.2.2.2.2.2.2⟩, j2, j4, h3⟩
  cases ieq a 7
  · simp only [cond_false]
    exact ⟨_, _, rfl, j1, j2, j4, h2⟩
  · obtain ⟨x, c3, e3, x1, h3⟩ := d_int hk h2 (l := [-1, 5, 6]) (by simp)
    simp only [cond_true, cond_false, e3, ob_some]
    exact ⟨_, _, rfl, ⟨j1.1, j1.2.1, j1.2.2.1, j1.2.2.2.1, j1.2.2.2.2.1, j1.2.2.2.2.2.1, j1.2.2.2.2.2.2.1, j1.2.2.2.2.2.2.2.1, ok_mem x1 (by simp), j1.2.2.2.2.2.2.2.2.2⟩, j2, j4, h3⟩
end
end Go.Proofs.XF
/- Plain laws: what is the same as itself; submissions. -/
set_option linter.unusedVariables false
set_option linter.unusedSimpArgs false
set_option linter.unusedSectionVars false
set_option maxRecDepth 4000
namespace Go.Proofs.XF
open Go Go.Proofs.XTv
section
variable {k : Nat} (hk : FU ≤ k)
theorem r_bytes (hk : FU ≤ k) {x : List Int} (hl : x.length ≤ 4294967296) : laws_sameBytes.f k (x, x) = some true := by
  unfold laws_sameBytes.f
  simp only [ine_self, cond_false]
  rw [eq_loop hk (e := .int .u8) (s := laws_sameBytes.s0) hl (fun i hi => by
    simp only [laws_sameBytes.s0, ilt_len, idx_len, decide_eq_true hi, iadd_nat (show i < 9223372036854775807 by omega), ine_self, cond_true, cond_false]) (by
    simp only [laws_sameBytes.s0, ilt_len, Nat.lt_irrefl, decide_false, cond_false])]
  rfl
theorem r_ints (hk : FU ≤ k) {x : List Int} (hl : x.length ≤ 4294967296) : laws_sameInts.f k (x, x) = some true := by
  unfold laws_sameInts.f
  simp only [ine_self, cond_false]
  rw [eq_loop hk (e := .int .i64) (s := laws_sameInts.s0) hl (fun i hi => by
    simp only [laws_sameInts.s0, ilt_len, idx_len, decide_eq_true hi, iadd_nat (show i < 9223372036854775807 by omega), ine_self, cond_true, cond_false]) (by
    simp only [laws_sameInts.s0, ilt_len, Nat.lt_irrefl, decide_false, cond_false])]
  rfl
theorem r_payloads (hk : FU ≤ k) {x : List (List Int)} (h : Ok (.sl (.sl (.int .u8))) x) : laws_samePayloads.f k (x, x) = some true := by
  have hl := ok_len h
  unfold laws_samePayloads.f
  simp only [ine_self, cond_false]
  rw [eq_loop hk (e := .sl (.int .u8)) (s := laws_samePayloads.s0 k) hl (fun i hi => by
    simp only [laws_samePayloads.s0, ilt_len, idx_len, decide_eq_true hi, lget_nat (e := .sl (.int .u8)) _ hi, iadd_nat (show i < 9223372036854775807 by omega), r_bytes hk (ok_len (ok_get h hi)), ob_some, cond_true, cond_false, dnot_t]) (by
    simp only [laws_samePayloads.s0, ilt_len, Nat.lt_irrefl, decide_false, cond_false])]
  rfl
theorem r_packets (hk : FU ≤ k) {x : List DNumberedPacket} (h : Ok (.sl TNumberedPacket) x) : laws_samePackets.f k (x, x) = some true := by
  have hl := ok_len h
  unfold laws_samePackets.f
  simp only [ine_self, cond_false]
  rw [eq_loop hk (e := TNumberedPacket) (s := laws_samePackets.s0 k) hl (fun i hi => by
    simp only [laws_samePackets.s0, ilt_len, idx_len, decide_eq_true hi, lget_nat (e := TNumberedPacket) _ hi, iadd_nat (show i < 9223372036854775807 by omega), r_bytes hk (ok_len (ok_get h hi).2), ob_some, cond_true, cond_false, dnot_t, dnot_f, ine_self]) (by
    simp only [laws_samePackets.s0, ilt_len, Nat.lt_irrefl, decide_false, cond_false])]
  rfl
theorem r_sender (hk : FU ≤ k) {x : DSendWindow} (h : Ok TSendWindow x) : laws_sameSender.f k (x, x) = some true := by
  unfold laws_sameSender.f
  simp only [ieq_self, cond_true, r_packets hk h.2, ob_some]
theorem r_plan (hk : FU ≤ k) {x : DSubscription} (h : Ok TSubscription x) : laws_samePlan.f k (x, x) = some true := by
  unfold laws_samePlan.f
  simp only [ieq_self, cond_true, r_ints hk (ok_len h.2.2.2), ob_some]
theorem r_session (hk : FU ≤ k) {x : DSession} (h : Ok TSession x) : laws_sameSession.f k (x, x) = some true := by
  unfold laws_sameSession.f
  simp only [ieq_self, ine_self, dand, dnot_t, dnot_f, cond_true, cond_false, Bool.and_self, r_plan hk h.2.1, ob_some, r_payloads hk h.2.2.2.2.2.2.2.2.2.2.2.1, r_sender hk h.2.2.2.2.2.2.2.2.2.2.2.2.1]

/-! ### Submitted packets -/
def subF (s : DSession) (l : List Int) : DSession :=
  (s.1, s.2.1, s.2.2.1, s.2.2.2.1, s.2.2.2.2.1, s.2.2.2.2.2.1, s.2.2.2.2.2.2.1, s.2.2.2.2.2.2.2.1, s.2.2.2.2.2.2.2.2.1, s.2.2.2.2.2.2.2.2.2.1, s.2.2.2.2.2.2.2.2.2.2.1, s.2.2.2.2.2.2.2.2.2.2.2.1 ++ [l], s.2.2.2.2.2.2.2.2.2.2.2.2)
def subC (s : DSession) (l : List Int) : Bool := bif ile 24 (llen s.2.2.2.2.2.2.2.2.2.2.2.1) then true else ilt 60 (llen l)
theorem subC_len {s : DSession} {l : List Int} (h : subC s l = false) : s.2.2.2.2.2.2.2.2.2.2.2.1.length < 24 ∧ l.length ≤ 60 := by
  unfold subC at h
  by_cases h1 : (24 : Int) ≤ llen s.2.2.2.2.2.2.2.2.2.2.2.1
  · rw [ile_t h1] at h; cases h
  · rw [ile_f h1, cond_false] at h
    by_cases h2 : (60 : Int) < llen l
    · rw [ilt_t h2] at h; cases h
    · have h1 : ¬ (24 : Int) ≤ (s.2.2.2.2.2.2.2.2.2.2.2.1.length : Int) := h1
      have h2 : ¬ (60 : Int) < (l.length : Int) := h2
      omega
theorem i_submit (hk : FU ≤ k) {s : DSession} {l : List Int} (h : Ok TSession s) (hl : Ok (.sl (.int .u8)) l) : impl_SubmitPacket.f k (s, l) = some (bif subC s l then (s, false) else (subF s l, true)) := by
  unfold impl_SubmitPacket.f
  simp only [i_copySession hk h, i_copyBytes hk (ok_len hl), ob_some]
  show (bif subC s l then _ else _) = _
  cases hc : subC s l
  · have := subC_len hc
    simp only [cond_false]
    rw [app1 (show s.2.2.2.2.2.2.2.2.2.2.2.1.length ≤ 4294967296 by omega) (show 24 ≤ 16384 by omega)]
    rfl
  · rfl
theorem s_submit (hk : FU ≤ k) {s : DSession} {l : List Int} (h : Ok TSession s) (hl : Ok (.sl (.int .u8)) l) : spec_SubmitPacket.f k (s, l) = some (bif subC s l then (s, false) else (subF s l, true)) := by
  unfold spec_SubmitPacket.f
  simp only [s_copySession hk h, s_body hk (ok_len hl), ob_some]
  show (bif subC s l then _ else _) = _
  cases hc : subC s l
  · have := subC_len hc
    simp only [cond_false]
    rw [app1 (show s.2.2.2.2.2.2.2.2.2.2.2.1.length ≤ 4294967296 by omega) (show 24 ≤ 16384 by omega)]
    rfl
  · rfl
theorem d_drawSubmit (hk : FU ≤ k) {x : List Int} (hx : x.length ≤ 281474976710656) : ∃ s l, spec_DrawSubmitPacket.f k x = some (s, l) ∧ Ok TSession s ∧ s.2.2.2.2.2.2.2.2.2.2.2.1.length ≤ 24 ∧ Ok (.sl (.int .u8)) l := by
  obtain ⟨c, e1, h1⟩ := d_new hk hx
  obtain ⟨s, c2, e2, k1, k2, k3, h2⟩ := d_any hk h1
  have hloop := loop_inv (step := spec_DrawSubmitPacket.s0 k) (fun d => 0 ≤ d.1 ∧ d.1 ≤ 24 ∧ CurOk d.2.2.1 ∧ Ok TSession (unp d.2.2.2.1 d.2.2.2.2.1 d.2.2.2.2.2.1 d.2.2.2.2.2.2) ∧ d.2.2.2.2.2.1.length ≤ 24) (fun d => (24 - d.1).toNat) (fun e => CurOk e.2.1 ∧ Ok TSession (unp e.2.2.1 e.2.2.2.1 e.2.2.2.2.1 e.2.2.2.2.2) ∧ e.2.2.2.2.1.length ≤ 24)
    (fun d ⟨i0, i1, i2, i3, i4⟩ => by
      unfold spec_DrawSubmitPacket.s0
      obtain ⟨b, c3, e3, h3⟩ := d_once hk i2 8
      simp only [e3, ob_some]
      by_cases hi : d.1 < 24
      · cases b
        · right
          exact ⟨_, rfl, h3, i3, i4⟩
        · left
          obtain ⟨r, bb, e4, r1, r2, _⟩ := d_submit' hk i3 i4 (l := [1]) ⟨by show (1 : Nat) ≤ _; omega, fun y hy => by simp only [List.mem_singleton] at hy; subst hy; exact ⟨by decide, by decide⟩⟩
          unfold unp at e4
          have hs : iadd .i64 d.1 1 = d.1 + 1 := iadd_eq (by omega) (by omega)
          rw [ilt_t hi]
          simp only [cond_true, e4, ob_some]
          exact ⟨_, rfl, ⟨by show 0 ≤ iadd .i64 d.1 1; omega, by show iadd .i64 d.1 1 ≤ 24; omega, h3, r1, r2⟩, by show (24 - iadd .i64 d.1 1).toNat < (24 - d.1).toNat; omega⟩
      · right
        rw [ilt_f hi]
        cases b
        · exact ⟨_, rfl, h3, i3, i4⟩
        · exact ⟨_, rfl, h3, i3, i4⟩) k
    (0, (((0, 0), 0, 0), (0, 0, 0, []), 0, (0, 0, 0, 0, 0), 0, 0, 0, 0, 0, 0, (0, 0, 0), [], (0, []), 0, 0, 0, 0), c2, (s.1, s.2.1.1, s.2.1.2.1, s.2.1.2.2.1, s.2.2.1, s.2.2.2.1, s.2.2.2.2.1, s.2.2.2.2.2.1, s.2.2.2.2.2.2.1, s.2.2.2.2.2.2.2.1, s.2.2.2.2.2.2.2.2.1, s.2.2.2.2.2.2.2.2.2.1, s.2.2.2.2.2.2.2.2.2.2.1, s.2.2.2.2.2.2.2.2.2.2.2.2.1.1, s.2.2.2.2.2.2.2.2.2.2.2.2.2), s.2.1.2.2.2, s.2.2.2.2.2.2.2.2.2.2.2.1, s.2.2.2.2.2.2.2.2.2.2.2.2.1.2)
    ⟨by simp, by simp, h2, k1, k2⟩ (by unfold FU at hk; show (24 - (0 : Int)).toNat < k; omega)
  obtain ⟨e, he, q1, q2, q3⟩ := hloop
  obtain ⟨n, c4, e5, n1, h4⟩ := d_int hk q1 (l := [0, 2, 60, 61]) (by simp)
  have hn : n ≤ 61 := by
    simp only [List.mem_cons, List.not_mem_nil, or_false] at n1
    omega
  obtain ⟨l, c5, e6, l1, l2, h5⟩ := d_bytes hk h4 (n := n) (by omega)
  unfold spec_DrawSubmitPacket.f
  simp only [e1, e2, ob_some, he, e5, e6]
  exact ⟨_, _, rfl, q2, q3, ok_bytes l1 l2⟩
theorem law_Submissions (hk : FU ≤ k) {x : (.sl (.int .u8) : Ty).den} (hg : Good' (.sl (.int .u8)) x) : laws_FnSubmissions.f k x = some true := by
  unfold laws_FnSubmissions.f laws_big.f
  rw [ob_some]
  cases ilt 1048576 (llen x)
  · simp only [cond_false]
    obtain ⟨s, l, e1, h1, h2, h3⟩ := d_drawSubmit hk (good_len hg)
    refine ob_of e1 ?_
    refine ob_of (i_submit hk h1 h3) ?_
    cases hc : subC s l
    · have hc2 := subC_len hc
      have hs := r_sender hk h1.2.2.2.2.2.2.2.2.2.2.2.2.1
      have hb := r_bytes hk (ok_len h3)
      have hp := r_payloads hk h1.2.2.2.2.2.2.2.2.2.2.2.1
      simp only [cond_false]
      have c1 : ilt (llen s.2.2.2.2.2.2.2.2.2.2.2.1) 24 = true := ilt_t (by show (s.2.2.2.2.2.2.2.2.2.2.2.1.length : Int) < 24; omega)
      have c2 : ile (llen l) 60 = true := ile_t (by show (l.length : Int) ≤ 60; omega)
      have hlen : llen (subF s l).2.2.2.2.2.2.2.2.2.2.2.1 = llen s.2.2.2.2.2.2.2.2.2.2.2.1 + 1 := by
        show ((s.2.2.2.2.2.2.2.2.2.2.2.1 ++ [l]).length : Int) = (s.2.2.2.2.2.2.2.2.2.2.2.1.length : Int) + 1
        simp
      have hadd : iadd .i64 (llen s.2.2.2.2.2.2.2.2.2.2.2.1) 1 = llen s.2.2.2.2.2.2.2.2.2.2.2.1 + 1 := iadd_eq (by show _ ≤ (s.2.2.2.2.2.2.2.2.2.2.2.1.length : Int) + 1; omega) (by show (s.2.2.2.2.2.2.2.2.2.2.2.1.length : Int) + 1 ≤ _; omega)
      have htake : ltake (subF s l).2.2.2.2.2.2.2.2.2.2.2.1 (llen s.2.2.2.2.2.2.2.2.2.2.2.1) = s.2.2.2.2.2.2.2.2.2.2.2.1 := by
        show (s.2.2.2.2.2.2.2.2.2.2.2.1 ++ [l]).take ((s.2.2.2.2.2.2.2.2.2.2.2.1.length : Int)).toNat = _
        simp
      have hget : lget (.sl (.int .u8)) (subF s l).2.2.2.2.2.2.2.2.2.2.2.1 (llen s.2.2.2.2.2.2.2.2.2.2.2.1) = l := by
        show lget (.sl (.int .u8)) (s.2.2.2.2.2.2.2.2.2.2.2.1 ++ [l]) ((s.2.2.2.2.2.2.2.2.2.2.2.1.length : Int)) = l
        rw [lget_nat (e := .sl (.int .u8)) _ (by simp)]
        simp
      have hcut : cutOk 0 (llen s.2.2.2.2.2.2.2.2.2.2.2.1) (llen s.2.2.2.2.2.2.2.2.2.2.2.1 + 1) = true := decide_eq_true ⟨by omega, by show (0 : Int) ≤ (s.2.2.2.2.2.2.2.2.2.2.2.1.length : Int); omega, by omega⟩
      have hidx : idxOk (llen s.2.2.2.2.2.2.2.2.2.2.2.1) (llen s.2.2.2.2.2.2.2.2.2.2.2.1 + 1) = true := decide_eq_true ⟨by show (0 : Int) ≤ (s.2.2.2.2.2.2.2.2.2.2.2.1.length : Int); omega, by omega⟩
      have hw : (subF s l).2.2.2.2.2.2.2.2.2.2.2.2.1 = s.2.2.2.2.2.2.2.2.2.2.2.2.1 := rfl
      simp only [c1, c2, cond_true, bne_self, cond_false, dnot_t, hlen, hadd, hcut, hidx, htake, hget, hw, ieq_self, hp, hb, hs, ob_some]
    · have hs := r_session hk h1
      have c1 : (bif ilt (llen s.2.2.2.2.2.2.2.2.2.2.2.1) 24 then ile (llen l) 60 else false) = false := by
        unfold subC at hc
        have e24 := not_ilt_ile 24 (llen s.2.2.2.2.2.2.2.2.2.2.2.1)
        by_cases h4 : (24 : Int) ≤ llen s.2.2.2.2.2.2.2.2.2.2.2.1
        · rw [ilt_f (by omega)]; rfl
        · rw [ile_f h4, cond_false] at hc
          have hc : (60 : Int) < llen l := of_decide_eq_true hc
          rw [ile_f (by omega)]
          cases ilt (llen s.2.2.2.2.2.2.2.2.2.2.2.1) 24 <;> rfl
      simp only [cond_true, c1, bne_self, cond_false, dnot_f, hs, ob_some]
  · rfl
end
end Go.Proofs.XF
/- Plain laws: path updates, responses. -/
set_option linter.unusedVariables false
set_option linter.unusedSimpArgs false
set_option linter.unusedSectionVars false
set_option maxRecDepth 4000
namespace Go.Proofs.XF
open Go Go.Proofs.XTv
section
variable {k : Nat} (hk : FU ≤ k)
theorem sig_tail (hk : FU ≤ k) {c : Dl1Cur} (h : CurOk c) {m : DSignal} (hm : Ok TSignal m) : ∃ r c', (obind (spec_l1Below.f k (c, 8)) fun v5 =>
      bif ieq v5.1 0 then obind (spec_l3Word.f k v5.2) fun v6 => some ((m.1, m.2.1, m.2.2.1, m.2.2.2.1, m.2.2.2.2.1, m.2.2.2.2.2.1, v6.1), v6.2)
      else bif ieq v5.1 1 then some ((m.1, m.2.1, m.2.2.1, m.2.2.2.1, iadd .i64 m.2.2.2.2.1 1, m.2.2.2.2.2), v5.2)
      else bif ieq v5.1 2 then some ((m.1, m.2.1, iadd .i64 m.2.2.1 1, m.2.2.2), v5.2) else some (m, v5.2)) = some (r, c') ∧ Ok TSignal r ∧ CurOk c' := by
  obtain ⟨a, c1, e1, a0, a1, _, h1⟩ := d_below hk h 8
  rw [e1, ob_some]
  cases ieq a 0
  · simp only [cond_false]
    cases ieq a 1
    · simp only [cond_false]
      cases ieq a 2
      · exact ⟨_, _, rfl, hm, h1⟩
      · exact ⟨_, _, rfl, ⟨hm.1, hm.2.1, ok_add _ _, hm.2.2.2⟩, h1⟩
    · exact ⟨_, _, rfl, ⟨hm.1, hm.2.1, hm.2.2.1, hm.2.2.2.1, ok_add _ _, hm.2.2.2.2.2⟩, h1⟩
  · obtain ⟨w, c2, e2, hw, h2⟩ := d_word hk h1
    simp only [cond_true, e2, ob_some]
    exact ⟨_, _, rfl, ⟨hm.1, hm.2.1, hm.2.2.1, hm.2.2.2.1, hm.2.2.2.2.1, hm.2.2.2.2.2.1, hw⟩, h2⟩
theorem d_sign (hk : FU ≤ k) {key : Int} {m : DSignal} (hm : Ok TSignal m) : ∃ r, spec_SignSignal.f k (key, m) = some r ∧ Ok TSignal r :=
  ⟨_, s_sign hk key m, hm.1, hm.2.1, hm.2.2.1, hm.2.2.2.1, hm.2.2.2.2.1, hm.2.2.2.2.2.1, ok_khash _ _⟩
theorem d_signal (hk : FU ≤ k) {c : Dl1Cur} {s : DSession} (h : CurOk c) (hs : Ok TSession s) : ∃ m c', spec_l30Signal.f k (c, s) = some (m, c') ∧ Ok TSignal m ∧ CurOk c' := by
  obtain ⟨a, c1, e1, a0, a1, _, h1⟩ := d_below hk h 8
  obtain ⟨b, c2, e2, b0, b1, _, h2⟩ := d_below hk h1 5
  obtain ⟨d, c3, e3, d0, d1, _, h3⟩ := d_below hk h2 3
  obtain ⟨f, c4, e4, f0, f1, _, h4⟩ := d_below hk h3 2
  have b1 := b1 (by omega)
  have z : Ok (.int .i64) (0 : Int) := okn (by omega)
  unfold spec_l30Signal.f
  simp only [e1, e2, e3, e4, ob_some]
  cases ieq (iadd .i64 1 a) 3
  · simp only [cond_false]
    cases ieq (iadd .i64 1 a) 8
    · obtain ⟨mm, e5, hmm⟩ := d_sign hk (key := s.2.2.2.2.2.2.1) (m := (iadd .i64 1 a, b, s.2.2.2.2.2.1, isub .i64 (iadd .i64 s.2.2.2.2.2.2.2.1 d) f, 0, (0, 0, 0, 0, 0), 0)) ⟨ok_add _ _, okn (n := b) (by omega), hs.2.2.2.2.2.1, ok_sub _ _, z, ⟨z, z, z, z, z⟩, z⟩
      simp only [cond_false, e5, ob_some]
      exact sig_tail hk h4 hmm
    · obtain ⟨x, c5, e6, x0, x1, _, h5⟩ := d_below hk h4 4
      obtain ⟨y, c6, e7, y0, y1, _, h6⟩ := d_below hk h5 2
      simp only [cond_true, e6, e7, ob_some]
      obtain ⟨n9, e8, h9⟩ : ∃ n, spec_Max.f k (0, iadd .i64 (isub .i64 s.2.2.2.2.2.2.2.2.2.2.2.2.1.1 x) y) = some n ∧ Ok (.int .i64) n := by
        refine ⟨_, s_max hk _ _, ?_⟩
        show Ok (.int .i64) (if _ then _ else _)
        split
        · exact ok_add _ _
        · exact z
      obtain ⟨mm, e5, hmm⟩ := d_sign hk (key := s.2.2.2.2.2.2.1) (m := (iadd .i64 1 a, b, s.2.2.2.2.2.1, isub .i64 (iadd .i64 s.2.2.2.2.2.2.2.1 d) f, n9, (0, 0, 0, 0, 0), 0)) ⟨ok_add _ _, okn (n := b) (by omega), hs.2.2.2.2.2.1, ok_sub _ _, h9, ⟨z, z, z, z, z⟩, z⟩
      simp only [e8, e5, ob_some]
      exact sig_tail hk h6 hmm
  · obtain ⟨mm, e5, hmm⟩ := d_sign hk (key := s.2.2.2.2.2.2.1) (m := (iadd .i64 1 a, b, s.2.2.2.2.1, isub .i64 (iadd .i64 s.2.2.2.2.2.2.2.1 d) f, s.2.2.2.1.2.2.2.1, (0, 0, 0, 0, 0), 0)) ⟨ok_add _ _, okn (n := b) (by omega), hs.2.2.2.2.1, ok_sub _ _, hs.2.2.2.1.2.2.2.1, ⟨z, z, z, z, z⟩, z⟩
    simp only [cond_true, e5, ob_some]
    exact sig_tail hk h4 hmm
theorem d_kind (hk : FU ≤ k) {x : List Int} (hx : x.length ≤ 281474976710656) (kd : Int) : ∃ s m, spec_l30Kind.f k (x, kd) = some (s, m) ∧ Ok TSession s ∧ Ok TSignal m := by
  obtain ⟨c, e1, h1⟩ := d_new hk hx
  obtain ⟨s, c2, e2, k1, k2, k3, h2⟩ := d_any hk h1
  obtain ⟨m, c3, e3, hm, h3⟩ := d_signal hk h2 k1
  have hloop := loop_inv (step := spec_l30Kind.s0 k) (fun d => 0 ≤ d.1.2 ∧ d.1.2 ≤ 40 ∧ CurOk d.2.2.2.1 ∧ Ok TSession (unp d.2.2.2.2.1 d.2.2.2.2.2.2.1 d.2.2.2.2.2.2.2.1 d.2.2.2.2.2.2.2.2) ∧ Ok TSignal d.2.2.2.2.2.1) (fun d => (40 - d.1.2).toNat) (fun e => Ok TSession (unp e.2.2.1 e.2.2.2.2.1 e.2.2.2.2.2.1 e.2.2.2.2.2.2) ∧ Ok TSignal e.2.2.2.1)
    (fun d ⟨i0, i1, i2, i3, i4⟩ => by
      unfold spec_l30Kind.s0
      cases hc : (bif ine d.2.2.2.2.2.1.1 d.1.1 then ilt d.1.2 40 else false)
      · right
        exact ⟨_, rfl, i3, i4⟩
      · left
        have hi : d.1.2 < 40 := by
          cases h4 : ine d.2.2.2.2.2.1.1 d.1.1
          · rw [h4] at hc; cases hc
          · rw [h4, cond_true] at hc; exact of_decide_eq_true hc
        have hs : iadd .i64 d.1.2 1 = d.1.2 + 1 := iadd_eq (by omega) (by omega)
        obtain ⟨m', c', e4, hm', hc'⟩ := d_signal hk i2 i3
        unfold unp at e4
        simp only [cond_true, e4, ob_some]
        exact ⟨_, rfl, ⟨by show 0 ≤ iadd .i64 d.1.2 1; omega, by show iadd .i64 d.1.2 1 ≤ 40; omega, hc', i3, hm'⟩, by show (40 - iadd .i64 d.1.2 1).toNat < (40 - d.1.2).toNat; omega⟩) k
    ((kd, 0), (((0, 0), 0, 0), (0, 0, 0, []), 0, (0, 0, 0, 0, 0), 0, 0, 0, 0, 0, 0, (0, 0, 0), [], (0, []), 0, 0, 0, 0), (0, 0, 0, 0, 0, (0, 0, 0, 0, 0), 0), c3, (s.1, s.2.1.1, s.2.1.2.1, s.2.1.2.2.1, s.2.2.1, s.2.2.2.1, s.2.2.2.2.1, s.2.2.2.2.2.1, s.2.2.2.2.2.2.1, s.2.2.2.2.2.2.2.1, s.2.2.2.2.2.2.2.2.1, s.2.2.2.2.2.2.2.2.2.1, s.2.2.2.2.2.2.2.2.2.2.1, s.2.2.2.2.2.2.2.2.2.2.2.2.1.1, s.2.2.2.2.2.2.2.2.2.2.2.2.2), m, s.2.1.2.2.2, s.2.2.2.2.2.2.2.2.2.2.2.1, s.2.2.2.2.2.2.2.2.2.2.2.2.1.2)
    ⟨by simp, by simp, h3, k1, hm⟩ (by unfold FU at hk; show (40 - (0 : Int)).toNat < k; omega)
  obtain ⟨e, he, q1, q2⟩ := hloop
  unfold spec_l30Kind.f
  simp only [e1, e2, e3, ob_some, he]
  exact ⟨_, _, rfl, q1, q2⟩

/-! ### Results of a session -/
theorem i_result (hk : FU ≤ k) {s : DSession} {l : List DSignal} (h : Ok TSession s) (hl : l.length ≤ 4294967296) : impl_sessionResult.f k (s, l) = some (s, l) := by
  unfold impl_sessionResult.f
  simp only [i_copySession hk h, i_copySignals hk hl, ob_some]
/-- The message that a session signs. -/
def signedF (s : DSession) (kd : Int) : DSignal :=
  (kd, s.2.2.2.2.2.2.2.2.1, s.2.2.2.2.2.1, s.2.2.2.2.2.2.2.1, 0, (0, 0, 0, 0, 0), macF s.2.2.2.2.2.2.1 (kd, s.2.2.2.2.2.2.2.2.1, s.2.2.2.2.2.1, s.2.2.2.2.2.2.2.1, 0, (0, 0, 0, 0, 0), 0))
theorem i_signed (hk : FU ≤ k) (s : DSession) (kd : Int) : impl_signedSignal.f k (s, kd) = some (signedF s kd) := by
  unfold impl_signedSignal.f
  rw [i_sign hk, ob_some]; rfl
def pathS (s : DSession) (m : DSignal) : DSession :=
  (s.1, s.2.1, s.2.2.1, s.2.2.2.1, s.2.2.2.2.1, s.2.2.2.2.2.1, s.2.2.2.2.2.2.1, m.2.2.2.1, m.2.1, 0, (0, 0, 0), s.2.2.2.2.2.2.2.2.2.2.2.1, s.2.2.2.2.2.2.2.2.2.2.2.2.1, 0, s.2.2.2.2.2.2.2.2.2.2.2.2.2.2)
def pathC (s : DSession) (m : DSignal) : Bool :=
  ieq s.2.2.1 1 && ieq m.2.2.1 s.2.2.2.2.2.1 && ieq m.2.2.2.2.2.2 (macF s.2.2.2.2.2.2.1 m) && dnot (ilt m.2.2.2.1 s.2.2.2.2.2.2.2.1) && dnot (ieq m.2.2.2.1 s.2.2.2.2.2.2.2.1 && ine m.2.1 s.2.2.2.2.2.2.2.2.1)
theorem ok_path {s : DSession} {m : DSignal} (h : Ok TSession s) (hm : Ok TSignal m) : Ok TSession (pathS s m) := by
  have z : Ok (.int .i64) (0 : Int) := okn (by omega)
  exact ⟨h.1, h.2.1, h.2.2.1, h.2.2.2.1, h.2.2.2.2.1, h.2.2.2.2.2.1, h.2.2.2.2.2.2.1, hm.2.2.2.1, hm.2.1, z, ⟨z, z, z⟩, h.2.2.2.2.2.2.2.2.2.2.2.1, h.2.2.2.2.2.2.2.2.2.2.2.2.1, z, h.2.2.2.2.2.2.2.2.2.2.2.2.2.2⟩
theorem i_pathUpdate (hk : FU ≤ k) {s : DSession} {m : DSignal} (h : Ok TSession s) (hm : Ok TSignal m) : impl_ReceivePathUpdate.f k (s, m) = some (bif pathC s m then (pathS s m, [signedF (pathS s m) 6]) else (s, [])) := by
  unfold impl_ReceivePathUpdate.f
  have hp := ok_path h hm
  have e1 : impl_signedSignal.f k ((s.1, s.2.1, s.2.2.1, s.2.2.2.1, s.2.2.2.2.1, s.2.2.2.2.2.1, s.2.2.2.2.2.2.1, m.2.2.2.1, m.2.1, 0, (0, 0, 0), s.2.2.2.2.2.2.2.2.2.2.2.1, s.2.2.2.2.2.2.2.2.2.2.2.2.1, 0, s.2.2.2.2.2.2.2.2.2.2.2.2.2.2), 6) = some (signedF (pathS s m) 6) := i_signed hk (pathS s m) 6
  have e2 : impl_sessionResult.f k ((s.1, s.2.1, s.2.2.1, s.2.2.2.1, s.2.2.2.2.1, s.2.2.2.2.2.1, s.2.2.2.2.2.2.1, m.2.2.2.1, m.2.1, 0, (0, 0, 0), s.2.2.2.2.2.2.2.2.2.2.2.1, s.2.2.2.2.2.2.2.2.2.2.2.2.1, 0, s.2.2.2.2.2.2.2.2.2.2.2.2.2.2), [signedF (pathS s m) 6]) = some (pathS s m, [signedF (pathS s m) 6]) := i_result hk hp (by simp)
  simp only [i_verify hk, ob_some, ob_pick, i_result hk h (l := []) (by simp), e1, e2, ine_not]
  unfold pathC
  rw [ine_not m.2.1]
  generalize ieq s.2.2.1 1 = a
  generalize ieq m.2.2.1 s.2.2.2.2.2.1 = b
  generalize ieq m.2.2.2.2.2.2 (macF s.2.2.2.2.2.2.1 m) = c
  generalize ilt m.2.2.2.1 s.2.2.2.2.2.2.2.1 = d
  generalize ieq m.2.2.2.1 s.2.2.2.2.2.2.2.1 = e
  generalize ieq m.2.1 s.2.2.2.2.2.2.2.2.1 = f
  cases a <;> cases b <;> cases c <;> cases d <;> cases e <;> cases f <;> rfl
theorem ilt_trich (x y : Int) : dnot (ilt x y) = (bif ilt y x then true else ieq x y) := by
  by_cases h : x < y
  · rw [ilt_t h, ilt_f (by omega), ieq_f (by omega)]; rfl
  · rw [ilt_f h]
    by_cases h2 : y < x
    · rw [ilt_t h2]; rfl
    · rw [ilt_f h2, ieq_t (by omega)]; rfl
theorem law_PathUpdates (hk : FU ≤ k) {x : (.sl (.int .u8) : Ty).den} (hg : Good' (.sl (.int .u8)) x) : laws_FnPathUpdates.f k x = some true := by
  unfold laws_FnPathUpdates.f laws_big.f spec_DrawReceivePathUpdate.f
  rw [ob_some]
  cases ilt 1048576 (llen x)
  · simp only [cond_false]
    obtain ⟨s, m, e1, h1, h2⟩ := d_kind hk (good_len hg) 5
    rw [e1, ob_some, ob_some]
    refine ob_of (i_pathUpdate hk h1 h2) ?_
    have hp := ok_path h1 h2
    have hcond : (dnot (bif bif bif ieq s.2.2.1 1 then ieq m.2.2.1 s.2.2.2.2.2.1 else false then (bif bif ieq s.2.2.1 1 then ieq m.2.2.1 s.2.2.2.2.2.1 else false then ieq m.2.2.2.2.2.2 (macF s.2.2.2.2.2.2.1 m) else false) else false then bif ilt s.2.2.2.2.2.2.2.1 m.2.2.2.1 then true else bif ieq m.2.2.2.1 s.2.2.2.2.2.2.2.1 then ieq m.2.1 s.2.2.2.2.2.2.2.2.1 else false else false)) = dnot (pathC s m) := by
      unfold pathC
      rw [ilt_trich m.2.2.2.1, ine_not m.2.1]
      have hno : ilt s.2.2.2.2.2.2.2.1 m.2.2.2.1 = true → ieq m.2.2.2.1 s.2.2.2.2.2.2.2.1 = false := fun h => ieq_f (by have h := of_decide_eq_true h; omega)
      generalize ieq s.2.2.1 1 = a
      generalize ieq m.2.2.1 s.2.2.2.2.2.1 = b
      generalize ieq m.2.2.2.2.2.2 (macF s.2.2.2.2.2.2.1 m) = c
      generalize ilt s.2.2.2.2.2.2.2.1 m.2.2.2.1 = d at hno ⊢
      generalize ieq m.2.2.2.1 s.2.2.2.2.2.2.2.1 = e at hno ⊢
      generalize ieq m.2.1 s.2.2.2.2.2.2.2.2.1 = f
      cases a <;> cases b <;> cases c <;> cases d <;> cases e <;> cases f <;> first | rfl | (exact absurd (hno rfl) (by decide))
    simp only [s_verify hk, ob_some, ob_pick, hcond]
    cases hc : pathC s m
    · simp only [cond_false, dnot_f, cond_true]
      have : ieq (llen ([] : List DSignal)) 0 = true := rfl
      simp only [this, cond_true, r_session hk h1, ob_some]
    · simp only [cond_true, dnot_t, cond_false]
      have hc2 : pathC (pathS s m) m = true := by
        unfold pathC at hc ⊢
        simp only [Bool.and_eq_true] at hc
        obtain ⟨⟨⟨⟨c1, c2⟩, c3⟩, c4⟩, c5⟩ := hc
        simp only [Bool.and_eq_true]
        refine ⟨⟨⟨⟨c1, c2⟩, c3⟩, ?_⟩, ?_⟩
        · show dnot (ilt m.2.2.2.1 m.2.2.2.1) = true
          rw [ilt_f (by omega)]; rfl
        · show dnot (ieq m.2.2.2.1 m.2.2.2.1 && ine m.2.1 m.2.1) = true
          rw [ine_self]; rw [Bool.and_false]; rfl
      refine ob_of (i_pathUpdate hk hp h2) ?_
      rw [hc2]
      simp only [cond_true]
      have hpp : pathS (pathS s m) m = pathS s m := rfl
      rw [hpp]
      have l1 : ine (llen [signedF (pathS s m) 6]) 1 = false := rfl
      have l2 : idxOk 0 (llen [signedF (pathS s m) 6]) = true := rfl
      have l3 : lget TSignal [signedF (pathS s m) 6] 0 = signedF (pathS s m) 6 := rfl
      simp only [l1, l2, l3, cond_true, cond_false]
      have f1 : ieq (pathS s m).2.2.2.2.2.2.2.1 m.2.2.2.1 = true := ieq_self _
      have f2 : ieq (pathS s m).2.2.2.2.2.2.2.2.1 m.2.1 = true := ieq_self _
      have f3 : ieq (pathS s m).2.2.2.2.2.2.2.2.2.2.2.2.2.1 0 = true := rfl
      have f4 : ieq (pathS s m).2.2.2.2.2.2.2.2.2.1 0 = true := rfl
      have f5 : ieq (signedF (pathS s m) 6).1 6 = true := rfl
      have f6 : ieq (signedF (pathS s m) 6).2.2.2.1 m.2.2.2.1 = true := ieq_self _
      have f7 : impl_VerifySignal.f k (s.2.2.2.2.2.2.1, signedF (pathS s m) 6) = some true := by
        rw [i_verify hk]
        exact congrArg some (ieq_self _)
      have f8 : laws_sameSender.f k ((pathS s m).2.2.2.2.2.2.2.2.2.2.2.2.1, s.2.2.2.2.2.2.2.2.2.2.2.2.1) = some true := r_sender hk h1.2.2.2.2.2.2.2.2.2.2.2.2.1
      simp only [f1, f2, f3, f4, f5, f6, f7, f8, cond_true, r_session hk hp, ob_some]
  · rfl

/-! ### Responses -/
def respC (s : DSession) (m : DSignal) : Bool :=
  bif bif bif ile s.2.2.2.2.1 0 then true else ine m.2.2.1 s.2.2.2.2.1 then true else ine m.2.2.2.2.1 s.2.2.2.1.2.2.2.1 then true else ile 999999 s.2.2.2.2.2.2.2.1
def respS (s : DSession) (m : DSignal) : DSession :=
  (s.1, s.2.1, 1, (0, 0, 0, 0, 0), 0, s.2.2.2.2.1, s.2.2.2.1.2.2.2.2, iadd .i64 s.2.2.2.2.2.2.2.1 1, m.2.1, 0, (0, 0, 0), s.2.2.2.2.2.2.2.2.2.2.2)
theorem ok_resp {s : DSession} {m : DSignal} (h : Ok TSession s) (hm : Ok TSignal m) : Ok TSession (respS s m) := by
  have z : Ok (.int .i64) (0 : Int) := okn (by omega)
  exact ⟨h.1, h.2.1, okn (n := 1) (by omega), ⟨z, z, z, z, z⟩, z, h.2.2.2.2.1, h.2.2.2.1.2.2.2.2, ok_add _ _, hm.2.1, z, ⟨z, z, z⟩, h.2.2.2.2.2.2.2.2.2.2.2⟩
theorem i_response (hk : FU ≤ k) {s : DSession} {m : DSignal} (h : Ok TSession s) (hm : Ok TSignal m) : impl_ReceiveResponse.f k (s, m) = some (bif respC s m then (s, []) else (respS s m, [signedF (respS s m) 4])) := by
  unfold impl_ReceiveResponse.f impl_ResponseMatches.f
  have hp := ok_resp h hm
  have e1 : impl_signedSignal.f k ((s.1, s.2.1, 1, (0, 0, 0, 0, 0), 0, s.2.2.2.2.1, s.2.2.2.1.2.2.2.2, iadd .i64 s.2.2.2.2.2.2.2.1 1, m.2.1, 0, (0, 0, 0), s.2.2.2.2.2.2.2.2.2.2.2), 4) = some (signedF (respS s m) 4) := i_signed hk (respS s m) 4
  have e2 : impl_sessionResult.f k ((s.1, s.2.1, 1, (0, 0, 0, 0, 0), 0, s.2.2.2.2.1, s.2.2.2.1.2.2.2.2, iadd .i64 s.2.2.2.2.2.2.2.1 1, m.2.1, 0, (0, 0, 0), s.2.2.2.2.2.2.2.2.2.2.2), [signedF (respS s m) 4]) = some (respS s m, [signedF (respS s m) 4]) := i_result hk hp (by simp)
  simp only [ob_some, ob_pick, i_result hk h (l := []) (by simp), e1, e2, ine_not]
  unfold respC
  simp only [ine_not]
  generalize ile s.2.2.2.2.1 0 = a
  generalize ieq m.2.2.1 s.2.2.2.2.1 = b
  generalize ieq m.2.2.2.2.1 s.2.2.2.1.2.2.2.1 = c
  generalize ile 999999 s.2.2.2.2.2.2.2.1 = d
  cases a <;> cases b <;> cases c <;> cases d <;> rfl
theorem law_CoreAuthentication (hk : FU ≤ k) {x : (.sl (.int .u8) : Ty).den} (hg : Good' (.sl (.int .u8)) x) : laws_FnCoreAuthentication.f k x = some true := by
  unfold laws_FnCoreAuthentication.f laws_big.f spec_DrawReceiveResponse.f
  rw [ob_some]
  cases ilt 1048576 (llen x)
  · simp only [cond_false]
    obtain ⟨s, m, e1, h1, h2⟩ := d_kind hk (good_len hg) 3
    rw [e1, ob_some, ob_some]
    refine ob_of (i_response hk h1 h2) ?_
    have hp := ok_resp h1 h2
    show (bif respC s m then _ else _) = _
    cases hc : respC s m
    · simp only [cond_false]
      have hc2 : respC (respS s m) m = true := rfl
      refine ob_of (i_response hk hp h2) ?_
      rw [hc2]
      simp only [cond_true]
      have l1 : ine (llen [signedF (respS s m) 4]) 1 = false := rfl
      have l4 : ine (llen ([] : List DSignal)) 0 = false := rfl
      have l2 : idxOk 0 (llen [signedF (respS s m) 4]) = true := rfl
      have l3 : lget TSignal [signedF (respS s m) 4] 0 = signedF (respS s m) 4 := rfl
      simp only [l1, l2, l3, l4, cond_true, cond_false, dnot_f, r_session hk hp, ob_some, dnot_t]
      have f1 : ieq (respS s m).2.2.1 1 = true := rfl
      have f2 : ieq (respS s m).2.2.2.2.2.2.1 s.2.2.2.1.2.2.2.2 = true := ieq_self _
      have f3 : ieq (respS s m).2.2.2.2.2.1 s.2.2.2.2.1 = true := ieq_self _
      have f4 : ieq (respS s m).2.2.2.2.1 0 = true := rfl
      have f5 : ieq (respS s m).2.2.2.2.2.2.2.1 (iadd .i64 s.2.2.2.2.2.2.2.1 1) = true := ieq_self _
      have f6 : ieq (respS s m).2.2.2.2.2.2.2.2.1 m.2.1 = true := ieq_self _
      have f7 : ieq (signedF (respS s m) 4).1 4 = true := rfl
      have f8 : ieq (signedF (respS s m) 4).2.1 m.2.1 = true := ieq_self _
      have f9 : ieq (signedF (respS s m) 4).2.2.2.1 (respS s m).2.2.2.2.2.2.2.1 = true := ieq_self _
      have f10 : impl_VerifySignal.f k (s.2.2.2.1.2.2.2.2, signedF (respS s m) 4) = some true := by
        rw [i_verify hk]
        exact congrArg some (ieq_self _)
      simp only [f1, f2, f3, f4, f5, f6, f7, f8, f9, f10, cond_true, ob_some]
    · simp only [cond_true]
      have : ieq (llen ([] : List DSignal)) 0 = true := rfl
      simp only [this, cond_true, r_session hk h1, ob_some]
  · rfl
end
end Go.Proofs.XF
/- What the program says of its types. -/
set_option linter.unusedVariables false
set_option maxRecDepth 100000
namespace Go.Proofs.Ytaghlbodihgkmaa.XS
open Go Go.Proofs.XTv Go.Proofs.XF
def look {α : Type} (l : List (Nat × α)) (n : Nat) : Option α := match l with
  | [] => none
  | (m, a) :: r => bif Nat.beq m n then some a else look r n
theorem look_mem {α : Type} : ∀ {l : List (Nat × α)} {n : Nat} {a : α}, look l n = some a → (n, a) ∈ l
  | (m, b) :: r, n, a, h => by
    unfold look at h
    cases hb : Nat.beq m n
    · simp only [hb, cond_false] at h; exact List.mem_cons_of_mem _ (look_mem h)
    · simp only [hb, cond_true, Option.some.injEq] at h
      rw [Nat.eq_of_beq_eq_true hb, h]; exact List.mem_cons_self ..
def tis : List (Nat × TInfo) := [
  (3, ⟨(.int .i64), false, 8, [], 0⟩),
  (4, ⟨.bool, false, 1, [], 0⟩),
  (5, ⟨(.int .u8), false, 1, [], 0⟩),
  (9, ⟨.str, false, 16, [], 0⟩),
  (25, ⟨TSubscriberID, true, 16, [(0, 3), (1, 3)], 0⟩),
  (27, ⟨TUSIM, true, 32, [(0, 25), (2, 3), (3, 3)], 0⟩),
  (28, ⟨TSubscriberID, true, 16, [(0, 3), (1, 3)], 0⟩),
  (30, ⟨TUSIM, true, 32, [(0, 28), (2, 3), (3, 3)], 0⟩),
  (31, ⟨(.sl TNumberedPacket), false, 24, [], 158⟩),
  (32, ⟨(.sl (.sl (.int .u8))), false, 24, [], 100⟩),
  (34, ⟨TReceiveWindow, true, 56, [(0, 3), (1, 31), (2, 32)], 0⟩),
  (36, ⟨TDevice, true, 144, [(0, 30), (4, 3), (5, 3), (6, 3), (7, 3), (8, 3), (9, 4), (10, 3), (11, 34)], 0⟩),
  (42, ⟨(.sl TNumberedPacket), false, 24, [], 185⟩),
  (43, ⟨(.sl (.sl (.int .u8))), false, 24, [], 165⟩),
  (45, ⟨TReceiveWindow, true, 56, [(0, 3), (1, 42), (2, 43)], 0⟩),
  (47, ⟨TDevice, true, 144, [(0, 27), (4, 3), (5, 3), (6, 3), (7, 3), (8, 3), (9, 4), (10, 3), (11, 45)], 0⟩),
  (53, ⟨TUSIM, true, 32, [(0, 25), (2, 3), (3, 3)], 0⟩),
  (54, ⟨(.sl (.int .i64)), false, 24, [], 3⟩),
  (56, ⟨TSubscription, true, 48, [(0, 3), (1, 3), (2, 3), (3, 54)], 0⟩),
  (59, ⟨TUSIM, true, 32, [(0, 28), (2, 3), (3, 3)], 0⟩),
  (60, ⟨TSubscription, true, 48, [(0, 3), (1, 3), (2, 3), (3, 54)], 0⟩),
  (62, ⟨TAuthVector, true, 40, [(0, 3), (1, 3), (2, 3), (3, 3), (4, 3)], 0⟩),
  (64, ⟨TQuota, true, 24, [(0, 3), (1, 3), (2, 3)], 0⟩),
  (66, ⟨TSendWindow, true, 32, [(0, 3), (1, 31)], 0⟩),
  (68, ⟨TQuota, true, 24, [(0, 3), (1, 3), (2, 3)], 0⟩),
  (70, ⟨TSession, true, 288, [(0, 59), (4, 60), (8, 3), (9, 62), (14, 3), (15, 3), (16, 3), (17, 3), (18, 3), (19, 3), (20, 64), (23, 32), (24, 66), (26, 3), (27, 68)], 0⟩),
  (80, ⟨TAuthVector, true, 40, [(0, 3), (1, 3), (2, 3), (3, 3), (4, 3)], 0⟩),
  (81, ⟨TQuota, true, 24, [(0, 3), (1, 3), (2, 3)], 0⟩),
  (83, ⟨TSendWindow, true, 32, [(0, 3), (1, 42)], 0⟩),
  (84, ⟨TQuota, true, 24, [(0, 3), (1, 3), (2, 3)], 0⟩),
  (86, ⟨TSession, true, 288, [(0, 53), (4, 56), (8, 3), (9, 80), (14, 3), (15, 3), (16, 3), (17, 3), (18, 3), (19, 3), (20, 81), (23, 43), (24, 83), (26, 3), (27, 84)], 0⟩),
  (91, ⟨(.sl (.int .u8)), false, 24, [], 5⟩),
  (100, ⟨(.sl (.int .u8)), true, 24, [(0, 91)], 0⟩),
  (103, ⟨TSignal, true, 88, [(0, 3), (1, 3), (2, 3), (3, 3), (4, 3), (5, 62), (10, 3)], 0⟩),
  (106, ⟨(.sl TSignal), false, 24, [], 103⟩),
  (108, ⟨TSessionResult, true, 312, [(0, 70), (30, 106)], 0⟩),
  (111, ⟨(.sl .str), false, 24, [], 9⟩),
  (158, ⟨TNumberedPacket, true, 32, [(0, 3), (1, 91)], 0⟩),
  (165, ⟨(.sl (.int .u8)), true, 24, [(0, 91)], 0⟩),
  (168, ⟨Tl1Cur, true, 40, [(0, 91), (1, 3), (2, 3)], 0⟩),
  (181, ⟨(.sl (.int .i64)), true, 24, [(0, 54)], 0⟩),
  (185, ⟨TNumberedPacket, true, 32, [(0, 3), (1, 91)], 0⟩)]
def eqs : List Nat := [59, 62, 64, 68]
def cx0 : Cx := { ti := look tis, eq := fun t => nmem t eqs, con := fun _ => none, loop := fun _ => none }
theorem tis_ok : tis.all (fun p => tyChk Try.prog cx0 p.1 p.2 && openChk cx0 p.2) = true := by kernel_rfl
theorem eqs_ok : eqs.all (fun t => !(Try.prog.eqGuardType Try.prog.depth t) && (match look tis t with | some ti => (match eqTyChk Try.prog 100 t (flatTy ti.ty) with | some [] => true | _ => false) | none => false)) = true := by kernel_rfl
theorem ty_ok : ∀ T ti, cx0.ti T = some ti → TyOk Try.prog cx0 T ti := fun T ti h => by
  have h1 := List.all_eq_true.1 tis_ok (T, ti) (look_mem h)
  rw [Bool.and_eq_true] at h1
  exact tyChk_ok h1.1
theorem open_ok : ∀ T ti, cx0.ti T = some ti → openChk cx0 ti = true := fun T ti h => by
  have h1 := List.all_eq_true.1 tis_ok (T, ti) (look_mem h)
  rw [Bool.and_eq_true] at h1
  exact h1.2
theorem cx_ok : CxOk Try.prog cx0 := ⟨ty_ok, fun T h => by
  have h1 := List.all_eq_true.1 eqs_ok T (nmem_iff.1 h)
  rw [Bool.and_eq_true, Bool.not_eq_true'] at h1
  refine ⟨h1.1, ?_⟩
  cases ht : look tis T with
  | none => simp [ht] at h1
  | some ti =>
    refine ⟨ti, ht, ?_⟩
    have h2 := h1.2
    rw [ht] at h2
    simp only at h2
    split at h2
    · assumption
    · cases h2⟩
end Go.Proofs.Ytaghlbodihgkmaa.XS
/- What each function is to be given and gives. -/
set_option linter.unusedVariables false
set_option maxRecDepth 100000
namespace Go.Proofs.Ytaghlbodihgkmaa.XS
open Go Go.Proofs.XTv Go.Proofs.XF
def spec_l1In.ps : List PK := [.val (.int .i64) false, .val (.int .i64) false, .val (.int .i64) false]
def spec_l1In.rs : List RK := [⟨.bool, false, .own⟩]
def spec_l1In.con : Con := ⟨spec_l1In.ps, spec_l1In.rs, spec_l1In.f⟩
def spec_l1In.cx : Cx := { cx0 with con := look [], loop := look [] }
def spec_EventName.ps : List PK := [.val (.int .i64) false]
def spec_EventName.rs : List RK := [⟨.str, false, .own⟩]
def spec_EventName.con : Con := ⟨spec_EventName.ps, spec_EventName.rs, spec_EventName.f⟩
def spec_EventName.cx : Cx := { cx0 with con := look [(56, spec_l1In.con)], loop := look [] }
def impl_EventName.ps : List PK := [.val (.int .i64) false]
def impl_EventName.rs : List RK := [⟨.str, false, .own⟩]
def impl_EventName.con : Con := ⟨impl_EventName.ps, impl_EventName.rs, impl_EventName.f⟩
def impl_EventName.cx : Cx := { cx0 with con := look [], loop := look [] }
def laws_FnExactEventName.ps : List PK := [.val (.int .i64) false]
def laws_FnExactEventName.rs : List RK := [⟨.bool, false, .own⟩]
def laws_FnExactEventName.con : Con := ⟨laws_FnExactEventName.ps, laws_FnExactEventName.rs, laws_FnExactEventName.f⟩
def laws_FnExactEventName.cx : Cx := { cx0 with con := look [(13, spec_EventName.con), (14, impl_EventName.con)], loop := look [] }
def spec_NewDevice.ps : List PK := [.val TUSIM true, .val (.int .i64) false]
def spec_NewDevice.rs : List RK := [⟨TDevice, true, .own⟩]
def spec_NewDevice.con : Con := ⟨spec_NewDevice.ps, spec_NewDevice.rs, spec_NewDevice.f⟩
def spec_NewDevice.cx : Cx := { cx0 with con := look [], loop := look [] }
def laws_toSubscriberID.ps : List PK := [.val TSubscriberID true]
def laws_toSubscriberID.rs : List RK := [⟨TSubscriberID, true, .own⟩]
def laws_toSubscriberID.con : Con := ⟨laws_toSubscriberID.ps, laws_toSubscriberID.rs, laws_toSubscriberID.f⟩
def laws_toSubscriberID.cx : Cx := { cx0 with con := look [], loop := look [] }
def laws_toUSIM.ps : List PK := [.val TUSIM true]
def laws_toUSIM.rs : List RK := [⟨TUSIM, true, .own⟩]
def laws_toUSIM.con : Con := ⟨laws_toUSIM.ps, laws_toUSIM.rs, laws_toUSIM.f⟩
def laws_toUSIM.cx : Cx := { cx0 with con := look [(57, laws_toSubscriberID.con)], loop := look [] }
def impl_NewDevice.ps : List PK := [.val TUSIM true, .val (.int .i64) false]
def impl_NewDevice.rs : List RK := [⟨TDevice, true, .own⟩]
def impl_NewDevice.con : Con := ⟨impl_NewDevice.ps, impl_NewDevice.rs, impl_NewDevice.f⟩
def impl_NewDevice.cx : Cx := { cx0 with con := look [], loop := look [] }
def laws_eqSubscriberID.ps : List PK := [.val TSubscriberID true, .val TSubscriberID true]
def laws_eqSubscriberID.rs : List RK := [⟨.bool, false, .own⟩]
def laws_eqSubscriberID.con : Con := ⟨laws_eqSubscriberID.ps, laws_eqSubscriberID.rs, laws_eqSubscriberID.f⟩
def laws_eqSubscriberID.cx : Cx := { cx0 with con := look [], loop := look [] }
def laws_eqUSIM.ps : List PK := [.val TUSIM true, .val TUSIM true]
def laws_eqUSIM.rs : List RK := [⟨.bool, false, .own⟩]
def laws_eqUSIM.con : Con := ⟨laws_eqUSIM.ps, laws_eqUSIM.rs, laws_eqUSIM.f⟩
def laws_eqUSIM.cx : Cx := { cx0 with con := look [(115, laws_eqSubscriberID.con)], loop := look [] }
def laws_eqByteS.ps : List PK := [.val (.sl (.int .u8)) false, .val (.sl (.int .u8)) false]
def laws_eqByteS.rs : List RK := [⟨.bool, false, .own⟩]
def laws_eqByteS.con : Con := ⟨laws_eqByteS.ps, laws_eqByteS.rs, laws_eqByteS.f⟩
def laws_eqByteS.cx : Cx := { cx0 with con := look [], loop := look [(4, ⟨⟨[(0, false, [.dat (.sl (.int .u8)) [0]]), (1, false, [.dat (.sl (.int .u8)) [0]]), (5, false, [.dat (.int .i64) []])], []⟩, [(.exit 0, ⟨[], []⟩), (.ret, ⟨[(4, false, [.dat .bool []])], []⟩)]⟩)] }
def laws_eqPayload.ps : List PK := [.val (.sl (.int .u8)) true, .val (.sl (.int .u8)) true]
def laws_eqPayload.rs : List RK := [⟨.bool, false, .own⟩]
def laws_eqPayload.con : Con := ⟨laws_eqPayload.ps, laws_eqPayload.rs, laws_eqPayload.f⟩
def laws_eqPayload.cx : Cx := { cx0 with con := look [(154, laws_eqByteS.con)], loop := look [] }
def laws_eqPayloadS.ps : List PK := [.val (.sl (.sl (.int .u8))) false, .val (.sl (.sl (.int .u8))) false]
def laws_eqPayloadS.rs : List RK := [⟨.bool, false, .own⟩]
def laws_eqPayloadS.con : Con := ⟨laws_eqPayloadS.ps, laws_eqPayloadS.rs, laws_eqPayloadS.f⟩
def laws_eqPayloadS.cx : Cx := { cx0 with con := look [(125, laws_eqPayload.con)], loop := look [(4, ⟨⟨[(0, false, [.dat (.sl (.sl (.int .u8))) [0]]), (1, false, [.dat (.sl (.sl (.int .u8))) [0]]), (5, false, [.dat (.int .i64) []])], []⟩, [(.exit 0, ⟨[], []⟩), (.ret, ⟨[(4, false, [.dat .bool []])], []⟩)]⟩)] }
def laws_eqNumberedPacket.ps : List PK := [.val TNumberedPacket true, .val TNumberedPacket true]
def laws_eqNumberedPacket.rs : List RK := [⟨.bool, false, .own⟩]
def laws_eqNumberedPacket.con : Con := ⟨laws_eqNumberedPacket.ps, laws_eqNumberedPacket.rs, laws_eqNumberedPacket.f⟩
def laws_eqNumberedPacket.cx : Cx := { cx0 with con := look [(154, laws_eqByteS.con)], loop := look [] }
def laws_eqNumberedPacketS.ps : List PK := [.val (.sl TNumberedPacket) false, .val (.sl TNumberedPacket) false]
def laws_eqNumberedPacketS.rs : List RK := [⟨.bool, false, .own⟩]
def laws_eqNumberedPacketS.con : Con := ⟨laws_eqNumberedPacketS.ps, laws_eqNumberedPacketS.rs, laws_eqNumberedPacketS.f⟩
def laws_eqNumberedPacketS.cx : Cx := { cx0 with con := look [(151, laws_eqNumberedPacket.con)], loop := look [(4, ⟨⟨[(0, false, [.dat (.sl TNumberedPacket) [0]]), (1, false, [.dat (.sl TNumberedPacket) [0]]), (5, false, [.dat (.int .i64) []])], []⟩, [(.exit 0, ⟨[], []⟩), (.ret, ⟨[(4, false, [.dat .bool []])], []⟩)]⟩)] }
def laws_eqReceiveWindow.ps : List PK := [.val TReceiveWindow true, .val TReceiveWindow true]
def laws_eqReceiveWindow.rs : List RK := [⟨.bool, false, .own⟩]
def laws_eqReceiveWindow.con : Con := ⟨laws_eqReceiveWindow.ps, laws_eqReceiveWindow.rs, laws_eqReceiveWindow.f⟩
def laws_eqReceiveWindow.cx : Cx := { cx0 with con := look [(78, laws_eqPayloadS.con), (116, laws_eqNumberedPacketS.con)], loop := look [] }
def laws_eqDevice.ps : List PK := [.val TDevice true, .val TDevice true]
def laws_eqDevice.rs : List RK := [⟨.bool, false, .own⟩]
def laws_eqDevice.con : Con := ⟨laws_eqDevice.ps, laws_eqDevice.rs, laws_eqDevice.f⟩
def laws_eqDevice.cx : Cx := { cx0 with con := look [(58, laws_eqUSIM.con), (59, laws_eqReceiveWindow.con)], loop := look [] }
def laws_markByteS.ps : List PK := [.lend (.sl (.int .u8)) false, .val (.int .i64) false]
def laws_markByteS.rs : List RK := [⟨(.int .i64), false, .own⟩]
def laws_markByteS.con : Con := ⟨laws_markByteS.ps, laws_markByteS.rs, laws_markByteS.f⟩
def laws_markByteS.cx : Cx := { cx0 with con := look [], loop := look [(2, ⟨⟨[(0, false, [.own 257]), (1, false, [.dat (.int .i64) []]), (5, false, [.dat (.int .i64) []])], [(257, .arr (.int .u8) true [])]⟩, [(.exit 0, ⟨[(0, false, [.own 257]), (1, false, [.dat (.int .i64) []])], [(257, .arr (.int .u8) true [])]⟩)]⟩)] }
def laws_markPayloadS.ps : List PK := [.lend (.sl (.sl (.int .u8))) false, .val (.int .i64) false]
def laws_markPayloadS.rs : List RK := [⟨(.int .i64), false, .own⟩]
def laws_markPayloadS.con : Con := ⟨laws_markPayloadS.ps, laws_markPayloadS.rs, laws_markPayloadS.f⟩
def laws_markPayloadS.cx : Cx := { cx0 with con := look [(126, laws_markByteS.con)], loop := look [(2, ⟨⟨[(0, false, [.own 257]), (1, false, [.dat (.int .i64) []]), (5, false, [.dat (.int .i64) []])], [(257, .arr (.sl (.int .u8)) true [])]⟩, [(.exit 0, ⟨[(0, false, [.own 257]), (1, false, [.dat (.int .i64) []])], [(257, .arr (.sl (.int .u8)) true [])]⟩)]⟩)] }
def laws_markNumberedPacketS.ps : List PK := [.lend (.sl TNumberedPacket) false, .val (.int .i64) false]
def laws_markNumberedPacketS.rs : List RK := [⟨(.int .i64), false, .own⟩]
def laws_markNumberedPacketS.con : Con := ⟨laws_markNumberedPacketS.ps, laws_markNumberedPacketS.rs, laws_markNumberedPacketS.f⟩
def laws_markNumberedPacketS.cx : Cx := { cx0 with con := look [(126, laws_markByteS.con)], loop := look [(2, ⟨⟨[(0, false, [.own 257]), (1, false, [.dat (.int .i64) []]), (5, false, [.dat (.int .i64) []])], [(257, .arr TNumberedPacket true [])]⟩, [(.exit 0, ⟨[(0, false, [.own 257]), (1, false, [.dat (.int .i64) []])], [(257, .arr TNumberedPacket true [])]⟩)]⟩)] }
def laws_markReceiveWindow.ps : List PK := [.lend TReceiveWindow true, .val (.int .i64) false]
def laws_markReceiveWindow.rs : List RK := [⟨(.int .i64), false, .own⟩]
def laws_markReceiveWindow.con : Con := ⟨laws_markReceiveWindow.ps, laws_markReceiveWindow.rs, laws_markReceiveWindow.f⟩
def laws_markReceiveWindow.cx : Cx := { cx0 with con := look [(83, laws_markPayloadS.con), (117, laws_markNumberedPacketS.con)], loop := look [] }
def laws_markDevice.ps : List PK := [.lend TDevice true, .val (.int .i64) false]
def laws_markDevice.rs : List RK := [⟨(.int .i64), false, .own⟩]
def laws_markDevice.con : Con := ⟨laws_markDevice.ps, laws_markDevice.rs, laws_markDevice.f⟩
def laws_markDevice.cx : Cx := { cx0 with con := look [(60, laws_markReceiveWindow.con)], loop := look [] }
def laws_heldByteS.ps : List PK := [.val (.sl (.int .u8)) false, .val (.int .i64) false]
def laws_heldByteS.rs : List RK := [⟨(.int .i64), false, .own⟩]
def laws_heldByteS.con : Con := ⟨laws_heldByteS.ps, laws_heldByteS.rs, laws_heldByteS.f⟩
def laws_heldByteS.cx : Cx := { cx0 with con := look [], loop := look [(2, ⟨⟨[(0, false, [.dat (.sl (.int .u8)) [0]]), (1, false, [.dat (.int .i64) []]), (5, false, [.dat (.int .i64) []])], []⟩, [(.exit 0, ⟨[(1, false, [.dat (.int .i64) []])], []⟩), (.ret, ⟨[(4, false, [.dat (.int .i64) []])], []⟩)]⟩)] }
def laws_heldPayloadS.ps : List PK := [.val (.sl (.sl (.int .u8))) false, .val (.int .i64) false]
def laws_heldPayloadS.rs : List RK := [⟨(.int .i64), false, .own⟩]
def laws_heldPayloadS.con : Con := ⟨laws_heldPayloadS.ps, laws_heldPayloadS.rs, laws_heldPayloadS.f⟩
def laws_heldPayloadS.cx : Cx := { cx0 with con := look [(128, laws_heldByteS.con)], loop := look [(2, ⟨⟨[(0, false, [.dat (.sl (.sl (.int .u8))) [0]]), (1, false, [.dat (.int .i64) []]), (5, false, [.dat (.int .i64) []])], []⟩, [(.exit 0, ⟨[(1, false, [.dat (.int .i64) []])], []⟩), (.ret, ⟨[(4, false, [.dat (.int .i64) []])], []⟩)]⟩)] }
def laws_heldNumberedPacketS.ps : List PK := [.val (.sl TNumberedPacket) false, .val (.int .i64) false]
def laws_heldNumberedPacketS.rs : List RK := [⟨(.int .i64), false, .own⟩]
def laws_heldNumberedPacketS.con : Con := ⟨laws_heldNumberedPacketS.ps, laws_heldNumberedPacketS.rs, laws_heldNumberedPacketS.f⟩
def laws_heldNumberedPacketS.cx : Cx := { cx0 with con := look [(128, laws_heldByteS.con)], loop := look [(2, ⟨⟨[(0, false, [.dat (.sl TNumberedPacket) [0]]), (1, false, [.dat (.int .i64) []]), (5, false, [.dat (.int .i64) []])], []⟩, [(.exit 0, ⟨[(1, false, [.dat (.int .i64) []])], []⟩), (.ret, ⟨[(4, false, [.dat (.int .i64) []])], []⟩)]⟩)] }
def laws_heldReceiveWindow.ps : List PK := [.val TReceiveWindow true, .val (.int .i64) false]
def laws_heldReceiveWindow.rs : List RK := [⟨(.int .i64), false, .own⟩]
def laws_heldReceiveWindow.con : Con := ⟨laws_heldReceiveWindow.ps, laws_heldReceiveWindow.rs, laws_heldReceiveWindow.f⟩
def laws_heldReceiveWindow.cx : Cx := { cx0 with con := look [(86, laws_heldPayloadS.con), (118, laws_heldNumberedPacketS.con)], loop := look [] }
def laws_heldDevice.ps : List PK := [.val TDevice true, .val (.int .i64) false]
def laws_heldDevice.rs : List RK := [⟨(.int .i64), false, .own⟩]
def laws_heldDevice.con : Con := ⟨laws_heldDevice.ps, laws_heldDevice.rs, laws_heldDevice.f⟩
def laws_heldDevice.cx : Cx := { cx0 with con := look [(61, laws_heldReceiveWindow.con)], loop := look [] }
def laws_FnExactNewDevice.ps : List PK := [.val TUSIM true, .val (.int .i64) false]
def laws_FnExactNewDevice.rs : List RK := [⟨.bool, false, .own⟩]
def laws_FnExactNewDevice.con : Con := ⟨laws_FnExactNewDevice.ps, laws_FnExactNewDevice.rs, laws_FnExactNewDevice.f⟩
def laws_FnExactNewDevice.cx : Cx := { cx0 with con := look [(15, spec_NewDevice.con), (16, laws_toUSIM.con), (17, impl_NewDevice.con), (18, laws_eqDevice.con), (19, laws_markDevice.con), (20, laws_heldDevice.con)], loop := look [] }
def laws_szByteS.ps : List PK := [.val (.sl (.int .u8)) false, .val (.int .i64) false]
def laws_szByteS.rs : List RK := [⟨(.int .i64), false, .own⟩]
def laws_szByteS.con : Con := ⟨laws_szByteS.ps, laws_szByteS.rs, laws_szByteS.f⟩
def laws_szByteS.cx : Cx := { cx0 with con := look [], loop := look [] }
def laws_szPayload.ps : List PK := [.val (.sl (.int .u8)) true, .val (.int .i64) false]
def laws_szPayload.rs : List RK := [⟨(.int .i64), false, .own⟩]
def laws_szPayload.con : Con := ⟨laws_szPayload.ps, laws_szPayload.rs, laws_szPayload.f⟩
def laws_szPayload.cx : Cx := { cx0 with con := look [(158, laws_szByteS.con)], loop := look [] }
def laws_szPayloadS.ps : List PK := [.val (.sl (.sl (.int .u8))) false, .val (.int .i64) false]
def laws_szPayloadS.rs : List RK := [⟨(.int .i64), false, .own⟩]
def laws_szPayloadS.con : Con := ⟨laws_szPayloadS.ps, laws_szPayloadS.rs, laws_szPayloadS.f⟩
def laws_szPayloadS.cx : Cx := { cx0 with con := look [(131, laws_szPayload.con)], loop := look [(5, ⟨⟨[(0, false, [.dat (.sl (.sl (.int .u8))) [0]]), (1, false, [.dat (.int .i64) []]), (5, false, [.dat (.int .i64) []])], []⟩, [(.exit 0, ⟨[(1, false, [.dat (.int .i64) []])], []⟩), (.ret, ⟨[(4, false, [.dat (.int .i64) []])], []⟩)]⟩)] }
def laws_szNumberedPacket.ps : List PK := [.val TNumberedPacket true, .val (.int .i64) false]
def laws_szNumberedPacket.rs : List RK := [⟨(.int .i64), false, .own⟩]
def laws_szNumberedPacket.con : Con := ⟨laws_szNumberedPacket.ps, laws_szNumberedPacket.rs, laws_szNumberedPacket.f⟩
def laws_szNumberedPacket.cx : Cx := { cx0 with con := look [(158, laws_szByteS.con)], loop := look [] }
def laws_szNumberedPacketS.ps : List PK := [.val (.sl TNumberedPacket) false, .val (.int .i64) false]
def laws_szNumberedPacketS.rs : List RK := [⟨(.int .i64), false, .own⟩]
def laws_szNumberedPacketS.con : Con := ⟨laws_szNumberedPacketS.ps, laws_szNumberedPacketS.rs, laws_szNumberedPacketS.f⟩
def laws_szNumberedPacketS.cx : Cx := { cx0 with con := look [(152, laws_szNumberedPacket.con)], loop := look [(5, ⟨⟨[(0, false, [.dat (.sl TNumberedPacket) [0]]), (1, false, [.dat (.int .i64) []]), (5, false, [.dat (.int .i64) []])], []⟩, [(.exit 0, ⟨[(1, false, [.dat (.int .i64) []])], []⟩), (.ret, ⟨[(4, false, [.dat (.int .i64) []])], []⟩)]⟩)] }
def laws_szReceiveWindow.ps : List PK := [.val TReceiveWindow true, .val (.int .i64) false]
def laws_szReceiveWindow.rs : List RK := [⟨(.int .i64), false, .own⟩]
def laws_szReceiveWindow.con : Con := ⟨laws_szReceiveWindow.ps, laws_szReceiveWindow.rs, laws_szReceiveWindow.f⟩
def laws_szReceiveWindow.cx : Cx := { cx0 with con := look [(90, laws_szPayloadS.con), (119, laws_szNumberedPacketS.con)], loop := look [] }
def laws_szDevice.ps : List PK := [.val TDevice true, .val (.int .i64) false]
def laws_szDevice.rs : List RK := [⟨(.int .i64), false, .own⟩]
def laws_szDevice.con : Con := ⟨laws_szDevice.ps, laws_szDevice.rs, laws_szDevice.f⟩
def laws_szDevice.cx : Cx := { cx0 with con := look [(62, laws_szReceiveWindow.con)], loop := look [] }
def spec_IsValidKey.ps : List PK := [.val (.int .i64) false]
def spec_IsValidKey.rs : List RK := [⟨.bool, false, .own⟩]
def spec_IsValidKey.con : Con := ⟨spec_IsValidKey.ps, spec_IsValidKey.rs, spec_IsValidKey.f⟩
def spec_IsValidKey.cx : Cx := { cx0 with con := look [(56, spec_l1In.con)], loop := look [] }
def spec_IsValidSubscriberID.ps : List PK := [.val TSubscriberID true]
def spec_IsValidSubscriberID.rs : List RK := [⟨.bool, false, .own⟩]
def spec_IsValidSubscriberID.con : Con := ⟨spec_IsValidSubscriberID.ps, spec_IsValidSubscriberID.rs, spec_IsValidSubscriberID.f⟩
def spec_IsValidSubscriberID.cx : Cx := { cx0 with con := look [(56, spec_l1In.con)], loop := look [] }
def spec_IsValidUSIM.ps : List PK := [.val TUSIM true]
def spec_IsValidUSIM.rs : List RK := [⟨.bool, false, .own⟩]
def spec_IsValidUSIM.con : Con := ⟨spec_IsValidUSIM.ps, spec_IsValidUSIM.rs, spec_IsValidUSIM.f⟩
def spec_IsValidUSIM.cx : Cx := { cx0 with con := look [(56, spec_l1In.con), (63, spec_IsValidKey.con), (120, spec_IsValidSubscriberID.con)], loop := look [] }
def spec_IsValidReceiver.ps : List PK := [.val TReceiveWindow true]
def spec_IsValidReceiver.rs : List RK := [⟨.bool, false, .own⟩]
def spec_IsValidReceiver.con : Con := ⟨spec_IsValidReceiver.ps, spec_IsValidReceiver.rs, spec_IsValidReceiver.f⟩
def spec_IsValidReceiver.cx : Cx := { cx0 with con := look [(56, spec_l1In.con)], loop := look [(2, ⟨⟨[(1, false, [.ptr 512 0]), (3, false, [.dat (.int .i64) []])], [(512, .box [.dat TReceiveWindow [0]])]⟩, [(.exit 0, ⟨[(1, false, [.ptr 512 0])], [(512, .box [.dat TReceiveWindow [0]])]⟩), (.ret, ⟨[(2, false, [.dat .bool []])], []⟩)]⟩),
    (7, ⟨⟨[(1, false, [.ptr 512 0]), (4, false, [.dat (.int .i64) []])], [(512, .box [.dat TReceiveWindow [0]])]⟩, [(.exit 2, ⟨[(1, false, [.ptr 512 0])], [(512, .box [.dat TReceiveWindow [0]])]⟩), (.ret, ⟨[(2, false, [.dat .bool []])], []⟩)]⟩)] }
def spec_IsValidDevice.ps : List PK := [.val TDevice true]
def spec_IsValidDevice.rs : List RK := [⟨.bool, false, .own⟩]
def spec_IsValidDevice.con : Con := ⟨spec_IsValidDevice.ps, spec_IsValidDevice.rs, spec_IsValidDevice.f⟩
def spec_IsValidDevice.cx : Cx := { cx0 with con := look [(56, spec_l1In.con), (63, spec_IsValidKey.con), (64, spec_IsValidUSIM.con), (65, spec_IsValidReceiver.con)], loop := look [] }
def laws_toByteS.ps : List PK := [.val (.sl (.int .u8)) false]
def laws_toByteS.rs : List RK := [⟨(.sl (.int .u8)), false, .own⟩]
def laws_toByteS.con : Con := ⟨laws_toByteS.ps, laws_toByteS.rs, laws_toByteS.f⟩
def laws_toByteS.cx : Cx := { cx0 with con := look [], loop := look [(3, ⟨⟨[(0, false, [.dat (.sl (.int .u8)) [0]]), (3, false, [.own 1279]), (4, false, [.dat (.int .i64) []])], [(1279, .arr (.int .u8) true [])]⟩, [(.exit 0, ⟨[(3, false, [.own 1279])], [(1279, .arr (.int .u8) true [])]⟩)]⟩)] }
def laws_toPayload.ps : List PK := [.val (.sl (.int .u8)) true]
def laws_toPayload.rs : List RK := [⟨(.sl (.int .u8)), true, .own⟩]
def laws_toPayload.con : Con := ⟨laws_toPayload.ps, laws_toPayload.rs, laws_toPayload.f⟩
def laws_toPayload.cx : Cx := { cx0 with con := look [(159, laws_toByteS.con)], loop := look [] }
def laws_toPayloadS.ps : List PK := [.val (.sl (.sl (.int .u8))) false]
def laws_toPayloadS.rs : List RK := [⟨(.sl (.sl (.int .u8))), false, .own⟩]
def laws_toPayloadS.con : Con := ⟨laws_toPayloadS.ps, laws_toPayloadS.rs, laws_toPayloadS.f⟩
def laws_toPayloadS.cx : Cx := { cx0 with con := look [(132, laws_toPayload.con)], loop := look [(3, ⟨⟨[(0, false, [.dat (.sl (.sl (.int .u8))) [0]]), (3, false, [.own 1279]), (4, false, [.dat (.int .i64) []])], [(1279, .arr (.sl (.int .u8)) true [])]⟩, [(.exit 0, ⟨[(3, false, [.own 1279])], [(1279, .arr (.sl (.int .u8)) true [])]⟩)]⟩)] }
def laws_toNumberedPacket.ps : List PK := [.val TNumberedPacket true]
def laws_toNumberedPacket.rs : List RK := [⟨TNumberedPacket, true, .own⟩]
def laws_toNumberedPacket.con : Con := ⟨laws_toNumberedPacket.ps, laws_toNumberedPacket.rs, laws_toNumberedPacket.f⟩
def laws_toNumberedPacket.cx : Cx := { cx0 with con := look [(159, laws_toByteS.con)], loop := look [] }
def laws_toNumberedPacketS.ps : List PK := [.val (.sl TNumberedPacket) false]
def laws_toNumberedPacketS.rs : List RK := [⟨(.sl TNumberedPacket), false, .own⟩]
def laws_toNumberedPacketS.con : Con := ⟨laws_toNumberedPacketS.ps, laws_toNumberedPacketS.rs, laws_toNumberedPacketS.f⟩
def laws_toNumberedPacketS.cx : Cx := { cx0 with con := look [(153, laws_toNumberedPacket.con)], loop := look [(3, ⟨⟨[(0, false, [.dat (.sl TNumberedPacket) [0]]), (3, false, [.own 1279]), (4, false, [.dat (.int .i64) []])], [(1279, .arr TNumberedPacket true [])]⟩, [(.exit 0, ⟨[(3, false, [.own 1279])], [(1279, .arr TNumberedPacket true [])]⟩)]⟩)] }
def laws_toReceiveWindow.ps : List PK := [.val TReceiveWindow true]
def laws_toReceiveWindow.rs : List RK := [⟨TReceiveWindow, true, .own⟩]
def laws_toReceiveWindow.con : Con := ⟨laws_toReceiveWindow.ps, laws_toReceiveWindow.rs, laws_toReceiveWindow.f⟩
def laws_toReceiveWindow.cx : Cx := { cx0 with con := look [(94, laws_toPayloadS.con), (121, laws_toNumberedPacketS.con)], loop := look [] }
def laws_toDevice.ps : List PK := [.val TDevice true]
def laws_toDevice.rs : List RK := [⟨TDevice, true, .own⟩]
def laws_toDevice.con : Con := ⟨laws_toDevice.ps, laws_toDevice.rs, laws_toDevice.f⟩
def laws_toDevice.cx : Cx := { cx0 with con := look [(16, laws_toUSIM.con), (66, laws_toReceiveWindow.con)], loop := look [] }
def impl_InRange.ps : List PK := [.val (.int .i64) false, .val (.int .i64) false, .val (.int .i64) false]
def impl_InRange.rs : List RK := [⟨.bool, false, .own⟩]
def impl_InRange.con : Con := ⟨impl_InRange.ps, impl_InRange.rs, impl_InRange.f⟩
def impl_InRange.cx : Cx := { cx0 with con := look [], loop := look [] }
def impl_IsValidKey.ps : List PK := [.val (.int .i64) false]
def impl_IsValidKey.rs : List RK := [⟨.bool, false, .own⟩]
def impl_IsValidKey.con : Con := ⟨impl_IsValidKey.ps, impl_IsValidKey.rs, impl_IsValidKey.f⟩
def impl_IsValidKey.cx : Cx := { cx0 with con := look [(68, impl_InRange.con)], loop := look [] }
def impl_IsValidSubscriberID.ps : List PK := [.val TSubscriberID true]
def impl_IsValidSubscriberID.rs : List RK := [⟨.bool, false, .own⟩]
def impl_IsValidSubscriberID.con : Con := ⟨impl_IsValidSubscriberID.ps, impl_IsValidSubscriberID.rs, impl_IsValidSubscriberID.f⟩
def impl_IsValidSubscriberID.cx : Cx := { cx0 with con := look [(68, impl_InRange.con)], loop := look [] }
def impl_IsValidUSIM.ps : List PK := [.val TUSIM true]
def impl_IsValidUSIM.rs : List RK := [⟨.bool, false, .own⟩]
def impl_IsValidUSIM.con : Con := ⟨impl_IsValidUSIM.ps, impl_IsValidUSIM.rs, impl_IsValidUSIM.f⟩
def impl_IsValidUSIM.cx : Cx := { cx0 with con := look [(68, impl_InRange.con), (69, impl_IsValidKey.con), (122, impl_IsValidSubscriberID.con)], loop := look [] }
def impl_fitPayload.ps : List PK := [.val (.sl (.sl (.int .u8))) false]
def impl_fitPayload.rs : List RK := [⟨.bool, false, .own⟩]
def impl_fitPayload.con : Con := ⟨impl_fitPayload.ps, impl_fitPayload.rs, impl_fitPayload.f⟩
def impl_fitPayload.cx : Cx := { cx0 with con := look [], loop := look [(2, ⟨⟨[(5, false, [.dat (.sl (.sl (.int .u8))) [0]]), (6, false, [.dat (.int .i64) []]), (7, false, [.dat (.int .i64) []])], []⟩, [(.exit 0, ⟨[], []⟩), (.ret, ⟨[(2, false, [.dat .bool []])], []⟩)]⟩)] }
def impl_IsValidReceiver.ps : List PK := [.val TReceiveWindow true]
def impl_IsValidReceiver.rs : List RK := [⟨.bool, false, .own⟩]
def impl_IsValidReceiver.con : Con := ⟨impl_IsValidReceiver.ps, impl_IsValidReceiver.rs, impl_IsValidReceiver.f⟩
def impl_IsValidReceiver.cx : Cx := { cx0 with con := look [(68, impl_InRange.con), (123, impl_fitPayload.con)], loop := look [(4, ⟨⟨[(1, false, [.ptr 512 0]), (31, false, [.dat (.sl TNumberedPacket) [0]]), (32, false, [.dat (.int .i64) []]), (33, false, [.dat (.int .i64) []])], [(512, .box [.dat TReceiveWindow [0]])]⟩, [(.exit 0, ⟨[], []⟩), (.ret, ⟨[(2, false, [.dat .bool []])], []⟩)]⟩)] }
def impl_IsValidDevice.ps : List PK := [.val TDevice true]
def impl_IsValidDevice.rs : List RK := [⟨.bool, false, .own⟩]
def impl_IsValidDevice.con : Con := ⟨impl_IsValidDevice.ps, impl_IsValidDevice.rs, impl_IsValidDevice.f⟩
def impl_IsValidDevice.cx : Cx := { cx0 with con := look [(67, impl_IsValidUSIM.con), (68, impl_InRange.con), (69, impl_IsValidKey.con), (70, impl_IsValidReceiver.con)], loop := look [] }
def laws_FnExactIsValidDevice.ps : List PK := [.val TDevice true]
def laws_FnExactIsValidDevice.rs : List RK := [⟨.bool, false, .own⟩]
def laws_FnExactIsValidDevice.con : Con := ⟨laws_FnExactIsValidDevice.ps, laws_FnExactIsValidDevice.rs, laws_FnExactIsValidDevice.f⟩
def laws_FnExactIsValidDevice.cx : Cx := { cx0 with con := look [(18, laws_eqDevice.con), (21, laws_szDevice.con), (22, spec_IsValidDevice.con), (23, laws_toDevice.con), (24, impl_IsValidDevice.con)], loop := look [] }
def laws_szIntS.ps : List PK := [.val (.sl (.int .i64)) false, .val (.int .i64) false]
def laws_szIntS.rs : List RK := [⟨(.int .i64), false, .own⟩]
def laws_szIntS.con : Con := ⟨laws_szIntS.ps, laws_szIntS.rs, laws_szIntS.f⟩
def laws_szIntS.cx : Cx := { cx0 with con := look [], loop := look [] }
def laws_szSubscription.ps : List PK := [.val TSubscription true, .val (.int .i64) false]
def laws_szSubscription.rs : List RK := [⟨(.int .i64), false, .own⟩]
def laws_szSubscription.con : Con := ⟨laws_szSubscription.ps, laws_szSubscription.rs, laws_szSubscription.f⟩
def laws_szSubscription.cx : Cx := { cx0 with con := look [(71, laws_szIntS.con)], loop := look [] }
def spec_l30Plan.ps : List PK := [.val TSubscription true]
def spec_l30Plan.rs : List RK := [⟨TSubscription, true, .own⟩]
def spec_l30Plan.con : Con := ⟨spec_l30Plan.ps, spec_l30Plan.rs, spec_l30Plan.f⟩
def spec_l30Plan.cx : Cx := { cx0 with con := look [], loop := look [] }
def spec_NewSession.ps : List PK := [.val TUSIM true, .val TSubscription true, .val (.int .i64) false]
def spec_NewSession.rs : List RK := [⟨TSession, true, .own⟩]
def spec_NewSession.con : Con := ⟨spec_NewSession.ps, spec_NewSession.rs, spec_NewSession.f⟩
def spec_NewSession.cx : Cx := { cx0 with con := look [(72, spec_l30Plan.con)], loop := look [] }
def laws_toSubscriberRecord.ps : List PK := [.val TUSIM true]
def laws_toSubscriberRecord.rs : List RK := [⟨TUSIM, true, .own⟩]
def laws_toSubscriberRecord.con : Con := ⟨laws_toSubscriberRecord.ps, laws_toSubscriberRecord.rs, laws_toSubscriberRecord.f⟩
def laws_toSubscriberRecord.cx : Cx := { cx0 with con := look [(57, laws_toSubscriberID.con)], loop := look [] }
def laws_toIntS.ps : List PK := [.val (.sl (.int .i64)) false]
def laws_toIntS.rs : List RK := [⟨(.sl (.int .i64)), false, .own⟩]
def laws_toIntS.con : Con := ⟨laws_toIntS.ps, laws_toIntS.rs, laws_toIntS.f⟩
def laws_toIntS.cx : Cx := { cx0 with con := look [], loop := look [(3, ⟨⟨[(0, false, [.dat (.sl (.int .i64)) [0]]), (3, false, [.own 1279]), (4, false, [.dat (.int .i64) []])], [(1279, .arr (.int .i64) true [])]⟩, [(.exit 0, ⟨[(3, false, [.own 1279])], [(1279, .arr (.int .i64) true [])]⟩)]⟩)] }
def laws_toSubscription.ps : List PK := [.val TSubscription true]
def laws_toSubscription.rs : List RK := [⟨TSubscription, true, .own⟩]
def laws_toSubscription.con : Con := ⟨laws_toSubscription.ps, laws_toSubscription.rs, laws_toSubscription.f⟩
def laws_toSubscription.cx : Cx := { cx0 with con := look [(73, laws_toIntS.con)], loop := look [] }
def impl_copyInts.ps : List PK := [.val (.sl (.int .i64)) false]
def impl_copyInts.rs : List RK := [⟨(.sl (.int .i64)), false, .own⟩]
def impl_copyInts.con : Con := ⟨impl_copyInts.ps, impl_copyInts.rs, impl_copyInts.f⟩
def impl_copyInts.cx : Cx := { cx0 with con := look [], loop := look [] }
def impl_copySubscription.ps : List PK := [.val TSubscription true]
def impl_copySubscription.rs : List RK := [⟨TSubscription, true, .own⟩]
def impl_copySubscription.con : Con := ⟨impl_copySubscription.ps, impl_copySubscription.rs, impl_copySubscription.f⟩
def impl_copySubscription.cx : Cx := { cx0 with con := look [(124, impl_copyInts.con)], loop := look [] }
def impl_NewSession.ps : List PK := [.val TUSIM true, .val TSubscription true, .val (.int .i64) false]
def impl_NewSession.rs : List RK := [⟨TSession, true, .own⟩]
def impl_NewSession.con : Con := ⟨impl_NewSession.ps, impl_NewSession.rs, impl_NewSession.f⟩
def impl_NewSession.cx : Cx := { cx0 with con := look [(74, impl_copySubscription.con)], loop := look [] }
def laws_eqIntS.ps : List PK := [.val (.sl (.int .i64)) false, .val (.sl (.int .i64)) false]
def laws_eqIntS.rs : List RK := [⟨.bool, false, .own⟩]
def laws_eqIntS.con : Con := ⟨laws_eqIntS.ps, laws_eqIntS.rs, laws_eqIntS.f⟩
def laws_eqIntS.cx : Cx := { cx0 with con := look [], loop := look [(4, ⟨⟨[(0, false, [.dat (.sl (.int .i64)) [0]]), (1, false, [.dat (.sl (.int .i64)) [0]]), (5, false, [.dat (.int .i64) []])], []⟩, [(.exit 0, ⟨[], []⟩), (.ret, ⟨[(4, false, [.dat .bool []])], []⟩)]⟩)] }
def laws_eqSubscription.ps : List PK := [.val TSubscription true, .val TSubscription true]
def laws_eqSubscription.rs : List RK := [⟨.bool, false, .own⟩]
def laws_eqSubscription.con : Con := ⟨laws_eqSubscription.ps, laws_eqSubscription.rs, laws_eqSubscription.f⟩
def laws_eqSubscription.cx : Cx := { cx0 with con := look [(81, laws_eqIntS.con)], loop := look [] }
def laws_eqSubscriberRecord.ps : List PK := [.val TUSIM true, .val TUSIM true]
def laws_eqSubscriberRecord.rs : List RK := [⟨.bool, false, .own⟩]
def laws_eqSubscriberRecord.con : Con := ⟨laws_eqSubscriberRecord.ps, laws_eqSubscriberRecord.rs, laws_eqSubscriberRecord.f⟩
def laws_eqSubscriberRecord.cx : Cx := { cx0 with con := look [(115, laws_eqSubscriberID.con)], loop := look [] }
def laws_eqAuthVector.ps : List PK := [.val TAuthVector true, .val TAuthVector true]
def laws_eqAuthVector.rs : List RK := [⟨.bool, false, .own⟩]
def laws_eqAuthVector.con : Con := ⟨laws_eqAuthVector.ps, laws_eqAuthVector.rs, laws_eqAuthVector.f⟩
def laws_eqAuthVector.cx : Cx := { cx0 with con := look [], loop := look [] }
def laws_eqPagingState.ps : List PK := [.val TQuota true, .val TQuota true]
def laws_eqPagingState.rs : List RK := [⟨.bool, false, .own⟩]
def laws_eqPagingState.con : Con := ⟨laws_eqPagingState.ps, laws_eqPagingState.rs, laws_eqPagingState.f⟩
def laws_eqPagingState.cx : Cx := { cx0 with con := look [], loop := look [] }
def laws_eqSendWindow.ps : List PK := [.val TSendWindow true, .val TSendWindow true]
def laws_eqSendWindow.rs : List RK := [⟨.bool, false, .own⟩]
def laws_eqSendWindow.con : Con := ⟨laws_eqSendWindow.ps, laws_eqSendWindow.rs, laws_eqSendWindow.f⟩
def laws_eqSendWindow.cx : Cx := { cx0 with con := look [(116, laws_eqNumberedPacketS.con)], loop := look [] }
def laws_eqQuota.ps : List PK := [.val TQuota true, .val TQuota true]
def laws_eqQuota.rs : List RK := [⟨.bool, false, .own⟩]
def laws_eqQuota.con : Con := ⟨laws_eqQuota.ps, laws_eqQuota.rs, laws_eqQuota.f⟩
def laws_eqQuota.cx : Cx := { cx0 with con := look [], loop := look [] }
def laws_eqSession.ps : List PK := [.val TSession true, .val TSession true]
def laws_eqSession.rs : List RK := [⟨.bool, false, .own⟩]
def laws_eqSession.con : Con := ⟨laws_eqSession.ps, laws_eqSession.rs, laws_eqSession.f⟩
def laws_eqSession.cx : Cx := { cx0 with con := look [(31, laws_eqSubscription.con), (75, laws_eqSubscriberRecord.con), (76, laws_eqAuthVector.con), (77, laws_eqPagingState.con), (78, laws_eqPayloadS.con), (79, laws_eqSendWindow.con), (80, laws_eqQuota.con)], loop := look [] }
def laws_markIntS.ps : List PK := [.lend (.sl (.int .i64)) false, .val (.int .i64) false]
def laws_markIntS.rs : List RK := [⟨(.int .i64), false, .own⟩]
def laws_markIntS.con : Con := ⟨laws_markIntS.ps, laws_markIntS.rs, laws_markIntS.f⟩
def laws_markIntS.cx : Cx := { cx0 with con := look [], loop := look [(2, ⟨⟨[(0, false, [.own 257]), (1, false, [.dat (.int .i64) []]), (5, false, [.dat (.int .i64) []])], [(257, .arr (.int .i64) true [])]⟩, [(.exit 0, ⟨[(0, false, [.own 257]), (1, false, [.dat (.int .i64) []])], [(257, .arr (.int .i64) true [])]⟩)]⟩)] }
def laws_markSubscription.ps : List PK := [.lend TSubscription true, .val (.int .i64) false]
def laws_markSubscription.rs : List RK := [⟨(.int .i64), false, .own⟩]
def laws_markSubscription.con : Con := ⟨laws_markSubscription.ps, laws_markSubscription.rs, laws_markSubscription.f⟩
def laws_markSubscription.cx : Cx := { cx0 with con := look [(82, laws_markIntS.con)], loop := look [] }
def laws_markSendWindow.ps : List PK := [.lend TSendWindow true, .val (.int .i64) false]
def laws_markSendWindow.rs : List RK := [⟨(.int .i64), false, .own⟩]
def laws_markSendWindow.con : Con := ⟨laws_markSendWindow.ps, laws_markSendWindow.rs, laws_markSendWindow.f⟩
def laws_markSendWindow.cx : Cx := { cx0 with con := look [(117, laws_markNumberedPacketS.con)], loop := look [] }
def laws_markSession.ps : List PK := [.lend TSession true, .val (.int .i64) false]
def laws_markSession.rs : List RK := [⟨(.int .i64), false, .own⟩]
def laws_markSession.con : Con := ⟨laws_markSession.ps, laws_markSession.rs, laws_markSession.f⟩
def laws_markSession.cx : Cx := { cx0 with con := look [(32, laws_markSubscription.con), (83, laws_markPayloadS.con), (84, laws_markSendWindow.con)], loop := look [] }
def laws_heldIntS.ps : List PK := [.val (.sl (.int .i64)) false, .val (.int .i64) false]
def laws_heldIntS.rs : List RK := [⟨(.int .i64), false, .own⟩]
def laws_heldIntS.con : Con := ⟨laws_heldIntS.ps, laws_heldIntS.rs, laws_heldIntS.f⟩
def laws_heldIntS.cx : Cx := { cx0 with con := look [], loop := look [(2, ⟨⟨[(0, false, [.dat (.sl (.int .i64)) [0]]), (1, false, [.dat (.int .i64) []]), (5, false, [.dat (.int .i64) []])], []⟩, [(.exit 0, ⟨[(1, false, [.dat (.int .i64) []])], []⟩), (.ret, ⟨[(4, false, [.dat (.int .i64) []])], []⟩)]⟩)] }
def laws_heldSubscription.ps : List PK := [.val TSubscription true, .val (.int .i64) false]
def laws_heldSubscription.rs : List RK := [⟨(.int .i64), false, .own⟩]
def laws_heldSubscription.con : Con := ⟨laws_heldSubscription.ps, laws_heldSubscription.rs, laws_heldSubscription.f⟩
def laws_heldSubscription.cx : Cx := { cx0 with con := look [(127, laws_heldIntS.con)], loop := look [] }
def laws_heldSendWindow.ps : List PK := [.val TSendWindow true, .val (.int .i64) false]
def laws_heldSendWindow.rs : List RK := [⟨(.int .i64), false, .own⟩]
def laws_heldSendWindow.con : Con := ⟨laws_heldSendWindow.ps, laws_heldSendWindow.rs, laws_heldSendWindow.f⟩
def laws_heldSendWindow.cx : Cx := { cx0 with con := look [(118, laws_heldNumberedPacketS.con)], loop := look [] }
def laws_heldSession.ps : List PK := [.val TSession true, .val (.int .i64) false]
def laws_heldSession.rs : List RK := [⟨(.int .i64), false, .own⟩]
def laws_heldSession.con : Con := ⟨laws_heldSession.ps, laws_heldSession.rs, laws_heldSession.f⟩
def laws_heldSession.cx : Cx := { cx0 with con := look [(85, laws_heldSubscription.con), (86, laws_heldPayloadS.con), (87, laws_heldSendWindow.con)], loop := look [] }
def laws_FnExactNewSession.ps : List PK := [.val TUSIM true, .val TSubscription true, .val (.int .i64) false]
def laws_FnExactNewSession.rs : List RK := [⟨.bool, false, .own⟩]
def laws_FnExactNewSession.con : Con := ⟨laws_FnExactNewSession.ps, laws_FnExactNewSession.rs, laws_FnExactNewSession.f⟩
def laws_FnExactNewSession.cx : Cx := { cx0 with con := look [(25, laws_szSubscription.con), (26, spec_NewSession.con), (27, laws_toSubscriberRecord.con), (28, laws_toSubscription.con), (29, impl_NewSession.con), (30, laws_eqSession.con), (31, laws_eqSubscription.con), (32, laws_markSubscription.con), (33, laws_markSession.con), (34, laws_heldSession.con)], loop := look [] }
def spec_l24Sents.ps : List PK := [.val (.sl TNumberedPacket) false]
def spec_l24Sents.rs : List RK := [⟨(.sl TNumberedPacket), false, .own⟩]
def spec_l24Sents.con : Con := ⟨spec_l24Sents.ps, spec_l24Sents.rs, spec_l24Sents.f⟩
def spec_l24Sents.cx : Cx := { cx0 with con := look [], loop := look [(3, ⟨⟨[(0, false, [.dat (.sl TNumberedPacket) [0]]), (3, false, [.own 1279]), (4, false, [.dat (.int .i64) []])], [(1279, .arr TNumberedPacket true [])]⟩, [(.exit 0, ⟨[(3, false, [.own 1279])], [(1279, .arr TNumberedPacket true [])]⟩)]⟩)] }
def spec_l15Bodies.ps : List PK := [.val (.sl (.sl (.int .u8))) false]
def spec_l15Bodies.rs : List RK := [⟨(.sl (.sl (.int .u8))), false, .own⟩]
def spec_l15Bodies.con : Con := ⟨spec_l15Bodies.ps, spec_l15Bodies.rs, spec_l15Bodies.f⟩
def spec_l15Bodies.cx : Cx := { cx0 with con := look [], loop := look [(3, ⟨⟨[(0, false, [.dat (.sl (.sl (.int .u8))) [0]]), (3, false, [.own 1279]), (4, false, [.dat (.int .i64) []])], [(1279, .arr (.sl (.int .u8)) true [])]⟩, [(.exit 0, ⟨[(3, false, [.own 1279])], [(1279, .arr (.sl (.int .u8)) true [])]⟩)]⟩)] }
def spec_l24Recv.ps : List PK := [.val TReceiveWindow true]
def spec_l24Recv.rs : List RK := [⟨TReceiveWindow, true, .own⟩]
def spec_l24Recv.con : Con := ⟨spec_l24Recv.ps, spec_l24Recv.rs, spec_l24Recv.f⟩
def spec_l24Recv.cx : Cx := { cx0 with con := look [(155, spec_l24Sents.con), (156, spec_l15Bodies.con)], loop := look [] }
def spec_l29Copy.ps : List PK := [.val TDevice true]
def spec_l29Copy.rs : List RK := [⟨TDevice, true, .own⟩]
def spec_l29Copy.con : Con := ⟨spec_l29Copy.ps, spec_l29Copy.rs, spec_l29Copy.f⟩
def spec_l29Copy.cx : Cx := { cx0 with con := look [(129, spec_l24Recv.con)], loop := look [] }
def spec_EnterIdle.ps : List PK := [.val TDevice true]
def spec_EnterIdle.rs : List RK := [⟨TDevice, true, .own⟩]
def spec_EnterIdle.con : Con := ⟨spec_EnterIdle.ps, spec_EnterIdle.rs, spec_EnterIdle.f⟩
def spec_EnterIdle.cx : Cx := { cx0 with con := look [(88, spec_l29Copy.con)], loop := look [] }
def impl_copyBytes.ps : List PK := [.val (.sl (.int .u8)) false]
def impl_copyBytes.rs : List RK := [⟨(.sl (.int .u8)), false, .own⟩]
def impl_copyBytes.con : Con := ⟨impl_copyBytes.ps, impl_copyBytes.rs, impl_copyBytes.f⟩
def impl_copyBytes.cx : Cx := { cx0 with con := look [], loop := look [] }
def impl_copyPayloads.ps : List PK := [.val (.sl (.sl (.int .u8))) false]
def impl_copyPayloads.rs : List RK := [⟨(.sl (.sl (.int .u8))), false, .own⟩]
def impl_copyPayloads.con : Con := ⟨impl_copyPayloads.ps, impl_copyPayloads.rs, impl_copyPayloads.f⟩
def impl_copyPayloads.cx : Cx := { cx0 with con := look [(106, impl_copyBytes.con)], loop := look [(3, ⟨⟨[(3, false, [.own 1279]), (9, false, [.dat (.sl (.sl (.int .u8))) [0]]), (10, false, [.dat (.int .i64) []]), (11, false, [.dat (.int .i64) []])], [(1279, .arr (.sl (.int .u8)) true [])]⟩, [(.exit 0, ⟨[(3, false, [.own 1279])], [(1279, .arr (.sl (.int .u8)) true [])]⟩)]⟩)] }
def impl_copyNumbered.ps : List PK := [.val (.sl TNumberedPacket) false]
def impl_copyNumbered.rs : List RK := [⟨(.sl TNumberedPacket), false, .own⟩]
def impl_copyNumbered.con : Con := ⟨impl_copyNumbered.ps, impl_copyNumbered.rs, impl_copyNumbered.f⟩
def impl_copyNumbered.cx : Cx := { cx0 with con := look [(106, impl_copyBytes.con)], loop := look [(3, ⟨⟨[(3, false, [.own 1279]), (9, false, [.dat (.sl TNumberedPacket) [0]]), (10, false, [.dat (.int .i64) []]), (11, false, [.dat (.int .i64) []])], [(1279, .arr TNumberedPacket true [])]⟩, [(.exit 0, ⟨[(3, false, [.own 1279])], [(1279, .arr TNumberedPacket true [])]⟩)]⟩)] }
def impl_copyReceiver.ps : List PK := [.val TReceiveWindow true]
def impl_copyReceiver.rs : List RK := [⟨TReceiveWindow, true, .own⟩]
def impl_copyReceiver.con : Con := ⟨impl_copyReceiver.ps, impl_copyReceiver.rs, impl_copyReceiver.f⟩
def impl_copyReceiver.cx : Cx := { cx0 with con := look [(139, impl_copyPayloads.con), (157, impl_copyNumbered.con)], loop := look [] }
def impl_copyDevice.ps : List PK := [.val TDevice true]
def impl_copyDevice.rs : List RK := [⟨TDevice, true, .own⟩]
def impl_copyDevice.con : Con := ⟨impl_copyDevice.ps, impl_copyDevice.rs, impl_copyDevice.f⟩
def impl_copyDevice.cx : Cx := { cx0 with con := look [(130, impl_copyReceiver.con)], loop := look [] }
def impl_EnterIdle.ps : List PK := [.val TDevice true]
def impl_EnterIdle.rs : List RK := [⟨TDevice, true, .own⟩]
def impl_EnterIdle.con : Con := ⟨impl_EnterIdle.ps, impl_EnterIdle.rs, impl_EnterIdle.f⟩
def impl_EnterIdle.cx : Cx := { cx0 with con := look [(89, impl_copyDevice.con)], loop := look [] }
def laws_FnExactEnterIdle.ps : List PK := [.val TDevice true]
def laws_FnExactEnterIdle.rs : List RK := [⟨.bool, false, .own⟩]
def laws_FnExactEnterIdle.con : Con := ⟨laws_FnExactEnterIdle.ps, laws_FnExactEnterIdle.rs, laws_FnExactEnterIdle.f⟩
def laws_FnExactEnterIdle.cx : Cx := { cx0 with con := look [(18, laws_eqDevice.con), (19, laws_markDevice.con), (20, laws_heldDevice.con), (21, laws_szDevice.con), (23, laws_toDevice.con), (35, spec_EnterIdle.con), (36, impl_EnterIdle.con)], loop := look [] }
def laws_szSendWindow.ps : List PK := [.val TSendWindow true, .val (.int .i64) false]
def laws_szSendWindow.rs : List RK := [⟨(.int .i64), false, .own⟩]
def laws_szSendWindow.con : Con := ⟨laws_szSendWindow.ps, laws_szSendWindow.rs, laws_szSendWindow.f⟩
def laws_szSendWindow.cx : Cx := { cx0 with con := look [(119, laws_szNumberedPacketS.con)], loop := look [] }
def laws_szSession.ps : List PK := [.val TSession true, .val (.int .i64) false]
def laws_szSession.rs : List RK := [⟨(.int .i64), false, .own⟩]
def laws_szSession.con : Con := ⟨laws_szSession.ps, laws_szSession.rs, laws_szSession.f⟩
def laws_szSession.cx : Cx := { cx0 with con := look [(25, laws_szSubscription.con), (90, laws_szPayloadS.con), (91, laws_szSendWindow.con)], loop := look [] }
def spec_AcknowledgedPackets.ps : List PK := [.val TSession true]
def spec_AcknowledgedPackets.rs : List RK := [⟨(.int .i64), false, .own⟩]
def spec_AcknowledgedPackets.con : Con := ⟨spec_AcknowledgedPackets.ps, spec_AcknowledgedPackets.rs, spec_AcknowledgedPackets.f⟩
def spec_AcknowledgedPackets.cx : Cx := { cx0 with con := look [], loop := look [] }
def laws_toAuthVector.ps : List PK := [.val TAuthVector true]
def laws_toAuthVector.rs : List RK := [⟨TAuthVector, true, .own⟩]
def laws_toAuthVector.con : Con := ⟨laws_toAuthVector.ps, laws_toAuthVector.rs, laws_toAuthVector.f⟩
def laws_toAuthVector.cx : Cx := { cx0 with con := look [], loop := look [] }
def laws_toPagingState.ps : List PK := [.val TQuota true]
def laws_toPagingState.rs : List RK := [⟨TQuota, true, .own⟩]
def laws_toPagingState.con : Con := ⟨laws_toPagingState.ps, laws_toPagingState.rs, laws_toPagingState.f⟩
def laws_toPagingState.cx : Cx := { cx0 with con := look [], loop := look [] }
def laws_toSendWindow.ps : List PK := [.val TSendWindow true]
def laws_toSendWindow.rs : List RK := [⟨TSendWindow, true, .own⟩]
def laws_toSendWindow.con : Con := ⟨laws_toSendWindow.ps, laws_toSendWindow.rs, laws_toSendWindow.f⟩
def laws_toSendWindow.cx : Cx := { cx0 with con := look [(121, laws_toNumberedPacketS.con)], loop := look [] }
def laws_toQuota.ps : List PK := [.val TQuota true]
def laws_toQuota.rs : List RK := [⟨TQuota, true, .own⟩]
def laws_toQuota.con : Con := ⟨laws_toQuota.ps, laws_toQuota.rs, laws_toQuota.f⟩
def laws_toQuota.cx : Cx := { cx0 with con := look [], loop := look [] }
def laws_toSession.ps : List PK := [.val TSession true]
def laws_toSession.rs : List RK := [⟨TSession, true, .own⟩]
def laws_toSession.con : Con := ⟨laws_toSession.ps, laws_toSession.rs, laws_toSession.f⟩
def laws_toSession.cx : Cx := { cx0 with con := look [(27, laws_toSubscriberRecord.con), (28, laws_toSubscription.con), (92, laws_toAuthVector.con), (93, laws_toPagingState.con), (94, laws_toPayloadS.con), (95, laws_toSendWindow.con), (96, laws_toQuota.con)], loop := look [] }
def impl_AcknowledgedPackets.ps : List PK := [.val TSession true]
def impl_AcknowledgedPackets.rs : List RK := [⟨(.int .i64), false, .own⟩]
def impl_AcknowledgedPackets.con : Con := ⟨impl_AcknowledgedPackets.ps, impl_AcknowledgedPackets.rs, impl_AcknowledgedPackets.f⟩
def impl_AcknowledgedPackets.cx : Cx := { cx0 with con := look [], loop := look [] }
def laws_FnExactAcknowledgedPackets.ps : List PK := [.val TSession true]
def laws_FnExactAcknowledgedPackets.rs : List RK := [⟨.bool, false, .own⟩]
def laws_FnExactAcknowledgedPackets.con : Con := ⟨laws_FnExactAcknowledgedPackets.ps, laws_FnExactAcknowledgedPackets.rs, laws_FnExactAcknowledgedPackets.f⟩
def laws_FnExactAcknowledgedPackets.cx : Cx := { cx0 with con := look [(30, laws_eqSession.con), (37, laws_szSession.con), (38, spec_AcknowledgedPackets.con), (39, laws_toSession.con), (40, impl_AcknowledgedPackets.con)], loop := look [] }
def spec_l30Bytes.ps : List PK := [.val (.sl TNumberedPacket) false]
def spec_l30Bytes.rs : List RK := [⟨(.int .i64), false, .own⟩]
def spec_l30Bytes.con : Con := ⟨spec_l30Bytes.ps, spec_l30Bytes.rs, spec_l30Bytes.f⟩
def spec_l30Bytes.cx : Cx := { cx0 with con := look [], loop := look [(3, ⟨⟨[(0, false, [.dat (.sl TNumberedPacket) [0]]), (3, false, [.dat (.int .i64) []]), (4, false, [.dat (.int .i64) []])], []⟩, [(.exit 0, ⟨[(3, false, [.dat (.int .i64) []])], []⟩)]⟩)] }
def spec_OutstandingBytes.ps : List PK := [.val TSession true]
def spec_OutstandingBytes.rs : List RK := [⟨(.int .i64), false, .own⟩]
def spec_OutstandingBytes.con : Con := ⟨spec_OutstandingBytes.ps, spec_OutstandingBytes.rs, spec_OutstandingBytes.f⟩
def spec_OutstandingBytes.cx : Cx := { cx0 with con := look [(97, spec_l30Bytes.con)], loop := look [] }
def impl_numberedBytes.ps : List PK := [.val (.sl TNumberedPacket) false]
def impl_numberedBytes.rs : List RK := [⟨(.int .i64), false, .own⟩]
def impl_numberedBytes.con : Con := ⟨impl_numberedBytes.ps, impl_numberedBytes.rs, impl_numberedBytes.f⟩
def impl_numberedBytes.cx : Cx := { cx0 with con := look [], loop := look [(3, ⟨⟨[(3, false, [.dat (.int .i64) []]), (6, false, [.dat (.sl TNumberedPacket) [0]]), (7, false, [.dat (.int .i64) []]), (8, false, [.dat (.int .i64) []])], []⟩, [(.exit 0, ⟨[(3, false, [.dat (.int .i64) []])], []⟩)]⟩)] }
def impl_OutstandingBytes.ps : List PK := [.val TSession true]
def impl_OutstandingBytes.rs : List RK := [⟨(.int .i64), false, .own⟩]
def impl_OutstandingBytes.con : Con := ⟨impl_OutstandingBytes.ps, impl_OutstandingBytes.rs, impl_OutstandingBytes.f⟩
def impl_OutstandingBytes.cx : Cx := { cx0 with con := look [(98, impl_numberedBytes.con)], loop := look [] }
def laws_FnExactOutstandingBytes.ps : List PK := [.val TSession true]
def laws_FnExactOutstandingBytes.rs : List RK := [⟨.bool, false, .own⟩]
def laws_FnExactOutstandingBytes.con : Con := ⟨laws_FnExactOutstandingBytes.ps, laws_FnExactOutstandingBytes.rs, laws_FnExactOutstandingBytes.f⟩
def laws_FnExactOutstandingBytes.cx : Cx := { cx0 with con := look [(30, laws_eqSession.con), (37, laws_szSession.con), (39, laws_toSession.con), (41, spec_OutstandingBytes.con), (42, impl_OutstandingBytes.con)], loop := look [] }
def laws_big.ps : List PK := [.val (.sl (.int .u8)) false]
def laws_big.rs : List RK := [⟨.bool, false, .own⟩]
def laws_big.con : Con := ⟨laws_big.ps, laws_big.rs, laws_big.f⟩
def laws_big.cx : Cx := { cx0 with con := look [], loop := look [] }
def spec_l1New.ps : List PK := [.val (.sl (.int .u8)) false]
def spec_l1New.rs : List RK := [⟨Tl1Cur, false, .ptr⟩]
def spec_l1New.con : Con := ⟨spec_l1New.ps, spec_l1New.rs, spec_l1New.f⟩
def spec_l1New.cx : Cx := { cx0 with con := look [], loop := look [(3, ⟨⟨[(0, false, [.dat (.sl (.int .u8)) [0]]), (3, false, [.dat (.int .i64) []]), (4, false, [.dat (.int .i64) []])], []⟩, [(.exit 0, ⟨[(0, false, [.dat (.sl (.int .u8)) [0]]), (3, false, [.dat (.int .i64) []])], []⟩)]⟩)] }
def spec_l1Byte.ps : List PK := [.ptr Tl1Cur]
def spec_l1Byte.rs : List RK := [⟨(.int .i64), false, .own⟩]
def spec_l1Byte.con : Con := ⟨spec_l1Byte.ps, spec_l1Byte.rs, spec_l1Byte.f⟩
def spec_l1Byte.cx : Cx := { cx0 with con := look [], loop := look [] }
def spec_l1Below.ps : List PK := [.ptr Tl1Cur, .val (.int .i64) false]
def spec_l1Below.rs : List RK := [⟨(.int .i64), false, .own⟩]
def spec_l1Below.con : Con := ⟨spec_l1Below.ps, spec_l1Below.rs, spec_l1Below.f⟩
def spec_l1Below.cx : Cx := { cx0 with con := look [(138, spec_l1Byte.con)], loop := look [] }
def spec_l1Int.ps : List PK := [.ptr Tl1Cur, .val (.sl (.int .i64)) false]
def spec_l1Int.rs : List RK := [⟨(.int .i64), false, .own⟩]
def spec_l1Int.con : Con := ⟨spec_l1Int.ps, spec_l1Int.rs, spec_l1Int.f⟩
def spec_l1Int.cx : Cx := { cx0 with con := look [(134, spec_l1Below.con)], loop := look [] }
def spec_l1Once.ps : List PK := [.ptr Tl1Cur, .val (.int .i64) false]
def spec_l1Once.rs : List RK := [⟨.bool, false, .own⟩]
def spec_l1Once.con : Con := ⟨spec_l1Once.ps, spec_l1Once.rs, spec_l1Once.f⟩
def spec_l1Once.cx : Cx := { cx0 with con := look [(134, spec_l1Below.con)], loop := look [] }
def spec_l24Sender.ps : List PK := [.val TSendWindow true]
def spec_l24Sender.rs : List RK := [⟨TSendWindow, true, .own⟩]
def spec_l24Sender.con : Con := ⟨spec_l24Sender.ps, spec_l24Sender.rs, spec_l24Sender.f⟩
def spec_l24Sender.cx : Cx := { cx0 with con := look [(155, spec_l24Sents.con)], loop := look [] }
def spec_l30Copy.ps : List PK := [.val TSession true]
def spec_l30Copy.rs : List RK := [⟨TSession, true, .own⟩]
def spec_l30Copy.con : Con := ⟨spec_l30Copy.ps, spec_l30Copy.rs, spec_l30Copy.f⟩
def spec_l30Copy.cx : Cx := { cx0 with con := look [(72, spec_l30Plan.con), (156, spec_l15Bodies.con), (167, spec_l24Sender.con)], loop := look [] }
def spec_l25Body.ps : List PK := [.val (.sl (.int .u8)) false]
def spec_l25Body.rs : List RK := [⟨(.sl (.int .u8)), true, .own⟩]
def spec_l25Body.con : Con := ⟨spec_l25Body.ps, spec_l25Body.rs, spec_l25Body.f⟩
def spec_l25Body.cx : Cx := { cx0 with con := look [], loop := look [] }
def spec_SubmitPacket.ps : List PK := [.val TSession true, .val (.sl (.int .u8)) false]
def spec_SubmitPacket.rs : List RK := [⟨TSession, true, .own⟩, ⟨.bool, false, .own⟩]
def spec_SubmitPacket.con : Con := ⟨spec_SubmitPacket.ps, spec_SubmitPacket.rs, spec_SubmitPacket.f⟩
def spec_SubmitPacket.cx : Cx := { cx0 with con := look [(136, spec_l30Copy.con), (137, spec_l25Body.con)], loop := look [] }
def spec_l1Bytes.ps : List PK := [.ptr Tl1Cur, .val (.int .i64) false]
def spec_l1Bytes.rs : List RK := [⟨(.sl (.int .u8)), false, .own⟩]
def spec_l1Bytes.con : Con := ⟨spec_l1Bytes.ps, spec_l1Bytes.rs, spec_l1Bytes.f⟩
def spec_l1Bytes.cx : Cx := { cx0 with con := look [(138, spec_l1Byte.con)], loop := look [(3, ⟨⟨[(0, false, [.ptr 256 0]), (1, false, [.dat (.int .i64) []]), (5, false, [.own 1791]), (6, false, [.dat (.int .i64) []])], [(256, .box [.dat Tl1Cur [0]]), (1791, .arr (.int .u8) true [])]⟩, [(.exit 0, ⟨[(0, false, [.ptr 256 0]), (5, false, [.own 1791])], [(256, .box [.dat Tl1Cur [0]]), (1791, .arr (.int .u8) true [])]⟩)]⟩)] }
def spec_l4Who.ps : List PK := [.ptr Tl1Cur]
def spec_l4Who.rs : List RK := [⟨TSubscriberID, true, .own⟩]
def spec_l4Who.con : Con := ⟨spec_l4Who.ps, spec_l4Who.rs, spec_l4Who.f⟩
def spec_l4Who.cx : Cx := { cx0 with con := look [(134, spec_l1Below.con)], loop := look [] }
def spec_l5Key.ps : List PK := [.ptr Tl1Cur]
def spec_l5Key.rs : List RK := [⟨(.int .i64), false, .own⟩]
def spec_l5Key.con : Con := ⟨spec_l5Key.ps, spec_l5Key.rs, spec_l5Key.f⟩
def spec_l5Key.cx : Cx := { cx0 with con := look [(134, spec_l1Below.con)], loop := look [] }
def spec_l6Card.ps : List PK := [.ptr Tl1Cur]
def spec_l6Card.rs : List RK := [⟨TUSIM, true, .own⟩]
def spec_l6Card.con : Con := ⟨spec_l6Card.ps, spec_l6Card.rs, spec_l6Card.f⟩
def spec_l6Card.cx : Cx := { cx0 with con := look [(134, spec_l1Below.con), (187, spec_l4Who.con), (188, spec_l5Key.con)], loop := look [] }
def spec_l6Pair.ps : List PK := [.ptr Tl1Cur]
def spec_l6Pair.rs : List RK := [⟨TUSIM, true, .own⟩, ⟨TUSIM, true, .own⟩]
def spec_l6Pair.con : Con := ⟨spec_l6Pair.ps, spec_l6Pair.rs, spec_l6Pair.f⟩
def spec_l6Pair.cx : Cx := { cx0 with con := look [(104, spec_l1Int.con), (134, spec_l1Below.con), (175, spec_l6Card.con)], loop := look [] }
def spec_l20Plan.ps : List PK := [.ptr Tl1Cur]
def spec_l20Plan.rs : List RK := [⟨TSubscription, true, .own⟩]
def spec_l20Plan.con : Con := ⟨spec_l20Plan.ps, spec_l20Plan.rs, spec_l20Plan.f⟩
def spec_l20Plan.cx : Cx := { cx0 with con := look [(101, spec_l1Once.con), (134, spec_l1Below.con)], loop := look [(3, ⟨⟨[(0, false, [.ptr 256 0]), (2, false, [.ptr 768 0]), (3, false, [.ptr 1024 0]), (4, false, [.dat (.int .i64) []])], [(256, .box [.dat Tl1Cur [0]]), (768, .box [.dat (.int .i64) [], .dat (.int .i64) [], .dat (.int .i64) [], .own 899]), (1024, .box [.dat (.int .i64) [], .dat (.int .i64) [], .dat (.int .i64) [], .own 1155]), (899, .arr (.int .i64) true []), (1155, .arr (.int .i64) true [])]⟩, [(.exit 0, ⟨[(0, false, [.ptr 256 0]), (2, false, [.ptr 768 0]), (3, false, [.ptr 1024 0])], [(256, .box [.dat Tl1Cur [0]]), (768, .box [.dat (.int .i64) [], .dat (.int .i64) [], .dat (.int .i64) [], .own 899]), (1024, .box [.dat (.int .i64) [], .dat (.int .i64) [], .dat (.int .i64) [], .own 1155]), (899, .arr (.int .i64) true []), (1155, .arr (.int .i64) true [])]⟩)]⟩)] }
def spec_IsValidSubscriberRecord.ps : List PK := [.val TUSIM true]
def spec_IsValidSubscriberRecord.rs : List RK := [⟨.bool, false, .own⟩]
def spec_IsValidSubscriberRecord.con : Con := ⟨spec_IsValidSubscriberRecord.ps, spec_IsValidSubscriberRecord.rs, spec_IsValidSubscriberRecord.f⟩
def spec_IsValidSubscriberRecord.cx : Cx := { cx0 with con := look [(56, spec_l1In.con), (63, spec_IsValidKey.con), (120, spec_IsValidSubscriberID.con)], loop := look [] }
def spec_Mod.ps : List PK := [.val (.int .i64) false, .val (.int .i64) false]
def spec_Mod.rs : List RK := [⟨(.int .i64), false, .own⟩]
def spec_Mod.con : Con := ⟨spec_Mod.ps, spec_Mod.rs, spec_Mod.f⟩
def spec_Mod.cx : Cx := { cx0 with con := look [(56, spec_l1In.con)], loop := look [] }
def spec_Hash.ps : List PK := [.val (.sl (.int .i64)) false]
def spec_Hash.rs : List RK := [⟨(.int .i64), false, .own⟩]
def spec_Hash.con : Con := ⟨spec_Hash.ps, spec_Hash.rs, spec_Hash.f⟩
def spec_Hash.cx : Cx := { cx0 with con := look [(184, spec_Mod.con)], loop := look [(3, ⟨⟨[(0, false, [.dat (.sl (.int .i64)) [0]]), (3, false, [.dat (.int .i64) []]), (4, false, [.dat (.int .i64) []])], []⟩, [(.exit 0, ⟨[(3, false, [.dat (.int .i64) []])], []⟩)]⟩)] }
def spec_KeyedHash.ps : List PK := [.val (.int .i64) false, .val (.sl (.int .i64)) false]
def spec_KeyedHash.rs : List RK := [⟨(.int .i64), false, .own⟩]
def spec_KeyedHash.con : Con := ⟨spec_KeyedHash.ps, spec_KeyedHash.rs, spec_KeyedHash.f⟩
def spec_KeyedHash.cx : Cx := { cx0 with con := look [(171, spec_Hash.con)], loop := look [] }
def spec_Max.ps : List PK := [.val (.int .i64) false, .val (.int .i64) false]
def spec_Max.rs : List RK := [⟨(.int .i64), false, .own⟩]
def spec_Max.con : Con := ⟨spec_Max.ps, spec_Max.rs, spec_Max.f⟩
def spec_Max.cx : Cx := { cx0 with con := look [], loop := look [] }
def spec_SequenceMask.ps : List PK := [.val (.int .i64) false, .val (.int .i64) false]
def spec_SequenceMask.rs : List RK := [⟨(.int .i64), false, .own⟩]
def spec_SequenceMask.con : Con := ⟨spec_SequenceMask.ps, spec_SequenceMask.rs, spec_SequenceMask.f⟩
def spec_SequenceMask.cx : Cx := { cx0 with con := look [(145, spec_KeyedHash.con), (184, spec_Mod.con)], loop := look [] }
def spec_NewAuthVector.ps : List PK := [.val (.int .i64) false, .val (.int .i64) false, .val (.int .i64) false]
def spec_NewAuthVector.rs : List RK := [⟨TAuthVector, true, .own⟩]
def spec_NewAuthVector.con : Con := ⟨spec_NewAuthVector.ps, spec_NewAuthVector.rs, spec_NewAuthVector.f⟩
def spec_NewAuthVector.cx : Cx := { cx0 with con := look [(56, spec_l1In.con), (145, spec_KeyedHash.con), (168, spec_Max.con), (184, spec_Mod.con), (191, spec_SequenceMask.con)], loop := look [] }
def spec_NextAuthVector.ps : List PK := [.val TUSIM true, .val (.int .i64) false]
def spec_NextAuthVector.rs : List RK := [⟨TUSIM, true, .own⟩, ⟨TAuthVector, true, .own⟩]
def spec_NextAuthVector.con : Con := ⟨spec_NextAuthVector.ps, spec_NextAuthVector.rs, spec_NextAuthVector.f⟩
def spec_NextAuthVector.cx : Cx := { cx0 with con := look [(189, spec_IsValidSubscriberRecord.con), (190, spec_NewAuthVector.con)], loop := look [] }
def spec_ChallengeRand.ps : List PK := [.val TSubscriberID true, .val (.int .i64) false]
def spec_ChallengeRand.rs : List RK := [⟨(.int .i64), false, .own⟩]
def spec_ChallengeRand.con : Con := ⟨spec_ChallengeRand.ps, spec_ChallengeRand.rs, spec_ChallengeRand.f⟩
def spec_ChallengeRand.cx : Cx := { cx0 with con := look [(145, spec_KeyedHash.con)], loop := look [] }
def spec_l30None.ps : List PK := [.val TSession true]
def spec_l30None.rs : List RK := [⟨TSessionResult, true, .own⟩]
def spec_l30None.con : Con := ⟨spec_l30None.ps, spec_l30None.rs, spec_l30None.f⟩
def spec_l30None.cx : Cx := { cx0 with con := look [(136, spec_l30Copy.con)], loop := look [] }
def spec_ReceiveAttach.ps : List PK := [.val TSession true, .val TSignal true]
def spec_ReceiveAttach.rs : List RK := [⟨TSessionResult, true, .own⟩]
def spec_ReceiveAttach.con : Con := ⟨spec_ReceiveAttach.ps, spec_ReceiveAttach.rs, spec_ReceiveAttach.f⟩
def spec_ReceiveAttach.cx : Cx := { cx0 with con := look [(136, spec_l30Copy.con), (176, spec_NextAuthVector.con), (177, spec_ChallengeRand.con), (178, spec_l30None.con)], loop := look [] }
def spec_ResponseMatches.ps : List PK := [.val TAuthVector true, .val (.int .i64) false]
def spec_ResponseMatches.rs : List RK := [⟨.bool, false, .own⟩]
def spec_ResponseMatches.con : Con := ⟨spec_ResponseMatches.ps, spec_ResponseMatches.rs, spec_ResponseMatches.f⟩
def spec_ResponseMatches.cx : Cx := { cx0 with con := look [], loop := look [] }
def spec_DeriveKey.ps : List PK := [.val (.int .i64) false, .val (.int .i64) false]
def spec_DeriveKey.rs : List RK := [⟨(.int .i64), false, .own⟩]
def spec_DeriveKey.con : Con := ⟨spec_DeriveKey.ps, spec_DeriveKey.rs, spec_DeriveKey.f⟩
def spec_DeriveKey.cx : Cx := { cx0 with con := look [(145, spec_KeyedHash.con), (168, spec_Max.con)], loop := look [] }
def spec_KeyForPath.ps : List PK := [.val (.int .i64) false, .val (.sl (.int .i64)) true]
def spec_KeyForPath.rs : List RK := [⟨(.int .i64), false, .own⟩]
def spec_KeyForPath.con : Con := ⟨spec_KeyForPath.ps, spec_KeyForPath.rs, spec_KeyForPath.f⟩
def spec_KeyForPath.cx : Cx := { cx0 with con := look [(172, spec_DeriveKey.con)], loop := look [(3, ⟨⟨[(3, false, [.ptr 1024 0]), (5, false, [.dat (.int .i64) []]), (6, false, [.dat (.int .i64) []])], [(1024, .box [.dat (.sl (.int .i64)) [0]])]⟩, [(.exit 0, ⟨[(5, false, [.dat (.int .i64) []])], []⟩)]⟩)] }
def spec_SignalingKeyPath.ps : List PK := []
def spec_SignalingKeyPath.rs : List RK := [⟨(.sl (.int .i64)), true, .own⟩]
def spec_SignalingKeyPath.con : Con := ⟨spec_SignalingKeyPath.ps, spec_SignalingKeyPath.rs, spec_SignalingKeyPath.f⟩
def spec_SignalingKeyPath.cx : Cx := { cx0 with con := look [], loop := look [] }
def spec_SignalMAC.ps : List PK := [.val (.int .i64) false, .val TSignal true]
def spec_SignalMAC.rs : List RK := [⟨(.int .i64), false, .own⟩]
def spec_SignalMAC.con : Con := ⟨spec_SignalMAC.ps, spec_SignalMAC.rs, spec_SignalMAC.f⟩
def spec_SignalMAC.cx : Cx := { cx0 with con := look [(145, spec_KeyedHash.con), (146, spec_KeyForPath.con), (147, spec_SignalingKeyPath.con)], loop := look [] }
def spec_SignSignal.ps : List PK := [.val (.int .i64) false, .val TSignal true]
def spec_SignSignal.rs : List RK := [⟨TSignal, true, .own⟩]
def spec_SignSignal.con : Con := ⟨spec_SignSignal.ps, spec_SignSignal.rs, spec_SignSignal.f⟩
def spec_SignSignal.cx : Cx := { cx0 with con := look [(112, spec_SignalMAC.con)], loop := look [] }
def spec_l30Signed.ps : List PK := [.take TSession true, .val (.int .i64) false]
def spec_l30Signed.rs : List RK := [⟨TSessionResult, true, .own⟩]
def spec_l30Signed.con : Con := ⟨spec_l30Signed.ps, spec_l30Signed.rs, spec_l30Signed.f⟩
def spec_l30Signed.cx : Cx := { cx0 with con := look [(169, spec_SignSignal.con)], loop := look [] }
def spec_ReceiveResponse.ps : List PK := [.val TSession true, .val TSignal true]
def spec_ReceiveResponse.rs : List RK := [⟨TSessionResult, true, .own⟩]
def spec_ReceiveResponse.con : Con := ⟨spec_ReceiveResponse.ps, spec_ReceiveResponse.rs, spec_ReceiveResponse.f⟩
def spec_ReceiveResponse.cx : Cx := { cx0 with con := look [(136, spec_l30Copy.con), (178, spec_l30None.con), (179, spec_ResponseMatches.con), (180, spec_l30Signed.con)], loop := look [] }
def spec_IsValidSender.ps : List PK := [.val TSendWindow true]
def spec_IsValidSender.rs : List RK := [⟨.bool, false, .own⟩]
def spec_IsValidSender.con : Con := ⟨spec_IsValidSender.ps, spec_IsValidSender.rs, spec_IsValidSender.f⟩
def spec_IsValidSender.cx : Cx := { cx0 with con := look [(56, spec_l1In.con)], loop := look [(2, ⟨⟨[(1, false, [.ptr 512 0]), (3, false, [.dat (.int .i64) []])], [(512, .box [.dat TSendWindow [0]])]⟩, [(.exit 0, ⟨[(1, false, [.ptr 512 0])], [(512, .box [.dat TSendWindow [0]])]⟩), (.ret, ⟨[(2, false, [.dat .bool []])], []⟩)]⟩)] }
def spec_SendPacket.ps : List PK := [.val TSendWindow true, .val (.sl (.int .u8)) false]
def spec_SendPacket.rs : List RK := [⟨TSendWindow, true, .own⟩, ⟨TNumberedPacket, true, .own⟩, ⟨.bool, false, .own⟩]
def spec_SendPacket.con : Con := ⟨spec_SendPacket.ps, spec_SendPacket.rs, spec_SendPacket.f⟩
def spec_SendPacket.cx : Cx := { cx0 with con := look [(167, spec_l24Sender.con), (181, spec_IsValidSender.con)], loop := look [] }
def spec_IsValidQuota.ps : List PK := [.val TQuota true]
def spec_IsValidQuota.rs : List RK := [⟨.bool, false, .own⟩]
def spec_IsValidQuota.con : Con := ⟨spec_IsValidQuota.ps, spec_IsValidQuota.rs, spec_IsValidQuota.f⟩
def spec_IsValidQuota.cx : Cx := { cx0 with con := look [(56, spec_l1In.con)], loop := look [] }
def spec_RemainingQuota.ps : List PK := [.val TQuota true]
def spec_RemainingQuota.rs : List RK := [⟨(.int .i64), false, .own⟩]
def spec_RemainingQuota.con : Con := ⟨spec_RemainingQuota.ps, spec_RemainingQuota.rs, spec_RemainingQuota.f⟩
def spec_RemainingQuota.cx : Cx := { cx0 with con := look [(182, spec_IsValidQuota.con)], loop := look [] }
def spec_l30Active.ps : List PK := [.ptr Tl1Cur]
def spec_l30Active.rs : List RK := [⟨TSession, true, .own⟩]
def spec_l30Active.con : Con := ⟨spec_l30Active.ps, spec_l30Active.rs, spec_l30Active.f⟩
def spec_l30Active.cx : Cx := { cx0 with con := look [(26, spec_NewSession.con), (97, spec_l30Bytes.con), (101, spec_l1Once.con), (102, spec_SubmitPacket.con), (103, spec_l1Bytes.con), (134, spec_l1Below.con), (160, spec_l6Pair.con), (161, spec_l20Plan.con), (162, spec_ReceiveAttach.con), (163, spec_ReceiveResponse.con), (164, spec_SendPacket.con), (165, spec_RemainingQuota.con)], loop := look [(5, ⟨⟨[(0, false, [.ptr 256 0]), (2, false, [.ptr 768 0]), (5, false, [.ptr 1536 0]), (6, false, [.dat (.int .i64) []])], [(256, .box [.dat Tl1Cur [0]]), (768, .box [.dat TSession []]), (1536, .box [.dat TUSIM [], .dat (.int .i64) [], .dat (.int .i64) [], .dat (.int .i64) [], .own 1671, .dat (.int .i64) [], .dat TAuthVector [], .dat (.int .i64) [], .dat (.int .i64) [], .dat (.int .i64) [], .dat (.int .i64) [], .dat (.int .i64) [], .dat (.int .i64) [], .dat TQuota [], .own 1687, .dat (.int .i64) [], .own 1689, .dat (.pair (.int .i64) TQuota) []]), (1671, .arr (.int .i64) true []), (1687, .arr (.sl (.int .u8)) true []), (1689, .arr TNumberedPacket true [])]⟩, [(.exit 0, ⟨[(0, false, [.ptr 256 0]), (2, false, [.ptr 768 0]), (5, false, [.ptr 1536 0])], [(256, .box [.dat Tl1Cur [0]]), (768, .box [.dat TSession []]), (1536, .box [.dat TUSIM [], .dat (.int .i64) [], .dat (.int .i64) [], .dat (.int .i64) [], .own 1671, .dat (.int .i64) [], .dat TAuthVector [], .dat (.int .i64) [], .dat (.int .i64) [], .dat (.int .i64) [], .dat (.int .i64) [], .dat (.int .i64) [], .dat (.int .i64) [], .dat TQuota [], .own 1687, .dat (.int .i64) [], .own 1689, .dat (.pair (.int .i64) TQuota) []]), (1671, .arr (.int .i64) true []), (1687, .arr (.sl (.int .u8)) true []), (1689, .arr TNumberedPacket true [])]⟩)]⟩),
    (16, ⟨⟨[(0, false, [.ptr 256 0]), (2, false, [.ptr 768 0]), (5, false, [.ptr 1536 0]), (7, false, [.dat (.int .i64) []])], [(256, .box [.dat Tl1Cur [0]]), (768, .box [.dat TSession []]), (1536, .box [.dat TUSIM [], .dat (.int .i64) [], .dat (.int .i64) [], .dat (.int .i64) [], .own 1671, .dat (.int .i64) [], .dat TAuthVector [], .dat (.int .i64) [], .dat (.int .i64) [], .dat (.int .i64) [], .dat (.int .i64) [], .dat (.int .i64) [], .dat (.int .i64) [], .dat TQuota [], .own 1687, .dat (.int .i64) [], .own 1689, .dat (.pair (.int .i64) TQuota) []]), (1671, .arr (.int .i64) true []), (1687, .arr (.sl (.int .u8)) true []), (1689, .arr TNumberedPacket true [])]⟩, [(.exit 2, ⟨[(0, false, [.ptr 256 0]), (2, false, [.ptr 768 0]), (5, false, [.ptr 1536 0])], [(256, .box [.dat Tl1Cur [0]]), (768, .box [.dat TSession []]), (1536, .box [.dat TUSIM [], .dat (.int .i64) [], .dat (.int .i64) [], .dat (.int .i64) [], .own 1671, .dat (.int .i64) [], .dat TAuthVector [], .dat (.int .i64) [], .dat (.int .i64) [], .dat (.int .i64) [], .dat (.int .i64) [], .dat (.int .i64) [], .dat (.int .i64) [], .dat TQuota [], .own 1687, .dat (.int .i64) [], .own 1689, .dat (.pair (.int .i64) TQuota) []]), (1671, .arr (.int .i64) true []), (1687, .arr (.sl (.int .u8)) true []), (1689, .arr TNumberedPacket true [])]⟩)]⟩)] }
def spec_AcknowledgeBelow.ps : List PK := [.val TSendWindow true, .val (.int .i64) false]
def spec_AcknowledgeBelow.rs : List RK := [⟨TSendWindow, true, .own⟩]
def spec_AcknowledgeBelow.con : Con := ⟨spec_AcknowledgeBelow.ps, spec_AcknowledgeBelow.rs, spec_AcknowledgeBelow.f⟩
def spec_AcknowledgeBelow.cx : Cx := { cx0 with con := look [(167, spec_l24Sender.con)], loop := look [(6, ⟨⟨[(1, false, [.dat (.int .i64) []]), (2, false, [.ptr 768 0]), (4, false, [.ptr 1280 0]), (5, false, [.ptr 1536 0]), (6, false, [.dat (.int .i64) []])], [(768, .box [.dat TSendWindow [0]]), (1280, .box [.dat TSendWindow []]), (1536, .box [.dat (.int .i64) [], .own 1665]), (1665, .arr TNumberedPacket true [])]⟩, [(.exit 0, ⟨[(4, false, [.ptr 1280 0]), (5, false, [.ptr 1536 0])], [(1280, .box [.dat TSendWindow []]), (1536, .box [.dat (.int .i64) [], .own 1665]), (1665, .arr TNumberedPacket true [])]⟩)]⟩)] }
def spec_l24DrawSender.ps : List PK := [.ptr Tl1Cur]
def spec_l24DrawSender.rs : List RK := [⟨TSendWindow, true, .own⟩]
def spec_l24DrawSender.con : Con := ⟨spec_l24DrawSender.ps, spec_l24DrawSender.rs, spec_l24DrawSender.f⟩
def spec_l24DrawSender.cx : Cx := { cx0 with con := look [(101, spec_l1Once.con), (103, spec_l1Bytes.con), (134, spec_l1Below.con), (164, spec_SendPacket.con), (183, spec_AcknowledgeBelow.con)], loop := look [(3, ⟨⟨[(0, false, [.ptr 256 0]), (2, false, [.ptr 768 0]), (3, false, [.ptr 1024 0]), (4, false, [.dat (.int .i64) []])], [(256, .box [.dat Tl1Cur [0]]), (768, .box [.dat (.int .i64) [], .own 897]), (1024, .box [.dat (.int .i64) [], .own 1153]), (897, .arr TNumberedPacket true []), (1153, .arr TNumberedPacket true [])]⟩, [(.exit 0, ⟨[(0, false, [.ptr 256 0]), (2, false, [.ptr 768 0]), (3, false, [.ptr 1024 0])], [(256, .box [.dat Tl1Cur [0]]), (768, .box [.dat (.int .i64) [], .own 897]), (1024, .box [.dat (.int .i64) [], .own 1153]), (897, .arr TNumberedPacket true []), (1153, .arr TNumberedPacket true [])]⟩)]⟩)] }
def spec_l24AnySender.ps : List PK := [.ptr Tl1Cur]
def spec_l24AnySender.rs : List RK := [⟨TSendWindow, true, .own⟩]
def spec_l24AnySender.con : Con := ⟨spec_l24AnySender.ps, spec_l24AnySender.rs, spec_l24AnySender.f⟩
def spec_l24AnySender.cx : Cx := { cx0 with con := look [(104, spec_l1Int.con), (134, spec_l1Below.con), (166, spec_l24DrawSender.con)], loop := look [] }
def spec_l30Any.ps : List PK := [.ptr Tl1Cur]
def spec_l30Any.rs : List RK := [⟨TSession, true, .own⟩]
def spec_l30Any.con : Con := ⟨spec_l30Any.ps, spec_l30Any.rs, spec_l30Any.f⟩
def spec_l30Any.cx : Cx := { cx0 with con := look [(104, spec_l1Int.con), (133, spec_l30Active.con), (134, spec_l1Below.con), (135, spec_l24AnySender.con)], loop := look [] }
def spec_DrawSubmitPacket.ps : List PK := [.val (.sl (.int .u8)) false]
def spec_DrawSubmitPacket.rs : List RK := [⟨TSession, true, .own⟩, ⟨(.sl (.int .u8)), false, .own⟩]
def spec_DrawSubmitPacket.con : Con := ⟨spec_DrawSubmitPacket.ps, spec_DrawSubmitPacket.rs, spec_DrawSubmitPacket.f⟩
def spec_DrawSubmitPacket.cx : Cx := { cx0 with con := look [(99, spec_l1New.con), (100, spec_l30Any.con), (101, spec_l1Once.con), (102, spec_SubmitPacket.con), (103, spec_l1Bytes.con), (104, spec_l1Int.con)], loop := look [(4, ⟨⟨[(2, false, [.ptr 768 0]), (4, false, [.ptr 2304 0]), (5, false, [.ptr 1536 0]), (6, false, [.dat (.int .i64) []])], [(768, .box [.dat TSession []]), (2304, .box [.dat (.sl (.int .u8)) [0], .dat (.int .i64) [], .dat (.int .i64) []]), (1536, .box [.dat TUSIM [], .dat (.int .i64) [], .dat (.int .i64) [], .dat (.int .i64) [], .own 1671, .dat (.int .i64) [], .dat TAuthVector [], .dat (.int .i64) [], .dat (.int .i64) [], .dat (.int .i64) [], .dat (.int .i64) [], .dat (.int .i64) [], .dat (.int .i64) [], .dat TQuota [], .own 1687, .dat (.int .i64) [], .own 1689, .dat (.pair (.int .i64) TQuota) []]), (1671, .arr (.int .i64) true []), (1687, .arr (.sl (.int .u8)) true []), (1689, .arr TNumberedPacket true [])]⟩, [(.exit 0, ⟨[(2, false, [.ptr 768 0]), (4, false, [.ptr 2304 0]), (5, false, [.ptr 1536 0])], [(768, .box [.dat TSession []]), (2304, .box [.dat (.sl (.int .u8)) [0], .dat (.int .i64) [], .dat (.int .i64) []]), (1536, .box [.dat TUSIM [], .dat (.int .i64) [], .dat (.int .i64) [], .dat (.int .i64) [], .own 1671, .dat (.int .i64) [], .dat TAuthVector [], .dat (.int .i64) [], .dat (.int .i64) [], .dat (.int .i64) [], .dat (.int .i64) [], .dat (.int .i64) [], .dat (.int .i64) [], .dat TQuota [], .own 1687, .dat (.int .i64) [], .own 1689, .dat (.pair (.int .i64) TQuota) []]), (1671, .arr (.int .i64) true []), (1687, .arr (.sl (.int .u8)) true []), (1689, .arr TNumberedPacket true [])]⟩)]⟩)] }
def impl_copySender.ps : List PK := [.val TSendWindow true]
def impl_copySender.rs : List RK := [⟨TSendWindow, true, .own⟩]
def impl_copySender.con : Con := ⟨impl_copySender.ps, impl_copySender.rs, impl_copySender.f⟩
def impl_copySender.cx : Cx := { cx0 with con := look [(157, impl_copyNumbered.con)], loop := look [] }
def impl_copySession.ps : List PK := [.val TSession true]
def impl_copySession.rs : List RK := [⟨TSession, true, .own⟩]
def impl_copySession.con : Con := ⟨impl_copySession.ps, impl_copySession.rs, impl_copySession.f⟩
def impl_copySession.cx : Cx := { cx0 with con := look [(74, impl_copySubscription.con), (139, impl_copyPayloads.con), (140, impl_copySender.con)], loop := look [] }
def impl_SubmitPacket.ps : List PK := [.val TSession true, .val (.sl (.int .u8)) false]
def impl_SubmitPacket.rs : List RK := [⟨TSession, true, .own⟩, ⟨.bool, false, .own⟩]
def impl_SubmitPacket.con : Con := ⟨impl_SubmitPacket.ps, impl_SubmitPacket.rs, impl_SubmitPacket.f⟩
def impl_SubmitPacket.cx : Cx := { cx0 with con := look [(105, impl_copySession.con), (106, impl_copyBytes.con)], loop := look [] }
def laws_sameBytes.ps : List PK := [.val (.sl (.int .u8)) false, .val (.sl (.int .u8)) false]
def laws_sameBytes.rs : List RK := [⟨.bool, false, .own⟩]
def laws_sameBytes.con : Con := ⟨laws_sameBytes.ps, laws_sameBytes.rs, laws_sameBytes.f⟩
def laws_sameBytes.cx : Cx := { cx0 with con := look [], loop := look [(4, ⟨⟨[(0, false, [.dat (.sl (.int .u8)) [0]]), (1, false, [.dat (.sl (.int .u8)) [0]]), (5, false, [.dat (.int .i64) []])], []⟩, [(.exit 0, ⟨[], []⟩), (.ret, ⟨[(4, false, [.dat .bool []])], []⟩)]⟩)] }
def laws_samePayloads.ps : List PK := [.val (.sl (.sl (.int .u8))) false, .val (.sl (.sl (.int .u8))) false]
def laws_samePayloads.rs : List RK := [⟨.bool, false, .own⟩]
def laws_samePayloads.con : Con := ⟨laws_samePayloads.ps, laws_samePayloads.rs, laws_samePayloads.f⟩
def laws_samePayloads.cx : Cx := { cx0 with con := look [(48, laws_sameBytes.con)], loop := look [(4, ⟨⟨[(0, false, [.dat (.sl (.sl (.int .u8))) [0]]), (1, false, [.dat (.sl (.sl (.int .u8))) [0]]), (5, false, [.dat (.int .i64) []])], []⟩, [(.exit 0, ⟨[], []⟩), (.ret, ⟨[(4, false, [.dat .bool []])], []⟩)]⟩)] }
def laws_samePackets.ps : List PK := [.val (.sl TNumberedPacket) false, .val (.sl TNumberedPacket) false]
def laws_samePackets.rs : List RK := [⟨.bool, false, .own⟩]
def laws_samePackets.con : Con := ⟨laws_samePackets.ps, laws_samePackets.rs, laws_samePackets.f⟩
def laws_samePackets.cx : Cx := { cx0 with con := look [(48, laws_sameBytes.con)], loop := look [(4, ⟨⟨[(0, false, [.dat (.sl TNumberedPacket) [0]]), (1, false, [.dat (.sl TNumberedPacket) [0]]), (5, false, [.dat (.int .i64) []])], []⟩, [(.exit 0, ⟨[], []⟩), (.ret, ⟨[(4, false, [.dat .bool []])], []⟩)]⟩)] }
def laws_sameSender.ps : List PK := [.val TSendWindow true, .val TSendWindow true]
def laws_sameSender.rs : List RK := [⟨.bool, false, .own⟩]
def laws_sameSender.con : Con := ⟨laws_sameSender.ps, laws_sameSender.rs, laws_sameSender.f⟩
def laws_sameSender.cx : Cx := { cx0 with con := look [(108, laws_samePackets.con)], loop := look [] }
def laws_sameInts.ps : List PK := [.val (.sl (.int .i64)) false, .val (.sl (.int .i64)) false]
def laws_sameInts.rs : List RK := [⟨.bool, false, .own⟩]
def laws_sameInts.con : Con := ⟨laws_sameInts.ps, laws_sameInts.rs, laws_sameInts.f⟩
def laws_sameInts.cx : Cx := { cx0 with con := look [], loop := look [(4, ⟨⟨[(0, false, [.dat (.sl (.int .i64)) [0]]), (1, false, [.dat (.sl (.int .i64)) [0]]), (5, false, [.dat (.int .i64) []])], []⟩, [(.exit 0, ⟨[], []⟩), (.ret, ⟨[(4, false, [.dat .bool []])], []⟩)]⟩)] }
def laws_samePlan.ps : List PK := [.val TSubscription true, .val TSubscription true]
def laws_samePlan.rs : List RK := [⟨.bool, false, .own⟩]
def laws_samePlan.con : Con := ⟨laws_samePlan.ps, laws_samePlan.rs, laws_samePlan.f⟩
def laws_samePlan.cx : Cx := { cx0 with con := look [(141, laws_sameInts.con)], loop := look [] }
def laws_sameSession.ps : List PK := [.val TSession true, .val TSession true]
def laws_sameSession.rs : List RK := [⟨.bool, false, .own⟩]
def laws_sameSession.con : Con := ⟨laws_sameSession.ps, laws_sameSession.rs, laws_sameSession.f⟩
def laws_sameSession.cx : Cx := { cx0 with con := look [(47, laws_samePayloads.con), (49, laws_sameSender.con), (107, laws_samePlan.con)], loop := look [] }
def laws_FnSubmissions.ps : List PK := [.val (.sl (.int .u8)) false]
def laws_FnSubmissions.rs : List RK := [⟨.bool, false, .own⟩]
def laws_FnSubmissions.con : Con := ⟨laws_FnSubmissions.ps, laws_FnSubmissions.rs, laws_FnSubmissions.f⟩
def laws_FnSubmissions.cx : Cx := { cx0 with con := look [(43, laws_big.con), (44, spec_DrawSubmitPacket.con), (45, impl_SubmitPacket.con), (46, laws_sameSession.con), (47, laws_samePayloads.con), (48, laws_sameBytes.con), (49, laws_sameSender.con)], loop := look [] }
def spec_l3Word.ps : List PK := [.ptr Tl1Cur]
def spec_l3Word.rs : List RK := [⟨(.int .i64), false, .own⟩]
def spec_l3Word.con : Con := ⟨spec_l3Word.ps, spec_l3Word.rs, spec_l3Word.f⟩
def spec_l3Word.cx : Cx := { cx0 with con := look [(101, spec_l1Once.con), (104, spec_l1Int.con), (134, spec_l1Below.con)], loop := look [] }
def spec_l30Signal.ps : List PK := [.ptr Tl1Cur, .val TSession true]
def spec_l30Signal.rs : List RK := [⟨TSignal, true, .own⟩]
def spec_l30Signal.con : Con := ⟨spec_l30Signal.ps, spec_l30Signal.rs, spec_l30Signal.f⟩
def spec_l30Signal.cx : Cx := { cx0 with con := look [(134, spec_l1Below.con), (168, spec_Max.con), (169, spec_SignSignal.con), (170, spec_l3Word.con)], loop := look [] }
def spec_l30Kind.ps : List PK := [.val (.sl (.int .u8)) false, .val (.int .i64) false]
def spec_l30Kind.rs : List RK := [⟨TSession, true, .own⟩, ⟨TSignal, true, .own⟩]
def spec_l30Kind.con : Con := ⟨spec_l30Kind.ps, spec_l30Kind.rs, spec_l30Kind.f⟩
def spec_l30Kind.cx : Cx := { cx0 with con := look [(99, spec_l1New.con), (100, spec_l30Any.con), (142, spec_l30Signal.con)], loop := look [(5, ⟨⟨[(1, false, [.dat (.int .i64) []]), (4, false, [.ptr 1280 0]), (5, false, [.ptr 1536 0]), (6, false, [.ptr 3072 0]), (7, false, [.ptr 2048 0]), (8, false, [.ptr 2304 0]), (9, false, [.dat (.int .i64) []])], [(1280, .box [.dat TSession []]), (1536, .box [.dat TSignal []]), (3072, .box [.dat (.sl (.int .u8)) [0, 2183, 2199, 2201], .dat (.int .i64) [], .dat (.int .i64) []]), (2048, .box [.dat TUSIM [], .dat (.int .i64) [], .dat (.int .i64) [], .dat (.int .i64) [], .own 2183, .dat (.int .i64) [], .dat TAuthVector [], .dat (.int .i64) [], .dat (.int .i64) [], .dat (.int .i64) [], .dat (.int .i64) [], .dat (.int .i64) [], .dat (.int .i64) [], .dat TQuota [], .own 2199, .dat (.int .i64) [], .own 2201, .dat (.pair (.int .i64) TQuota) []]), (2304, .box [.dat TSignal []]), (2183, .arr (.int .i64) true []), (2199, .arr (.sl (.int .u8)) true []), (2201, .arr TNumberedPacket true [])]⟩, [(.exit 0, ⟨[(4, false, [.ptr 1280 0]), (5, false, [.ptr 1536 0]), (7, false, [.ptr 2048 0]), (8, false, [.ptr 2304 0])], [(1280, .box [.dat TSession []]), (1536, .box [.dat TSignal []]), (2048, .box [.dat TUSIM [], .dat (.int .i64) [], .dat (.int .i64) [], .dat (.int .i64) [], .own 2183, .dat (.int .i64) [], .dat TAuthVector [], .dat (.int .i64) [], .dat (.int .i64) [], .dat (.int .i64) [], .dat (.int .i64) [], .dat (.int .i64) [], .dat (.int .i64) [], .dat TQuota [], .own 2199, .dat (.int .i64) [], .own 2201, .dat (.pair (.int .i64) TQuota) []]), (2304, .box [.dat TSignal []]), (2183, .arr (.int .i64) true []), (2199, .arr (.sl (.int .u8)) true []), (2201, .arr TNumberedPacket true [])]⟩)]⟩)] }
def spec_DrawReceivePathUpdate.ps : List PK := [.val (.sl (.int .u8)) false]
def spec_DrawReceivePathUpdate.rs : List RK := [⟨TSession, true, .own⟩, ⟨TSignal, true, .own⟩]
def spec_DrawReceivePathUpdate.con : Con := ⟨spec_DrawReceivePathUpdate.ps, spec_DrawReceivePathUpdate.rs, spec_DrawReceivePathUpdate.f⟩
def spec_DrawReceivePathUpdate.cx : Cx := { cx0 with con := look [(109, spec_l30Kind.con)], loop := look [] }
def impl_Mod.ps : List PK := [.val (.int .i64) false, .val (.int .i64) false]
def impl_Mod.rs : List RK := [⟨(.int .i64), false, .own⟩]
def impl_Mod.con : Con := ⟨impl_Mod.ps, impl_Mod.rs, impl_Mod.f⟩
def impl_Mod.cx : Cx := { cx0 with con := look [(68, impl_InRange.con)], loop := look [] }
def impl_hashStep.ps : List PK := [.val (.int .i64) false, .val (.int .i64) false]
def impl_hashStep.rs : List RK := [⟨(.int .i64), false, .own⟩]
def impl_hashStep.con : Con := ⟨impl_hashStep.ps, impl_hashStep.rs, impl_hashStep.f⟩
def impl_hashStep.cx : Cx := { cx0 with con := look [(186, impl_Mod.con)], loop := look [] }
def impl_KeyedHash.ps : List PK := [.val (.int .i64) false, .val (.sl (.int .i64)) false]
def impl_KeyedHash.rs : List RK := [⟨(.int .i64), false, .own⟩]
def impl_KeyedHash.con : Con := ⟨impl_KeyedHash.ps, impl_KeyedHash.rs, impl_KeyedHash.f⟩
def impl_KeyedHash.cx : Cx := { cx0 with con := look [(174, impl_hashStep.con)], loop := look [(3, ⟨⟨[(0, false, [.dat (.int .i64) []]), (5, false, [.dat (.int .i64) []]), (10, false, [.dat (.sl (.int .i64)) [0]]), (11, false, [.dat (.int .i64) []]), (12, false, [.dat (.int .i64) []])], []⟩, [(.exit 0, ⟨[(0, false, [.dat (.int .i64) []]), (5, false, [.dat (.int .i64) []])], []⟩)]⟩)] }
def impl_DeriveKey.ps : List PK := [.val (.int .i64) false, .val (.int .i64) false]
def impl_DeriveKey.rs : List RK := [⟨(.int .i64), false, .own⟩]
def impl_DeriveKey.con : Con := ⟨impl_DeriveKey.ps, impl_DeriveKey.rs, impl_DeriveKey.f⟩
def impl_DeriveKey.cx : Cx := { cx0 with con := look [(150, impl_KeyedHash.con)], loop := look [] }
def impl_deriveSteps.ps : List PK := [.val (.int .i64) false, .val (.sl (.int .i64)) false]
def impl_deriveSteps.rs : List RK := [⟨(.int .i64), false, .own⟩]
def impl_deriveSteps.con : Con := ⟨impl_deriveSteps.ps, impl_deriveSteps.rs, impl_deriveSteps.f⟩
def impl_deriveSteps.cx : Cx := { cx0 with con := look [(185, impl_DeriveKey.con)], loop := look [(2, ⟨⟨[(0, false, [.dat (.int .i64) []]), (7, false, [.dat (.sl (.int .i64)) [0]]), (8, false, [.dat (.int .i64) []]), (9, false, [.dat (.int .i64) []])], []⟩, [(.exit 0, ⟨[(0, false, [.dat (.int .i64) []])], []⟩)]⟩)] }
def impl_KeyForPath.ps : List PK := [.val (.int .i64) false, .val (.sl (.int .i64)) true]
def impl_KeyForPath.rs : List RK := [⟨(.int .i64), false, .own⟩]
def impl_KeyForPath.con : Con := ⟨impl_KeyForPath.ps, impl_KeyForPath.rs, impl_KeyForPath.f⟩
def impl_KeyForPath.cx : Cx := { cx0 with con := look [(173, impl_deriveSteps.con)], loop := look [] }
def impl_SignalingKeyPath.ps : List PK := []
def impl_SignalingKeyPath.rs : List RK := [⟨(.sl (.int .i64)), true, .own⟩]
def impl_SignalingKeyPath.con : Con := ⟨impl_SignalingKeyPath.ps, impl_SignalingKeyPath.rs, impl_SignalingKeyPath.f⟩
def impl_SignalingKeyPath.cx : Cx := { cx0 with con := look [], loop := look [] }
def impl_SignalMAC.ps : List PK := [.val (.int .i64) false, .val TSignal true]
def impl_SignalMAC.rs : List RK := [⟨(.int .i64), false, .own⟩]
def impl_SignalMAC.con : Con := ⟨impl_SignalMAC.ps, impl_SignalMAC.rs, impl_SignalMAC.f⟩
def impl_SignalMAC.cx : Cx := { cx0 with con := look [(148, impl_KeyForPath.con), (149, impl_SignalingKeyPath.con), (150, impl_KeyedHash.con)], loop := look [] }
def impl_VerifySignal.ps : List PK := [.val (.int .i64) false, .val TSignal true]
def impl_VerifySignal.rs : List RK := [⟨.bool, false, .own⟩]
def impl_VerifySignal.con : Con := ⟨impl_VerifySignal.ps, impl_VerifySignal.rs, impl_VerifySignal.f⟩
def impl_VerifySignal.cx : Cx := { cx0 with con := look [(113, impl_SignalMAC.con)], loop := look [] }
def impl_copyItems_impl_Signal.ps : List PK := [.val (.sl TSignal) false]
def impl_copyItems_impl_Signal.rs : List RK := [⟨(.sl TSignal), false, .own⟩]
def impl_copyItems_impl_Signal.con : Con := ⟨impl_copyItems_impl_Signal.ps, impl_copyItems_impl_Signal.rs, impl_copyItems_impl_Signal.f⟩
def impl_copyItems_impl_Signal.cx : Cx := { cx0 with con := look [], loop := look [] }
def impl_sessionResult.ps : List PK := [.val TSession true, .val (.sl TSignal) false]
def impl_sessionResult.rs : List RK := [⟨TSessionResult, true, .own⟩]
def impl_sessionResult.con : Con := ⟨impl_sessionResult.ps, impl_sessionResult.rs, impl_sessionResult.f⟩
def impl_sessionResult.cx : Cx := { cx0 with con := look [(105, impl_copySession.con), (143, impl_copyItems_impl_Signal.con)], loop := look [] }
def impl_SignSignal.ps : List PK := [.val (.int .i64) false, .val TSignal true]
def impl_SignSignal.rs : List RK := [⟨TSignal, true, .own⟩]
def impl_SignSignal.con : Con := ⟨impl_SignSignal.ps, impl_SignSignal.rs, impl_SignSignal.f⟩
def impl_SignSignal.cx : Cx := { cx0 with con := look [(113, impl_SignalMAC.con)], loop := look [] }
def impl_signedSignal.ps : List PK := [.val TSession true, .val (.int .i64) false]
def impl_signedSignal.rs : List RK := [⟨TSignal, true, .own⟩]
def impl_signedSignal.con : Con := ⟨impl_signedSignal.ps, impl_signedSignal.rs, impl_signedSignal.f⟩
def impl_signedSignal.cx : Cx := { cx0 with con := look [(144, impl_SignSignal.con)], loop := look [] }
def impl_ReceivePathUpdate.ps : List PK := [.val TSession true, .val TSignal true]
def impl_ReceivePathUpdate.rs : List RK := [⟨TSessionResult, true, .own⟩]
def impl_ReceivePathUpdate.con : Con := ⟨impl_ReceivePathUpdate.ps, impl_ReceivePathUpdate.rs, impl_ReceivePathUpdate.f⟩
def impl_ReceivePathUpdate.cx : Cx := { cx0 with con := look [(53, impl_VerifySignal.con), (110, impl_sessionResult.con), (111, impl_signedSignal.con)], loop := look [] }
def spec_VerifySignal.ps : List PK := [.val (.int .i64) false, .val TSignal true]
def spec_VerifySignal.rs : List RK := [⟨.bool, false, .own⟩]
def spec_VerifySignal.con : Con := ⟨spec_VerifySignal.ps, spec_VerifySignal.rs, spec_VerifySignal.f⟩
def spec_VerifySignal.cx : Cx := { cx0 with con := look [(112, spec_SignalMAC.con)], loop := look [] }
def laws_FnPathUpdates.ps : List PK := [.val (.sl (.int .u8)) false]
def laws_FnPathUpdates.rs : List RK := [⟨.bool, false, .own⟩]
def laws_FnPathUpdates.con : Con := ⟨laws_FnPathUpdates.ps, laws_FnPathUpdates.rs, laws_FnPathUpdates.f⟩
def laws_FnPathUpdates.cx : Cx := { cx0 with con := look [(43, laws_big.con), (46, laws_sameSession.con), (49, laws_sameSender.con), (50, spec_DrawReceivePathUpdate.con), (51, impl_ReceivePathUpdate.con), (52, spec_VerifySignal.con), (53, impl_VerifySignal.con)], loop := look [] }
def spec_DrawReceiveResponse.ps : List PK := [.val (.sl (.int .u8)) false]
def spec_DrawReceiveResponse.rs : List RK := [⟨TSession, true, .own⟩, ⟨TSignal, true, .own⟩]
def spec_DrawReceiveResponse.con : Con := ⟨spec_DrawReceiveResponse.ps, spec_DrawReceiveResponse.rs, spec_DrawReceiveResponse.f⟩
def spec_DrawReceiveResponse.cx : Cx := { cx0 with con := look [(109, spec_l30Kind.con)], loop := look [] }
def impl_ResponseMatches.ps : List PK := [.val TAuthVector true, .val (.int .i64) false]
def impl_ResponseMatches.rs : List RK := [⟨.bool, false, .own⟩]
def impl_ResponseMatches.con : Con := ⟨impl_ResponseMatches.ps, impl_ResponseMatches.rs, impl_ResponseMatches.f⟩
def impl_ResponseMatches.cx : Cx := { cx0 with con := look [], loop := look [] }
def impl_ReceiveResponse.ps : List PK := [.val TSession true, .val TSignal true]
def impl_ReceiveResponse.rs : List RK := [⟨TSessionResult, true, .own⟩]
def impl_ReceiveResponse.con : Con := ⟨impl_ReceiveResponse.ps, impl_ReceiveResponse.rs, impl_ReceiveResponse.f⟩
def impl_ReceiveResponse.cx : Cx := { cx0 with con := look [(110, impl_sessionResult.con), (111, impl_signedSignal.con), (114, impl_ResponseMatches.con)], loop := look [] }
def laws_FnCoreAuthentication.ps : List PK := [.val (.sl (.int .u8)) false]
def laws_FnCoreAuthentication.rs : List RK := [⟨.bool, false, .own⟩]
def laws_FnCoreAuthentication.con : Con := ⟨laws_FnCoreAuthentication.ps, laws_FnCoreAuthentication.rs, laws_FnCoreAuthentication.f⟩
def laws_FnCoreAuthentication.cx : Cx := { cx0 with con := look [(43, laws_big.con), (46, laws_sameSession.con), (53, impl_VerifySignal.con), (54, spec_DrawReceiveResponse.con), (55, impl_ReceiveResponse.con)], loop := look [] }
end Go.Proofs.Ytaghlbodihgkmaa.XS
/- Each function, evaluated, is the plain Lean one. -/
set_option linter.unusedVariables false
set_option maxRecDepth 100000
namespace Go.Proofs.Ytaghlbodihgkmaa.XS
open Go Go.Proofs.XTv Go.Proofs.XF
theorem spec_l30Active.eq : evFun spec_l30Active.cx Try.f133 spec_l30Active.ps spec_l30Active.rs = spec_l30Active.f := by kernel_rfl
theorem laws_samePackets.eq : evFun laws_samePackets.cx Try.f108 laws_samePackets.ps laws_samePackets.rs = laws_samePackets.f := by kernel_rfl
theorem impl_EventName.eq : evFun impl_EventName.cx Try.f14 impl_EventName.ps impl_EventName.rs = impl_EventName.f := by kernel_rfl
theorem laws_markSession.eq : evFun laws_markSession.cx Try.f33 laws_markSession.ps laws_markSession.rs = laws_markSession.f := by kernel_rfl
theorem laws_samePayloads.eq : evFun laws_samePayloads.cx Try.f47 laws_samePayloads.ps laws_samePayloads.rs = laws_samePayloads.f := by kernel_rfl
theorem laws_szNumberedPacketS.eq : evFun laws_szNumberedPacketS.cx Try.f119 laws_szNumberedPacketS.ps laws_szNumberedPacketS.rs = laws_szNumberedPacketS.f := by kernel_rfl
theorem laws_sameBytes.eq : evFun laws_sameBytes.cx Try.f48 laws_sameBytes.ps laws_sameBytes.rs = laws_sameBytes.f := by kernel_rfl
theorem impl_copySession.eq : evFun impl_copySession.cx Try.f105 impl_copySession.ps impl_copySession.rs = impl_copySession.f := by kernel_rfl
theorem laws_heldPayloadS.eq : evFun laws_heldPayloadS.cx Try.f86 laws_heldPayloadS.ps laws_heldPayloadS.rs = laws_heldPayloadS.f := by kernel_rfl
theorem impl_fitPayload.eq : evFun impl_fitPayload.cx Try.f123 impl_fitPayload.ps impl_fitPayload.rs = impl_fitPayload.f := by kernel_rfl
theorem laws_markByteS.eq : evFun laws_markByteS.cx Try.f126 laws_markByteS.ps laws_markByteS.rs = laws_markByteS.f := by kernel_rfl
theorem spec_l30Bytes.eq : evFun spec_l30Bytes.cx Try.f97 spec_l30Bytes.ps spec_l30Bytes.rs = spec_l30Bytes.f := by kernel_rfl
theorem laws_toDevice.eq : evFun laws_toDevice.cx Try.f23 laws_toDevice.ps laws_toDevice.rs = laws_toDevice.f := by kernel_rfl
theorem laws_eqReceiveWindow.eq : evFun laws_eqReceiveWindow.cx Try.f59 laws_eqReceiveWindow.ps laws_eqReceiveWindow.rs = laws_eqReceiveWindow.f := by kernel_rfl
theorem impl_copyDevice.eq : evFun impl_copyDevice.cx Try.f89 impl_copyDevice.ps impl_copyDevice.rs = impl_copyDevice.f := by kernel_rfl
theorem laws_markReceiveWindow.eq : evFun laws_markReceiveWindow.cx Try.f60 laws_markReceiveWindow.ps laws_markReceiveWindow.rs = laws_markReceiveWindow.f := by kernel_rfl
theorem spec_SignSignal.eq : evFun spec_SignSignal.cx Try.f169 spec_SignSignal.ps spec_SignSignal.rs = spec_SignSignal.f := by kernel_rfl
theorem impl_AcknowledgedPackets.eq : evFun impl_AcknowledgedPackets.cx Try.f40 impl_AcknowledgedPackets.ps impl_AcknowledgedPackets.rs = impl_AcknowledgedPackets.f := by kernel_rfl
theorem spec_IsValidSubscriberID.eq : evFun spec_IsValidSubscriberID.cx Try.f120 spec_IsValidSubscriberID.ps spec_IsValidSubscriberID.rs = spec_IsValidSubscriberID.f := by kernel_rfl
theorem impl_EnterIdle.eq : evFun impl_EnterIdle.cx Try.f36 impl_EnterIdle.ps impl_EnterIdle.rs = impl_EnterIdle.f := by kernel_rfl
theorem spec_l24Recv.eq : evFun spec_l24Recv.cx Try.f129 spec_l24Recv.ps spec_l24Recv.rs = spec_l24Recv.f := by kernel_rfl
theorem laws_heldSendWindow.eq : evFun laws_heldSendWindow.cx Try.f87 laws_heldSendWindow.ps laws_heldSendWindow.rs = laws_heldSendWindow.f := by kernel_rfl
theorem laws_szNumberedPacket.eq : evFun laws_szNumberedPacket.cx Try.f152 laws_szNumberedPacket.ps laws_szNumberedPacket.rs = laws_szNumberedPacket.f := by kernel_rfl
theorem spec_OutstandingBytes.eq : evFun spec_OutstandingBytes.cx Try.f41 spec_OutstandingBytes.ps spec_OutstandingBytes.rs = spec_OutstandingBytes.f := by kernel_rfl
theorem impl_VerifySignal.eq : evFun impl_VerifySignal.cx Try.f53 impl_VerifySignal.ps impl_VerifySignal.rs = impl_VerifySignal.f := by kernel_rfl
theorem spec_DrawReceiveResponse.eq : evFun spec_DrawReceiveResponse.cx Try.f54 spec_DrawReceiveResponse.ps spec_DrawReceiveResponse.rs = spec_DrawReceiveResponse.f := by kernel_rfl
theorem spec_l24Sender.eq : evFun spec_l24Sender.cx Try.f167 spec_l24Sender.ps spec_l24Sender.rs = spec_l24Sender.f := by kernel_rfl
theorem spec_IsValidKey.eq : evFun spec_IsValidKey.cx Try.f63 spec_IsValidKey.ps spec_IsValidKey.rs = spec_IsValidKey.f := by kernel_rfl
theorem laws_toSubscriberID.eq : evFun laws_toSubscriberID.cx Try.f57 laws_toSubscriberID.ps laws_toSubscriberID.rs = laws_toSubscriberID.f := by kernel_rfl
theorem impl_SignalingKeyPath.eq : evFun impl_SignalingKeyPath.cx Try.f149 impl_SignalingKeyPath.ps impl_SignalingKeyPath.rs = impl_SignalingKeyPath.f := by kernel_rfl
end Go.Proofs.Ytaghlbodihgkmaa.XS
/- Each function, evaluated, is the plain Lean one. -/
set_option linter.unusedVariables false
set_option maxRecDepth 100000
namespace Go.Proofs.Ytaghlbodihgkmaa.XS
open Go Go.Proofs.XTv Go.Proofs.XF
theorem laws_FnPathUpdates.eq : evFun laws_FnPathUpdates.cx Try.f11 laws_FnPathUpdates.ps laws_FnPathUpdates.rs = laws_FnPathUpdates.f := by kernel_rfl
theorem laws_eqSession.eq : evFun laws_eqSession.cx Try.f30 laws_eqSession.ps laws_eqSession.rs = laws_eqSession.f := by kernel_rfl
theorem spec_EventName.eq : evFun spec_EventName.cx Try.f13 spec_EventName.ps spec_EventName.rs = spec_EventName.f := by kernel_rfl
theorem spec_AcknowledgeBelow.eq : evFun spec_AcknowledgeBelow.cx Try.f183 spec_AcknowledgeBelow.ps spec_AcknowledgeBelow.rs = spec_AcknowledgeBelow.f := by kernel_rfl
theorem spec_IsValidSender.eq : evFun spec_IsValidSender.cx Try.f181 spec_IsValidSender.ps spec_IsValidSender.rs = spec_IsValidSender.f := by kernel_rfl
theorem spec_l24Sents.eq : evFun spec_l24Sents.cx Try.f155 spec_l24Sents.ps spec_l24Sents.rs = spec_l24Sents.f := by kernel_rfl
theorem laws_heldNumberedPacketS.eq : evFun laws_heldNumberedPacketS.cx Try.f118 laws_heldNumberedPacketS.ps laws_heldNumberedPacketS.rs = laws_heldNumberedPacketS.f := by kernel_rfl
theorem laws_szPayloadS.eq : evFun laws_szPayloadS.cx Try.f90 laws_szPayloadS.ps laws_szPayloadS.rs = laws_szPayloadS.f := by kernel_rfl
theorem laws_toPayloadS.eq : evFun laws_toPayloadS.cx Try.f94 laws_toPayloadS.ps laws_toPayloadS.rs = laws_toPayloadS.f := by kernel_rfl
theorem spec_l1New.eq : evFun spec_l1New.cx Try.f99 spec_l1New.ps spec_l1New.rs = spec_l1New.f := by kernel_rfl
theorem laws_markPayloadS.eq : evFun laws_markPayloadS.cx Try.f83 laws_markPayloadS.ps laws_markPayloadS.rs = laws_markPayloadS.f := by kernel_rfl
theorem spec_l1Bytes.eq : evFun spec_l1Bytes.cx Try.f103 spec_l1Bytes.ps spec_l1Bytes.rs = spec_l1Bytes.f := by kernel_rfl
theorem laws_heldIntS.eq : evFun laws_heldIntS.cx Try.f127 laws_heldIntS.ps laws_heldIntS.rs = laws_heldIntS.f := by kernel_rfl
theorem laws_heldSession.eq : evFun laws_heldSession.cx Try.f34 laws_heldSession.ps laws_heldSession.rs = laws_heldSession.f := by kernel_rfl
theorem laws_eqAuthVector.eq : evFun laws_eqAuthVector.cx Try.f76 laws_eqAuthVector.ps laws_eqAuthVector.rs = laws_eqAuthVector.f := by kernel_rfl
theorem spec_IsValidUSIM.eq : evFun spec_IsValidUSIM.cx Try.f64 spec_IsValidUSIM.ps spec_IsValidUSIM.rs = spec_IsValidUSIM.f := by kernel_rfl
theorem impl_signedSignal.eq : evFun impl_signedSignal.cx Try.f111 impl_signedSignal.ps impl_signedSignal.rs = impl_signedSignal.f := by kernel_rfl
theorem laws_eqSubscriberRecord.eq : evFun laws_eqSubscriberRecord.cx Try.f75 laws_eqSubscriberRecord.ps laws_eqSubscriberRecord.rs = laws_eqSubscriberRecord.f := by kernel_rfl
theorem spec_AcknowledgedPackets.eq : evFun spec_AcknowledgedPackets.cx Try.f38 spec_AcknowledgedPackets.ps spec_AcknowledgedPackets.rs = spec_AcknowledgedPackets.f := by kernel_rfl
theorem spec_l6Card.eq : evFun spec_l6Card.cx Try.f175 spec_l6Card.ps spec_l6Card.rs = spec_l6Card.f := by kernel_rfl
theorem impl_copyInts.eq : evFun impl_copyInts.cx Try.f124 impl_copyInts.ps impl_copyInts.rs = impl_copyInts.f := by kernel_rfl
theorem impl_copyBytes.eq : evFun impl_copyBytes.cx Try.f106 impl_copyBytes.ps impl_copyBytes.rs = impl_copyBytes.f := by kernel_rfl
theorem impl_sessionResult.eq : evFun impl_sessionResult.cx Try.f110 impl_sessionResult.ps impl_sessionResult.rs = impl_sessionResult.f := by kernel_rfl
theorem spec_l30Plan.eq : evFun spec_l30Plan.cx Try.f72 spec_l30Plan.ps spec_l30Plan.rs = spec_l30Plan.f := by kernel_rfl
theorem impl_copySubscription.eq : evFun impl_copySubscription.cx Try.f74 impl_copySubscription.ps impl_copySubscription.rs = impl_copySubscription.f := by kernel_rfl
theorem spec_DeriveKey.eq : evFun spec_DeriveKey.cx Try.f172 spec_DeriveKey.ps spec_DeriveKey.rs = spec_DeriveKey.f := by kernel_rfl
theorem spec_VerifySignal.eq : evFun spec_VerifySignal.cx Try.f52 spec_VerifySignal.ps spec_VerifySignal.rs = spec_VerifySignal.f := by kernel_rfl
theorem impl_copySender.eq : evFun impl_copySender.cx Try.f140 impl_copySender.ps impl_copySender.rs = impl_copySender.f := by kernel_rfl
theorem laws_toSubscriberRecord.eq : evFun laws_toSubscriberRecord.cx Try.f27 laws_toSubscriberRecord.ps laws_toSubscriberRecord.rs = laws_toSubscriberRecord.f := by kernel_rfl
theorem spec_ResponseMatches.eq : evFun spec_ResponseMatches.cx Try.f179 spec_ResponseMatches.ps spec_ResponseMatches.rs = spec_ResponseMatches.f := by kernel_rfl
theorem laws_big.eq : evFun laws_big.cx Try.f43 laws_big.ps laws_big.rs = laws_big.f := by kernel_rfl
theorem spec_SignalingKeyPath.eq : evFun spec_SignalingKeyPath.cx Try.f147 spec_SignalingKeyPath.ps spec_SignalingKeyPath.rs = spec_SignalingKeyPath.f := by kernel_rfl
end Go.Proofs.Ytaghlbodihgkmaa.XS
/- Each function, evaluated, is the plain Lean one. -/
set_option linter.unusedVariables false
set_option maxRecDepth 100000
namespace Go.Proofs.Ytaghlbodihgkmaa.XS
open Go Go.Proofs.XTv Go.Proofs.XF
theorem laws_sameSession.eq : evFun laws_sameSession.cx Try.f46 laws_sameSession.ps laws_sameSession.rs = laws_sameSession.f := by kernel_rfl
theorem laws_FnSubmissions.eq : evFun laws_FnSubmissions.cx Try.f10 laws_FnSubmissions.ps laws_FnSubmissions.rs = laws_FnSubmissions.f := by kernel_rfl
theorem impl_IsValidReceiver.eq : evFun impl_IsValidReceiver.cx Try.f70 impl_IsValidReceiver.ps impl_IsValidReceiver.rs = impl_IsValidReceiver.f := by kernel_rfl
theorem spec_l1Byte.eq : evFun spec_l1Byte.cx Try.f138 spec_l1Byte.ps spec_l1Byte.rs = spec_l1Byte.f := by kernel_rfl
theorem impl_ReceiveResponse.eq : evFun impl_ReceiveResponse.cx Try.f55 impl_ReceiveResponse.ps impl_ReceiveResponse.rs = impl_ReceiveResponse.f := by kernel_rfl
theorem laws_eqDevice.eq : evFun laws_eqDevice.cx Try.f18 laws_eqDevice.ps laws_eqDevice.rs = laws_eqDevice.f := by kernel_rfl
theorem impl_copyNumbered.eq : evFun impl_copyNumbered.cx Try.f157 impl_copyNumbered.ps impl_copyNumbered.rs = impl_copyNumbered.f := by kernel_rfl
theorem impl_copyPayloads.eq : evFun impl_copyPayloads.cx Try.f139 impl_copyPayloads.ps impl_copyPayloads.rs = impl_copyPayloads.f := by kernel_rfl
theorem impl_KeyedHash.eq : evFun impl_KeyedHash.cx Try.f150 impl_KeyedHash.ps impl_KeyedHash.rs = impl_KeyedHash.f := by kernel_rfl
theorem spec_ReceiveAttach.eq : evFun spec_ReceiveAttach.cx Try.f162 spec_ReceiveAttach.ps spec_ReceiveAttach.rs = spec_ReceiveAttach.f := by kernel_rfl
theorem spec_NewAuthVector.eq : evFun spec_NewAuthVector.cx Try.f190 spec_NewAuthVector.ps spec_NewAuthVector.rs = spec_NewAuthVector.f := by kernel_rfl
theorem impl_numberedBytes.eq : evFun impl_numberedBytes.cx Try.f98 impl_numberedBytes.ps impl_numberedBytes.rs = impl_numberedBytes.f := by kernel_rfl
theorem laws_FnExactIsValidDevice.eq : evFun laws_FnExactIsValidDevice.cx Try.f5 laws_FnExactIsValidDevice.ps laws_FnExactIsValidDevice.rs = laws_FnExactIsValidDevice.f := by kernel_rfl
theorem laws_markIntS.eq : evFun laws_markIntS.cx Try.f82 laws_markIntS.ps laws_markIntS.rs = laws_markIntS.f := by kernel_rfl
theorem spec_NextAuthVector.eq : evFun spec_NextAuthVector.cx Try.f176 spec_NextAuthVector.ps spec_NextAuthVector.rs = spec_NextAuthVector.f := by kernel_rfl
theorem impl_Mod.eq : evFun impl_Mod.cx Try.f186 impl_Mod.ps impl_Mod.rs = impl_Mod.f := by kernel_rfl
theorem spec_l29Copy.eq : evFun spec_l29Copy.cx Try.f88 spec_l29Copy.ps spec_l29Copy.rs = spec_l29Copy.f := by kernel_rfl
theorem laws_eqUSIM.eq : evFun laws_eqUSIM.cx Try.f58 laws_eqUSIM.ps laws_eqUSIM.rs = laws_eqUSIM.f := by kernel_rfl
theorem laws_eqQuota.eq : evFun laws_eqQuota.cx Try.f80 laws_eqQuota.ps laws_eqQuota.rs = laws_eqQuota.f := by kernel_rfl
theorem impl_NewSession.eq : evFun impl_NewSession.cx Try.f29 impl_NewSession.ps impl_NewSession.rs = impl_NewSession.f := by kernel_rfl
theorem laws_markSubscription.eq : evFun laws_markSubscription.cx Try.f32 laws_markSubscription.ps laws_markSubscription.rs = laws_markSubscription.f := by kernel_rfl
theorem laws_toReceiveWindow.eq : evFun laws_toReceiveWindow.cx Try.f66 laws_toReceiveWindow.ps laws_toReceiveWindow.rs = laws_toReceiveWindow.f := by kernel_rfl
theorem laws_markSendWindow.eq : evFun laws_markSendWindow.cx Try.f84 laws_markSendWindow.ps laws_markSendWindow.rs = laws_markSendWindow.f := by kernel_rfl
theorem laws_heldSubscription.eq : evFun laws_heldSubscription.cx Try.f85 laws_heldSubscription.ps laws_heldSubscription.rs = laws_heldSubscription.f := by kernel_rfl
theorem laws_szSendWindow.eq : evFun laws_szSendWindow.cx Try.f91 laws_szSendWindow.ps laws_szSendWindow.rs = laws_szSendWindow.f := by kernel_rfl
theorem impl_DeriveKey.eq : evFun impl_DeriveKey.cx Try.f185 impl_DeriveKey.ps impl_DeriveKey.rs = impl_DeriveKey.f := by kernel_rfl
theorem spec_ChallengeRand.eq : evFun spec_ChallengeRand.cx Try.f177 spec_ChallengeRand.ps spec_ChallengeRand.rs = spec_ChallengeRand.f := by kernel_rfl
theorem laws_toSendWindow.eq : evFun laws_toSendWindow.cx Try.f95 laws_toSendWindow.ps laws_toSendWindow.rs = laws_toSendWindow.f := by kernel_rfl
theorem spec_NewDevice.eq : evFun spec_NewDevice.cx Try.f15 spec_NewDevice.ps spec_NewDevice.rs = spec_NewDevice.f := by kernel_rfl
theorem impl_NewDevice.eq : evFun impl_NewDevice.cx Try.f17 impl_NewDevice.ps impl_NewDevice.rs = impl_NewDevice.f := by kernel_rfl
theorem spec_l25Body.eq : evFun spec_l25Body.cx Try.f137 spec_l25Body.ps spec_l25Body.rs = spec_l25Body.f := by kernel_rfl
theorem laws_toQuota.eq : evFun laws_toQuota.cx Try.f96 laws_toQuota.ps laws_toQuota.rs = laws_toQuota.f := by kernel_rfl
end Go.Proofs.Ytaghlbodihgkmaa.XS
/- Each function, evaluated, is the plain Lean one. -/
set_option linter.unusedVariables false
set_option maxRecDepth 100000
namespace Go.Proofs.Ytaghlbodihgkmaa.XS
open Go Go.Proofs.XTv Go.Proofs.XF
theorem laws_FnExactNewSession.eq : evFun laws_FnExactNewSession.cx Try.f6 laws_FnExactNewSession.ps laws_FnExactNewSession.rs = laws_FnExactNewSession.f := by kernel_rfl
theorem spec_l30Any.eq : evFun spec_l30Any.cx Try.f100 spec_l30Any.ps spec_l30Any.rs = spec_l30Any.f := by kernel_rfl
theorem laws_FnExactEnterIdle.eq : evFun laws_FnExactEnterIdle.cx Try.f7 laws_FnExactEnterIdle.ps laws_FnExactEnterIdle.rs = laws_FnExactEnterIdle.f := by kernel_rfl
theorem impl_IsValidDevice.eq : evFun impl_IsValidDevice.cx Try.f24 impl_IsValidDevice.ps impl_IsValidDevice.rs = impl_IsValidDevice.f := by kernel_rfl
theorem spec_l24DrawSender.eq : evFun spec_l24DrawSender.cx Try.f166 spec_l24DrawSender.ps spec_l24DrawSender.rs = spec_l24DrawSender.f := by kernel_rfl
theorem spec_ReceiveResponse.eq : evFun spec_ReceiveResponse.cx Try.f163 spec_ReceiveResponse.ps spec_ReceiveResponse.rs = spec_ReceiveResponse.f := by kernel_rfl
theorem laws_eqPayloadS.eq : evFun laws_eqPayloadS.cx Try.f78 laws_eqPayloadS.ps laws_eqPayloadS.rs = laws_eqPayloadS.f := by kernel_rfl
theorem laws_toNumberedPacketS.eq : evFun laws_toNumberedPacketS.cx Try.f121 laws_toNumberedPacketS.ps laws_toNumberedPacketS.rs = laws_toNumberedPacketS.f := by kernel_rfl
theorem laws_sameInts.eq : evFun laws_sameInts.cx Try.f141 laws_sameInts.ps laws_sameInts.rs = laws_sameInts.f := by kernel_rfl
theorem spec_Hash.eq : evFun spec_Hash.cx Try.f171 spec_Hash.ps spec_Hash.rs = spec_Hash.f := by kernel_rfl
theorem spec_l30Copy.eq : evFun spec_l30Copy.cx Try.f136 spec_l30Copy.ps spec_l30Copy.rs = spec_l30Copy.f := by kernel_rfl
theorem laws_heldByteS.eq : evFun laws_heldByteS.cx Try.f128 laws_heldByteS.ps laws_heldByteS.rs = laws_heldByteS.f := by kernel_rfl
theorem impl_deriveSteps.eq : evFun impl_deriveSteps.cx Try.f173 impl_deriveSteps.ps impl_deriveSteps.rs = impl_deriveSteps.f := by kernel_rfl
theorem spec_KeyForPath.eq : evFun spec_KeyForPath.cx Try.f146 spec_KeyForPath.ps spec_KeyForPath.rs = spec_KeyForPath.f := by kernel_rfl
theorem spec_IsValidSubscriberRecord.eq : evFun spec_IsValidSubscriberRecord.cx Try.f189 spec_IsValidSubscriberRecord.ps spec_IsValidSubscriberRecord.rs = spec_IsValidSubscriberRecord.f := by kernel_rfl
theorem impl_IsValidUSIM.eq : evFun impl_IsValidUSIM.cx Try.f67 impl_IsValidUSIM.ps impl_IsValidUSIM.rs = impl_IsValidUSIM.f := by kernel_rfl
theorem spec_l30Signed.eq : evFun spec_l30Signed.cx Try.f180 spec_l30Signed.ps spec_l30Signed.rs = spec_l30Signed.f := by kernel_rfl
theorem laws_szReceiveWindow.eq : evFun laws_szReceiveWindow.cx Try.f62 laws_szReceiveWindow.ps laws_szReceiveWindow.rs = laws_szReceiveWindow.f := by kernel_rfl
theorem impl_SignSignal.eq : evFun impl_SignSignal.cx Try.f144 impl_SignSignal.ps impl_SignSignal.rs = impl_SignSignal.f := by kernel_rfl
theorem laws_eqSendWindow.eq : evFun laws_eqSendWindow.cx Try.f79 laws_eqSendWindow.ps laws_eqSendWindow.rs = laws_eqSendWindow.f := by kernel_rfl
theorem spec_l1Int.eq : evFun spec_l1Int.cx Try.f104 spec_l1Int.ps spec_l1Int.rs = spec_l1Int.f := by kernel_rfl
theorem laws_heldDevice.eq : evFun laws_heldDevice.cx Try.f20 laws_heldDevice.ps laws_heldDevice.rs = laws_heldDevice.f := by kernel_rfl
theorem laws_szDevice.eq : evFun laws_szDevice.cx Try.f21 laws_szDevice.ps laws_szDevice.rs = laws_szDevice.f := by kernel_rfl
theorem spec_SequenceMask.eq : evFun spec_SequenceMask.cx Try.f191 spec_SequenceMask.ps spec_SequenceMask.rs = spec_SequenceMask.f := by kernel_rfl
theorem laws_szIntS.eq : evFun laws_szIntS.cx Try.f71 laws_szIntS.ps laws_szIntS.rs = laws_szIntS.f := by kernel_rfl
theorem laws_eqSubscriberID.eq : evFun laws_eqSubscriberID.cx Try.f115 laws_eqSubscriberID.ps laws_eqSubscriberID.rs = laws_eqSubscriberID.f := by kernel_rfl
theorem spec_l5Key.eq : evFun spec_l5Key.cx Try.f188 spec_l5Key.ps spec_l5Key.rs = spec_l5Key.f := by kernel_rfl
theorem spec_l1Once.eq : evFun spec_l1Once.cx Try.f101 spec_l1Once.ps spec_l1Once.rs = spec_l1Once.f := by kernel_rfl
theorem impl_InRange.eq : evFun impl_InRange.cx Try.f68 impl_InRange.ps impl_InRange.rs = impl_InRange.f := by kernel_rfl
theorem impl_KeyForPath.eq : evFun impl_KeyForPath.cx Try.f148 impl_KeyForPath.ps impl_KeyForPath.rs = impl_KeyForPath.f := by kernel_rfl
theorem laws_toPayload.eq : evFun laws_toPayload.cx Try.f132 laws_toPayload.ps laws_toPayload.rs = laws_toPayload.f := by kernel_rfl
theorem laws_toPagingState.eq : evFun laws_toPagingState.cx Try.f93 laws_toPagingState.ps laws_toPagingState.rs = laws_toPagingState.f := by kernel_rfl
end Go.Proofs.Ytaghlbodihgkmaa.XS
/- Each function, evaluated, is the plain Lean one. -/
set_option linter.unusedVariables false
set_option maxRecDepth 100000
namespace Go.Proofs.Ytaghlbodihgkmaa.XS
open Go Go.Proofs.XTv Go.Proofs.XF
theorem laws_FnCoreAuthentication.eq : evFun laws_FnCoreAuthentication.cx Try.f12 laws_FnCoreAuthentication.ps laws_FnCoreAuthentication.rs = laws_FnCoreAuthentication.f := by kernel_rfl
theorem spec_l30Kind.eq : evFun spec_l30Kind.cx Try.f109 spec_l30Kind.ps spec_l30Kind.rs = spec_l30Kind.f := by kernel_rfl
theorem spec_IsValidDevice.eq : evFun spec_IsValidDevice.cx Try.f22 spec_IsValidDevice.ps spec_IsValidDevice.rs = spec_IsValidDevice.f := by kernel_rfl
theorem impl_ReceivePathUpdate.eq : evFun impl_ReceivePathUpdate.cx Try.f51 impl_ReceivePathUpdate.ps impl_ReceivePathUpdate.rs = impl_ReceivePathUpdate.f := by kernel_rfl
theorem laws_markNumberedPacketS.eq : evFun laws_markNumberedPacketS.cx Try.f117 laws_markNumberedPacketS.ps laws_markNumberedPacketS.rs = laws_markNumberedPacketS.f := by kernel_rfl
theorem impl_SubmitPacket.eq : evFun impl_SubmitPacket.cx Try.f45 impl_SubmitPacket.ps impl_SubmitPacket.rs = impl_SubmitPacket.f := by kernel_rfl
theorem spec_SubmitPacket.eq : evFun spec_SubmitPacket.cx Try.f102 spec_SubmitPacket.ps spec_SubmitPacket.rs = spec_SubmitPacket.f := by kernel_rfl
theorem spec_l6Pair.eq : evFun spec_l6Pair.cx Try.f160 spec_l6Pair.ps spec_l6Pair.rs = spec_l6Pair.f := by kernel_rfl
theorem laws_eqByteS.eq : evFun laws_eqByteS.cx Try.f154 laws_eqByteS.ps laws_eqByteS.rs = laws_eqByteS.f := by kernel_rfl
theorem spec_l1Below.eq : evFun spec_l1Below.cx Try.f134 spec_l1Below.ps spec_l1Below.rs = spec_l1Below.f := by kernel_rfl
theorem laws_toByteS.eq : evFun laws_toByteS.cx Try.f159 laws_toByteS.ps laws_toByteS.rs = laws_toByteS.f := by kernel_rfl
theorem spec_l24AnySender.eq : evFun spec_l24AnySender.cx Try.f135 spec_l24AnySender.ps spec_l24AnySender.rs = spec_l24AnySender.f := by kernel_rfl
theorem laws_samePlan.eq : evFun laws_samePlan.cx Try.f107 laws_samePlan.ps laws_samePlan.rs = laws_samePlan.f := by kernel_rfl
theorem spec_l3Word.eq : evFun spec_l3Word.cx Try.f170 spec_l3Word.ps spec_l3Word.rs = spec_l3Word.f := by kernel_rfl
theorem laws_eqSubscription.eq : evFun laws_eqSubscription.cx Try.f31 laws_eqSubscription.ps laws_eqSubscription.rs = laws_eqSubscription.f := by kernel_rfl
theorem spec_SignalMAC.eq : evFun spec_SignalMAC.cx Try.f112 spec_SignalMAC.ps spec_SignalMAC.rs = spec_SignalMAC.f := by kernel_rfl
theorem spec_IsValidQuota.eq : evFun spec_IsValidQuota.cx Try.f182 spec_IsValidQuota.ps spec_IsValidQuota.rs = spec_IsValidQuota.f := by kernel_rfl
theorem impl_hashStep.eq : evFun impl_hashStep.cx Try.f174 impl_hashStep.ps impl_hashStep.rs = impl_hashStep.f := by kernel_rfl
theorem spec_KeyedHash.eq : evFun spec_KeyedHash.cx Try.f145 spec_KeyedHash.ps spec_KeyedHash.rs = spec_KeyedHash.f := by kernel_rfl
theorem laws_sameSender.eq : evFun laws_sameSender.cx Try.f49 laws_sameSender.ps laws_sameSender.rs = laws_sameSender.f := by kernel_rfl
theorem spec_NewSession.eq : evFun spec_NewSession.cx Try.f26 spec_NewSession.ps spec_NewSession.rs = spec_NewSession.f := by kernel_rfl
theorem impl_copyItems_impl_Signal.eq : evFun impl_copyItems_impl_Signal.cx Try.f143 impl_copyItems_impl_Signal.ps impl_copyItems_impl_Signal.rs = impl_copyItems_impl_Signal.f := by kernel_rfl
theorem laws_FnExactEventName.eq : evFun laws_FnExactEventName.cx Try.f3 laws_FnExactEventName.ps laws_FnExactEventName.rs = laws_FnExactEventName.f := by kernel_rfl
theorem spec_RemainingQuota.eq : evFun spec_RemainingQuota.cx Try.f165 spec_RemainingQuota.ps spec_RemainingQuota.rs = spec_RemainingQuota.f := by kernel_rfl
theorem impl_OutstandingBytes.eq : evFun impl_OutstandingBytes.cx Try.f42 impl_OutstandingBytes.ps impl_OutstandingBytes.rs = impl_OutstandingBytes.f := by kernel_rfl
theorem spec_EnterIdle.eq : evFun spec_EnterIdle.cx Try.f35 spec_EnterIdle.ps spec_EnterIdle.rs = spec_EnterIdle.f := by kernel_rfl
theorem laws_eqPayload.eq : evFun laws_eqPayload.cx Try.f125 laws_eqPayload.ps laws_eqPayload.rs = laws_eqPayload.f := by kernel_rfl
theorem spec_DrawReceivePathUpdate.eq : evFun spec_DrawReceivePathUpdate.cx Try.f50 spec_DrawReceivePathUpdate.ps spec_DrawReceivePathUpdate.rs = spec_DrawReceivePathUpdate.f := by kernel_rfl
theorem spec_l1In.eq : evFun spec_l1In.cx Try.f56 spec_l1In.ps spec_l1In.rs = spec_l1In.f := by kernel_rfl
theorem spec_l30None.eq : evFun spec_l30None.cx Try.f178 spec_l30None.ps spec_l30None.rs = spec_l30None.f := by kernel_rfl
theorem spec_Max.eq : evFun spec_Max.cx Try.f168 spec_Max.ps spec_Max.rs = spec_Max.f := by kernel_rfl
theorem laws_toAuthVector.eq : evFun laws_toAuthVector.cx Try.f92 laws_toAuthVector.ps laws_toAuthVector.rs = laws_toAuthVector.f := by kernel_rfl
end Go.Proofs.Ytaghlbodihgkmaa.XS
/- Each function, evaluated, is the plain Lean one. -/
set_option linter.unusedVariables false
set_option maxRecDepth 100000
namespace Go.Proofs.Ytaghlbodihgkmaa.XS
open Go Go.Proofs.XTv Go.Proofs.XF
theorem spec_DrawSubmitPacket.eq : evFun spec_DrawSubmitPacket.cx Try.f44 spec_DrawSubmitPacket.ps spec_DrawSubmitPacket.rs = spec_DrawSubmitPacket.f := by kernel_rfl
theorem spec_l30Signal.eq : evFun spec_l30Signal.cx Try.f142 spec_l30Signal.ps spec_l30Signal.rs = spec_l30Signal.f := by kernel_rfl
theorem spec_IsValidReceiver.eq : evFun spec_IsValidReceiver.cx Try.f65 spec_IsValidReceiver.ps spec_IsValidReceiver.rs = spec_IsValidReceiver.f := by kernel_rfl
theorem laws_FnExactNewDevice.eq : evFun laws_FnExactNewDevice.cx Try.f4 laws_FnExactNewDevice.ps laws_FnExactNewDevice.rs = laws_FnExactNewDevice.f := by kernel_rfl
theorem spec_l20Plan.eq : evFun spec_l20Plan.cx Try.f161 spec_l20Plan.ps spec_l20Plan.rs = spec_l20Plan.f := by kernel_rfl
theorem laws_toSession.eq : evFun laws_toSession.cx Try.f39 laws_toSession.ps laws_toSession.rs = laws_toSession.f := by kernel_rfl
theorem laws_eqNumberedPacketS.eq : evFun laws_eqNumberedPacketS.cx Try.f116 laws_eqNumberedPacketS.ps laws_eqNumberedPacketS.rs = laws_eqNumberedPacketS.f := by kernel_rfl
theorem spec_l15Bodies.eq : evFun spec_l15Bodies.cx Try.f156 spec_l15Bodies.ps spec_l15Bodies.rs = spec_l15Bodies.f := by kernel_rfl
theorem laws_eqIntS.eq : evFun laws_eqIntS.cx Try.f81 laws_eqIntS.ps laws_eqIntS.rs = laws_eqIntS.f := by kernel_rfl
theorem spec_SendPacket.eq : evFun spec_SendPacket.cx Try.f164 spec_SendPacket.ps spec_SendPacket.rs = spec_SendPacket.f := by kernel_rfl
theorem laws_toIntS.eq : evFun laws_toIntS.cx Try.f73 laws_toIntS.ps laws_toIntS.rs = laws_toIntS.f := by kernel_rfl
theorem laws_FnExactAcknowledgedPackets.eq : evFun laws_FnExactAcknowledgedPackets.cx Try.f8 laws_FnExactAcknowledgedPackets.ps laws_FnExactAcknowledgedPackets.rs = laws_FnExactAcknowledgedPackets.f := by kernel_rfl
theorem laws_FnExactOutstandingBytes.eq : evFun laws_FnExactOutstandingBytes.cx Try.f9 laws_FnExactOutstandingBytes.ps laws_FnExactOutstandingBytes.rs = laws_FnExactOutstandingBytes.f := by kernel_rfl
theorem laws_szSession.eq : evFun laws_szSession.cx Try.f37 laws_szSession.ps laws_szSession.rs = laws_szSession.f := by kernel_rfl
theorem laws_markDevice.eq : evFun laws_markDevice.cx Try.f19 laws_markDevice.ps laws_markDevice.rs = laws_markDevice.f := by kernel_rfl
theorem impl_SignalMAC.eq : evFun impl_SignalMAC.cx Try.f113 impl_SignalMAC.ps impl_SignalMAC.rs = impl_SignalMAC.f := by kernel_rfl
theorem spec_Mod.eq : evFun spec_Mod.cx Try.f184 spec_Mod.ps spec_Mod.rs = spec_Mod.f := by kernel_rfl
theorem laws_heldReceiveWindow.eq : evFun laws_heldReceiveWindow.cx Try.f61 laws_heldReceiveWindow.ps laws_heldReceiveWindow.rs = laws_heldReceiveWindow.f := by kernel_rfl
theorem laws_eqPagingState.eq : evFun laws_eqPagingState.cx Try.f77 laws_eqPagingState.ps laws_eqPagingState.rs = laws_eqPagingState.f := by kernel_rfl
theorem laws_eqNumberedPacket.eq : evFun laws_eqNumberedPacket.cx Try.f151 laws_eqNumberedPacket.ps laws_eqNumberedPacket.rs = laws_eqNumberedPacket.f := by kernel_rfl
theorem impl_IsValidSubscriberID.eq : evFun impl_IsValidSubscriberID.cx Try.f122 impl_IsValidSubscriberID.ps impl_IsValidSubscriberID.rs = impl_IsValidSubscriberID.f := by kernel_rfl
theorem impl_copyReceiver.eq : evFun impl_copyReceiver.cx Try.f130 impl_copyReceiver.ps impl_copyReceiver.rs = impl_copyReceiver.f := by kernel_rfl
theorem spec_l4Who.eq : evFun spec_l4Who.cx Try.f187 spec_l4Who.ps spec_l4Who.rs = spec_l4Who.f := by kernel_rfl
theorem laws_szSubscription.eq : evFun laws_szSubscription.cx Try.f25 laws_szSubscription.ps laws_szSubscription.rs = laws_szSubscription.f := by kernel_rfl
theorem laws_szByteS.eq : evFun laws_szByteS.cx Try.f158 laws_szByteS.ps laws_szByteS.rs = laws_szByteS.f := by kernel_rfl
theorem laws_toSubscription.eq : evFun laws_toSubscription.cx Try.f28 laws_toSubscription.ps laws_toSubscription.rs = laws_toSubscription.f := by kernel_rfl
theorem laws_szPayload.eq : evFun laws_szPayload.cx Try.f131 laws_szPayload.ps laws_szPayload.rs = laws_szPayload.f := by kernel_rfl
theorem laws_toNumberedPacket.eq : evFun laws_toNumberedPacket.cx Try.f153 laws_toNumberedPacket.ps laws_toNumberedPacket.rs = laws_toNumberedPacket.f := by kernel_rfl
theorem laws_toUSIM.eq : evFun laws_toUSIM.cx Try.f16 laws_toUSIM.ps laws_toUSIM.rs = laws_toUSIM.f := by kernel_rfl
theorem impl_IsValidKey.eq : evFun impl_IsValidKey.cx Try.f69 impl_IsValidKey.ps impl_IsValidKey.rs = impl_IsValidKey.f := by kernel_rfl
theorem impl_ResponseMatches.eq : evFun impl_ResponseMatches.cx Try.f114 impl_ResponseMatches.ps impl_ResponseMatches.rs = impl_ResponseMatches.f := by kernel_rfl
end Go.Proofs.Ytaghlbodihgkmaa.XS
/- Each function of the program does what the plain Lean one says. -/
set_option linter.unusedVariables false
set_option maxRecDepth 100000
namespace Go.Proofs.Ytaghlbodihgkmaa.XS
open Go Go.Proofs.XTv Go.Proofs.XF
def ConsOk (P : Program) (l : List (Nat × Con)) : Prop := ∀ p ∈ l, Sound P p.1 p.2
theorem con_nil {P : Program} : ConsOk P [] := fun p hp => by cases hp
theorem con_cons {P : Program} {n : Nat} {C : Con} {l : List (Nat × Con)} (h : Sound P n C) (hl : ConsOk P l) : ConsOk P ((n, C) :: l) := fun p hp => by
  rcases List.mem_cons.1 hp with rfl | hp
  · exact h
  · exact hl p hp
theorem con_look {P : Program} {l : List (Nat × Con)} (hl : ConsOk P l) {n : Nat} {C : Con} (h : look l n = some C) : Sound P n C := hl _ (look_mem h)
theorem spec_l1In.sound : Sound Try.prog 56 spec_l1In.con := by
  have h := fun_sound (Γ := spec_l1In.cx) (cx_ok.same rfl rfl) (fun n C h => con_look (con_nil) h) Try.checked.mixed Try.func56 (by kernel_rfl) (ps := spec_l1In.ps) (rs := spec_l1In.rs) (by kernel_rfl) (by kernel_rfl) (by kernel_rfl)
  rw [spec_l1In.eq] at h
  exact h
theorem spec_EventName.sound : Sound Try.prog 13 spec_EventName.con := by
  have h := fun_sound (Γ := spec_EventName.cx) (cx_ok.same rfl rfl) (fun n C h => con_look (con_cons spec_l1In.sound con_nil) h) Try.checked.mixed Try.func13 (by kernel_rfl) (ps := spec_EventName.ps) (rs := spec_EventName.rs) (by kernel_rfl) (by kernel_rfl) (by kernel_rfl)
  rw [spec_EventName.eq] at h
  exact h
theorem impl_EventName.sound : Sound Try.prog 14 impl_EventName.con := by
  have h := fun_sound (Γ := impl_EventName.cx) (cx_ok.same rfl rfl) (fun n C h => con_look (con_nil) h) Try.checked.mixed Try.func14 (by kernel_rfl) (ps := impl_EventName.ps) (rs := impl_EventName.rs) (by kernel_rfl) (by kernel_rfl) (by kernel_rfl)
  rw [impl_EventName.eq] at h
  exact h
theorem laws_FnExactEventName.sound : Sound Try.prog 3 laws_FnExactEventName.con := by
  have h := fun_sound (Γ := laws_FnExactEventName.cx) (cx_ok.same rfl rfl) (fun n C h => con_look (con_cons spec_EventName.sound (con_cons impl_EventName.sound con_nil)) h) Try.checked.mixed Try.func3 (by kernel_rfl) (ps := laws_FnExactEventName.ps) (rs := laws_FnExactEventName.rs) (by kernel_rfl) (by kernel_rfl) (by kernel_rfl)
  rw [laws_FnExactEventName.eq] at h
  exact h
theorem spec_NewDevice.sound : Sound Try.prog 15 spec_NewDevice.con := by
  have h := fun_sound (Γ := spec_NewDevice.cx) (cx_ok.same rfl rfl) (fun n C h => con_look (con_nil) h) Try.checked.mixed Try.func15 (by kernel_rfl) (ps := spec_NewDevice.ps) (rs := spec_NewDevice.rs) (by kernel_rfl) (by kernel_rfl) (by kernel_rfl)
  rw [spec_NewDevice.eq] at h
  exact h
theorem laws_toSubscriberID.sound : Sound Try.prog 57 laws_toSubscriberID.con := by
  have h := fun_sound (Γ := laws_toSubscriberID.cx) (cx_ok.same rfl rfl) (fun n C h => con_look (con_nil) h) Try.checked.mixed Try.func57 (by kernel_rfl) (ps := laws_toSubscriberID.ps) (rs := laws_toSubscriberID.rs) (by kernel_rfl) (by kernel_rfl) (by kernel_rfl)
  rw [laws_toSubscriberID.eq] at h
  exact h
theorem laws_toUSIM.sound : Sound Try.prog 16 laws_toUSIM.con := by
  have h := fun_sound (Γ := laws_toUSIM.cx) (cx_ok.same rfl rfl) (fun n C h => con_look (con_cons laws_toSubscriberID.sound con_nil) h) Try.checked.mixed Try.func16 (by kernel_rfl) (ps := laws_toUSIM.ps) (rs := laws_toUSIM.rs) (by kernel_rfl) (by kernel_rfl) (by kernel_rfl)
  rw [laws_toUSIM.eq] at h
  exact h
theorem impl_NewDevice.sound : Sound Try.prog 17 impl_NewDevice.con := by
  have h := fun_sound (Γ := impl_NewDevice.cx) (cx_ok.same rfl rfl) (fun n C h => con_look (con_nil) h) Try.checked.mixed Try.func17 (by kernel_rfl) (ps := impl_NewDevice.ps) (rs := impl_NewDevice.rs) (by kernel_rfl) (by kernel_rfl) (by kernel_rfl)
  rw [impl_NewDevice.eq] at h
  exact h
theorem laws_eqSubscriberID.sound : Sound Try.prog 115 laws_eqSubscriberID.con := by
  have h := fun_sound (Γ := laws_eqSubscriberID.cx) (cx_ok.same rfl rfl) (fun n C h => con_look (con_nil) h) Try.checked.mixed Try.func115 (by kernel_rfl) (ps := laws_eqSubscriberID.ps) (rs := laws_eqSubscriberID.rs) (by kernel_rfl) (by kernel_rfl) (by kernel_rfl)
  rw [laws_eqSubscriberID.eq] at h
  exact h
theorem laws_eqUSIM.sound : Sound Try.prog 58 laws_eqUSIM.con := by
  have h := fun_sound (Γ := laws_eqUSIM.cx) (cx_ok.same rfl rfl) (fun n C h => con_look (con_cons laws_eqSubscriberID.sound con_nil) h) Try.checked.mixed Try.func58 (by kernel_rfl) (ps := laws_eqUSIM.ps) (rs := laws_eqUSIM.rs) (by kernel_rfl) (by kernel_rfl) (by kernel_rfl)
  rw [laws_eqUSIM.eq] at h
  exact h
theorem laws_eqByteS.sound : Sound Try.prog 154 laws_eqByteS.con := by
  have h := fun_sound (Γ := laws_eqByteS.cx) (cx_ok.same rfl rfl) (fun n C h => con_look (con_nil) h) Try.checked.mixed Try.func154 (by kernel_rfl) (ps := laws_eqByteS.ps) (rs := laws_eqByteS.rs) (by kernel_rfl) (by kernel_rfl) (by kernel_rfl)
  rw [laws_eqByteS.eq] at h
  exact h
theorem laws_eqPayload.sound : Sound Try.prog 125 laws_eqPayload.con := by
  have h := fun_sound (Γ := laws_eqPayload.cx) (cx_ok.same rfl rfl) (fun n C h => con_look (con_cons laws_eqByteS.sound con_nil) h) Try.checked.mixed Try.func125 (by kernel_rfl) (ps := laws_eqPayload.ps) (rs := laws_eqPayload.rs) (by kernel_rfl) (by kernel_rfl) (by kernel_rfl)
  rw [laws_eqPayload.eq] at h
  exact h
theorem laws_eqPayloadS.sound : Sound Try.prog 78 laws_eqPayloadS.con := by
  have h := fun_sound (Γ := laws_eqPayloadS.cx) (cx_ok.same rfl rfl) (fun n C h => con_look (con_cons laws_eqPayload.sound con_nil) h) Try.checked.mixed Try.func78 (by kernel_rfl) (ps := laws_eqPayloadS.ps) (rs := laws_eqPayloadS.rs) (by kernel_rfl) (by kernel_rfl) (by kernel_rfl)
  rw [laws_eqPayloadS.eq] at h
  exact h
theorem laws_eqNumberedPacket.sound : Sound Try.prog 151 laws_eqNumberedPacket.con := by
  have h := fun_sound (Γ := laws_eqNumberedPacket.cx) (cx_ok.same rfl rfl) (fun n C h => con_look (con_cons laws_eqByteS.sound con_nil) h) Try.checked.mixed Try.func151 (by kernel_rfl) (ps := laws_eqNumberedPacket.ps) (rs := laws_eqNumberedPacket.rs) (by kernel_rfl) (by kernel_rfl) (by kernel_rfl)
  rw [laws_eqNumberedPacket.eq] at h
  exact h
theorem laws_eqNumberedPacketS.sound : Sound Try.prog 116 laws_eqNumberedPacketS.con := by
  have h := fun_sound (Γ := laws_eqNumberedPacketS.cx) (cx_ok.same rfl rfl) (fun n C h => con_look (con_cons laws_eqNumberedPacket.sound con_nil) h) Try.checked.mixed Try.func116 (by kernel_rfl) (ps := laws_eqNumberedPacketS.ps) (rs := laws_eqNumberedPacketS.rs) (by kernel_rfl) (by kernel_rfl) (by kernel_rfl)
  rw [laws_eqNumberedPacketS.eq] at h
  exact h
theorem laws_eqReceiveWindow.sound : Sound Try.prog 59 laws_eqReceiveWindow.con := by
  have h := fun_sound (Γ := laws_eqReceiveWindow.cx) (cx_ok.same rfl rfl) (fun n C h => con_look (con_cons laws_eqPayloadS.sound (con_cons laws_eqNumberedPacketS.sound con_nil)) h) Try.checked.mixed Try.func59 (by kernel_rfl) (ps := laws_eqReceiveWindow.ps) (rs := laws_eqReceiveWindow.rs) (by kernel_rfl) (by kernel_rfl) (by kernel_rfl)
  rw [laws_eqReceiveWindow.eq] at h
  exact h
theorem laws_eqDevice.sound : Sound Try.prog 18 laws_eqDevice.con := by
  have h := fun_sound (Γ := laws_eqDevice.cx) (cx_ok.same rfl rfl) (fun n C h => con_look (con_cons laws_eqUSIM.sound (con_cons laws_eqReceiveWindow.sound con_nil)) h) Try.checked.mixed Try.func18 (by kernel_rfl) (ps := laws_eqDevice.ps) (rs := laws_eqDevice.rs) (by kernel_rfl) (by kernel_rfl) (by kernel_rfl)
  rw [laws_eqDevice.eq] at h
  exact h
theorem laws_markByteS.sound : Sound Try.prog 126 laws_markByteS.con := by
  have h := fun_sound (Γ := laws_markByteS.cx) (cx_ok.same rfl rfl) (fun n C h => con_look (con_nil) h) Try.checked.mixed Try.func126 (by kernel_rfl) (ps := laws_markByteS.ps) (rs := laws_markByteS.rs) (by kernel_rfl) (by kernel_rfl) (by kernel_rfl)
  rw [laws_markByteS.eq] at h
  exact h
theorem laws_markPayloadS.sound : Sound Try.prog 83 laws_markPayloadS.con := by
  have h := fun_sound (Γ := laws_markPayloadS.cx) (cx_ok.same rfl rfl) (fun n C h => con_look (con_cons laws_markByteS.sound con_nil) h) Try.checked.mixed Try.func83 (by kernel_rfl) (ps := laws_markPayloadS.ps) (rs := laws_markPayloadS.rs) (by kernel_rfl) (by kernel_rfl) (by kernel_rfl)
  rw [laws_markPayloadS.eq] at h
  exact h
theorem laws_markNumberedPacketS.sound : Sound Try.prog 117 laws_markNumberedPacketS.con := by
  have h := fun_sound (Γ := laws_markNumberedPacketS.cx) (cx_ok.same rfl rfl) (fun n C h => con_look (con_cons laws_markByteS.sound con_nil) h) Try.checked.mixed Try.func117 (by kernel_rfl) (ps := laws_markNumberedPacketS.ps) (rs := laws_markNumberedPacketS.rs) (by kernel_rfl) (by kernel_rfl) (by kernel_rfl)
  rw [laws_markNumberedPacketS.eq] at h
  exact h
theorem laws_markReceiveWindow.sound : Sound Try.prog 60 laws_markReceiveWindow.con := by
  have h := fun_sound (Γ := laws_markReceiveWindow.cx) (cx_ok.same rfl rfl) (fun n C h => con_look (con_cons laws_markPayloadS.sound (con_cons laws_markNumberedPacketS.sound con_nil)) h) Try.checked.mixed Try.func60 (by kernel_rfl) (ps := laws_markReceiveWindow.ps) (rs := laws_markReceiveWindow.rs) (by kernel_rfl) (by kernel_rfl) (by kernel_rfl)
  rw [laws_markReceiveWindow.eq] at h
  exact h
theorem laws_markDevice.sound : Sound Try.prog 19 laws_markDevice.con := by
  have h := fun_sound (Γ := laws_markDevice.cx) (cx_ok.same rfl rfl) (fun n C h => con_look (con_cons laws_markReceiveWindow.sound con_nil) h) Try.checked.mixed Try.func19 (by kernel_rfl) (ps := laws_markDevice.ps) (rs := laws_markDevice.rs) (by kernel_rfl) (by kernel_rfl) (by kernel_rfl)
  rw [laws_markDevice.eq] at h
  exact h
theorem laws_heldByteS.sound : Sound Try.prog 128 laws_heldByteS.con := by
  have h := fun_sound (Γ := laws_heldByteS.cx) (cx_ok.same rfl rfl) (fun n C h => con_look (con_nil) h) Try.checked.mixed Try.func128 (by kernel_rfl) (ps := laws_heldByteS.ps) (rs := laws_heldByteS.rs) (by kernel_rfl) (by kernel_rfl) (by kernel_rfl)
  rw [laws_heldByteS.eq] at h
  exact h
theorem laws_heldPayloadS.sound : Sound Try.prog 86 laws_heldPayloadS.con := by
  have h := fun_sound (Γ := laws_heldPayloadS.cx) (cx_ok.same rfl rfl) (fun n C h => con_look (con_cons laws_heldByteS.sound con_nil) h) Try.checked.mixed Try.func86 (by kernel_rfl) (ps := laws_heldPayloadS.ps) (rs := laws_heldPayloadS.rs) (by kernel_rfl) (by kernel_rfl) (by kernel_rfl)
  rw [laws_heldPayloadS.eq] at h
  exact h
theorem laws_heldNumberedPacketS.sound : Sound Try.prog 118 laws_heldNumberedPacketS.con := by
  have h := fun_sound (Γ := laws_heldNumberedPacketS.cx) (cx_ok.same rfl rfl) (fun n C h => con_look (con_cons laws_heldByteS.sound con_nil) h) Try.checked.mixed Try.func118 (by kernel_rfl) (ps := laws_heldNumberedPacketS.ps) (rs := laws_heldNumberedPacketS.rs) (by kernel_rfl) (by kernel_rfl) (by kernel_rfl)
  rw [laws_heldNumberedPacketS.eq] at h
  exact h
theorem laws_heldReceiveWindow.sound : Sound Try.prog 61 laws_heldReceiveWindow.con := by
  have h := fun_sound (Γ := laws_heldReceiveWindow.cx) (cx_ok.same rfl rfl) (fun n C h => con_look (con_cons laws_heldPayloadS.sound (con_cons laws_heldNumberedPacketS.sound con_nil)) h) Try.checked.mixed Try.func61 (by kernel_rfl) (ps := laws_heldReceiveWindow.ps) (rs := laws_heldReceiveWindow.rs) (by kernel_rfl) (by kernel_rfl) (by kernel_rfl)
  rw [laws_heldReceiveWindow.eq] at h
  exact h
theorem laws_heldDevice.sound : Sound Try.prog 20 laws_heldDevice.con := by
  have h := fun_sound (Γ := laws_heldDevice.cx) (cx_ok.same rfl rfl) (fun n C h => con_look (con_cons laws_heldReceiveWindow.sound con_nil) h) Try.checked.mixed Try.func20 (by kernel_rfl) (ps := laws_heldDevice.ps) (rs := laws_heldDevice.rs) (by kernel_rfl) (by kernel_rfl) (by kernel_rfl)
  rw [laws_heldDevice.eq] at h
  exact h
theorem laws_FnExactNewDevice.sound : Sound Try.prog 4 laws_FnExactNewDevice.con := by
  have h := fun_sound (Γ := laws_FnExactNewDevice.cx) (cx_ok.same rfl rfl) (fun n C h => con_look (con_cons spec_NewDevice.sound (con_cons laws_toUSIM.sound (con_cons impl_NewDevice.sound (con_cons laws_eqDevice.sound (con_cons laws_markDevice.sound (con_cons laws_heldDevice.sound con_nil)))))) h) Try.checked.mixed Try.func4 (by kernel_rfl) (ps := laws_FnExactNewDevice.ps) (rs := laws_FnExactNewDevice.rs) (by kernel_rfl) (by kernel_rfl) (by kernel_rfl)
  rw [laws_FnExactNewDevice.eq] at h
  exact h
theorem laws_szByteS.sound : Sound Try.prog 158 laws_szByteS.con := by
  have h := fun_sound (Γ := laws_szByteS.cx) (cx_ok.same rfl rfl) (fun n C h => con_look (con_nil) h) Try.checked.mixed Try.func158 (by kernel_rfl) (ps := laws_szByteS.ps) (rs := laws_szByteS.rs) (by kernel_rfl) (by kernel_rfl) (by kernel_rfl)
  rw [laws_szByteS.eq] at h
  exact h
theorem laws_szPayload.sound : Sound Try.prog 131 laws_szPayload.con := by
  have h := fun_sound (Γ := laws_szPayload.cx) (cx_ok.same rfl rfl) (fun n C h => con_look (con_cons laws_szByteS.sound con_nil) h) Try.checked.mixed Try.func131 (by kernel_rfl) (ps := laws_szPayload.ps) (rs := laws_szPayload.rs) (by kernel_rfl) (by kernel_rfl) (by kernel_rfl)
  rw [laws_szPayload.eq] at h
  exact h
theorem laws_szPayloadS.sound : Sound Try.prog 90 laws_szPayloadS.con := by
  have h := fun_sound (Γ := laws_szPayloadS.cx) (cx_ok.same rfl rfl) (fun n C h => con_look (con_cons laws_szPayload.sound con_nil) h) Try.checked.mixed Try.func90 (by kernel_rfl) (ps := laws_szPayloadS.ps) (rs := laws_szPayloadS.rs) (by kernel_rfl) (by kernel_rfl) (by kernel_rfl)
  rw [laws_szPayloadS.eq] at h
  exact h
theorem laws_szNumberedPacket.sound : Sound Try.prog 152 laws_szNumberedPacket.con := by
  have h := fun_sound (Γ := laws_szNumberedPacket.cx) (cx_ok.same rfl rfl) (fun n C h => con_look (con_cons laws_szByteS.sound con_nil) h) Try.checked.mixed Try.func152 (by kernel_rfl) (ps := laws_szNumberedPacket.ps) (rs := laws_szNumberedPacket.rs) (by kernel_rfl) (by kernel_rfl) (by kernel_rfl)
  rw [laws_szNumberedPacket.eq] at h
  exact h
theorem laws_szNumberedPacketS.sound : Sound Try.prog 119 laws_szNumberedPacketS.con := by
  have h := fun_sound (Γ := laws_szNumberedPacketS.cx) (cx_ok.same rfl rfl) (fun n C h => con_look (con_cons laws_szNumberedPacket.sound con_nil) h) Try.checked.mixed Try.func119 (by kernel_rfl) (ps := laws_szNumberedPacketS.ps) (rs := laws_szNumberedPacketS.rs) (by kernel_rfl) (by kernel_rfl) (by kernel_rfl)
  rw [laws_szNumberedPacketS.eq] at h
  exact h
theorem laws_szReceiveWindow.sound : Sound Try.prog 62 laws_szReceiveWindow.con := by
  have h := fun_sound (Γ := laws_szReceiveWindow.cx) (cx_ok.same rfl rfl) (fun n C h => con_look (con_cons laws_szPayloadS.sound (con_cons laws_szNumberedPacketS.sound con_nil)) h) Try.checked.mixed Try.func62 (by kernel_rfl) (ps := laws_szReceiveWindow.ps) (rs := laws_szReceiveWindow.rs) (by kernel_rfl) (by kernel_rfl) (by kernel_rfl)
  rw [laws_szReceiveWindow.eq] at h
  exact h
theorem laws_szDevice.sound : Sound Try.prog 21 laws_szDevice.con := by
  have h := fun_sound (Γ := laws_szDevice.cx) (cx_ok.same rfl rfl) (fun n C h => con_look (con_cons laws_szReceiveWindow.sound con_nil) h) Try.checked.mixed Try.func21 (by kernel_rfl) (ps := laws_szDevice.ps) (rs := laws_szDevice.rs) (by kernel_rfl) (by kernel_rfl) (by kernel_rfl)
  rw [laws_szDevice.eq] at h
  exact h
theorem spec_IsValidKey.sound : Sound Try.prog 63 spec_IsValidKey.con := by
  have h := fun_sound (Γ := spec_IsValidKey.cx) (cx_ok.same rfl rfl) (fun n C h => con_look (con_cons spec_l1In.sound con_nil) h) Try.checked.mixed Try.func63 (by kernel_rfl) (ps := spec_IsValidKey.ps) (rs := spec_IsValidKey.rs) (by kernel_rfl) (by kernel_rfl) (by kernel_rfl)
  rw [spec_IsValidKey.eq] at h
  exact h
theorem spec_IsValidSubscriberID.sound : Sound Try.prog 120 spec_IsValidSubscriberID.con := by
  have h := fun_sound (Γ := spec_IsValidSubscriberID.cx) (cx_ok.same rfl rfl) (fun n C h => con_look (con_cons spec_l1In.sound con_nil) h) Try.checked.mixed Try.func120 (by kernel_rfl) (ps := spec_IsValidSubscriberID.ps) (rs := spec_IsValidSubscriberID.rs) (by kernel_rfl) (by kernel_rfl) (by kernel_rfl)
  rw [spec_IsValidSubscriberID.eq] at h
  exact h
theorem spec_IsValidUSIM.sound : Sound Try.prog 64 spec_IsValidUSIM.con := by
  have h := fun_sound (Γ := spec_IsValidUSIM.cx) (cx_ok.same rfl rfl) (fun n C h => con_look (con_cons spec_l1In.sound (con_cons spec_IsValidKey.sound (con_cons spec_IsValidSubscriberID.sound con_nil))) h) Try.checked.mixed Try.func64 (by kernel_rfl) (ps := spec_IsValidUSIM.ps) (rs := spec_IsValidUSIM.rs) (by kernel_rfl) (by kernel_rfl) (by kernel_rfl)
  rw [spec_IsValidUSIM.eq] at h
  exact h
theorem spec_IsValidReceiver.sound : Sound Try.prog 65 spec_IsValidReceiver.con := by
  have h := fun_sound (Γ := spec_IsValidReceiver.cx) (cx_ok.same rfl rfl) (fun n C h => con_look (con_cons spec_l1In.sound con_nil) h) Try.checked.mixed Try.func65 (by kernel_rfl) (ps := spec_IsValidReceiver.ps) (rs := spec_IsValidReceiver.rs) (by kernel_rfl) (by kernel_rfl) (by kernel_rfl)
  rw [spec_IsValidReceiver.eq] at h
  exact h
theorem spec_IsValidDevice.sound : Sound Try.prog 22 spec_IsValidDevice.con := by
  have h := fun_sound (Γ := spec_IsValidDevice.cx) (cx_ok.same rfl rfl) (fun n C h => con_look (con_cons spec_l1In.sound (con_cons spec_IsValidKey.sound (con_cons spec_IsValidUSIM.sound (con_cons spec_IsValidReceiver.sound con_nil)))) h) Try.checked.mixed Try.func22 (by kernel_rfl) (ps := spec_IsValidDevice.ps) (rs := spec_IsValidDevice.rs) (by kernel_rfl) (by kernel_rfl) (by kernel_rfl)
  rw [spec_IsValidDevice.eq] at h
  exact h
theorem laws_toByteS.sound : Sound Try.prog 159 laws_toByteS.con := by
  have h := fun_sound (Γ := laws_toByteS.cx) (cx_ok.same rfl rfl) (fun n C h => con_look (con_nil) h) Try.checked.mixed Try.func159 (by kernel_rfl) (ps := laws_toByteS.ps) (rs := laws_toByteS.rs) (by kernel_rfl) (by kernel_rfl) (by kernel_rfl)
  rw [laws_toByteS.eq] at h
  exact h
theorem laws_toPayload.sound : Sound Try.prog 132 laws_toPayload.con := by
  have h := fun_sound (Γ := laws_toPayload.cx) (cx_ok.same rfl rfl) (fun n C h => con_look (con_cons laws_toByteS.sound con_nil) h) Try.checked.mixed Try.func132 (by kernel_rfl) (ps := laws_toPayload.ps) (rs := laws_toPayload.rs) (by kernel_rfl) (by kernel_rfl) (by kernel_rfl)
  rw [laws_toPayload.eq] at h
  exact h
theorem laws_toPayloadS.sound : Sound Try.prog 94 laws_toPayloadS.con := by
  have h := fun_sound (Γ := laws_toPayloadS.cx) (cx_ok.same rfl rfl) (fun n C h => con_look (con_cons laws_toPayload.sound con_nil) h) Try.checked.mixed Try.func94 (by kernel_rfl) (ps := laws_toPayloadS.ps) (rs := laws_toPayloadS.rs) (by kernel_rfl) (by kernel_rfl) (by kernel_rfl)
  rw [laws_toPayloadS.eq] at h
  exact h
theorem laws_toNumberedPacket.sound : Sound Try.prog 153 laws_toNumberedPacket.con := by
  have h := fun_sound (Γ := laws_toNumberedPacket.cx) (cx_ok.same rfl rfl) (fun n C h => con_look (con_cons laws_toByteS.sound con_nil) h) Try.checked.mixed Try.func153 (by kernel_rfl) (ps := laws_toNumberedPacket.ps) (rs := laws_toNumberedPacket.rs) (by kernel_rfl) (by kernel_rfl) (by kernel_rfl)
  rw [laws_toNumberedPacket.eq] at h
  exact h
theorem laws_toNumberedPacketS.sound : Sound Try.prog 121 laws_toNumberedPacketS.con := by
  have h := fun_sound (Γ := laws_toNumberedPacketS.cx) (cx_ok.same rfl rfl) (fun n C h => con_look (con_cons laws_toNumberedPacket.sound con_nil) h) Try.checked.mixed Try.func121 (by kernel_rfl) (ps := laws_toNumberedPacketS.ps) (rs := laws_toNumberedPacketS.rs) (by kernel_rfl) (by kernel_rfl) (by kernel_rfl)
  rw [laws_toNumberedPacketS.eq] at h
  exact h
theorem laws_toReceiveWindow.sound : Sound Try.prog 66 laws_toReceiveWindow.con := by
  have h := fun_sound (Γ := laws_toReceiveWindow.cx) (cx_ok.same rfl rfl) (fun n C h => con_look (con_cons laws_toPayloadS.sound (con_cons laws_toNumberedPacketS.sound con_nil)) h) Try.checked.mixed Try.func66 (by kernel_rfl) (ps := laws_toReceiveWindow.ps) (rs := laws_toReceiveWindow.rs) (by kernel_rfl) (by kernel_rfl) (by kernel_rfl)
  rw [laws_toReceiveWindow.eq] at h
  exact h
theorem laws_toDevice.sound : Sound Try.prog 23 laws_toDevice.con := by
  have h := fun_sound (Γ := laws_toDevice.cx) (cx_ok.same rfl rfl) (fun n C h => con_look (con_cons laws_toUSIM.sound (con_cons laws_toReceiveWindow.sound con_nil)) h) Try.checked.mixed Try.func23 (by kernel_rfl) (ps := laws_toDevice.ps) (rs := laws_toDevice.rs) (by kernel_rfl) (by kernel_rfl) (by kernel_rfl)
  rw [laws_toDevice.eq] at h
  exact h
theorem impl_InRange.sound : Sound Try.prog 68 impl_InRange.con := by
  have h := fun_sound (Γ := impl_InRange.cx) (cx_ok.same rfl rfl) (fun n C h => con_look (con_nil) h) Try.checked.mixed Try.func68 (by kernel_rfl) (ps := impl_InRange.ps) (rs := impl_InRange.rs) (by kernel_rfl) (by kernel_rfl) (by kernel_rfl)
  rw [impl_InRange.eq] at h
  exact h
theorem impl_IsValidKey.sound : Sound Try.prog 69 impl_IsValidKey.con := by
  have h := fun_sound (Γ := impl_IsValidKey.cx) (cx_ok.same rfl rfl) (fun n C h => con_look (con_cons impl_InRange.sound con_nil) h) Try.checked.mixed Try.func69 (by kernel_rfl) (ps := impl_IsValidKey.ps) (rs := impl_IsValidKey.rs) (by kernel_rfl) (by kernel_rfl) (by kernel_rfl)
  rw [impl_IsValidKey.eq] at h
  exact h
theorem impl_IsValidSubscriberID.sound : Sound Try.prog 122 impl_IsValidSubscriberID.con := by
  have h := fun_sound (Γ := impl_IsValidSubscriberID.cx) (cx_ok.same rfl rfl) (fun n C h => con_look (con_cons impl_InRange.sound con_nil) h) Try.checked.mixed Try.func122 (by kernel_rfl) (ps := impl_IsValidSubscriberID.ps) (rs := impl_IsValidSubscriberID.rs) (by kernel_rfl) (by kernel_rfl) (by kernel_rfl)
  rw [impl_IsValidSubscriberID.eq] at h
  exact h
theorem impl_IsValidUSIM.sound : Sound Try.prog 67 impl_IsValidUSIM.con := by
  have h := fun_sound (Γ := impl_IsValidUSIM.cx) (cx_ok.same rfl rfl) (fun n C h => con_look (con_cons impl_InRange.sound (con_cons impl_IsValidKey.sound (con_cons impl_IsValidSubscriberID.sound con_nil))) h) Try.checked.mixed Try.func67 (by kernel_rfl) (ps := impl_IsValidUSIM.ps) (rs := impl_IsValidUSIM.rs) (by kernel_rfl) (by kernel_rfl) (by kernel_rfl)
  rw [impl_IsValidUSIM.eq] at h
  exact h
theorem impl_fitPayload.sound : Sound Try.prog 123 impl_fitPayload.con := by
  have h := fun_sound (Γ := impl_fitPayload.cx) (cx_ok.same rfl rfl) (fun n C h => con_look (con_nil) h) Try.checked.mixed Try.func123 (by kernel_rfl) (ps := impl_fitPayload.ps) (rs := impl_fitPayload.rs) (by kernel_rfl) (by kernel_rfl) (by kernel_rfl)
  rw [impl_fitPayload.eq] at h
  exact h
theorem impl_IsValidReceiver.sound : Sound Try.prog 70 impl_IsValidReceiver.con := by
  have h := fun_sound (Γ := impl_IsValidReceiver.cx) (cx_ok.same rfl rfl) (fun n C h => con_look (con_cons impl_InRange.sound (con_cons impl_fitPayload.sound con_nil)) h) Try.checked.mixed Try.func70 (by kernel_rfl) (ps := impl_IsValidReceiver.ps) (rs := impl_IsValidReceiver.rs) (by kernel_rfl) (by kernel_rfl) (by kernel_rfl)
  rw [impl_IsValidReceiver.eq] at h
  exact h
theorem impl_IsValidDevice.sound : Sound Try.prog 24 impl_IsValidDevice.con := by
  have h := fun_sound (Γ := impl_IsValidDevice.cx) (cx_ok.same rfl rfl) (fun n C h => con_look (con_cons impl_IsValidUSIM.sound (con_cons impl_InRange.sound (con_cons impl_IsValidKey.sound (con_cons impl_IsValidReceiver.sound con_nil)))) h) Try.checked.mixed Try.func24 (by kernel_rfl) (ps := impl_IsValidDevice.ps) (rs := impl_IsValidDevice.rs) (by kernel_rfl) (by kernel_rfl) (by kernel_rfl)
  rw [impl_IsValidDevice.eq] at h
  exact h
theorem laws_FnExactIsValidDevice.sound : Sound Try.prog 5 laws_FnExactIsValidDevice.con := by
  have h := fun_sound (Γ := laws_FnExactIsValidDevice.cx) (cx_ok.same rfl rfl) (fun n C h => con_look (con_cons laws_eqDevice.sound (con_cons laws_szDevice.sound (con_cons spec_IsValidDevice.sound (con_cons laws_toDevice.sound (con_cons impl_IsValidDevice.sound con_nil))))) h) Try.checked.mixed Try.func5 (by kernel_rfl) (ps := laws_FnExactIsValidDevice.ps) (rs := laws_FnExactIsValidDevice.rs) (by kernel_rfl) (by kernel_rfl) (by kernel_rfl)
  rw [laws_FnExactIsValidDevice.eq] at h
  exact h
theorem laws_szIntS.sound : Sound Try.prog 71 laws_szIntS.con := by
  have h := fun_sound (Γ := laws_szIntS.cx) (cx_ok.same rfl rfl) (fun n C h => con_look (con_nil) h) Try.checked.mixed Try.func71 (by kernel_rfl) (ps := laws_szIntS.ps) (rs := laws_szIntS.rs) (by kernel_rfl) (by kernel_rfl) (by kernel_rfl)
  rw [laws_szIntS.eq] at h
  exact h
theorem laws_szSubscription.sound : Sound Try.prog 25 laws_szSubscription.con := by
  have h := fun_sound (Γ := laws_szSubscription.cx) (cx_ok.same rfl rfl) (fun n C h => con_look (con_cons laws_szIntS.sound con_nil) h) Try.checked.mixed Try.func25 (by kernel_rfl) (ps := laws_szSubscription.ps) (rs := laws_szSubscription.rs) (by kernel_rfl) (by kernel_rfl) (by kernel_rfl)
  rw [laws_szSubscription.eq] at h
  exact h
theorem spec_l30Plan.sound : Sound Try.prog 72 spec_l30Plan.con := by
  have h := fun_sound (Γ := spec_l30Plan.cx) (cx_ok.same rfl rfl) (fun n C h => con_look (con_nil) h) Try.checked.mixed Try.func72 (by kernel_rfl) (ps := spec_l30Plan.ps) (rs := spec_l30Plan.rs) (by kernel_rfl) (by kernel_rfl) (by kernel_rfl)
  rw [spec_l30Plan.eq] at h
  exact h
theorem spec_NewSession.sound : Sound Try.prog 26 spec_NewSession.con := by
  have h := fun_sound (Γ := spec_NewSession.cx) (cx_ok.same rfl rfl) (fun n C h => con_look (con_cons spec_l30Plan.sound con_nil) h) Try.checked.mixed Try.func26 (by kernel_rfl) (ps := spec_NewSession.ps) (rs := spec_NewSession.rs) (by kernel_rfl) (by kernel_rfl) (by kernel_rfl)
  rw [spec_NewSession.eq] at h
  exact h
theorem laws_toSubscriberRecord.sound : Sound Try.prog 27 laws_toSubscriberRecord.con := by
  have h := fun_sound (Γ := laws_toSubscriberRecord.cx) (cx_ok.same rfl rfl) (fun n C h => con_look (con_cons laws_toSubscriberID.sound con_nil) h) Try.checked.mixed Try.func27 (by kernel_rfl) (ps := laws_toSubscriberRecord.ps) (rs := laws_toSubscriberRecord.rs) (by kernel_rfl) (by kernel_rfl) (by kernel_rfl)
  rw [laws_toSubscriberRecord.eq] at h
  exact h
theorem laws_toIntS.sound : Sound Try.prog 73 laws_toIntS.con := by
  have h := fun_sound (Γ := laws_toIntS.cx) (cx_ok.same rfl rfl) (fun n C h => con_look (con_nil) h) Try.checked.mixed Try.func73 (by kernel_rfl) (ps := laws_toIntS.ps) (rs := laws_toIntS.rs) (by kernel_rfl) (by kernel_rfl) (by kernel_rfl)
  rw [laws_toIntS.eq] at h
  exact h
theorem laws_toSubscription.sound : Sound Try.prog 28 laws_toSubscription.con := by
  have h := fun_sound (Γ := laws_toSubscription.cx) (cx_ok.same rfl rfl) (fun n C h => con_look (con_cons laws_toIntS.sound con_nil) h) Try.checked.mixed Try.func28 (by kernel_rfl) (ps := laws_toSubscription.ps) (rs := laws_toSubscription.rs) (by kernel_rfl) (by kernel_rfl) (by kernel_rfl)
  rw [laws_toSubscription.eq] at h
  exact h
theorem impl_copyInts.sound : Sound Try.prog 124 impl_copyInts.con := by
  have h := fun_sound (Γ := impl_copyInts.cx) (cx_ok.same rfl rfl) (fun n C h => con_look (con_nil) h) Try.checked.mixed Try.func124 (by kernel_rfl) (ps := impl_copyInts.ps) (rs := impl_copyInts.rs) (by kernel_rfl) (by kernel_rfl) (by kernel_rfl)
  rw [impl_copyInts.eq] at h
  exact h
theorem impl_copySubscription.sound : Sound Try.prog 74 impl_copySubscription.con := by
  have h := fun_sound (Γ := impl_copySubscription.cx) (cx_ok.same rfl rfl) (fun n C h => con_look (con_cons impl_copyInts.sound con_nil) h) Try.checked.mixed Try.func74 (by kernel_rfl) (ps := impl_copySubscription.ps) (rs := impl_copySubscription.rs) (by kernel_rfl) (by kernel_rfl) (by kernel_rfl)
  rw [impl_copySubscription.eq] at h
  exact h
theorem impl_NewSession.sound : Sound Try.prog 29 impl_NewSession.con := by
  have h := fun_sound (Γ := impl_NewSession.cx) (cx_ok.same rfl rfl) (fun n C h => con_look (con_cons impl_copySubscription.sound con_nil) h) Try.checked.mixed Try.func29 (by kernel_rfl) (ps := impl_NewSession.ps) (rs := impl_NewSession.rs) (by kernel_rfl) (by kernel_rfl) (by kernel_rfl)
  rw [impl_NewSession.eq] at h
  exact h
theorem laws_eqIntS.sound : Sound Try.prog 81 laws_eqIntS.con := by
  have h := fun_sound (Γ := laws_eqIntS.cx) (cx_ok.same rfl rfl) (fun n C h => con_look (con_nil) h) Try.checked.mixed Try.func81 (by kernel_rfl) (ps := laws_eqIntS.ps) (rs := laws_eqIntS.rs) (by kernel_rfl) (by kernel_rfl) (by kernel_rfl)
  rw [laws_eqIntS.eq] at h
  exact h
theorem laws_eqSubscription.sound : Sound Try.prog 31 laws_eqSubscription.con := by
  have h := fun_sound (Γ := laws_eqSubscription.cx) (cx_ok.same rfl rfl) (fun n C h => con_look (con_cons laws_eqIntS.sound con_nil) h) Try.checked.mixed Try.func31 (by kernel_rfl) (ps := laws_eqSubscription.ps) (rs := laws_eqSubscription.rs) (by kernel_rfl) (by kernel_rfl) (by kernel_rfl)
  rw [laws_eqSubscription.eq] at h
  exact h
theorem laws_eqSubscriberRecord.sound : Sound Try.prog 75 laws_eqSubscriberRecord.con := by
  have h := fun_sound (Γ := laws_eqSubscriberRecord.cx) (cx_ok.same rfl rfl) (fun n C h => con_look (con_cons laws_eqSubscriberID.sound con_nil) h) Try.checked.mixed Try.func75 (by kernel_rfl) (ps := laws_eqSubscriberRecord.ps) (rs := laws_eqSubscriberRecord.rs) (by kernel_rfl) (by kernel_rfl) (by kernel_rfl)
  rw [laws_eqSubscriberRecord.eq] at h
  exact h
theorem laws_eqAuthVector.sound : Sound Try.prog 76 laws_eqAuthVector.con := by
  have h := fun_sound (Γ := laws_eqAuthVector.cx) (cx_ok.same rfl rfl) (fun n C h => con_look (con_nil) h) Try.checked.mixed Try.func76 (by kernel_rfl) (ps := laws_eqAuthVector.ps) (rs := laws_eqAuthVector.rs) (by kernel_rfl) (by kernel_rfl) (by kernel_rfl)
  rw [laws_eqAuthVector.eq] at h
  exact h
theorem laws_eqPagingState.sound : Sound Try.prog 77 laws_eqPagingState.con := by
  have h := fun_sound (Γ := laws_eqPagingState.cx) (cx_ok.same rfl rfl) (fun n C h => con_look (con_nil) h) Try.checked.mixed Try.func77 (by kernel_rfl) (ps := laws_eqPagingState.ps) (rs := laws_eqPagingState.rs) (by kernel_rfl) (by kernel_rfl) (by kernel_rfl)
  rw [laws_eqPagingState.eq] at h
  exact h
theorem laws_eqSendWindow.sound : Sound Try.prog 79 laws_eqSendWindow.con := by
  have h := fun_sound (Γ := laws_eqSendWindow.cx) (cx_ok.same rfl rfl) (fun n C h => con_look (con_cons laws_eqNumberedPacketS.sound con_nil) h) Try.checked.mixed Try.func79 (by kernel_rfl) (ps := laws_eqSendWindow.ps) (rs := laws_eqSendWindow.rs) (by kernel_rfl) (by kernel_rfl) (by kernel_rfl)
  rw [laws_eqSendWindow.eq] at h
  exact h
theorem laws_eqQuota.sound : Sound Try.prog 80 laws_eqQuota.con := by
  have h := fun_sound (Γ := laws_eqQuota.cx) (cx_ok.same rfl rfl) (fun n C h => con_look (con_nil) h) Try.checked.mixed Try.func80 (by kernel_rfl) (ps := laws_eqQuota.ps) (rs := laws_eqQuota.rs) (by kernel_rfl) (by kernel_rfl) (by kernel_rfl)
  rw [laws_eqQuota.eq] at h
  exact h
theorem laws_eqSession.sound : Sound Try.prog 30 laws_eqSession.con := by
  have h := fun_sound (Γ := laws_eqSession.cx) (cx_ok.same rfl rfl) (fun n C h => con_look (con_cons laws_eqSubscription.sound (con_cons laws_eqSubscriberRecord.sound (con_cons laws_eqAuthVector.sound (con_cons laws_eqPagingState.sound (con_cons laws_eqPayloadS.sound (con_cons laws_eqSendWindow.sound (con_cons laws_eqQuota.sound con_nil))))))) h) Try.checked.mixed Try.func30 (by kernel_rfl) (ps := laws_eqSession.ps) (rs := laws_eqSession.rs) (by kernel_rfl) (by kernel_rfl) (by kernel_rfl)
  rw [laws_eqSession.eq] at h
  exact h
theorem laws_markIntS.sound : Sound Try.prog 82 laws_markIntS.con := by
  have h := fun_sound (Γ := laws_markIntS.cx) (cx_ok.same rfl rfl) (fun n C h => con_look (con_nil) h) Try.checked.mixed Try.func82 (by kernel_rfl) (ps := laws_markIntS.ps) (rs := laws_markIntS.rs) (by kernel_rfl) (by kernel_rfl) (by kernel_rfl)
  rw [laws_markIntS.eq] at h
  exact h
theorem laws_markSubscription.sound : Sound Try.prog 32 laws_markSubscription.con := by
  have h := fun_sound (Γ := laws_markSubscription.cx) (cx_ok.same rfl rfl) (fun n C h => con_look (con_cons laws_markIntS.sound con_nil) h) Try.checked.mixed Try.func32 (by kernel_rfl) (ps := laws_markSubscription.ps) (rs := laws_markSubscription.rs) (by kernel_rfl) (by kernel_rfl) (by kernel_rfl)
  rw [laws_markSubscription.eq] at h
  exact h
theorem laws_markSendWindow.sound : Sound Try.prog 84 laws_markSendWindow.con := by
  have h := fun_sound (Γ := laws_markSendWindow.cx) (cx_ok.same rfl rfl) (fun n C h => con_look (con_cons laws_markNumberedPacketS.sound con_nil) h) Try.checked.mixed Try.func84 (by kernel_rfl) (ps := laws_markSendWindow.ps) (rs := laws_markSendWindow.rs) (by kernel_rfl) (by kernel_rfl) (by kernel_rfl)
  rw [laws_markSendWindow.eq] at h
  exact h
theorem laws_markSession.sound : Sound Try.prog 33 laws_markSession.con := by
  have h := fun_sound (Γ := laws_markSession.cx) (cx_ok.same rfl rfl) (fun n C h => con_look (con_cons laws_markSubscription.sound (con_cons laws_markPayloadS.sound (con_cons laws_markSendWindow.sound con_nil))) h) Try.checked.mixed Try.func33 (by kernel_rfl) (ps := laws_markSession.ps) (rs := laws_markSession.rs) (by kernel_rfl) (by kernel_rfl) (by kernel_rfl)
  rw [laws_markSession.eq] at h
  exact h
theorem laws_heldIntS.sound : Sound Try.prog 127 laws_heldIntS.con := by
  have h := fun_sound (Γ := laws_heldIntS.cx) (cx_ok.same rfl rfl) (fun n C h => con_look (con_nil) h) Try.checked.mixed Try.func127 (by kernel_rfl) (ps := laws_heldIntS.ps) (rs := laws_heldIntS.rs) (by kernel_rfl) (by kernel_rfl) (by kernel_rfl)
  rw [laws_heldIntS.eq] at h
  exact h
theorem laws_heldSubscription.sound : Sound Try.prog 85 laws_heldSubscription.con := by
  have h := fun_sound (Γ := laws_heldSubscription.cx) (cx_ok.same rfl rfl) (fun n C h => con_look (con_cons laws_heldIntS.sound con_nil) h) Try.checked.mixed Try.func85 (by kernel_rfl) (ps := laws_heldSubscription.ps) (rs := laws_heldSubscription.rs) (by kernel_rfl) (by kernel_rfl) (by kernel_rfl)
  rw [laws_heldSubscription.eq] at h
  exact h
theorem laws_heldSendWindow.sound : Sound Try.prog 87 laws_heldSendWindow.con := by
  have h := fun_sound (Γ := laws_heldSendWindow.cx) (cx_ok.same rfl rfl) (fun n C h => con_look (con_cons laws_heldNumberedPacketS.sound con_nil) h) Try.checked.mixed Try.func87 (by kernel_rfl) (ps := laws_heldSendWindow.ps) (rs := laws_heldSendWindow.rs) (by kernel_rfl) (by kernel_rfl) (by kernel_rfl)
  rw [laws_heldSendWindow.eq] at h
  exact h
theorem laws_heldSession.sound : Sound Try.prog 34 laws_heldSession.con := by
  have h := fun_sound (Γ := laws_heldSession.cx) (cx_ok.same rfl rfl) (fun n C h => con_look (con_cons laws_heldSubscription.sound (con_cons laws_heldPayloadS.sound (con_cons laws_heldSendWindow.sound con_nil))) h) Try.checked.mixed Try.func34 (by kernel_rfl) (ps := laws_heldSession.ps) (rs := laws_heldSession.rs) (by kernel_rfl) (by kernel_rfl) (by kernel_rfl)
  rw [laws_heldSession.eq] at h
  exact h
theorem laws_FnExactNewSession.sound : Sound Try.prog 6 laws_FnExactNewSession.con := by
  have h := fun_sound (Γ := laws_FnExactNewSession.cx) (cx_ok.same rfl rfl) (fun n C h => con_look (con_cons laws_szSubscription.sound (con_cons spec_NewSession.sound (con_cons laws_toSubscriberRecord.sound (con_cons laws_toSubscription.sound (con_cons impl_NewSession.sound (con_cons laws_eqSession.sound (con_cons laws_eqSubscription.sound (con_cons laws_markSubscription.sound (con_cons laws_markSession.sound (con_cons laws_heldSession.sound con_nil)))))))))) h) Try.checked.mixed Try.func6 (by kernel_rfl) (ps := laws_FnExactNewSession.ps) (rs := laws_FnExactNewSession.rs) (by kernel_rfl) (by kernel_rfl) (by kernel_rfl)
  rw [laws_FnExactNewSession.eq] at h
  exact h
theorem spec_l24Sents.sound : Sound Try.prog 155 spec_l24Sents.con := by
  have h := fun_sound (Γ := spec_l24Sents.cx) (cx_ok.same rfl rfl) (fun n C h => con_look (con_nil) h) Try.checked.mixed Try.func155 (by kernel_rfl) (ps := spec_l24Sents.ps) (rs := spec_l24Sents.rs) (by kernel_rfl) (by kernel_rfl) (by kernel_rfl)
  rw [spec_l24Sents.eq] at h
  exact h
theorem spec_l15Bodies.sound : Sound Try.prog 156 spec_l15Bodies.con := by
  have h := fun_sound (Γ := spec_l15Bodies.cx) (cx_ok.same rfl rfl) (fun n C h => con_look (con_nil) h) Try.checked.mixed Try.func156 (by kernel_rfl) (ps := spec_l15Bodies.ps) (rs := spec_l15Bodies.rs) (by kernel_rfl) (by kernel_rfl) (by kernel_rfl)
  rw [spec_l15Bodies.eq] at h
  exact h
theorem spec_l24Recv.sound : Sound Try.prog 129 spec_l24Recv.con := by
  have h := fun_sound (Γ := spec_l24Recv.cx) (cx_ok.same rfl rfl) (fun n C h => con_look (con_cons spec_l24Sents.sound (con_cons spec_l15Bodies.sound con_nil)) h) Try.checked.mixed Try.func129 (by kernel_rfl) (ps := spec_l24Recv.ps) (rs := spec_l24Recv.rs) (by kernel_rfl) (by kernel_rfl) (by kernel_rfl)
  rw [spec_l24Recv.eq] at h
  exact h
theorem spec_l29Copy.sound : Sound Try.prog 88 spec_l29Copy.con := by
  have h := fun_sound (Γ := spec_l29Copy.cx) (cx_ok.same rfl rfl) (fun n C h => con_look (con_cons spec_l24Recv.sound con_nil) h) Try.checked.mixed Try.func88 (by kernel_rfl) (ps := spec_l29Copy.ps) (rs := spec_l29Copy.rs) (by kernel_rfl) (by kernel_rfl) (by kernel_rfl)
  rw [spec_l29Copy.eq] at h
  exact h
theorem spec_EnterIdle.sound : Sound Try.prog 35 spec_EnterIdle.con := by
  have h := fun_sound (Γ := spec_EnterIdle.cx) (cx_ok.same rfl rfl) (fun n C h => con_look (con_cons spec_l29Copy.sound con_nil) h) Try.checked.mixed Try.func35 (by kernel_rfl) (ps := spec_EnterIdle.ps) (rs := spec_EnterIdle.rs) (by kernel_rfl) (by kernel_rfl) (by kernel_rfl)
  rw [spec_EnterIdle.eq] at h
  exact h
theorem impl_copyBytes.sound : Sound Try.prog 106 impl_copyBytes.con := by
  have h := fun_sound (Γ := impl_copyBytes.cx) (cx_ok.same rfl rfl) (fun n C h => con_look (con_nil) h) Try.checked.mixed Try.func106 (by kernel_rfl) (ps := impl_copyBytes.ps) (rs := impl_copyBytes.rs) (by kernel_rfl) (by kernel_rfl) (by kernel_rfl)
  rw [impl_copyBytes.eq] at h
  exact h
theorem impl_copyPayloads.sound : Sound Try.prog 139 impl_copyPayloads.con := by
  have h := fun_sound (Γ := impl_copyPayloads.cx) (cx_ok.same rfl rfl) (fun n C h => con_look (con_cons impl_copyBytes.sound con_nil) h) Try.checked.mixed Try.func139 (by kernel_rfl) (ps := impl_copyPayloads.ps) (rs := impl_copyPayloads.rs) (by kernel_rfl) (by kernel_rfl) (by kernel_rfl)
  rw [impl_copyPayloads.eq] at h
  exact h
theorem impl_copyNumbered.sound : Sound Try.prog 157 impl_copyNumbered.con := by
  have h := fun_sound (Γ := impl_copyNumbered.cx) (cx_ok.same rfl rfl) (fun n C h => con_look (con_cons impl_copyBytes.sound con_nil) h) Try.checked.mixed Try.func157 (by kernel_rfl) (ps := impl_copyNumbered.ps) (rs := impl_copyNumbered.rs) (by kernel_rfl) (by kernel_rfl) (by kernel_rfl)
  rw [impl_copyNumbered.eq] at h
  exact h
theorem impl_copyReceiver.sound : Sound Try.prog 130 impl_copyReceiver.con := by
  have h := fun_sound (Γ := impl_copyReceiver.cx) (cx_ok.same rfl rfl) (fun n C h => con_look (con_cons impl_copyPayloads.sound (con_cons impl_copyNumbered.sound con_nil)) h) Try.checked.mixed Try.func130 (by kernel_rfl) (ps := impl_copyReceiver.ps) (rs := impl_copyReceiver.rs) (by kernel_rfl) (by kernel_rfl) (by kernel_rfl)
  rw [impl_copyReceiver.eq] at h
  exact h
theorem impl_copyDevice.sound : Sound Try.prog 89 impl_copyDevice.con := by
  have h := fun_sound (Γ := impl_copyDevice.cx) (cx_ok.same rfl rfl) (fun n C h => con_look (con_cons impl_copyReceiver.sound con_nil) h) Try.checked.mixed Try.func89 (by kernel_rfl) (ps := impl_copyDevice.ps) (rs := impl_copyDevice.rs) (by kernel_rfl) (by kernel_rfl) (by kernel_rfl)
  rw [impl_copyDevice.eq] at h
  exact h
theorem impl_EnterIdle.sound : Sound Try.prog 36 impl_EnterIdle.con := by
  have h := fun_sound (Γ := impl_EnterIdle.cx) (cx_ok.same rfl rfl) (fun n C h => con_look (con_cons impl_copyDevice.sound con_nil) h) Try.checked.mixed Try.func36 (by kernel_rfl) (ps := impl_EnterIdle.ps) (rs := impl_EnterIdle.rs) (by kernel_rfl) (by kernel_rfl) (by kernel_rfl)
  rw [impl_EnterIdle.eq] at h
  exact h
theorem laws_FnExactEnterIdle.sound : Sound Try.prog 7 laws_FnExactEnterIdle.con := by
  have h := fun_sound (Γ := laws_FnExactEnterIdle.cx) (cx_ok.same rfl rfl) (fun n C h => con_look (con_cons laws_eqDevice.sound (con_cons laws_markDevice.sound (con_cons laws_heldDevice.sound (con_cons laws_szDevice.sound (con_cons laws_toDevice.sound (con_cons spec_EnterIdle.sound (con_cons impl_EnterIdle.sound con_nil))))))) h) Try.checked.mixed Try.func7 (by kernel_rfl) (ps := laws_FnExactEnterIdle.ps) (rs := laws_FnExactEnterIdle.rs) (by kernel_rfl) (by kernel_rfl) (by kernel_rfl)
  rw [laws_FnExactEnterIdle.eq] at h
  exact h
theorem laws_szSendWindow.sound : Sound Try.prog 91 laws_szSendWindow.con := by
  have h := fun_sound (Γ := laws_szSendWindow.cx) (cx_ok.same rfl rfl) (fun n C h => con_look (con_cons laws_szNumberedPacketS.sound con_nil) h) Try.checked.mixed Try.func91 (by kernel_rfl) (ps := laws_szSendWindow.ps) (rs := laws_szSendWindow.rs) (by kernel_rfl) (by kernel_rfl) (by kernel_rfl)
  rw [laws_szSendWindow.eq] at h
  exact h
theorem laws_szSession.sound : Sound Try.prog 37 laws_szSession.con := by
  have h := fun_sound (Γ := laws_szSession.cx) (cx_ok.same rfl rfl) (fun n C h => con_look (con_cons laws_szSubscription.sound (con_cons laws_szPayloadS.sound (con_cons laws_szSendWindow.sound con_nil))) h) Try.checked.mixed Try.func37 (by kernel_rfl) (ps := laws_szSession.ps) (rs := laws_szSession.rs) (by kernel_rfl) (by kernel_rfl) (by kernel_rfl)
  rw [laws_szSession.eq] at h
  exact h
theorem spec_AcknowledgedPackets.sound : Sound Try.prog 38 spec_AcknowledgedPackets.con := by
  have h := fun_sound (Γ := spec_AcknowledgedPackets.cx) (cx_ok.same rfl rfl) (fun n C h => con_look (con_nil) h) Try.checked.mixed Try.func38 (by kernel_rfl) (ps := spec_AcknowledgedPackets.ps) (rs := spec_AcknowledgedPackets.rs) (by kernel_rfl) (by kernel_rfl) (by kernel_rfl)
  rw [spec_AcknowledgedPackets.eq] at h
  exact h
theorem laws_toAuthVector.sound : Sound Try.prog 92 laws_toAuthVector.con := by
  have h := fun_sound (Γ := laws_toAuthVector.cx) (cx_ok.same rfl rfl) (fun n C h => con_look (con_nil) h) Try.checked.mixed Try.func92 (by kernel_rfl) (ps := laws_toAuthVector.ps) (rs := laws_toAuthVector.rs) (by kernel_rfl) (by kernel_rfl) (by kernel_rfl)
  rw [laws_toAuthVector.eq] at h
  exact h
theorem laws_toPagingState.sound : Sound Try.prog 93 laws_toPagingState.con := by
  have h := fun_sound (Γ := laws_toPagingState.cx) (cx_ok.same rfl rfl) (fun n C h => con_look (con_nil) h) Try.checked.mixed Try.func93 (by kernel_rfl) (ps := laws_toPagingState.ps) (rs := laws_toPagingState.rs) (by kernel_rfl) (by kernel_rfl) (by kernel_rfl)
  rw [laws_toPagingState.eq] at h
  exact h
theorem laws_toSendWindow.sound : Sound Try.prog 95 laws_toSendWindow.con := by
  have h := fun_sound (Γ := laws_toSendWindow.cx) (cx_ok.same rfl rfl) (fun n C h => con_look (con_cons laws_toNumberedPacketS.sound con_nil) h) Try.checked.mixed Try.func95 (by kernel_rfl) (ps := laws_toSendWindow.ps) (rs := laws_toSendWindow.rs) (by kernel_rfl) (by kernel_rfl) (by kernel_rfl)
  rw [laws_toSendWindow.eq] at h
  exact h
theorem laws_toQuota.sound : Sound Try.prog 96 laws_toQuota.con := by
  have h := fun_sound (Γ := laws_toQuota.cx) (cx_ok.same rfl rfl) (fun n C h => con_look (con_nil) h) Try.checked.mixed Try.func96 (by kernel_rfl) (ps := laws_toQuota.ps) (rs := laws_toQuota.rs) (by kernel_rfl) (by kernel_rfl) (by kernel_rfl)
  rw [laws_toQuota.eq] at h
  exact h
theorem laws_toSession.sound : Sound Try.prog 39 laws_toSession.con := by
  have h := fun_sound (Γ := laws_toSession.cx) (cx_ok.same rfl rfl) (fun n C h => con_look (con_cons laws_toSubscriberRecord.sound (con_cons laws_toSubscription.sound (con_cons laws_toAuthVector.sound (con_cons laws_toPagingState.sound (con_cons laws_toPayloadS.sound (con_cons laws_toSendWindow.sound (con_cons laws_toQuota.sound con_nil))))))) h) Try.checked.mixed Try.func39 (by kernel_rfl) (ps := laws_toSession.ps) (rs := laws_toSession.rs) (by kernel_rfl) (by kernel_rfl) (by kernel_rfl)
  rw [laws_toSession.eq] at h
  exact h
theorem impl_AcknowledgedPackets.sound : Sound Try.prog 40 impl_AcknowledgedPackets.con := by
  have h := fun_sound (Γ := impl_AcknowledgedPackets.cx) (cx_ok.same rfl rfl) (fun n C h => con_look (con_nil) h) Try.checked.mixed Try.func40 (by kernel_rfl) (ps := impl_AcknowledgedPackets.ps) (rs := impl_AcknowledgedPackets.rs) (by kernel_rfl) (by kernel_rfl) (by kernel_rfl)
  rw [impl_AcknowledgedPackets.eq] at h
  exact h
theorem laws_FnExactAcknowledgedPackets.sound : Sound Try.prog 8 laws_FnExactAcknowledgedPackets.con := by
  have h := fun_sound (Γ := laws_FnExactAcknowledgedPackets.cx) (cx_ok.same rfl rfl) (fun n C h => con_look (con_cons laws_eqSession.sound (con_cons laws_szSession.sound (con_cons spec_AcknowledgedPackets.sound (con_cons laws_toSession.sound (con_cons impl_AcknowledgedPackets.sound con_nil))))) h) Try.checked.mixed Try.func8 (by kernel_rfl) (ps := laws_FnExactAcknowledgedPackets.ps) (rs := laws_FnExactAcknowledgedPackets.rs) (by kernel_rfl) (by kernel_rfl) (by kernel_rfl)
  rw [laws_FnExactAcknowledgedPackets.eq] at h
  exact h
theorem spec_l30Bytes.sound : Sound Try.prog 97 spec_l30Bytes.con := by
  have h := fun_sound (Γ := spec_l30Bytes.cx) (cx_ok.same rfl rfl) (fun n C h => con_look (con_nil) h) Try.checked.mixed Try.func97 (by kernel_rfl) (ps := spec_l30Bytes.ps) (rs := spec_l30Bytes.rs) (by kernel_rfl) (by kernel_rfl) (by kernel_rfl)
  rw [spec_l30Bytes.eq] at h
  exact h
theorem spec_OutstandingBytes.sound : Sound Try.prog 41 spec_OutstandingBytes.con := by
  have h := fun_sound (Γ := spec_OutstandingBytes.cx) (cx_ok.same rfl rfl) (fun n C h => con_look (con_cons spec_l30Bytes.sound con_nil) h) Try.checked.mixed Try.func41 (by kernel_rfl) (ps := spec_OutstandingBytes.ps) (rs := spec_OutstandingBytes.rs) (by kernel_rfl) (by kernel_rfl) (by kernel_rfl)
  rw [spec_OutstandingBytes.eq] at h
  exact h
theorem impl_numberedBytes.sound : Sound Try.prog 98 impl_numberedBytes.con := by
  have h := fun_sound (Γ := impl_numberedBytes.cx) (cx_ok.same rfl rfl) (fun n C h => con_look (con_nil) h) Try.checked.mixed Try.func98 (by kernel_rfl) (ps := impl_numberedBytes.ps) (rs := impl_numberedBytes.rs) (by kernel_rfl) (by kernel_rfl) (by kernel_rfl)
  rw [impl_numberedBytes.eq] at h
  exact h
theorem impl_OutstandingBytes.sound : Sound Try.prog 42 impl_OutstandingBytes.con := by
  have h := fun_sound (Γ := impl_OutstandingBytes.cx) (cx_ok.same rfl rfl) (fun n C h => con_look (con_cons impl_numberedBytes.sound con_nil) h) Try.checked.mixed Try.func42 (by kernel_rfl) (ps := impl_OutstandingBytes.ps) (rs := impl_OutstandingBytes.rs) (by kernel_rfl) (by kernel_rfl) (by kernel_rfl)
  rw [impl_OutstandingBytes.eq] at h
  exact h
theorem laws_FnExactOutstandingBytes.sound : Sound Try.prog 9 laws_FnExactOutstandingBytes.con := by
  have h := fun_sound (Γ := laws_FnExactOutstandingBytes.cx) (cx_ok.same rfl rfl) (fun n C h => con_look (con_cons laws_eqSession.sound (con_cons laws_szSession.sound (con_cons laws_toSession.sound (con_cons spec_OutstandingBytes.sound (con_cons impl_OutstandingBytes.sound con_nil))))) h) Try.checked.mixed Try.func9 (by kernel_rfl) (ps := laws_FnExactOutstandingBytes.ps) (rs := laws_FnExactOutstandingBytes.rs) (by kernel_rfl) (by kernel_rfl) (by kernel_rfl)
  rw [laws_FnExactOutstandingBytes.eq] at h
  exact h
theorem laws_big.sound : Sound Try.prog 43 laws_big.con := by
  have h := fun_sound (Γ := laws_big.cx) (cx_ok.same rfl rfl) (fun n C h => con_look (con_nil) h) Try.checked.mixed Try.func43 (by kernel_rfl) (ps := laws_big.ps) (rs := laws_big.rs) (by kernel_rfl) (by kernel_rfl) (by kernel_rfl)
  rw [laws_big.eq] at h
  exact h
theorem spec_l1New.sound : Sound Try.prog 99 spec_l1New.con := by
  have h := fun_sound (Γ := spec_l1New.cx) (cx_ok.same rfl rfl) (fun n C h => con_look (con_nil) h) Try.checked.mixed Try.func99 (by kernel_rfl) (ps := spec_l1New.ps) (rs := spec_l1New.rs) (by kernel_rfl) (by kernel_rfl) (by kernel_rfl)
  rw [spec_l1New.eq] at h
  exact h
theorem spec_l1Byte.sound : Sound Try.prog 138 spec_l1Byte.con := by
  have h := fun_sound (Γ := spec_l1Byte.cx) (cx_ok.same rfl rfl) (fun n C h => con_look (con_nil) h) Try.checked.mixed Try.func138 (by kernel_rfl) (ps := spec_l1Byte.ps) (rs := spec_l1Byte.rs) (by kernel_rfl) (by kernel_rfl) (by kernel_rfl)
  rw [spec_l1Byte.eq] at h
  exact h
theorem spec_l1Below.sound : Sound Try.prog 134 spec_l1Below.con := by
  have h := fun_sound (Γ := spec_l1Below.cx) (cx_ok.same rfl rfl) (fun n C h => con_look (con_cons spec_l1Byte.sound con_nil) h) Try.checked.mixed Try.func134 (by kernel_rfl) (ps := spec_l1Below.ps) (rs := spec_l1Below.rs) (by kernel_rfl) (by kernel_rfl) (by kernel_rfl)
  rw [spec_l1Below.eq] at h
  exact h
theorem spec_l1Int.sound : Sound Try.prog 104 spec_l1Int.con := by
  have h := fun_sound (Γ := spec_l1Int.cx) (cx_ok.same rfl rfl) (fun n C h => con_look (con_cons spec_l1Below.sound con_nil) h) Try.checked.mixed Try.func104 (by kernel_rfl) (ps := spec_l1Int.ps) (rs := spec_l1Int.rs) (by kernel_rfl) (by kernel_rfl) (by kernel_rfl)
  rw [spec_l1Int.eq] at h
  exact h
theorem spec_l1Once.sound : Sound Try.prog 101 spec_l1Once.con := by
  have h := fun_sound (Γ := spec_l1Once.cx) (cx_ok.same rfl rfl) (fun n C h => con_look (con_cons spec_l1Below.sound con_nil) h) Try.checked.mixed Try.func101 (by kernel_rfl) (ps := spec_l1Once.ps) (rs := spec_l1Once.rs) (by kernel_rfl) (by kernel_rfl) (by kernel_rfl)
  rw [spec_l1Once.eq] at h
  exact h
theorem spec_l24Sender.sound : Sound Try.prog 167 spec_l24Sender.con := by
  have h := fun_sound (Γ := spec_l24Sender.cx) (cx_ok.same rfl rfl) (fun n C h => con_look (con_cons spec_l24Sents.sound con_nil) h) Try.checked.mixed Try.func167 (by kernel_rfl) (ps := spec_l24Sender.ps) (rs := spec_l24Sender.rs) (by kernel_rfl) (by kernel_rfl) (by kernel_rfl)
  rw [spec_l24Sender.eq] at h
  exact h
theorem spec_l30Copy.sound : Sound Try.prog 136 spec_l30Copy.con := by
  have h := fun_sound (Γ := spec_l30Copy.cx) (cx_ok.same rfl rfl) (fun n C h => con_look (con_cons spec_l30Plan.sound (con_cons spec_l15Bodies.sound (con_cons spec_l24Sender.sound con_nil))) h) Try.checked.mixed Try.func136 (by kernel_rfl) (ps := spec_l30Copy.ps) (rs := spec_l30Copy.rs) (by kernel_rfl) (by kernel_rfl) (by kernel_rfl)
  rw [spec_l30Copy.eq] at h
  exact h
theorem spec_l25Body.sound : Sound Try.prog 137 spec_l25Body.con := by
  have h := fun_sound (Γ := spec_l25Body.cx) (cx_ok.same rfl rfl) (fun n C h => con_look (con_nil) h) Try.checked.mixed Try.func137 (by kernel_rfl) (ps := spec_l25Body.ps) (rs := spec_l25Body.rs) (by kernel_rfl) (by kernel_rfl) (by kernel_rfl)
  rw [spec_l25Body.eq] at h
  exact h
theorem spec_SubmitPacket.sound : Sound Try.prog 102 spec_SubmitPacket.con := by
  have h := fun_sound (Γ := spec_SubmitPacket.cx) (cx_ok.same rfl rfl) (fun n C h => con_look (con_cons spec_l30Copy.sound (con_cons spec_l25Body.sound con_nil)) h) Try.checked.mixed Try.func102 (by kernel_rfl) (ps := spec_SubmitPacket.ps) (rs := spec_SubmitPacket.rs) (by kernel_rfl) (by kernel_rfl) (by kernel_rfl)
  rw [spec_SubmitPacket.eq] at h
  exact h
theorem spec_l1Bytes.sound : Sound Try.prog 103 spec_l1Bytes.con := by
  have h := fun_sound (Γ := spec_l1Bytes.cx) (cx_ok.same rfl rfl) (fun n C h => con_look (con_cons spec_l1Byte.sound con_nil) h) Try.checked.mixed Try.func103 (by kernel_rfl) (ps := spec_l1Bytes.ps) (rs := spec_l1Bytes.rs) (by kernel_rfl) (by kernel_rfl) (by kernel_rfl)
  rw [spec_l1Bytes.eq] at h
  exact h
theorem spec_l4Who.sound : Sound Try.prog 187 spec_l4Who.con := by
  have h := fun_sound (Γ := spec_l4Who.cx) (cx_ok.same rfl rfl) (fun n C h => con_look (con_cons spec_l1Below.sound con_nil) h) Try.checked.mixed Try.func187 (by kernel_rfl) (ps := spec_l4Who.ps) (rs := spec_l4Who.rs) (by kernel_rfl) (by kernel_rfl) (by kernel_rfl)
  rw [spec_l4Who.eq] at h
  exact h
theorem spec_l5Key.sound : Sound Try.prog 188 spec_l5Key.con := by
  have h := fun_sound (Γ := spec_l5Key.cx) (cx_ok.same rfl rfl) (fun n C h => con_look (con_cons spec_l1Below.sound con_nil) h) Try.checked.mixed Try.func188 (by kernel_rfl) (ps := spec_l5Key.ps) (rs := spec_l5Key.rs) (by kernel_rfl) (by kernel_rfl) (by kernel_rfl)
  rw [spec_l5Key.eq] at h
  exact h
theorem spec_l6Card.sound : Sound Try.prog 175 spec_l6Card.con := by
  have h := fun_sound (Γ := spec_l6Card.cx) (cx_ok.same rfl rfl) (fun n C h => con_look (con_cons spec_l1Below.sound (con_cons spec_l4Who.sound (con_cons spec_l5Key.sound con_nil))) h) Try.checked.mixed Try.func175 (by kernel_rfl) (ps := spec_l6Card.ps) (rs := spec_l6Card.rs) (by kernel_rfl) (by kernel_rfl) (by kernel_rfl)
  rw [spec_l6Card.eq] at h
  exact h
theorem spec_l6Pair.sound : Sound Try.prog 160 spec_l6Pair.con := by
  have h := fun_sound (Γ := spec_l6Pair.cx) (cx_ok.same rfl rfl) (fun n C h => con_look (con_cons spec_l1Int.sound (con_cons spec_l1Below.sound (con_cons spec_l6Card.sound con_nil))) h) Try.checked.mixed Try.func160 (by kernel_rfl) (ps := spec_l6Pair.ps) (rs := spec_l6Pair.rs) (by kernel_rfl) (by kernel_rfl) (by kernel_rfl)
  rw [spec_l6Pair.eq] at h
  exact h
theorem spec_l20Plan.sound : Sound Try.prog 161 spec_l20Plan.con := by
  have h := fun_sound (Γ := spec_l20Plan.cx) (cx_ok.same rfl rfl) (fun n C h => con_look (con_cons spec_l1Once.sound (con_cons spec_l1Below.sound con_nil)) h) Try.checked.mixed Try.func161 (by kernel_rfl) (ps := spec_l20Plan.ps) (rs := spec_l20Plan.rs) (by kernel_rfl) (by kernel_rfl) (by kernel_rfl)
  rw [spec_l20Plan.eq] at h
  exact h
theorem spec_IsValidSubscriberRecord.sound : Sound Try.prog 189 spec_IsValidSubscriberRecord.con := by
  have h := fun_sound (Γ := spec_IsValidSubscriberRecord.cx) (cx_ok.same rfl rfl) (fun n C h => con_look (con_cons spec_l1In.sound (con_cons spec_IsValidKey.sound (con_cons spec_IsValidSubscriberID.sound con_nil))) h) Try.checked.mixed Try.func189 (by kernel_rfl) (ps := spec_IsValidSubscriberRecord.ps) (rs := spec_IsValidSubscriberRecord.rs) (by kernel_rfl) (by kernel_rfl) (by kernel_rfl)
  rw [spec_IsValidSubscriberRecord.eq] at h
  exact h
theorem spec_Mod.sound : Sound Try.prog 184 spec_Mod.con := by
  have h := fun_sound (Γ := spec_Mod.cx) (cx_ok.same rfl rfl) (fun n C h => con_look (con_cons spec_l1In.sound con_nil) h) Try.checked.mixed Try.func184 (by kernel_rfl) (ps := spec_Mod.ps) (rs := spec_Mod.rs) (by kernel_rfl) (by kernel_rfl) (by kernel_rfl)
  rw [spec_Mod.eq] at h
  exact h
theorem spec_Hash.sound : Sound Try.prog 171 spec_Hash.con := by
  have h := fun_sound (Γ := spec_Hash.cx) (cx_ok.same rfl rfl) (fun n C h => con_look (con_cons spec_Mod.sound con_nil) h) Try.checked.mixed Try.func171 (by kernel_rfl) (ps := spec_Hash.ps) (rs := spec_Hash.rs) (by kernel_rfl) (by kernel_rfl) (by kernel_rfl)
  rw [spec_Hash.eq] at h
  exact h
theorem spec_KeyedHash.sound : Sound Try.prog 145 spec_KeyedHash.con := by
  have h := fun_sound (Γ := spec_KeyedHash.cx) (cx_ok.same rfl rfl) (fun n C h => con_look (con_cons spec_Hash.sound con_nil) h) Try.checked.mixed Try.func145 (by kernel_rfl) (ps := spec_KeyedHash.ps) (rs := spec_KeyedHash.rs) (by kernel_rfl) (by kernel_rfl) (by kernel_rfl)
  rw [spec_KeyedHash.eq] at h
  exact h
theorem spec_Max.sound : Sound Try.prog 168 spec_Max.con := by
  have h := fun_sound (Γ := spec_Max.cx) (cx_ok.same rfl rfl) (fun n C h => con_look (con_nil) h) Try.checked.mixed Try.func168 (by kernel_rfl) (ps := spec_Max.ps) (rs := spec_Max.rs) (by kernel_rfl) (by kernel_rfl) (by kernel_rfl)
  rw [spec_Max.eq] at h
  exact h
theorem spec_SequenceMask.sound : Sound Try.prog 191 spec_SequenceMask.con := by
  have h := fun_sound (Γ := spec_SequenceMask.cx) (cx_ok.same rfl rfl) (fun n C h => con_look (con_cons spec_KeyedHash.sound (con_cons spec_Mod.sound con_nil)) h) Try.checked.mixed Try.func191 (by kernel_rfl) (ps := spec_SequenceMask.ps) (rs := spec_SequenceMask.rs) (by kernel_rfl) (by kernel_rfl) (by kernel_rfl)
  rw [spec_SequenceMask.eq] at h
  exact h
theorem spec_NewAuthVector.sound : Sound Try.prog 190 spec_NewAuthVector.con := by
  have h := fun_sound (Γ := spec_NewAuthVector.cx) (cx_ok.same rfl rfl) (fun n C h => con_look (con_cons spec_l1In.sound (con_cons spec_KeyedHash.sound (con_cons spec_Max.sound (con_cons spec_Mod.sound (con_cons spec_SequenceMask.sound con_nil))))) h) Try.checked.mixed Try.func190 (by kernel_rfl) (ps := spec_NewAuthVector.ps) (rs := spec_NewAuthVector.rs) (by kernel_rfl) (by kernel_rfl) (by kernel_rfl)
  rw [spec_NewAuthVector.eq] at h
  exact h
theorem spec_NextAuthVector.sound : Sound Try.prog 176 spec_NextAuthVector.con := by
  have h := fun_sound (Γ := spec_NextAuthVector.cx) (cx_ok.same rfl rfl) (fun n C h => con_look (con_cons spec_IsValidSubscriberRecord.sound (con_cons spec_NewAuthVector.sound con_nil)) h) Try.checked.mixed Try.func176 (by kernel_rfl) (ps := spec_NextAuthVector.ps) (rs := spec_NextAuthVector.rs) (by kernel_rfl) (by kernel_rfl) (by kernel_rfl)
  rw [spec_NextAuthVector.eq] at h
  exact h
theorem spec_ChallengeRand.sound : Sound Try.prog 177 spec_ChallengeRand.con := by
  have h := fun_sound (Γ := spec_ChallengeRand.cx) (cx_ok.same rfl rfl) (fun n C h => con_look (con_cons spec_KeyedHash.sound con_nil) h) Try.checked.mixed Try.func177 (by kernel_rfl) (ps := spec_ChallengeRand.ps) (rs := spec_ChallengeRand.rs) (by kernel_rfl) (by kernel_rfl) (by kernel_rfl)
  rw [spec_ChallengeRand.eq] at h
  exact h
theorem spec_l30None.sound : Sound Try.prog 178 spec_l30None.con := by
  have h := fun_sound (Γ := spec_l30None.cx) (cx_ok.same rfl rfl) (fun n C h => con_look (con_cons spec_l30Copy.sound con_nil) h) Try.checked.mixed Try.func178 (by kernel_rfl) (ps := spec_l30None.ps) (rs := spec_l30None.rs) (by kernel_rfl) (by kernel_rfl) (by kernel_rfl)
  rw [spec_l30None.eq] at h
  exact h
theorem spec_ReceiveAttach.sound : Sound Try.prog 162 spec_ReceiveAttach.con := by
  have h := fun_sound (Γ := spec_ReceiveAttach.cx) (cx_ok.same rfl rfl) (fun n C h => con_look (con_cons spec_l30Copy.sound (con_cons spec_NextAuthVector.sound (con_cons spec_ChallengeRand.sound (con_cons spec_l30None.sound con_nil)))) h) Try.checked.mixed Try.func162 (by kernel_rfl) (ps := spec_ReceiveAttach.ps) (rs := spec_ReceiveAttach.rs) (by kernel_rfl) (by kernel_rfl) (by kernel_rfl)
  rw [spec_ReceiveAttach.eq] at h
  exact h
theorem spec_ResponseMatches.sound : Sound Try.prog 179 spec_ResponseMatches.con := by
  have h := fun_sound (Γ := spec_ResponseMatches.cx) (cx_ok.same rfl rfl) (fun n C h => con_look (con_nil) h) Try.checked.mixed Try.func179 (by kernel_rfl) (ps := spec_ResponseMatches.ps) (rs := spec_ResponseMatches.rs) (by kernel_rfl) (by kernel_rfl) (by kernel_rfl)
  rw [spec_ResponseMatches.eq] at h
  exact h
theorem spec_DeriveKey.sound : Sound Try.prog 172 spec_DeriveKey.con := by
  have h := fun_sound (Γ := spec_DeriveKey.cx) (cx_ok.same rfl rfl) (fun n C h => con_look (con_cons spec_KeyedHash.sound (con_cons spec_Max.sound con_nil)) h) Try.checked.mixed Try.func172 (by kernel_rfl) (ps := spec_DeriveKey.ps) (rs := spec_DeriveKey.rs) (by kernel_rfl) (by kernel_rfl) (by kernel_rfl)
  rw [spec_DeriveKey.eq] at h
  exact h
theorem spec_KeyForPath.sound : Sound Try.prog 146 spec_KeyForPath.con := by
  have h := fun_sound (Γ := spec_KeyForPath.cx) (cx_ok.same rfl rfl) (fun n C h => con_look (con_cons spec_DeriveKey.sound con_nil) h) Try.checked.mixed Try.func146 (by kernel_rfl) (ps := spec_KeyForPath.ps) (rs := spec_KeyForPath.rs) (by kernel_rfl) (by kernel_rfl) (by kernel_rfl)
  rw [spec_KeyForPath.eq] at h
  exact h
theorem spec_SignalingKeyPath.sound : Sound Try.prog 147 spec_SignalingKeyPath.con := by
  have h := fun_sound (Γ := spec_SignalingKeyPath.cx) (cx_ok.same rfl rfl) (fun n C h => con_look (con_nil) h) Try.checked.mixed Try.func147 (by kernel_rfl) (ps := spec_SignalingKeyPath.ps) (rs := spec_SignalingKeyPath.rs) (by kernel_rfl) (by kernel_rfl) (by kernel_rfl)
  rw [spec_SignalingKeyPath.eq] at h
  exact h
theorem spec_SignalMAC.sound : Sound Try.prog 112 spec_SignalMAC.con := by
  have h := fun_sound (Γ := spec_SignalMAC.cx) (cx_ok.same rfl rfl) (fun n C h => con_look (con_cons spec_KeyedHash.sound (con_cons spec_KeyForPath.sound (con_cons spec_SignalingKeyPath.sound con_nil))) h) Try.checked.mixed Try.func112 (by kernel_rfl) (ps := spec_SignalMAC.ps) (rs := spec_SignalMAC.rs) (by kernel_rfl) (by kernel_rfl) (by kernel_rfl)
  rw [spec_SignalMAC.eq] at h
  exact h
theorem spec_SignSignal.sound : Sound Try.prog 169 spec_SignSignal.con := by
  have h := fun_sound (Γ := spec_SignSignal.cx) (cx_ok.same rfl rfl) (fun n C h => con_look (con_cons spec_SignalMAC.sound con_nil) h) Try.checked.mixed Try.func169 (by kernel_rfl) (ps := spec_SignSignal.ps) (rs := spec_SignSignal.rs) (by kernel_rfl) (by kernel_rfl) (by kernel_rfl)
  rw [spec_SignSignal.eq] at h
  exact h
theorem spec_l30Signed.sound : Sound Try.prog 180 spec_l30Signed.con := by
  have h := fun_sound (Γ := spec_l30Signed.cx) (cx_ok.same rfl rfl) (fun n C h => con_look (con_cons spec_SignSignal.sound con_nil) h) Try.checked.mixed Try.func180 (by kernel_rfl) (ps := spec_l30Signed.ps) (rs := spec_l30Signed.rs) (by kernel_rfl) (by kernel_rfl) (by kernel_rfl)
  rw [spec_l30Signed.eq] at h
  exact h
theorem spec_ReceiveResponse.sound : Sound Try.prog 163 spec_ReceiveResponse.con := by
  have h := fun_sound (Γ := spec_ReceiveResponse.cx) (cx_ok.same rfl rfl) (fun n C h => con_look (con_cons spec_l30Copy.sound (con_cons spec_l30None.sound (con_cons spec_ResponseMatches.sound (con_cons spec_l30Signed.sound con_nil)))) h) Try.checked.mixed Try.func163 (by kernel_rfl) (ps := spec_ReceiveResponse.ps) (rs := spec_ReceiveResponse.rs) (by kernel_rfl) (by kernel_rfl) (by kernel_rfl)
  rw [spec_ReceiveResponse.eq] at h
  exact h
theorem spec_IsValidSender.sound : Sound Try.prog 181 spec_IsValidSender.con := by
  have h := fun_sound (Γ := spec_IsValidSender.cx) (cx_ok.same rfl rfl) (fun n C h => con_look (con_cons spec_l1In.sound con_nil) h) Try.checked.mixed Try.func181 (by kernel_rfl) (ps := spec_IsValidSender.ps) (rs := spec_IsValidSender.rs) (by kernel_rfl) (by kernel_rfl) (by kernel_rfl)
  rw [spec_IsValidSender.eq] at h
  exact h
theorem spec_SendPacket.sound : Sound Try.prog 164 spec_SendPacket.con := by
  have h := fun_sound (Γ := spec_SendPacket.cx) (cx_ok.same rfl rfl) (fun n C h => con_look (con_cons spec_l24Sender.sound (con_cons spec_IsValidSender.sound con_nil)) h) Try.checked.mixed Try.func164 (by kernel_rfl) (ps := spec_SendPacket.ps) (rs := spec_SendPacket.rs) (by kernel_rfl) (by kernel_rfl) (by kernel_rfl)
  rw [spec_SendPacket.eq] at h
  exact h
theorem spec_IsValidQuota.sound : Sound Try.prog 182 spec_IsValidQuota.con := by
  have h := fun_sound (Γ := spec_IsValidQuota.cx) (cx_ok.same rfl rfl) (fun n C h => con_look (con_cons spec_l1In.sound con_nil) h) Try.checked.mixed Try.func182 (by kernel_rfl) (ps := spec_IsValidQuota.ps) (rs := spec_IsValidQuota.rs) (by kernel_rfl) (by kernel_rfl) (by kernel_rfl)
  rw [spec_IsValidQuota.eq] at h
  exact h
theorem spec_RemainingQuota.sound : Sound Try.prog 165 spec_RemainingQuota.con := by
  have h := fun_sound (Γ := spec_RemainingQuota.cx) (cx_ok.same rfl rfl) (fun n C h => con_look (con_cons spec_IsValidQuota.sound con_nil) h) Try.checked.mixed Try.func165 (by kernel_rfl) (ps := spec_RemainingQuota.ps) (rs := spec_RemainingQuota.rs) (by kernel_rfl) (by kernel_rfl) (by kernel_rfl)
  rw [spec_RemainingQuota.eq] at h
  exact h
theorem spec_l30Active.sound : Sound Try.prog 133 spec_l30Active.con := by
  have h := fun_sound (Γ := spec_l30Active.cx) (cx_ok.same rfl rfl) (fun n C h => con_look (con_cons spec_NewSession.sound (con_cons spec_l30Bytes.sound (con_cons spec_l1Once.sound (con_cons spec_SubmitPacket.sound (con_cons spec_l1Bytes.sound (con_cons spec_l1Below.sound (con_cons spec_l6Pair.sound (con_cons spec_l20Plan.sound (con_cons spec_ReceiveAttach.sound (con_cons spec_ReceiveResponse.sound (con_cons spec_SendPacket.sound (con_cons spec_RemainingQuota.sound con_nil)))))))))))) h) Try.checked.mixed Try.func133 (by kernel_rfl) (ps := spec_l30Active.ps) (rs := spec_l30Active.rs) (by kernel_rfl) (by kernel_rfl) (by kernel_rfl)
  rw [spec_l30Active.eq] at h
  exact h
theorem spec_AcknowledgeBelow.sound : Sound Try.prog 183 spec_AcknowledgeBelow.con := by
  have h := fun_sound (Γ := spec_AcknowledgeBelow.cx) (cx_ok.same rfl rfl) (fun n C h => con_look (con_cons spec_l24Sender.sound con_nil) h) Try.checked.mixed Try.func183 (by kernel_rfl) (ps := spec_AcknowledgeBelow.ps) (rs := spec_AcknowledgeBelow.rs) (by kernel_rfl) (by kernel_rfl) (by kernel_rfl)
  rw [spec_AcknowledgeBelow.eq] at h
  exact h
theorem spec_l24DrawSender.sound : Sound Try.prog 166 spec_l24DrawSender.con := by
  have h := fun_sound (Γ := spec_l24DrawSender.cx) (cx_ok.same rfl rfl) (fun n C h => con_look (con_cons spec_l1Once.sound (con_cons spec_l1Bytes.sound (con_cons spec_l1Below.sound (con_cons spec_SendPacket.sound (con_cons spec_AcknowledgeBelow.sound con_nil))))) h) Try.checked.mixed Try.func166 (by kernel_rfl) (ps := spec_l24DrawSender.ps) (rs := spec_l24DrawSender.rs) (by kernel_rfl) (by kernel_rfl) (by kernel_rfl)
  rw [spec_l24DrawSender.eq] at h
  exact h
theorem spec_l24AnySender.sound : Sound Try.prog 135 spec_l24AnySender.con := by
  have h := fun_sound (Γ := spec_l24AnySender.cx) (cx_ok.same rfl rfl) (fun n C h => con_look (con_cons spec_l1Int.sound (con_cons spec_l1Below.sound (con_cons spec_l24DrawSender.sound con_nil))) h) Try.checked.mixed Try.func135 (by kernel_rfl) (ps := spec_l24AnySender.ps) (rs := spec_l24AnySender.rs) (by kernel_rfl) (by kernel_rfl) (by kernel_rfl)
  rw [spec_l24AnySender.eq] at h
  exact h
theorem spec_l30Any.sound : Sound Try.prog 100 spec_l30Any.con := by
  have h := fun_sound (Γ := spec_l30Any.cx) (cx_ok.same rfl rfl) (fun n C h => con_look (con_cons spec_l1Int.sound (con_cons spec_l30Active.sound (con_cons spec_l1Below.sound (con_cons spec_l24AnySender.sound con_nil)))) h) Try.checked.mixed Try.func100 (by kernel_rfl) (ps := spec_l30Any.ps) (rs := spec_l30Any.rs) (by kernel_rfl) (by kernel_rfl) (by kernel_rfl)
  rw [spec_l30Any.eq] at h
  exact h
theorem spec_DrawSubmitPacket.sound : Sound Try.prog 44 spec_DrawSubmitPacket.con := by
  have h := fun_sound (Γ := spec_DrawSubmitPacket.cx) (cx_ok.same rfl rfl) (fun n C h => con_look (con_cons spec_l1New.sound (con_cons spec_l30Any.sound (con_cons spec_l1Once.sound (con_cons spec_SubmitPacket.sound (con_cons spec_l1Bytes.sound (con_cons spec_l1Int.sound con_nil)))))) h) Try.checked.mixed Try.func44 (by kernel_rfl) (ps := spec_DrawSubmitPacket.ps) (rs := spec_DrawSubmitPacket.rs) (by kernel_rfl) (by kernel_rfl) (by kernel_rfl)
  rw [spec_DrawSubmitPacket.eq] at h
  exact h
theorem impl_copySender.sound : Sound Try.prog 140 impl_copySender.con := by
  have h := fun_sound (Γ := impl_copySender.cx) (cx_ok.same rfl rfl) (fun n C h => con_look (con_cons impl_copyNumbered.sound con_nil) h) Try.checked.mixed Try.func140 (by kernel_rfl) (ps := impl_copySender.ps) (rs := impl_copySender.rs) (by kernel_rfl) (by kernel_rfl) (by kernel_rfl)
  rw [impl_copySender.eq] at h
  exact h
theorem impl_copySession.sound : Sound Try.prog 105 impl_copySession.con := by
  have h := fun_sound (Γ := impl_copySession.cx) (cx_ok.same rfl rfl) (fun n C h => con_look (con_cons impl_copySubscription.sound (con_cons impl_copyPayloads.sound (con_cons impl_copySender.sound con_nil))) h) Try.checked.mixed Try.func105 (by kernel_rfl) (ps := impl_copySession.ps) (rs := impl_copySession.rs) (by kernel_rfl) (by kernel_rfl) (by kernel_rfl)
  rw [impl_copySession.eq] at h
  exact h
theorem impl_SubmitPacket.sound : Sound Try.prog 45 impl_SubmitPacket.con := by
  have h := fun_sound (Γ := impl_SubmitPacket.cx) (cx_ok.same rfl rfl) (fun n C h => con_look (con_cons impl_copySession.sound (con_cons impl_copyBytes.sound con_nil)) h) Try.checked.mixed Try.func45 (by kernel_rfl) (ps := impl_SubmitPacket.ps) (rs := impl_SubmitPacket.rs) (by kernel_rfl) (by kernel_rfl) (by kernel_rfl)
  rw [impl_SubmitPacket.eq] at h
  exact h
theorem laws_sameBytes.sound : Sound Try.prog 48 laws_sameBytes.con := by
  have h := fun_sound (Γ := laws_sameBytes.cx) (cx_ok.same rfl rfl) (fun n C h => con_look (con_nil) h) Try.checked.mixed Try.func48 (by kernel_rfl) (ps := laws_sameBytes.ps) (rs := laws_sameBytes.rs) (by kernel_rfl) (by kernel_rfl) (by kernel_rfl)
  rw [laws_sameBytes.eq] at h
  exact h
theorem laws_samePayloads.sound : Sound Try.prog 47 laws_samePayloads.con := by
  have h := fun_sound (Γ := laws_samePayloads.cx) (cx_ok.same rfl rfl) (fun n C h => con_look (con_cons laws_sameBytes.sound con_nil) h) Try.checked.mixed Try.func47 (by kernel_rfl) (ps := laws_samePayloads.ps) (rs := laws_samePayloads.rs) (by kernel_rfl) (by kernel_rfl) (by kernel_rfl)
  rw [laws_samePayloads.eq] at h
  exact h
theorem laws_samePackets.sound : Sound Try.prog 108 laws_samePackets.con := by
  have h := fun_sound (Γ := laws_samePackets.cx) (cx_ok.same rfl rfl) (fun n C h => con_look (con_cons laws_sameBytes.sound con_nil) h) Try.checked.mixed Try.func108 (by kernel_rfl) (ps := laws_samePackets.ps) (rs := laws_samePackets.rs) (by kernel_rfl) (by kernel_rfl) (by kernel_rfl)
  rw [laws_samePackets.eq] at h
  exact h
theorem laws_sameSender.sound : Sound Try.prog 49 laws_sameSender.con := by
  have h := fun_sound (Γ := laws_sameSender.cx) (cx_ok.same rfl rfl) (fun n C h => con_look (con_cons laws_samePackets.sound con_nil) h) Try.checked.mixed Try.func49 (by kernel_rfl) (ps := laws_sameSender.ps) (rs := laws_sameSender.rs) (by kernel_rfl) (by kernel_rfl) (by kernel_rfl)
  rw [laws_sameSender.eq] at h
  exact h
theorem laws_sameInts.sound : Sound Try.prog 141 laws_sameInts.con := by
  have h := fun_sound (Γ := laws_sameInts.cx) (cx_ok.same rfl rfl) (fun n C h => con_look (con_nil) h) Try.checked.mixed Try.func141 (by kernel_rfl) (ps := laws_sameInts.ps) (rs := laws_sameInts.rs) (by kernel_rfl) (by kernel_rfl) (by kernel_rfl)
  rw [laws_sameInts.eq] at h
  exact h
theorem laws_samePlan.sound : Sound Try.prog 107 laws_samePlan.con := by
  have h := fun_sound (Γ := laws_samePlan.cx) (cx_ok.same rfl rfl) (fun n C h => con_look (con_cons laws_sameInts.sound con_nil) h) Try.checked.mixed Try.func107 (by kernel_rfl) (ps := laws_samePlan.ps) (rs := laws_samePlan.rs) (by kernel_rfl) (by kernel_rfl) (by kernel_rfl)
  rw [laws_samePlan.eq] at h
  exact h
theorem laws_sameSession.sound : Sound Try.prog 46 laws_sameSession.con := by
  have h := fun_sound (Γ := laws_sameSession.cx) (cx_ok.same rfl rfl) (fun n C h => con_look (con_cons laws_samePayloads.sound (con_cons laws_sameSender.sound (con_cons laws_samePlan.sound con_nil))) h) Try.checked.mixed Try.func46 (by kernel_rfl) (ps := laws_sameSession.ps) (rs := laws_sameSession.rs) (by kernel_rfl) (by kernel_rfl) (by kernel_rfl)
  rw [laws_sameSession.eq] at h
  exact h
theorem laws_FnSubmissions.sound : Sound Try.prog 10 laws_FnSubmissions.con := by
  have h := fun_sound (Γ := laws_FnSubmissions.cx) (cx_ok.same rfl rfl) (fun n C h => con_look (con_cons laws_big.sound (con_cons spec_DrawSubmitPacket.sound (con_cons impl_SubmitPacket.sound (con_cons laws_sameSession.sound (con_cons laws_samePayloads.sound (con_cons laws_sameBytes.sound (con_cons laws_sameSender.sound con_nil))))))) h) Try.checked.mixed Try.func10 (by kernel_rfl) (ps := laws_FnSubmissions.ps) (rs := laws_FnSubmissions.rs) (by kernel_rfl) (by kernel_rfl) (by kernel_rfl)
  rw [laws_FnSubmissions.eq] at h
  exact h
theorem spec_l3Word.sound : Sound Try.prog 170 spec_l3Word.con := by
  have h := fun_sound (Γ := spec_l3Word.cx) (cx_ok.same rfl rfl) (fun n C h => con_look (con_cons spec_l1Once.sound (con_cons spec_l1Int.sound (con_cons spec_l1Below.sound con_nil))) h) Try.checked.mixed Try.func170 (by kernel_rfl) (ps := spec_l3Word.ps) (rs := spec_l3Word.rs) (by kernel_rfl) (by kernel_rfl) (by kernel_rfl)
  rw [spec_l3Word.eq] at h
  exact h
theorem spec_l30Signal.sound : Sound Try.prog 142 spec_l30Signal.con := by
  have h := fun_sound (Γ := spec_l30Signal.cx) (cx_ok.same rfl rfl) (fun n C h => con_look (con_cons spec_l1Below.sound (con_cons spec_Max.sound (con_cons spec_SignSignal.sound (con_cons spec_l3Word.sound con_nil)))) h) Try.checked.mixed Try.func142 (by kernel_rfl) (ps := spec_l30Signal.ps) (rs := spec_l30Signal.rs) (by kernel_rfl) (by kernel_rfl) (by kernel_rfl)
  rw [spec_l30Signal.eq] at h
  exact h
theorem spec_l30Kind.sound : Sound Try.prog 109 spec_l30Kind.con := by
  have h := fun_sound (Γ := spec_l30Kind.cx) (cx_ok.same rfl rfl) (fun n C h => con_look (con_cons spec_l1New.sound (con_cons spec_l30Any.sound (con_cons spec_l30Signal.sound con_nil))) h) Try.checked.mixed Try.func109 (by kernel_rfl) (ps := spec_l30Kind.ps) (rs := spec_l30Kind.rs) (by kernel_rfl) (by kernel_rfl) (by kernel_rfl)
  rw [spec_l30Kind.eq] at h
  exact h
theorem spec_DrawReceivePathUpdate.sound : Sound Try.prog 50 spec_DrawReceivePathUpdate.con := by
  have h := fun_sound (Γ := spec_DrawReceivePathUpdate.cx) (cx_ok.same rfl rfl) (fun n C h => con_look (con_cons spec_l30Kind.sound con_nil) h) Try.checked.mixed Try.func50 (by kernel_rfl) (ps := spec_DrawReceivePathUpdate.ps) (rs := spec_DrawReceivePathUpdate.rs) (by kernel_rfl) (by kernel_rfl) (by kernel_rfl)
  rw [spec_DrawReceivePathUpdate.eq] at h
  exact h
theorem impl_Mod.sound : Sound Try.prog 186 impl_Mod.con := by
  have h := fun_sound (Γ := impl_Mod.cx) (cx_ok.same rfl rfl) (fun n C h => con_look (con_cons impl_InRange.sound con_nil) h) Try.checked.mixed Try.func186 (by kernel_rfl) (ps := impl_Mod.ps) (rs := impl_Mod.rs) (by kernel_rfl) (by kernel_rfl) (by kernel_rfl)
  rw [impl_Mod.eq] at h
  exact h
theorem impl_hashStep.sound : Sound Try.prog 174 impl_hashStep.con := by
  have h := fun_sound (Γ := impl_hashStep.cx) (cx_ok.same rfl rfl) (fun n C h => con_look (con_cons impl_Mod.sound con_nil) h) Try.checked.mixed Try.func174 (by kernel_rfl) (ps := impl_hashStep.ps) (rs := impl_hashStep.rs) (by kernel_rfl) (by kernel_rfl) (by kernel_rfl)
  rw [impl_hashStep.eq] at h
  exact h
theorem impl_KeyedHash.sound : Sound Try.prog 150 impl_KeyedHash.con := by
  have h := fun_sound (Γ := impl_KeyedHash.cx) (cx_ok.same rfl rfl) (fun n C h => con_look (con_cons impl_hashStep.sound con_nil) h) Try.checked.mixed Try.func150 (by kernel_rfl) (ps := impl_KeyedHash.ps) (rs := impl_KeyedHash.rs) (by kernel_rfl) (by kernel_rfl) (by kernel_rfl)
  rw [impl_KeyedHash.eq] at h
  exact h
theorem impl_DeriveKey.sound : Sound Try.prog 185 impl_DeriveKey.con := by
  have h := fun_sound (Γ := impl_DeriveKey.cx) (cx_ok.same rfl rfl) (fun n C h => con_look (con_cons impl_KeyedHash.sound con_nil) h) Try.checked.mixed Try.func185 (by kernel_rfl) (ps := impl_DeriveKey.ps) (rs := impl_DeriveKey.rs) (by kernel_rfl) (by kernel_rfl) (by kernel_rfl)
  rw [impl_DeriveKey.eq] at h
  exact h
theorem impl_deriveSteps.sound : Sound Try.prog 173 impl_deriveSteps.con := by
  have h := fun_sound (Γ := impl_deriveSteps.cx) (cx_ok.same rfl rfl) (fun n C h => con_look (con_cons impl_DeriveKey.sound con_nil) h) Try.checked.mixed Try.func173 (by kernel_rfl) (ps := impl_deriveSteps.ps) (rs := impl_deriveSteps.rs) (by kernel_rfl) (by kernel_rfl) (by kernel_rfl)
  rw [impl_deriveSteps.eq] at h
  exact h
theorem impl_KeyForPath.sound : Sound Try.prog 148 impl_KeyForPath.con := by
  have h := fun_sound (Γ := impl_KeyForPath.cx) (cx_ok.same rfl rfl) (fun n C h => con_look (con_cons impl_deriveSteps.sound con_nil) h) Try.checked.mixed Try.func148 (by kernel_rfl) (ps := impl_KeyForPath.ps) (rs := impl_KeyForPath.rs) (by kernel_rfl) (by kernel_rfl) (by kernel_rfl)
  rw [impl_KeyForPath.eq] at h
  exact h
theorem impl_SignalingKeyPath.sound : Sound Try.prog 149 impl_SignalingKeyPath.con := by
  have h := fun_sound (Γ := impl_SignalingKeyPath.cx) (cx_ok.same rfl rfl) (fun n C h => con_look (con_nil) h) Try.checked.mixed Try.func149 (by kernel_rfl) (ps := impl_SignalingKeyPath.ps) (rs := impl_SignalingKeyPath.rs) (by kernel_rfl) (by kernel_rfl) (by kernel_rfl)
  rw [impl_SignalingKeyPath.eq] at h
  exact h
theorem impl_SignalMAC.sound : Sound Try.prog 113 impl_SignalMAC.con := by
  have h := fun_sound (Γ := impl_SignalMAC.cx) (cx_ok.same rfl rfl) (fun n C h => con_look (con_cons impl_KeyForPath.sound (con_cons impl_SignalingKeyPath.sound (con_cons impl_KeyedHash.sound con_nil))) h) Try.checked.mixed Try.func113 (by kernel_rfl) (ps := impl_SignalMAC.ps) (rs := impl_SignalMAC.rs) (by kernel_rfl) (by kernel_rfl) (by kernel_rfl)
  rw [impl_SignalMAC.eq] at h
  exact h
theorem impl_VerifySignal.sound : Sound Try.prog 53 impl_VerifySignal.con := by
  have h := fun_sound (Γ := impl_VerifySignal.cx) (cx_ok.same rfl rfl) (fun n C h => con_look (con_cons impl_SignalMAC.sound con_nil) h) Try.checked.mixed Try.func53 (by kernel_rfl) (ps := impl_VerifySignal.ps) (rs := impl_VerifySignal.rs) (by kernel_rfl) (by kernel_rfl) (by kernel_rfl)
  rw [impl_VerifySignal.eq] at h
  exact h
theorem impl_copyItems_impl_Signal.sound : Sound Try.prog 143 impl_copyItems_impl_Signal.con := by
  have h := fun_sound (Γ := impl_copyItems_impl_Signal.cx) (cx_ok.same rfl rfl) (fun n C h => con_look (con_nil) h) Try.checked.mixed Try.func143 (by kernel_rfl) (ps := impl_copyItems_impl_Signal.ps) (rs := impl_copyItems_impl_Signal.rs) (by kernel_rfl) (by kernel_rfl) (by kernel_rfl)
  rw [impl_copyItems_impl_Signal.eq] at h
  exact h
theorem impl_sessionResult.sound : Sound Try.prog 110 impl_sessionResult.con := by
  have h := fun_sound (Γ := impl_sessionResult.cx) (cx_ok.same rfl rfl) (fun n C h => con_look (con_cons impl_copySession.sound (con_cons impl_copyItems_impl_Signal.sound con_nil)) h) Try.checked.mixed Try.func110 (by kernel_rfl) (ps := impl_sessionResult.ps) (rs := impl_sessionResult.rs) (by kernel_rfl) (by kernel_rfl) (by kernel_rfl)
  rw [impl_sessionResult.eq] at h
  exact h
theorem impl_SignSignal.sound : Sound Try.prog 144 impl_SignSignal.con := by
  have h := fun_sound (Γ := impl_SignSignal.cx) (cx_ok.same rfl rfl) (fun n C h => con_look (con_cons impl_SignalMAC.sound con_nil) h) Try.checked.mixed Try.func144 (by kernel_rfl) (ps := impl_SignSignal.ps) (rs := impl_SignSignal.rs) (by kernel_rfl) (by kernel_rfl) (by kernel_rfl)
  rw [impl_SignSignal.eq] at h
  exact h
theorem impl_signedSignal.sound : Sound Try.prog 111 impl_signedSignal.con := by
  have h := fun_sound (Γ := impl_signedSignal.cx) (cx_ok.same rfl rfl) (fun n C h => con_look (con_cons impl_SignSignal.sound con_nil) h) Try.checked.mixed Try.func111 (by kernel_rfl) (ps := impl_signedSignal.ps) (rs := impl_signedSignal.rs) (by kernel_rfl) (by kernel_rfl) (by kernel_rfl)
  rw [impl_signedSignal.eq] at h
  exact h
theorem impl_ReceivePathUpdate.sound : Sound Try.prog 51 impl_ReceivePathUpdate.con := by
  have h := fun_sound (Γ := impl_ReceivePathUpdate.cx) (cx_ok.same rfl rfl) (fun n C h => con_look (con_cons impl_VerifySignal.sound (con_cons impl_sessionResult.sound (con_cons impl_signedSignal.sound con_nil))) h) Try.checked.mixed Try.func51 (by kernel_rfl) (ps := impl_ReceivePathUpdate.ps) (rs := impl_ReceivePathUpdate.rs) (by kernel_rfl) (by kernel_rfl) (by kernel_rfl)
  rw [impl_ReceivePathUpdate.eq] at h
  exact h
theorem spec_VerifySignal.sound : Sound Try.prog 52 spec_VerifySignal.con := by
  have h := fun_sound (Γ := spec_VerifySignal.cx) (cx_ok.same rfl rfl) (fun n C h => con_look (con_cons spec_SignalMAC.sound con_nil) h) Try.checked.mixed Try.func52 (by kernel_rfl) (ps := spec_VerifySignal.ps) (rs := spec_VerifySignal.rs) (by kernel_rfl) (by kernel_rfl) (by kernel_rfl)
  rw [spec_VerifySignal.eq] at h
  exact h
theorem laws_FnPathUpdates.sound : Sound Try.prog 11 laws_FnPathUpdates.con := by
  have h := fun_sound (Γ := laws_FnPathUpdates.cx) (cx_ok.same rfl rfl) (fun n C h => con_look (con_cons laws_big.sound (con_cons laws_sameSession.sound (con_cons laws_sameSender.sound (con_cons spec_DrawReceivePathUpdate.sound (con_cons impl_ReceivePathUpdate.sound (con_cons spec_VerifySignal.sound (con_cons impl_VerifySignal.sound con_nil))))))) h) Try.checked.mixed Try.func11 (by kernel_rfl) (ps := laws_FnPathUpdates.ps) (rs := laws_FnPathUpdates.rs) (by kernel_rfl) (by kernel_rfl) (by kernel_rfl)
  rw [laws_FnPathUpdates.eq] at h
  exact h
theorem spec_DrawReceiveResponse.sound : Sound Try.prog 54 spec_DrawReceiveResponse.con := by
  have h := fun_sound (Γ := spec_DrawReceiveResponse.cx) (cx_ok.same rfl rfl) (fun n C h => con_look (con_cons spec_l30Kind.sound con_nil) h) Try.checked.mixed Try.func54 (by kernel_rfl) (ps := spec_DrawReceiveResponse.ps) (rs := spec_DrawReceiveResponse.rs) (by kernel_rfl) (by kernel_rfl) (by kernel_rfl)
  rw [spec_DrawReceiveResponse.eq] at h
  exact h
theorem impl_ResponseMatches.sound : Sound Try.prog 114 impl_ResponseMatches.con := by
  have h := fun_sound (Γ := impl_ResponseMatches.cx) (cx_ok.same rfl rfl) (fun n C h => con_look (con_nil) h) Try.checked.mixed Try.func114 (by kernel_rfl) (ps := impl_ResponseMatches.ps) (rs := impl_ResponseMatches.rs) (by kernel_rfl) (by kernel_rfl) (by kernel_rfl)
  rw [impl_ResponseMatches.eq] at h
  exact h
theorem impl_ReceiveResponse.sound : Sound Try.prog 55 impl_ReceiveResponse.con := by
  have h := fun_sound (Γ := impl_ReceiveResponse.cx) (cx_ok.same rfl rfl) (fun n C h => con_look (con_cons impl_sessionResult.sound (con_cons impl_signedSignal.sound (con_cons impl_ResponseMatches.sound con_nil))) h) Try.checked.mixed Try.func55 (by kernel_rfl) (ps := impl_ReceiveResponse.ps) (rs := impl_ReceiveResponse.rs) (by kernel_rfl) (by kernel_rfl) (by kernel_rfl)
  rw [impl_ReceiveResponse.eq] at h
  exact h
theorem laws_FnCoreAuthentication.sound : Sound Try.prog 12 laws_FnCoreAuthentication.con := by
  have h := fun_sound (Γ := laws_FnCoreAuthentication.cx) (cx_ok.same rfl rfl) (fun n C h => con_look (con_cons laws_big.sound (con_cons laws_sameSession.sound (con_cons impl_VerifySignal.sound (con_cons spec_DrawReceiveResponse.sound (con_cons impl_ReceiveResponse.sound con_nil))))) h) Try.checked.mixed Try.func12 (by kernel_rfl) (ps := laws_FnCoreAuthentication.ps) (rs := laws_FnCoreAuthentication.rs) (by kernel_rfl) (by kernel_rfl) (by kernel_rfl)
  rw [laws_FnCoreAuthentication.eq] at h
  exact h
end Go.Proofs.Ytaghlbodihgkmaa.XS
