/- What the law rests on: part 2 of 4. -/
import Derived.Orders
import Derived.Test.YtphigiidfanbbaaGreatV0
set_option linter.unusedVariables false
set_option linter.unusedSimpArgs false
set_option linter.unusedSectionVars false
/- Stores into variables and into arrays. -/
set_option linter.unusedVariables false
set_option linter.unusedSimpArgs false
set_option linter.unusedSectionVars false
namespace Go.Proofs.XTv

/-! ### Data that is read, leaf by leaf -/
def LfC (w : World) (A : Nat → Prop) : Lf → Value → Prop
  | .int k x, v => v = .int k x
  | .bool x, v => v = .bool x
  | .str x, v => v = .string x
  | .snap e xs _ _, v => RepC w A (.sl e) xs [v]
  | _, _ => False
def LsC (w : World) (A : Nat → Prop) : List Lf → List Value → Prop
  | [], [] => True
  | l :: ls, v :: vs => LfC w A l v ∧ LsC w A ls vs
  | _, _ => False
theorem LsC.append {w : World} {A : Nat → Prop} : ∀ {ls ms : List Lf} {vs us : List Value}, LsC w A ls vs → LsC w A ms us → LsC w A (ls ++ ms) (vs ++ us)
  | [], _, [], _, _, h => h
  | _ :: _, _, _ :: _, _, h, h2 => ⟨h.1, LsC.append h.2 h2⟩
  | [], _, _ :: _, _, h, _ => h.elim
  | _ :: _, _, [], _, h, _ => h.elim
theorem LsC.split {w : World} {A : Nat → Prop} : ∀ {ls ms : List Lf} {vs : List Value}, LsC w A (ls ++ ms) vs → ∃ v1 v2, vs = v1 ++ v2 ∧ LsC w A ls v1 ∧ LsC w A ms v2
  | [], _, vs, h => ⟨[], vs, rfl, trivial, h⟩
  | _ :: _, _, _ :: _, h => by
    obtain ⟨v1, v2, e, h1, h2⟩ := LsC.split h.2
    exact ⟨_ :: v1, v2, by rw [e]; rfl, ⟨h.1, h1⟩, h2⟩
  | _ :: _, _, [], h => h.elim
theorem LsC.length {w : World} {A : Nat → Prop} : ∀ {ls : List Lf} {vs : List Value}, LsC w A ls vs → ls.length = vs.length
  | [], [], _ => rfl
  | _ :: _, _ :: _, h => by rw [List.length_cons, List.length_cons, LsC.length h.2]
  | [], _ :: _, h => h.elim
  | _ :: _, [], h => h.elim
theorem LsC.imp {w : World} {A A' : Nat → Prop} (h : ∀ b, A b → A' b) : ∀ {ls : List Lf} {vs : List Value}, LsC w A ls vs → LsC w A' ls vs
  | [], [], _ => trivial
  | l :: _, _ :: _, hr => ⟨by
      have h1 := hr.1
      cases l <;> simp only [LfC] at h1 ⊢ <;> first | exact h1 | exact h1.keep h (fun _ _ => rfl), LsC.imp h hr.2⟩
  | [], _ :: _, h => h.elim
  | _ :: _, [], h => h.elim
theorem repC_leaves {w : World} {A : Nat → Prop} : ∀ {t : Ty} {x : t.den} {cs : List Value} (off : Nat), RepC w A t x cs ↔ LsC w A (leaves [] none off t x) cs
  | .int k, x, cs, off => by
    simp only [RepC, leaves]
    constructor
    · rintro rfl; exact ⟨rfl, trivial⟩
    · intro h
      match cs, h with
      | [v], h => rw [show v = _ from h.1]
      | v :: u :: cs, h => exact h.2.elim
  | .bool, x, cs, off => by
    simp only [RepC, leaves]
    constructor
    · rintro rfl; exact ⟨rfl, trivial⟩
    · intro h
      match cs, h with
      | [v], h => rw [show v = _ from h.1]
      | v :: u :: cs, h => exact h.2.elim
  | .str, x, cs, off => by
    simp only [RepC, leaves]
    constructor
    · rintro rfl; exact ⟨rfl, trivial⟩
    · intro h
      match cs, h with
      | [v], h => rw [show v = _ from h.1]
      | v :: u :: cs, h => exact h.2.elim
  | .unit, x, cs, off => by
    simp only [RepC, leaves]
    constructor
    · rintro rfl; exact trivial
    · intro h
      match cs, h with
      | [], _ => rfl
      | _ :: _, h => exact h.elim
  | .sl e, x, cs, off => by
    constructor
    · intro h
      match cs, RepC.length h with
      | [v], _ => exact ⟨h, trivial⟩
    · intro h
      match cs, h with
      | [v], h => exact h.1
      | v :: u :: cs, h => exact h.2.elim
  | .pair a b, x, cs, off => by
    simp only [leaves]
    constructor
    · rintro ⟨c1, c2, rfl, h1, h2⟩
      exact ((repC_leaves off).1 h1).append ((repC_leaves _).1 h2)
    · intro h
      obtain ⟨v1, v2, e1, h1, h2⟩ := h.split
      exact ⟨v1, v2, e1, (repC_leaves off).2 h1, (repC_leaves _).2 h2⟩

theorem DL.split {r : St} : ∀ {ls ls' ms : List Lf}, DL r (ls ++ ls') ms → ∃ m1 m2, ms = m1 ++ m2 ∧ DL r ls m1 ∧ DL r ls' m2
  | [], _, ms, h => ⟨[], ms, rfl, trivial, h⟩
  | _ :: _, _, _ :: _, h => by
    obtain ⟨m1, m2, e, h1, h2⟩ := DL.split h.2
    exact ⟨_ :: m1, m2, by rw [e]; rfl, ⟨h.1, h1⟩, h2⟩
  | _ :: _, _, [], h => h.elim
theorem DL.take {r : St} : ∀ {ls ms : List Lf} (n : Nat), DL r ls ms → DL r (ls.take n) (ms.take n)
  | [], [], n, _ => by simp [DL]
  | _ :: _, _ :: _, 0, _ => by simp [DL]
  | _ :: _, _ :: _, n + 1, h => ⟨h.1, DL.take n h.2⟩
  | [], _ :: _, _, h => h.elim
  | _ :: _, [], _, h => h.elim
theorem DL.drop {r : St} : ∀ {ls ms : List Lf} (n : Nat), DL r ls ms → DL r (ls.drop n) (ms.drop n)
  | [], [], n, _ => by simp [DL]
  | _ :: _, _ :: _, 0, h => h
  | _ :: _, _ :: _, n + 1, h => DL.drop n h.2
  | [], _ :: _, _, h => h.elim
  | _ :: _, [], _, h => h.elim

theorem splice_row (c1 c2 c3 vs : List Value) (off : Nat) (h : off + vs.length ≤ c2.length) :
    (c1 ++ c2 ++ c3).take (c1.length + off) ++ vs ++ (c1 ++ c2 ++ c3).drop (c1.length + off + vs.length) = c1 ++ (c2.take off ++ vs ++ c2.drop (off + vs.length)) ++ c3 := by
  rw [List.append_assoc c1, List.take_append, List.drop_append, List.take_of_length_le (i := c1.length + off) (by omega), List.drop_eq_nil_of_le (as := c1) (by omega)]
  rw [show c1.length + off - c1.length = off by omega, show c1.length + off + vs.length - c1.length = off + vs.length by omega]
  rw [List.take_append_of_le_length (by omega), List.drop_append_of_le_length (by omega)]
  simp [List.append_assoc]
theorem RepsO.at_ {α : Type} {R : α → List Value → List Nat → Prop} {n : Nat} (hn : ∀ x cs S, R x cs S → cs.length = n) {xs : List α} {es : List Value} {S : List Nat} (h : RepsO R xs es S) {i : Nat} (hi : i < xs.length) :
    ∃ c1 c2 c3 S1 S2 S3, es = c1 ++ c2 ++ c3 ∧ S = S1 ++ S2 ++ S3 ∧ c1.length = i * n ∧ R xs[i] c2 S2 ∧ RepsO R (xs.take i) c1 S1 ∧ RepsO R (xs.drop (i + 1)) c3 S3 := by
  rw [list_at xs i hi] at h
  obtain ⟨c1, c4, S1, S4, rfl, rfl, h1, c2, c3, S2, S3, rfl, rfl, h2, h3⟩ := h.split
  have hl := h1.length hn
  rw [List.length_take, Nat.min_eq_left (Nat.le_of_lt hi)] at hl
  exact ⟨c1, c2, c3, S1, S2, S3, by rw [List.append_assoc], by rw [List.append_assoc], hl, h2, h1, h3⟩

section
variable {P : Program} {Γ : Cx} {g g' : G} {r s s' : St} {w w' : World} {N : Bd} {n : Nat} {a : Act} {E : Env}

theorem lsC_of (hm : Mem N g s w) (hs : Sub r s) : ∀ {ls ms : List Lf} {vs : List Value}, DL r ls ms → LsRel g s w N ls vs → LsC w (Av g w N (lsDeps r ls)) ms vs ∧ Bnd s (lsDeps r ls) ∧ Cur s (lsDeps r ls)
  | [], [], [], _, _ => ⟨trivial, Bnd.nil, Cur.nil⟩
  | [], _ :: _, _, h, _ => h.elim
  | _ :: _, [], _, h, _ => h.elim
  | _ :: _, _, [], _, h => h.elim
  | [], [], _ :: _, _, h => h.elim
  | l :: ls, m :: ms, v :: vs, hd, hl => by
    obtain ⟨h1, h2, h3⟩ := lsC_of hm hs hd.2 hl.2
    have ht : LsC w (Av g w N (lsDeps r (l :: ls))) ms vs := h1.imp fun b hb => Av.mono (fun i hi => by simp only [lsDeps, dids_join]; exact .inr hi) hb
    have hd1 := hd.1
    have triv : lfDeps r l = [] → Bnd s (lsDeps r (l :: ls)) ∧ Cur s (lsDeps r (l :: ls)) := fun h0 => by
      simp only [lsDeps, h0, djoin]; exact ⟨h2, h3⟩
    cases m <;> simp only [LfData] at hd1
    · subst hd1; obtain ⟨b1, b2⟩ := triv rfl; exact ⟨⟨hl.1.1, ht⟩, b1, b2⟩
    · subst hd1; obtain ⟨b1, b2⟩ := triv rfl; exact ⟨⟨hl.1.1, ht⟩, b1, b2⟩
    · subst hd1; obtain ⟨b1, b2⟩ := triv rfl; exact ⟨⟨hl.1.1, ht⟩, b1, b2⟩
    · obtain ⟨rfl, rfl, hd1⟩ := hd1
      obtain ⟨k1, k2, k3⟩ := slData_rel hm hs hd1 hl.1
      refine ⟨⟨?_, ht⟩, k2.join h2, k3.join h3⟩
      exact k1.keep (fun b hb => Av.mono (fun i hi => by simp only [lsDeps, dids_join]; exact .inl hi) hb) (fun _ _ => rfl)

/-- An element with some leaves new: its data. -/
theorem elem_splice {dd : Deps} (hdd : depsOk r dd = true) {e : Ty} {x x' : e.den} {off : Nat} {new : List Lf} (hfit : off + new.length ≤ e.size) (h : ofAll r e (splice (leaves dd none 0 e x) off new) = some x') :
    ∃ nd, DL r new nd ∧ leaves [] none 0 e x' = (leaves [] none 0 e x).take off ++ nd ++ (leaves [] none 0 e x).drop (off + new.length) := by
  have hd := ofAll_data h 0
  unfold splice at hd
  obtain ⟨m12, m3, hX, hd12, hd3⟩ := hd.split
  obtain ⟨m1, nd, rfl, hd1, hdn⟩ := hd12.split
  have hL := leaves_data (r := r) hdd 0 e x
  have e1 := hL.take off
  have e3 := hL.drop (off + new.length)
  have hl1 := hd1.length
  have hln := hdn.length
  have hlx : (leaves dd none 0 e x).length = e.size := leaves_length _ _ _ _ _
  have hlx' : (leaves [] none 0 e x').length = e.size := leaves_length _ _ _ _ _
  have hlx2 : (leaves [] none 0 e x).length = e.size := leaves_length _ _ _ _ _
  have hm1 : m1.length = off := by rw [← hl1, List.length_take, hlx]; omega
  refine ⟨nd, hdn, ?_⟩
  rw [hX]
  have q1 : m1 = (leaves [] none 0 e x).take off := by
    refine hd1.det e1 (fun i m m' hi hi' => ?_)
    have hlt : i < m1.length := (List.getElem?_eq_some_iff.1 hi).1
    refine leaves_kind 0 e x' x i m m' ?_ ?_
    · rw [hX, List.append_assoc, List.getElem?_append_left hlt]; exact hi
    · rw [List.getElem?_take] at hi'
      split at hi'
      · exact hi'
      · cases hi'
  have q3 : m3 = (leaves [] none 0 e x).drop (off + new.length) := by
    refine hd3.det e3 (fun i m m' hi hi' => ?_)
    have hlt : i < m3.length := (List.getElem?_eq_some_iff.1 hi).1
    refine leaves_kind 0 e x' x (off + new.length + i) m m' ?_ ?_
    · rw [hX, List.getElem?_append_right (by rw [List.length_append]; omega), List.length_append, hm1, ← hln, show off + new.length + i - (off + new.length) = i by omega]; exact hi
    · rw [List.getElem?_drop] at hi'; exact hi'
  rw [q1, q3]

variable {k : Nat} {key : Option (Nat × Bool)} {o : Oper} {ok : Bool} {v : AV} {us : List Up}
variable (hΓ : CxOk P Γ) (hm : Mem N g s w) (hs : Sub r s) (hsl : ∀ t, AVRel g s w N (s.slot t).2 (a.tmps.getD t undef)) (hk : KeyOk r key)

theorem acts_store (hΓ : CxOk P Γ) (hm : Mem N g s w) (hs : Sub r s) (hsl : ∀ t, AVRel g s w N (s.slot t).2 (a.tmps.getD t undef)) (hk : KeyOk r key) {T : Nat} {x y : Operand} (ho : o.op = .store T x y) (h : exec Γ k r key o = some (.val ok v us)) (hok : upsOk s us = true) : Acts P N g s w a o v us := by
  simp only [exec, ho] at h
  split at h
  case h_2 => cases h
  case h_1 p vv hx hy =>
    have hp := opnd_rel hs hsl hk hx
    have hv := opnd_rel hs hsl hk hy
    rw [storeOp_eq] at h
    unfold storeOpL at h
    cases hti : Γ.ti T with
    | none => simp [hti] at h
    | some ti =>
      simp only [hti] at h
      cases hav : avLs ti.agg vv with
      | none => simp [hav] at h
      | some new =>
        simp only [hav] at h
        cases hc : Nat.beq new.length ti.ty.size && allLive new
        · simp [hc] at h
        simp only [hc, cond_true] at h
        rw [Bool.and_eq_true] at hc
        have hlen := beq_iff'.1 hc.1
        obtain ⟨hvr, _⟩ := avLs_rel hav hv
        obtain ⟨hcells, hlive⟩ := hvr.cells hc.2
        have hcl := hcells.length
        obtain ⟨i, z, hi, hsize, hbytes, hz, hzc⟩ := (hΓ.ty T ti hti).info
        have hcsz : (a.eval y).cells.size = i.size := by rw [hsize, ← hlen, hcl, Array.length_toList]
        have ex : ∀ {b off : Nat} {c : Array Value} {T' : TypeId}, a.eval x = .pointer (some ⟨b, off, none⟩) → w.heap[b]? = some (.cells c T' (0, 0)) → off + new.length ≤ c.size →
            (execOp a.eval o).run P w = .ok .skip (w.setRow b (c.toList.take off ++ (a.eval y).cells.toList ++ c.toList.drop (off + (a.eval y).cells.toList.length)).toArray) := by
          intro b off c T' e1 e2 e3
          have hst := run_storeVar_at (P := P) (T := T) hi e2 hcsz (by rw [← Array.length_toList, ← hcl]; exact e3) hlive
          simp only [execOp, ho, Instr.storeAt, e1, Instr.sureAddr]
          rw [Sem.run_bind]
          simp only [Sem.run_bind, Sem.run_pure, Result.andThen_ok]
          rw [hst]; rfl
        cases p with
        | ptr id off =>
          simp only at h
          cases hr : r.root id with
          | none => simp [hr] at h
          | some q =>
            cases q with
            | arr _ _ _ _ => simp [hr] at h
            | box ls =>
              simp only [hr] at h
              cases hle : Nat.ble (off + new.length) ls.length
              · simp [hle] at h
              have hle' := Nat.le_of_ble_eq_true hle
              simp only [hle, cond_true, Option.some.injEq, Res.val.injEq] at h
              obtain ⟨_, rfl, rfl⟩ := h
              obtain ⟨hroot, hver⟩ := hs.root id _ hr
              obtain ⟨b, hb, hpv⟩ := hp.1.2 ls hroot
              obtain ⟨_, b', c, T', hk', hω, hh, hls⟩ := hm.roots id _ hroot
              obtain rfl : b = b' := by rw [hb] at hk'; cases hk'; rfl
              have hll : ls.length = c.size := by rw [hls.length, Array.length_toList]
              have hsp := hls.splice hcells off
              refine ⟨g, _, undef, .inr ⟨ex hpv hh (by omega), rfl⟩, step_storeBox hm hroot hb hh (cs := (c.toList.take off ++ (a.eval y).cells.toList ++ c.toList.drop (off + (a.eval y).cells.toList.length)).toArray) (by simpa using hsp) hok, ⟨#[], rfl, trivial⟩⟩
        | eptr id ix off =>
          simp only at h
          cases hq : arrOf r id with
          | none => simp [hq] at h
          | some q =>
            obtain ⟨e, xs, deep, d⟩ := q
            obtain ⟨hrr, hdok⟩ := arrOf_some hq
            simp only at hrr hdok
            simp only [hq] at h
            cases hx' : ofAll r e (splice (leaves ((id, r.ver id) :: d) none 0 e (lget e xs ix)) off new) with
            | none => simp [hx'] at h
            | some x' =>
              simp only [hx'] at h
              cases hcond : nmem id (absorb r new).2.2 || nmem id (dids (absorb r new).2.1)
              case true => simp [hcond] at h
              simp only [hcond, cond_false, Option.some.injEq, Res.val.injEq] at h
              obtain ⟨_, rfl, rfl⟩ := h
              rw [Bool.or_eq_false_iff] at hcond
              have hnid := nmem_false.1 hcond.1
              have hndid := nmem_false.1 hcond.2
              obtain ⟨hroot, hver⟩ := hs.root id _ hrr
              obtain ⟨hi0, hi1, b, hb, hpv⟩ := hp.1.2 _ _ _ _ hroot
              obtain ⟨hv1, hbd, hrr2⟩ := hm.roots id _ hroot
              rcases hrr2 with ⟨hk', _⟩ | ⟨b', c, T', es, rest, hk', hω, hh, hc0, hl, hsz, hcap, hcont⟩
              · rw [hb] at hk'; cases hk'
              obtain rfl : b = b' := by rw [hb] at hk'; cases hk'; rfl
              have hin : ix.toNat < xs.length := by omega
              have hget : lget e xs ix = xs[ix.toNat] := by simp [lget, List.getD_eq_getElem?_getD, List.getElem?_eq_getElem hin]
              rw [hget] at hx'
              have hdd : depsOk r ((id, r.ver id) :: d) = true := by simp [depsOk, hdok]
              have hcur := hs.cur hbd hdok
              -- how many leaves
              have hfit : off + new.length ≤ e.size := by
                have h1 := (ofAll_data hx' 0).length
                rw [leaves_length] at h1
                unfold splice at h1
                simp only [List.length_append, List.length_take, List.length_drop, leaves_length] at h1
                have hpos := (hΓ.ty T ti hti).pos
                omega
              obtain ⟨nd, hnd, hX⟩ := elem_splice hdd hfit hx'
              -- the element's place
              have split : ∃ c1 c2 c3, es = c1 ++ c2 ++ c3 ∧ c1.length = ix.toNat * e.size ∧ c2.length = e.size := by
                refine ⟨es.take (ix.toNat * e.size), (es.drop (ix.toNat * e.size)).take e.size, (es.drop (ix.toNat * e.size)).drop e.size, by rw [List.append_assoc, List.take_append_drop, List.take_append_drop], ?_, ?_⟩
                · rw [List.length_take, hl]; exact Nat.min_eq_left (Nat.mul_le_mul_right _ (by omega))
                · rw [List.length_take, List.length_drop, hl, ← Nat.sub_mul]
                  exact Nat.min_eq_left (Nat.le_mul_of_pos_left _ (by omega))
              obtain ⟨c1, c2, c3, hes, hc1, hc2⟩ := split
              have hvs : (a.eval y).cells.toList.length = new.length := hcl.symm
              have hrow : c.toList.take (ix.toNat * e.size + off) ++ (a.eval y).cells.toList ++ c.toList.drop (ix.toNat * e.size + off + (a.eval y).cells.toList.length) =
                  (c1 ++ (c2.take off ++ (a.eval y).cells.toList ++ c2.drop (off + (a.eval y).cells.toList.length)) ++ c3) ++ rest := by
                have := splice_row c1 c2 (c3 ++ rest) (a.eval y).cells.toList off (by omega)
                rw [hc1] at this
                rw [hc0, hes]
                simpa [List.append_assoc] using this
              have hfitc : ix.toNat * e.size + off + new.length ≤ c.size := by
                have h1 : ix.toNat * e.size + e.size ≤ xs.length * e.size := by
                  rw [← Nat.succ_mul]; exact Nat.mul_le_mul_right _ hin
                have h2 : xs.length * e.size ≤ c.size := by rw [← hl, ← Array.length_toList, hc0, List.length_append]; omega
                omega
              have hlset : lset xs ix x' = xs.take ix.toNat ++ x' :: xs.drop (ix.toNat + 1) := set_at xs ix.toNat x' hin
              have hlC : (c2.take off ++ (a.eval y).cells.toList ++ c2.drop (off + (a.eval y).cells.toList.length)).length = e.size := by
                simp only [List.length_append, List.length_take, List.length_drop, hc2]; omega
              have hnb : ∀ i, i ∈ dids (lsDeps r new) → i ≠ id := by
                rintro i hi rfl
                rcases absorb_deps hm hs hi with h | h
                · exact hndid h
                · exact hnid h
              have hM : ∀ b', b' < w.heap.size → (∃ i, i ∈ dids (lsDeps r new) ∧ g.ω b' = some i) → b' ≠ b := by
                rintro b' _ ⟨i, hi, hw⟩ rfl
                rw [hω] at hw; cases hw
                exact hnb _ hi rfl
              have stp := step_arr (n := id) (r := r) (M := (absorb r new).2.2) (w' := w.setRow b ((c1 ++ (c2.take off ++ (a.eval y).cells.toList ++ c2.drop (off + (a.eval y).cells.toList.length)) ++ c3) ++ rest).toArray)
                (xs := lset xs ix x') (deep := deep && (absorb r new).1) (d := bif deep && (absorb r new).1 then [] else djoin (absorb r new).2.1 d) (v := r.ver id + 1) (b0 := b) (cap := g.cp id)
                (c := ((c1 ++ (c2.take off ++ (a.eval y).cells.toList ++ c2.drop (off + (a.eval y).cells.toList.length)) ++ c3) ++ rest).toArray) (T := T')
                (es := c1 ++ (c2.take off ++ (a.eval y).cells.toList ++ c2.drop (off + (a.eval y).cells.toList.length)) ++ c3) (rest := rest) hm (hm.ne0 hroot) hnid hok (fun _ => ⟨hb, rfl, _, hroot, rfl, by simp [lset]⟩)
                (by simp [World.setRow]) (fun b' _ hne => setRow_other w b b' _ hne) (setRow_heap w b c _ T' _ hh) (.inr ⟨id, .inr rfl, hω⟩) (by simp)
                (by
                  have e1 : (lset xs ix x').length = xs.length := by simp [lset]
                  have e2 : es.length = c1.length + c2.length + c3.length := by rw [hes]; simp [Nat.add_assoc]
                  rw [e1, List.length_append, List.length_append, hlC, ← hl, e2, hc2])
                (by
                  have : ((c1 ++ (c2.take off ++ (a.eval y).cells.toList ++ c2.drop (off + (a.eval y).cells.toList.length)) ++ c3) ++ rest).length = c.toList.length := by
                    have h9 := hlC
                    rw [hc0, hes]; simp only [List.length_append, hc2] at h9 ⊢
                    omega
                  rw [List.size_toArray, this, Array.length_toList, hsz])
                (by simpa [lset] using hcap)
                (by
                  cases hdp : deep && (absorb r new).1
                  · simp only [cond_false]
                    have habd : Bnd s (absorb r new).2.1 := fun p hp' => (lsC_of hm hs hnd hcells).2.1 p (absorb_sub hp')
                    exact habd.join hbd
                  · exact Bnd.nil)
                (fun hdp => by
                  rw [Bool.and_eq_true] at hdp
                  obtain ⟨hdp1, hdp2⟩ := hdp
                  subst hdp1
                  simp only [if_true] at hcont
                  obtain ⟨_, S, hS, hnds, hown⟩ := hcont
                  refine ⟨by simp [hdp2], ?_⟩
                  obtain ⟨d1, d2, d3, S1, S2, S3, hes2, rfl, hd1, hel, hpre, hpost⟩ := hS.at_ (fun _ _ _ h => h.length) hin
                  have hd2 := hel.length
                  have hcc : c1 = d1 ∧ c2 = d2 ∧ c3 = d3 := by
                    rw [hes, List.append_assoc, List.append_assoc] at hes2
                    obtain ⟨q1, q2⟩ := List.append_inj hes2 (by rw [hc1, hd1])
                    obtain ⟨q3, q4⟩ := List.append_inj q2 (by rw [hc2, hd2])
                    exact ⟨q1, q3, q4⟩
                  obtain ⟨rfl, rfl, rfl⟩ := hcc
                  have hab : absorb r new = (true, (absorb r new).2.1, (absorb r new).2.2) := by rw [← hdp2]
                  obtain ⟨_, _, Sn, hSn, hSnd, hSno⟩ := absorb_deep hm hs hab hnd hcells
                  have hLs := (repO_leaves 0).1 hel
                  rw [← List.take_append_drop off (leaves [] none 0 e xs[ix.toNat]), ← List.take_append_drop new.length ((leaves [] none 0 e xs[ix.toNat]).drop off), ← List.append_assoc] at hLs
                  obtain ⟨u12, u3, T12, T3, hu, hT, hL12, hL3⟩ := hLs.split
                  obtain ⟨u1, u2, T1, T2, rfl, rfl, hL1, hL2⟩ := hL12.split
                  have hu1 : u1.length = off := by rw [← hL1.length, List.length_take, leaves_length]; omega
                  have hu2 : u2.length = new.length := by rw [← hL2.length, List.length_take, List.length_drop, leaves_length]; omega
                  have ht : c2.take off = u1 := by rw [hu, List.append_assoc, ← hu1]; exact List.take_left
                  have hdr : c2.drop (off + (a.eval y).cells.toList.length) = u3 := by
                    rw [hu, hvs, ← hu1, ← hu2, ← List.length_append]; exact List.drop_left
                  rw [List.drop_drop] at hL3
                  have hnew : RepO w e x' (c2.take off ++ (a.eval y).cells.toList ++ c2.drop (off + (a.eval y).cells.toList.length)) (T1 ++ Sn ++ T3) := by
                    rw [repO_leaves 0, hX, ht, hdr]
                    exact (hL1.append hSn).append hL3
                  refine ⟨S1 ++ (T1 ++ Sn ++ T3) ++ S3, ?_, ?_, ?_, ?_⟩
                  · rw [hlset]
                    have := RepsO.append hpre (show RepsO (RepO w e) (x' :: xs.drop (ix.toNat + 1)) ((c2.take off ++ (a.eval y).cells.toList ++ c2.drop (off + (a.eval y).cells.toList.length)) ++ c3) ((T1 ++ Sn ++ T3) ++ S3) from ⟨_, _, _, _, rfl, rfl, hnew, hpost⟩)
                    simpa [List.append_assoc] using this
                  · rw [hT] at hnds hown
                    have h1 := (List.nodup_cons.1 hnds).2
                    have hdis : ∀ b1 ∈ Sn, b1 ∉ S1 ++ (T1 ++ T2 ++ T3) ++ S3 := fun b1 hb1 hb2 => by
                      obtain ⟨i, hi, hw⟩ := hSno b1 hb1
                      rw [hown b1 hb2] at hw; cases hw
                      exact hnid hi
                    have hperm : (S1 ++ (T1 ++ Sn ++ T3) ++ S3).Perm (Sn ++ (S1 ++ (T1 ++ T3) ++ S3)) := List.perm_iff_count.2 fun x => by simp only [List.count_append]; omega
                    have hsub : (S1 ++ (T1 ++ T3) ++ S3).Sublist (S1 ++ (T1 ++ T2 ++ T3) ++ S3) :=
                      List.Sublist.append (List.Sublist.append (List.Sublist.refl _) (List.Sublist.append (List.sublist_append_left _ _) (List.Sublist.refl _))) (List.Sublist.refl _)
                    rw [hperm.nodup_iff, List.nodup_append]
                    exact ⟨hSnd, hsub.nodup h1, fun b1 hb1 b2 hb2 he => hdis b1 hb1 (he ▸ hsub.subset hb2)⟩
                  · rw [hT] at hnds
                    have h1 := (List.nodup_cons.1 hnds).1
                    intro hmem
                    simp only [List.mem_append] at hmem h1
                    have hb2 : b ∈ Sn := by grind
                    obtain ⟨i, hi, hw⟩ := hSno b hb2
                    rw [hω] at hw; cases hw
                    exact hnid hi
                  · intro b1 hb1
                    rw [hT] at hown
                    by_cases hbn : b1 ∈ Sn
                    · obtain ⟨i, hi, hw⟩ := hSno b1 hbn
                      exact ⟨i, .inl hi, hw⟩
                    · refine ⟨id, .inr rfl, hown b1 ?_⟩
                      simp only [List.mem_append] at hb1 ⊢
                      grind)
                (fun hdp hcur' hfree => by
                  simp only [hdp, cond_false] at hcur' hfree ⊢
                  have hfr : ∀ i ∈ dids d, i ≠ id := fun i hi => (hfree i (dids_join.2 (.inr hi))).2
                  -- the elements that stood there
                  have hold : Reps (RepC w (fun b' => b' ≠ b ∧ (Av g w N (djoin (absorb r new).2.1 d) b' ∨ (b' < w.heap.size ∧ ∃ i, (i ∈ (absorb r new).2.2 ∨ i = id) ∧ g.ω b' = some i))) e) xs es := by
                    cases deep
                    · simp only [Bool.false_eq_true, if_false] at hcont
                      refine (hcont hcur).imp fun _ _ hr => hr.keep (fun b' hb' => ⟨hb'.1, ?_⟩) (fun _ _ => rfl)
                      rcases hb'.2 with ⟨hlt, ⟨h1, h2⟩ | ⟨i, h1, h2⟩⟩
                      · refine .inl ⟨hlt, .inl ⟨h1, ?_⟩⟩
                        rcases h2 with h2 | h2
                        · obtain ⟨h2, h3⟩ := h2
                          simp only [dids, List.mem_cons] at h2
                          rcases h2 with h2 | h2
                          · exact absurd h2.symm (hm.ne0 hroot)
                          · exact .inl ⟨dids_join.2 (.inr h2), h3⟩
                        · exact .inr h2
                      · simp only [dids, List.mem_cons] at h1
                        rcases h1 with rfl | h1
                        · exact .inr ⟨hlt, i, .inr rfl, h2.2⟩
                        · exact .inl ⟨hlt, .inr ⟨i, dids_join.2 (.inr h1), h2⟩⟩
                    · simp only [if_true] at hcont
                      obtain ⟨_, S, hS, hnds, hown⟩ := hcont
                      have hbS := (List.nodup_cons.1 hnds).1
                      exact hS.reps fun x cs S1 hs1 hr => hr.repC fun b' hb' => ⟨fun h => hbS (h ▸ hs1 b' hb'), .inr ⟨hm.own b' id (hown b' (hs1 b' hb')), id, .inr rfl, hown b' (hs1 b' hb')⟩⟩
                  obtain ⟨d1, d2, d3, hes2, hd1, hel, hpre, hpost⟩ := hold.at_ (fun _ _ h => h.length) hin
                  have hd2 := hel.length
                  have hcc : c1 = d1 ∧ c2 = d2 ∧ c3 = d3 := by
                    rw [hes, List.append_assoc, List.append_assoc] at hes2
                    obtain ⟨q1, q2⟩ := List.append_inj hes2 (by rw [hc1, hd1])
                    obtain ⟨q3, q4⟩ := List.append_inj q2 (by rw [hc2, hd2])
                    exact ⟨q1, q3, q4⟩
                  obtain ⟨rfl, rfl, rfl⟩ := hcc
                  have hLs := (repC_leaves 0).1 hel
                  rw [← List.take_append_drop off (leaves [] none 0 e xs[ix.toNat]), ← List.take_append_drop new.length ((leaves [] none 0 e xs[ix.toNat]).drop off), ← List.append_assoc] at hLs
                  obtain ⟨u12, u3, hu, hL12, hL3⟩ := hLs.split
                  obtain ⟨u1, u2, rfl, hL1, hL2⟩ := hL12.split
                  have hu1 : u1.length = off := by rw [← hL1.length, List.length_take, leaves_length]; omega
                  have hu2 : u2.length = new.length := by rw [← hL2.length, List.length_take, List.length_drop, leaves_length]; omega
                  have ht : c2.take off = u1 := by rw [hu, List.append_assoc, ← hu1]; exact List.take_left
                  have hdr : c2.drop (off + (a.eval y).cells.toList.length) = u3 := by
                    rw [hu, hvs, ← hu1, ← hu2, ← List.length_append]; exact List.drop_left
                  rw [List.drop_drop] at hL3
                  have hnewC := (lsC_of hm hs hnd hcells).1.imp (A' := fun b' => b' ≠ b ∧ (Av g w N (djoin (absorb r new).2.1 d) b' ∨ (b' < w.heap.size ∧ ∃ i, (i ∈ (absorb r new).2.2 ∨ i = id) ∧ g.ω b' = some i))) (fun b' hb' => by
                    obtain ⟨hlt, h1⟩ := hb'
                    rcases h1 with ⟨h1, h2⟩ | ⟨i, h1, h2⟩
                    · refine ⟨fun h => (by rw [h, hω] at h1; cases h1), .inl ⟨hlt, .inl ⟨h1, h2.imp (fun h => ⟨?_, h.2⟩) (fun h => h)⟩⟩⟩
                      rcases absorb_deps hm hs h.1 with h | h
                      · exact dids_join.2 (.inl h)
                      · exfalso
                        obtain ⟨e9, xs9, d9, h9⟩ := absorb_ids.2 _ h
                        exact hm.ne0 (hs.root _ _ h9).1 rfl
                    · refine ⟨hM b' hlt ⟨i, h1, h2.2⟩, ?_⟩
                      rcases absorb_deps hm hs h1 with h | h
                      · exact .inl ⟨hlt, .inr ⟨i, dids_join.2 (.inl h), h2⟩⟩
                      · exact .inr ⟨hlt, i, .inl h, h2.2⟩)
                  have hnew : RepC w (fun b' => b' ≠ b ∧ (Av g w N (djoin (absorb r new).2.1 d) b' ∨ (b' < w.heap.size ∧ ∃ i, (i ∈ (absorb r new).2.2 ∨ i = id) ∧ g.ω b' = some i))) e x' (c2.take off ++ (a.eval y).cells.toList ++ c2.drop (off + (a.eval y).cells.toList.length)) := by
                    rw [repC_leaves 0, hX, ht, hdr]
                    exact (hL1.append hnewC).append hL3
                  rw [hlset]
                  have := Reps.append hpre (show Reps (RepC w (fun b' => b' ≠ b ∧ (Av g w N (djoin (absorb r new).2.1 d) b' ∨ (b' < w.heap.size ∧ ∃ i, (i ∈ (absorb r new).2.2 ∨ i = id) ∧ g.ω b' = some i))) e) (x' :: xs.drop (ix.toNat + 1)) ((c2.take off ++ (a.eval y).cells.toList ++ c2.drop (off + (a.eval y).cells.toList.length)) ++ c3) from ⟨_, _, rfl, hnew, hpost⟩)
                  simpa [List.append_assoc] using this)
                rfl rfl rfl
              obtain ⟨hst, _⟩ := stp
              refine ⟨_, _, undef, .inr ⟨?_, rfl⟩, hst, ⟨#[], rfl, trivial⟩⟩
              have := ex hpv hh hfitc
              rw [hrow] at this
              exact this
        | _ => simp at h
end
end Go.Proofs.XTv
/- The builtins append and copy: runs, and what they come to. -/
set_option linter.unusedVariables false
set_option linter.unusedSimpArgs false
set_option linter.unusedSectionVars false
namespace Go.Proofs.XTv

section
variable {P : Program} (w : World)

theorem run_first {size n : Nat} {A : Option Addr} {len cap : Nat} {news : List Value} (hl : news.length = n * size) (h : n = 0 ∨ ∃ a, A = some a ∧ ∀ j v, news[j]? = some v → w.cell? (a.add j) = some v) :
    (Builtin.firstCells size n (.slice A len cap)).run P w = .ok news.toArray w := by
  rcases h with rfl | ⟨a, rfl, h⟩
  · have : news = [] := List.eq_nil_of_length_eq_zero (by simpa using hl)
    subst this
    cases A with
    | none => simp [Builtin.firstCells]
    | some a =>
      simp only [Builtin.firstCells, Nat.zero_mul]
      have := run_loadCells_list (P := P) w a [] (fun j v h => by simp at h)
      simpa using this
  · exact run_firstCells_some w size n a len cap news hl h

theorem run_app_fit (t u ty e e' : TypeId) (i : TypeInfo) (ht : P.underlying t = some (.slice e)) (hu : P.underlying u = some (.slice e')) (hi : P.info? e = some i)
    (g sLen sCap : Nat) (cur : Array Value) (T : TypeId) (hg : w.heap[g]? = some (.cells cur T (0, 0)))
    (A : Option Addr) (m c : Nat) (news : List Value) (hl : news.length = m * i.size) (hnews : m = 0 ∨ ∃ a, A = some a ∧ ∀ j v, news[j]? = some v → w.cell? (a.add j) = some v) (h1 : ∀ u ∈ news, u.oneCell' = true)
    (hroom : sLen + m ≤ sCap) (hfit : sLen * i.size + news.length ≤ cur.size) :
    (Builtin.append_ #[t, u] ty #[.slice (some ⟨g, 0, none⟩) sLen sCap, .slice A m c]).run P w =
      .ok (.slice (some ⟨g, 0, none⟩) (sLen + m) sCap) (w.setRow g (cur.toList.take (sLen * i.size) ++ news ++ cur.toList.drop (sLen * i.size + news.length)).toArray) := by
  have hf := run_first (P := P) w (len := m) (cap := c) hl hnews
  have hst := run_storeCells_at P g (sLen * i.size) T news 0 cur w hg (by simpa using hfit) h1
  simp only [Nat.add_zero] at hst
  simp [Builtin.append_, run_underlying ht, run_underlying hu, sizeOf, typeInfo, hi, Builtin.lenOf, hroom, hf, add_mk, hst]
theorem run_app_none (t u ty e e' : TypeId) (i : TypeInfo) (ht : P.underlying t = some (.slice e)) (hu : P.underlying u = some (.slice e')) (hi : P.info? e = some i) (A : Option Addr) (c : Nat) :
    (Builtin.append_ #[t, u] ty #[.slice none 0 0, .slice A 0 c]).run P w = .ok (.slice none 0 0) w := by
  have hf := run_first (P := P) w (size := i.size) (n := 0) (A := A) (len := 0) (cap := c) (news := []) (by simp) (.inl rfl)
  simp [Builtin.append_, run_underlying ht, run_underlying hu, sizeOf, typeInfo, hi, Builtin.lenOf, hf]
theorem run_app_grow (t u ty e e' : TypeId) (i : TypeInfo) (z : Value) (ht : P.underlying t = some (.slice e)) (hu : P.underlying u = some (.slice e')) (hi : P.info? e = some i) (hz : i.zero = some z) (hby : i.bytes ≠ 0)
    (B : Option Addr) (sLen sCap : Nat) (olds : List Value) (hlo : olds.length = sLen * i.size) (holds : sLen = 0 ∨ ∃ b, B = some b ∧ ∀ j v, olds[j]? = some v → w.cell? (b.add j) = some v)
    (A : Option Addr) (m c : Nat) (news : List Value) (hl : news.length = m * i.size) (hnews : m = 0 ∨ ∃ a, A = some a ∧ ∀ j v, news[j]? = some v → w.cell? (a.add j) = some v)
    (hg : sCap < sLen + m) (hb : (sLen + m) * i.bytes ≤ 140737488355328) :
    (Builtin.append_ #[t, u] ty #[.slice B sLen sCap, .slice A m c]).run P w =
      .ok (.slice (some ⟨w.heap.size, 0, none⟩) (sLen + m) (grownCap w (sLen + m) sCap e))
        (w.drew.alloc (.cells (olds ++ news ++ (Builtin.zeroCells z.cells (grownCap w (sLen + m) sCap e - (sLen + m))).toList).toArray e)) := by
  have hn : ¬ (sLen + m ≤ sCap) := by omega
  have h48' : ¬ (281474976710656 < Builtin.nextslicecap (sLen + m) sCap * i.bytes) := by
    have := growslice_fits hg hb; omega
  have hf := run_first (P := P) w.drew (len := m) (cap := c) hl (by simpa using hnews)
  have hfo := run_first (P := P) w.drew (len := sLen) (cap := sCap) hlo (by simpa using holds)
  simp [Builtin.append_, run_underlying ht, run_underlying hu, sizeOf, typeInfo, zeroValue, hi, hz, hby, Builtin.lenOf, hn, h48', Question.forced, hf, hfo, newRow, grownCap]
  congr 2
  apply Array.ext'
  simp [List.append_assoc]

theorem run_cpy (t u ty e : TypeId) (i : TypeInfo) (ht : P.underlying t = some (.slice e)) (hi : P.info? e = some i)
    (g o dLen dCap : Nat) (cur : Array Value) (T : TypeId) (hg : w.heap[g]? = some (.cells cur T (0, 0)))
    (A : Option Addr) (m c : Nat) (news : List Value) (hl : news.length = min m dLen * i.size) (hnews : min m dLen = 0 ∨ ∃ a, A = some a ∧ ∀ j v, news[j]? = some v → w.cell? (a.add j) = some v) (h1 : ∀ u ∈ news, u.oneCell' = true)
    (hfit : o + news.length ≤ cur.size) :
    (Builtin.copy_ #[t, u] ty #[.slice (some ⟨g, o, none⟩) dLen dCap, .slice A m c]).run P w =
      .ok (.int .i64 (min m dLen : Nat)) (w.setRow g (cur.toList.take o ++ news ++ cur.toList.drop (o + news.length)).toArray) := by
  have hf := run_first (P := P) w (len := m) (cap := c) hl hnews
  have hst := run_storeCells_at P g o T news 0 cur w hg (by simpa using hfit) h1
  simp only [Nat.add_zero] at hst
  have hmn : Nat.min m dLen = min m dLen := rfl
  simp [Builtin.copy_, run_underlying ht, Builtin.lenOf, sizeOf, typeInfo, hi, hmn, hf, hst, goInt]
theorem run_cpy_none (t u ty e : TypeId) (i : TypeInfo) (ht : P.underlying t = some (.slice e)) (hi : P.info? e = some i) (B A : Option Addr) (dLen dCap m c : Nat) (h0 : min m dLen = 0) :
    (Builtin.copy_ #[t, u] ty #[.slice B dLen dCap, .slice A m c]).run P w = .ok (.int .i64 0) w := by
  have hf := run_first (P := P) w (size := i.size) (n := 0) (A := A) (len := m) (cap := c) (news := []) (by simp) (.inl rfl)
  have hmn : Nat.min m dLen = 0 := h0
  cases B with
  | none => simp [Builtin.copy_, run_underlying ht, Builtin.lenOf, sizeOf, typeInfo, hi, hmn, hf, goInt]
  | some a => simp [Builtin.copy_, run_underlying ht, Builtin.lenOf, sizeOf, typeInfo, hi, hmn, hf, goInt, storeCells]
end

/-! ### Data without slices -/
theorem flat_own {w : World} {A : Nat → Prop} : ∀ {t : Ty} {x : t.den} {cs : List Value}, t.hasSl = false → RepC w A t x cs → RepO w t x cs []
  | .int _, _, _, _, h => ⟨h, rfl⟩
  | .bool, _, _, _, h => ⟨h, rfl⟩
  | .str, _, _, _, h => ⟨h, rfl⟩
  | .unit, _, _, _, h => ⟨h, rfl⟩
  | .sl _, _, _, hf, _ => by simp [Ty.hasSl] at hf
  | .pair a b, _, _, hf, ⟨c1, c2, e, h1, h2⟩ => by
    simp only [Ty.hasSl, Bool.or_eq_false_iff] at hf
    exact ⟨c1, c2, [], [], e, rfl, flat_own hf.1 h1, flat_own hf.2 h2⟩
theorem flat_nil {w : World} : ∀ {t : Ty} {x : t.den} {cs : List Value} {S : List Nat}, t.hasSl = false → RepO w t x cs S → S = []
  | .int _, _, _, _, _, h => h.2
  | .bool, _, _, _, _, h => h.2
  | .str, _, _, _, _, h => h.2
  | .unit, _, _, _, _, h => h.2
  | .sl _, _, _, _, hf, _ => by simp [Ty.hasSl] at hf
  | .pair a b, _, _, _, hf, ⟨c1, c2, S1, S2, e, es, h1, h2⟩ => by
    simp only [Ty.hasSl, Bool.or_eq_false_iff] at hf
    rw [es, flat_nil hf.1 h1, flat_nil hf.2 h2]; rfl
theorem flat_any {w : World} {A A' : Nat → Prop} {t : Ty} {x : t.den} {cs : List Value} (hf : t.hasSl = false) (h : RepC w A t x cs) : RepC w A' t x cs :=
  (flat_own hf h).repC (fun b hb => by cases hb)
theorem flats_own {w : World} {A : Nat → Prop} {t : Ty} (hf : t.hasSl = false) : ∀ {xs : List t.den} {cs : List Value}, Reps (RepC w A t) xs cs → RepsO (RepO w t) xs cs []
  | [], _, h => ⟨h, rfl⟩
  | _ :: _, _, ⟨c1, c2, e, h1, h2⟩ => ⟨c1, c2, [], [], e, rfl, flat_own hf h1, flats_own hf h2⟩
theorem flats_nil {w : World} {t : Ty} (hf : t.hasSl = false) : ∀ {xs : List t.den} {cs : List Value} {S : List Nat}, RepsO (RepO w t) xs cs S → S = []
  | [], _, _, h => h.2
  | _ :: _, _, _, ⟨c1, c2, S1, S2, e, es, h1, h2⟩ => by rw [es, flat_nil hf h1, flats_nil hf h2]; rfl
theorem repC_cells {w : World} {A : Nat → Prop} : ∀ {t : Ty} {x : t.den} {cs : List Value}, RepC w A t x cs → ∀ v ∈ cs, v.oneCell' = true
  | .int _, _, _, h => by simp only [RepC] at h; subst h; intro v hv; simp at hv; subst hv; rfl
  | .bool, _, _, h => by simp only [RepC] at h; subst h; intro v hv; simp at hv; subst hv; rfl
  | .str, _, _, h => by simp only [RepC] at h; subst h; intro v hv; simp at hv; subst hv; rfl
  | .unit, _, _, h => by simp only [RepC] at h; subst h; intro v hv; simp at hv
  | .sl _, _, _, h => by obtain ⟨_, _, rfl, _⟩ := h; intro v hv; simp at hv; subst hv; rfl
  | .pair a b, _, _, h => by
    obtain ⟨c1, c2, rfl, h1, h2⟩ := h
    intro v hv
    rcases List.mem_append.1 hv with hv | hv
    · exact repC_cells h1 v hv
    · exact repC_cells h2 v hv
theorem reps_cells {w : World} {A : Nat → Prop} {t : Ty} : ∀ {xs : List t.den} {cs : List Value}, Reps (RepC w A t) xs cs → ∀ v ∈ cs, v.oneCell' = true
  | [], _, h => by rw [show _ = [] from h]; intro v hv; cases hv
  | _ :: _, _, ⟨c1, c2, e, h1, h2⟩ => by
    rw [e]
    intro v hv
    rcases List.mem_append.1 hv with hv | hv
    · exact repC_cells h1 v hv
    · exact reps_cells h2 v hv

section
variable {P : Program} {Γ : Cx} {g g' : G} {r s s' : St} {w w' : World} {N : Bd} {n : Nat} {a : Act} {E : Env}

/-- What an append begins with: an array of one's own (or none), its elements in place. -/
structure Base (g : G) (s : St) (w : World) (N : Bd) (e : Ty) (xs : List e.den) (deep : Bool) (d : Deps) (old : List Nat) (A : Option Addr) (len cap : Nat) : Prop where
  hlen : len = xs.length
  hcap : len ≤ cap
  nodup : old.Nodup
  alive : ∀ i ∈ old, 1 ≤ s.ver i
  bnd : Bnd s d
  flat : deep = true → d = []
  place : (A = none ∧ cap = 0) ∨ ∃ b id c T es rest, A = some ⟨b, 0, none⟩ ∧ id ∈ old ∧ g.ω b = some id ∧ w.heap[b]? = some (.cells c T (0, 0)) ∧ c.toList = es ++ rest ∧ es.length = len * e.size ∧ c.size = cap * e.size ∧
    (deep = true → ∃ S, RepsO (RepO w e) xs es S ∧ S.Nodup ∧ b ∉ S ∧ ∀ b' ∈ S, g.ω b' = some id) ∧
    (Cur s d → Reps (RepC w (fun b' => b' ≠ b ∧ (Av g w N d b' ∨ (b' < w.heap.size ∧ g.ω b' = some id))) e) xs es)
/-- What an append adds. -/
structure Src (g : G) (s : St) (w : World) (N : Bd) (e : Ty) (ys : List e.den) (d2 : Deps) (A : Option Addr) (m : Nat) (news : List Value) : Prop where
  hlen : m = ys.length
  cells : m = 0 ∨ ∃ a, A = some a ∧ ∀ j v, news[j]? = some v → w.cell? (a.add j) = some v
  reps : Reps (RepC w (Av g w N d2) e) ys news

theorem src_rel (hm : Mem N g s w) (hs : Sub r s) {e : Ty} {l : Lf} {ys : List e.den} {v : Value} (h : slData r e l = some ys) (hl : LfRel g s w N l v) :
    ∃ A c news, v = .slice A ys.length c ∧ Src g s w N e ys (lfDeps r l) A ys.length news := by
  obtain ⟨⟨base, cap, hv, hcap, hp⟩, _, _⟩ := slData_rel hm hs h hl
  simp only [List.cons.injEq, and_true] at hv
  rcases hp with rfl | ⟨b, o, es, rfl, ha, hr, hrow⟩
  · exact ⟨base, cap, [], hv, rfl, .inl rfl, rfl⟩
  · exact ⟨_, cap, es, hv, rfl, .inr ⟨_, rfl, fun j v hj => by
      have := List.getElem?_eq_some_iff.1 hj
      rw [add_mk, hrow j this.1, this.2]⟩, hr⟩

theorem base_nil {e : Ty} : Base g s w N e [] true [] [] none 0 0 :=
  ⟨rfl, Nat.le_refl _, List.nodup_nil, (fun i h => by cases h), Bnd.nil, fun _ => rfl, .inl ⟨rfl, rfl⟩⟩
theorem base_own (hm : Mem N g s w) {id : Nat} {e : Ty} {xs : List e.den} {deep : Bool} {d : Deps} (h : s.root id = some (.arr e xs deep d)) {k : Nat} (hk : k ≤ xs.length) :
    Base g s w N e (xs.take k) deep d [id] ((g.κ id).map fun b => ⟨b, 0, none⟩) k (g.cp id) := by
  obtain ⟨hv, hb, hr⟩ := hm.roots id _ h
  have hfl := hm.flat id _ h
  have htl : (xs.take k).length = k := by rw [List.length_take]; omega
  refine ⟨htl.symm, ?_, by simp, (fun i hi => by simp at hi; rw [hi]; exact hv), hb, (fun hd => by subst hd; exact hfl), ?_⟩
  · have := (own_parts hm h).2.1; omega
  rcases hr with ⟨h1, h2, h3⟩ | ⟨b, c, T, es, rest, h1, hω, hh, hc, hl, hsz, hcap, hcont⟩
  · exact .inl ⟨by rw [h1]; rfl, h3⟩
  · refine .inr ⟨b, id, c, T, es.take (k * e.size), es.drop (k * e.size) ++ rest, by rw [h1]; rfl, by simp, hω, hh, by rw [hc, ← List.append_assoc, List.take_append_drop], ?_, hsz, fun hd => ?_, fun hcur => ?_⟩
    · rw [List.length_take, hl]; exact Nat.min_eq_left (Nat.mul_le_mul_right _ hk)
    · subst hd
      simp only [if_true] at hcont
      obtain ⟨_, S, hS, hnd, hown⟩ := hcont
      rw [← List.take_append_drop k xs] at hS
      obtain ⟨c1, c2, S1, S2, rfl, rfl, q1, q2⟩ := hS.split
      have hl1 := q1.length (n := e.size) (fun _ _ _ h => h.length)
      rw [htl] at hl1
      have : (c1 ++ c2).take (k * e.size) = c1 := by rw [← hl1]; exact List.take_left
      rw [this]
      obtain ⟨n1, n2⟩ := List.nodup_cons.1 hnd
      exact ⟨S1, q1, (List.nodup_append.1 n2).1, fun hb => n1 (List.mem_append_left _ hb), fun b' hb' => hown b' (List.mem_append_left _ hb')⟩
    · have hall : Reps (RepC w (fun b' => b' ≠ b ∧ (Av g w N d b' ∨ (b' < w.heap.size ∧ g.ω b' = some id))) e) xs es := by
        cases deep
        · simp only [Bool.false_eq_true, if_false] at hcont
          refine (hcont hcur).imp fun _ _ hr => hr.keep (fun b' hb' => ⟨hb'.1, ?_⟩) (fun _ _ => rfl)
          rcases hb'.2 with ⟨hlt, ⟨h1, h2⟩ | ⟨i, h1, h2⟩⟩
          · refine .inl ⟨hlt, .inl ⟨h1, h2.imp (fun h2 => ⟨?_, h2.2⟩) (fun h => h)⟩⟩
            have h2 := h2.1
            simp only [dids, List.mem_cons] at h2
            exact h2.resolve_left (fun h2 => hm.ne0 h h2.symm)
          · simp only [dids, List.mem_cons] at h1
            rcases h1 with rfl | h1
            · exact .inr ⟨hlt, h2.2⟩
            · exact .inl ⟨hlt, .inr ⟨i, h1, h2⟩⟩
        · simp only [if_true] at hcont
          obtain ⟨_, S, hS, hnd, hown⟩ := hcont
          have hbS := (List.nodup_cons.1 hnd).1
          exact hS.reps fun x cs S1 hs1 hr => hr.repC fun b' hb' => ⟨fun h => hbS (h ▸ hs1 b' hb'), .inr ⟨hm.own b' id (hown b' (hs1 b' hb')), hown b' (hs1 b' hb')⟩⟩
      exact hall.take (fun _ _ h => h.length) k
end
end Go.Proofs.XTv
/- append. -/
set_option linter.unusedVariables false
set_option linter.unusedSimpArgs false
set_option linter.unusedSectionVars false
namespace Go.Proofs.XTv

section
variable {P : Program} {Γ : Cx} {g g' : G} {r s s' : St} {w w' : World} {N : Bd} {n : Nat} {a : Act} {E : Env}

theorem append_fin (hm : Mem N g s w) {e : Ty} {xs ys : List e.den} {deep deep' : Bool} {d d' d2 : Deps} {old M : List Nat} {A A2 : Option Addr} {len cap c2 : Nat} {news : List Value}
    (B : Base g s w N e xs deep d old A len cap) (Sr : Src g s w N e ys d2 A2 ys.length news) (hcur : Cur s d)
    (hMold : ∀ i ∈ old, i ∈ M) (hM0 : 0 ∉ M) (hn0 : n ≠ 0) (hnM : n ∉ M) (hok : upsOk s (consume r M ++ [⟨n, some (.arr e (lcat xs ys) deep' d'), 1⟩]) = true) (hbd : Bnd s d') (hfl : deep' = true → d' = [])
    (hdeep : deep' = true → (deep = true ∨ e.hasSl = false) ∧ ∃ S2, RepsO (RepO w e) ys news S2 ∧ S2.Nodup ∧ ∀ b ∈ S2, ∃ i ∈ M, i ∉ old ∧ g.ω b = some i)
    (hread : deep' = false → (∀ i ∈ dids d, i ∈ dids d') ∧ ∀ i ∈ dids d2, i ∈ dids d' ∨ i ∈ M)
    (hfree : ∀ i ∈ old, i ∉ dids d2)
    {t u el el' : Nat} {i : TypeInfo} {z : Value} (ht : P.underlying t = some (.slice el)) (hu : P.underlying u = some (.slice el')) (hi : P.info? el = some i) (hz : i.zero = some z) (hsz : i.size = e.size) (hzc : z.cells.toList = zeroVals e) (hpos : 1 ≤ e.size) (hby : 1 ≤ i.bytes)
    (happ : appOk xs ys i.bytes = true) (ty : Nat) :
    ∃ v' g' w', (Builtin.append_ #[t, u] ty #[.slice A len cap, .slice A2 ys.length c2]).run P w = .ok v' w' ∧ Step N g s w g' (s.ups (consume r M ++ [⟨n, some (.arr e (lcat xs ys) deep' d'), 1⟩])) w' ∧
      AVRel g' (s.ups (consume r M ++ [⟨n, some (.arr e (lcat xs ys) deep' d'), 1⟩])) w' N (.one (.own n)) v' := by
  have hroot : (s.ups (consume r M ++ [⟨n, some (.arr e (lcat xs ys) deep' d'), 1⟩])).root n = some (.arr e (lcat xs ys) deep' d') := by
    rw [ups_append]; exact upd_same _ _ _
  have hver : (s.ups (consume r M ++ [⟨n, some (.arr e (lcat xs ys) deep' d'), 1⟩])).ver n = 1 := by
    rw [ups_append]; exact upd_same _ _ _
  have hv0 : s.ver n = 0 := by
    have := (ups_le (id := n) hok).2 (by rw [upIds_append]; simp [upIds])
    omega
  have hll : (lcat xs ys).length = len + ys.length := by rw [lcat, List.length_append, B.hlen]
  have hnl : news.length = ys.length * e.size := Sr.reps.length fun _ _ h => h.length
  have hval : ∀ {g' : G} {w' : World} {b : Option Nat} {cp : Nat}, g'.κ n = b → g'.cp n = cp →
      AVRel g' (s.ups (consume r M ++ [⟨n, some (.arr e (lcat xs ys) deep' d'), 1⟩])) w' N (.one (.own n)) (.slice (b.map fun b => ⟨b, 0, none⟩) (len + ys.length) cp) := by
    intro g' w' b cp h1 h2
    have := own_rel (g := g') (w := w') (N := N) (Nat.le_of_eq hver.symm) hroot
    rw [ownVal, h1, h2, hll] at this
    exact this
  have hcells : ∀ v ∈ news, v.oneCell' = true := reps_cells Sr.reps
  have hnews : ys.length = 0 ∨ ∃ a, A2 = some a ∧ ∀ j v, news[j]? = some v → w.cell? (a.add j) = some v := Sr.cells
  -- the reads of both
  have read : ∀ (b : Nat) (es : List Value), (∀ i, g.ω b = some i → i ∈ old) → (g.ω b = none → b = w.heap.size) →
      (Reps (RepC w (fun b' => b' ≠ b ∧ (Av g w N d b' ∨ (b' < w.heap.size ∧ ∃ i ∈ old, g.ω b' = some i))) e) xs es) → deep' = false →
      Reps (RepC w (fun b' => b' ≠ b ∧ (Av g w N d' b' ∨ (b' < w.heap.size ∧ ∃ i, (i ∈ M ∨ i = n) ∧ g.ω b' = some i))) e) (lcat xs ys) (es ++ news) := by
    intro b es hb1 hb2 hxs hd0
    obtain ⟨r1, r2⟩ := hread hd0
    have hA1 : ∀ b', (b' ≠ b ∧ (Av g w N d b' ∨ (b' < w.heap.size ∧ ∃ i ∈ old, g.ω b' = some i))) → (b' ≠ b ∧ (Av g w N d' b' ∨ (b' < w.heap.size ∧ ∃ i, (i ∈ M ∨ i = n) ∧ g.ω b' = some i))) := by
      rintro b' ⟨hne, h | ⟨hlt, i, h1, h2⟩⟩
      · exact ⟨hne, .inl (h.mono r1)⟩
      · exact ⟨hne, .inr ⟨hlt, i, .inl (hMold i h1), h2⟩⟩
    have hA2 : ∀ b', Av g w N d2 b' → (b' ≠ b ∧ (Av g w N d' b' ∨ (b' < w.heap.size ∧ ∃ i, (i ∈ M ∨ i = n) ∧ g.ω b' = some i))) := by
      rintro b' ⟨hlt, h1⟩
      refine ⟨?_, ?_⟩
      · rintro rfl
        rcases h1 with ⟨h1, _⟩ | ⟨i, h1, h2⟩
        · exact absurd (hb2 h1) (Nat.ne_of_lt hlt)
        · exact hfree i (hb1 i h2.2) h1
      · rcases h1 with ⟨h1, h2⟩ | ⟨i, h1, h2⟩
        · exact .inl ⟨hlt, .inl ⟨h1, h2.imp (fun h => ⟨(r2 0 h.1).resolve_right hM0, h.2⟩) (fun h => h)⟩⟩
        · rcases r2 i h1 with h | h
          · exact .inl ⟨hlt, .inr ⟨i, h, h2⟩⟩
          · exact .inr ⟨hlt, i, .inl h, h2.2⟩
    exact Reps.append (hxs.imp fun _ _ hr => hr.keep hA1 (fun _ _ => rfl)) (Sr.reps.imp fun _ _ hr => hr.keep hA2 (fun _ _ => rfl))
  have own : ∀ (b : Nat) (es : List Value), (∀ i, g.ω b = some i → i ∈ old) → (b < w.heap.size ∨ b = w.heap.size) →
      ((deep = true → ∃ S, RepsO (RepO w e) xs es S ∧ S.Nodup ∧ b ∉ S ∧ ∀ b' ∈ S, ∃ i ∈ old, g.ω b' = some i) ∧ (e.hasSl = false → RepsO (RepO w e) xs es [])) → deep' = true →
      d' = [] ∧ ∃ S, RepsO (RepO w e) (lcat xs ys) (es ++ news) S ∧ S.Nodup ∧ b ∉ S ∧ ∀ b' ∈ S, ∃ i, (i ∈ M ∨ i = n) ∧ g.ω b' = some i := by
    intro b es hb1 hb2 hxs hd1
    obtain ⟨q1, S2, q2, q3, q4⟩ := hdeep hd1
    have : ∃ S, RepsO (RepO w e) xs es S ∧ S.Nodup ∧ b ∉ S ∧ ∀ b' ∈ S, ∃ i ∈ old, g.ω b' = some i := by
      rcases q1 with q1 | q1
      · exact hxs.1 q1
      · exact ⟨[], hxs.2 q1, List.nodup_nil, by simp, fun b' hb' => by cases hb'⟩
    obtain ⟨S1, p1, p2, p3, p4⟩ := this
    refine ⟨hfl hd1, S1 ++ S2, p1.append q2, ?_, ?_, fun b' hb' => ?_⟩
    · rw [List.nodup_append]
      refine ⟨p2, q3, fun b1 h1 b2 h2 he => ?_⟩
      subst he
      obtain ⟨i, hi, hw⟩ := p4 b1 h1
      obtain ⟨j, _, hj, hw'⟩ := q4 b1 h2
      rw [hw] at hw'; cases hw'
      exact hj hi
    · intro hb
      rcases List.mem_append.1 hb with hb | hb
      · exact p3 hb
      · obtain ⟨j, _, hj, hw'⟩ := q4 b hb
        exact hj (hb1 j hw')
    · rcases List.mem_append.1 hb' with hb' | hb'
      · obtain ⟨i, hi, hw⟩ := p4 b' hb'
        exact ⟨i, .inl (hMold i hi), hw⟩
      · obtain ⟨j, hj, _, hw'⟩ := q4 b' hb'
        exact ⟨j, .inl hj, hw'⟩
  have happ' : (len + ys.length) * i.bytes ≤ 140737488355328 := by
    rw [B.hlen]; simpa [appOk] using happ
  have hzne : z.cells.toList ≠ [] := by
    rw [hzc]; intro h0
    have := zeroVals_length e
    rw [h0] at this
    simp at this; omega
  -- a new block
  have grow : ∀ (es : List Value), es.length = len * e.size → (len = 0 ∨ ∃ b, A = some b ∧ ∀ j v, es[j]? = some v → w.cell? (b.add j) = some v) → cap < len + ys.length →
      ((deep = true → ∃ S, RepsO (RepO w e) xs es S ∧ S.Nodup ∧ w.heap.size ∉ S ∧ ∀ b' ∈ S, ∃ i ∈ old, g.ω b' = some i) ∧ (e.hasSl = false → RepsO (RepO w e) xs es [])) →
      Reps (RepC w (fun b' => b' ≠ w.heap.size ∧ (Av g w N d b' ∨ (b' < w.heap.size ∧ ∃ i ∈ old, g.ω b' = some i))) e) xs es →
      ∃ v' g' w', (Builtin.append_ #[t, u] ty #[.slice A len cap, .slice A2 ys.length c2]).run P w = .ok v' w' ∧ Step N g s w g' (s.ups (consume r M ++ [⟨n, some (.arr e (lcat xs ys) deep' d'), 1⟩])) w' ∧
      AVRel g' (s.ups (consume r M ++ [⟨n, some (.arr e (lcat xs ys) deep' d'), 1⟩])) w' N (.one (.own n)) v' := by
    intro es hes hcel hcap hO hC
    have hrun := run_app_grow (P := P) w t u ty el el' i z ht hu hi hz (by omega) A len cap es (by rw [hes, hsz]) hcel A2 ys.length c2 news (by rw [hnl, hsz]) hnews hcap happ'
    have hge := grownCap_ge w (len + ys.length) cap el
    have hzl : (Builtin.zeroCells z.cells (grownCap w (len + ys.length) cap el - (len + ys.length))).toList.length = (grownCap w (len + ys.length) cap el - (len + ys.length)) * e.size := by
      rw [zero_cells _ hzne, hzc]
      simp [List.length_flatten, zeroVals_length]
    obtain ⟨hst, h1, h2⟩ := step_arr (n := n) (r := r) (M := M) (w' := w.drew.alloc (.cells (es ++ news ++ (Builtin.zeroCells z.cells (grownCap w (len + ys.length) cap el - (len + ys.length))).toList).toArray el)) (xs := lcat xs ys) (deep := deep') (d := d') (v := 1) (b0 := w.heap.size) (cap := grownCap w (len + ys.length) cap el)
      (es := es ++ news) (rest := (Builtin.zeroCells z.cells (grownCap w (len + ys.length) cap el - (len + ys.length))).toList)
      hm hn0 hnM hok (fun h => by omega) (by simp) (fun b hb hne => heap_alloc_old w.drew _ b hb) (heap_alloc_new w.drew _) (.inl rfl) (by simp)
      (by rw [List.length_append, hes, hnl, hll, Nat.add_mul]) (by
        rw [List.size_toArray, List.length_append, List.length_append, hes, hnl, hzl, ← Nat.add_mul, ← Nat.add_mul]
        congr 1; omega) (by rw [hll]; exact hge) hbd
      (own w.heap.size es (fun i h => absurd (hm.own _ _ h) (Nat.lt_irrefl _)) (.inr rfl) hO)
      (fun hd0 _ _ => read w.heap.size es (fun i h => absurd (hm.own _ _ h) (Nat.lt_irrefl _)) (fun _ => rfl) hC hd0)
      rfl rfl rfl
    exact ⟨_, _, _, hrun, hst, hval h1 h2⟩
  rcases B.place with ⟨rfl, rfl⟩ | ⟨b, id, c, T, es, rest, rfl, hid, hω, hh, hc, hl, hcs, hO, hC⟩
  · -- no block yet
    have hlen0 : len = 0 := by have := B.hcap; omega
    have hx0 : xs = [] := List.eq_nil_of_length_eq_zero (by rw [← B.hlen, hlen0])
    subst hlen0
    by_cases hy : ys = []
    · subst hy
      obtain ⟨hst, h1, h2⟩ := step_nil (n := n) (r := r) (M := M) (w' := w) (xs := lcat xs []) (deep := deep') (d := d') (v := 1) hm hn0 hnM hok hv0 (by rw [hx0]; rfl) hbd hfl (Nat.le_refl _) (fun _ _ => rfl) rfl rfl rfl
      refine ⟨_, _, _, run_app_none (P := P) w t u ty el el' i ht hu hi A2 c2, hst, ?_⟩
      exact hval h1 h2
    · have hpos : 0 < ys.length := List.length_pos_iff.2 hy
      exact grow [] (by simp) (.inl rfl) (by omega) ⟨fun _ => ⟨[], by rw [hx0]; exact ⟨rfl, rfl⟩, List.nodup_nil, by simp, fun b' hb' => by cases hb'⟩, fun _ => by rw [hx0]; exact ⟨rfl, rfl⟩⟩ (by rw [hx0]; exact rfl)
  · have hblt := hm.own b id hω
    have hCc := hC hcur
    have hflats : e.hasSl = false → RepsO (RepO w e) xs es [] := fun hf => flats_own hf hCc
    by_cases hfit : len + ys.length ≤ cap
    · -- into the block
      have hle : (len + ys.length) * e.size ≤ c.size := by rw [hcs]; exact Nat.mul_le_mul_right _ hfit
      have hcl : c.toList.length = es.length + rest.length := by rw [hc, List.length_append]
      rw [Array.length_toList] at hcl
      have hrl : news.length ≤ rest.length := by rw [Nat.add_mul] at hle; omega
      have hrun := run_app_fit (P := P) w t u ty el el' i ht hu hi b len cap c T hh A2 ys.length c2 news (by rw [hnl, hsz]) hnews hcells hfit (by rw [hsz, hnl, ← Nat.add_mul]; exact hle)
      have hrow : c.toList.take (len * i.size) ++ news ++ c.toList.drop (len * i.size + news.length) = (es ++ news) ++ rest.drop news.length := by
        rw [hsz, ← hl, hc, List.take_left, ← List.drop_drop, List.drop_left]
      rw [hrow] at hrun
      obtain ⟨hst, h1, h2⟩ := step_arr (n := n) (r := r) (M := M) (w' := w.setRow b ((es ++ news) ++ rest.drop news.length).toArray) (xs := lcat xs ys) (deep := deep') (d := d') (v := 1) (b0 := b) (cap := cap)
        (es := es ++ news) (rest := rest.drop news.length) hm hn0 hnM hok (fun h => by omega) (by simp [World.setRow]) (fun b' _ hne => setRow_other w b b' _ hne) (setRow_heap w b c _ T _ hh) (.inr ⟨id, .inl (hMold id hid), hω⟩) (by simp)
        (by rw [List.length_append, hl, hnl, hll, Nat.add_mul]) (by
          rw [List.size_toArray, List.length_append, List.length_append, List.length_drop]
          rw [← hcs]; omega) (by rw [hll]; exact hfit) hbd
        (own b es (fun i h => by rw [hω] at h; cases h; exact hid) (.inl hblt) ⟨fun hd => by
          obtain ⟨S, h1, h2, h3, h4⟩ := hO hd
          exact ⟨S, h1, h2, h3, fun b' hb' => ⟨id, hid, h4 b' hb'⟩⟩, hflats⟩)
        (fun hd0 _ _ => read b es (fun i h => by rw [hω] at h; cases h; exact hid) (fun h => by rw [hω] at h; cases h) (hCc.imp fun _ _ hr => hr.keep (fun _ hb' => ⟨hb'.1, hb'.2.imp (fun h => h) (fun h => ⟨h.1, id, hid, h.2⟩)⟩) (fun _ _ => rfl)) hd0)
        rfl rfl rfl
      exact ⟨_, _, _, hrun, hst, hval h1 h2⟩
    · have hes : ∀ j v, es[j]? = some v → w.cell? ((⟨b, 0, none⟩ : Addr).add j) = some v := fun j v hj => by
        rw [add_mk, Nat.zero_add, cell_block hh, ← Array.getElem?_toList, hc, List.getElem?_append_left (List.getElem?_eq_some_iff.1 hj).1]
        exact hj
      have hA3 : ∀ b', (b' ≠ b ∧ (Av g w N d b' ∨ (b' < w.heap.size ∧ g.ω b' = some id))) → (b' ≠ w.heap.size ∧ (Av g w N d b' ∨ (b' < w.heap.size ∧ ∃ i ∈ old, g.ω b' = some i))) := by
        rintro b' ⟨_, h | h⟩
        · exact ⟨Nat.ne_of_lt h.1, .inl h⟩
        · exact ⟨Nat.ne_of_lt h.1, .inr ⟨h.1, id, hid, h.2⟩⟩
      refine grow es hl (.inr ⟨_, rfl, hes⟩) (by omega) ⟨fun hd => ?_, hflats⟩ (hCc.imp fun _ _ hr => hr.keep hA3 (fun _ _ => rfl))
      obtain ⟨S, h1, h2, h3, h4⟩ := hO hd
      exact ⟨S, h1, h2, fun hb => absurd (hm.own _ _ (h4 _ hb)) (Nat.lt_irrefl _), fun b' hb' => ⟨id, hid, h4 b' hb'⟩⟩
end
end Go.Proofs.XTv
/- append, copy, slice literals, bytes of a string: each as the evaluator says. -/
set_option linter.unusedVariables false
set_option linter.unusedSimpArgs false
set_option linter.unusedSectionVars false
namespace Go.Proofs.XTv

section
variable {P : Program} {Γ : Cx} {g g' : G} {r s s' : St} {w w' : World} {N : Bd} {n : Nat} {a : Act} {E : Env}

theorem src_own (hm : Mem N g s w) {id : Nat} {e : Ty} {ys : List e.den} {d : Deps} (h : s.root id = some (.arr e ys true d)) : ∃ A c news, ownVal g id ys.length = .slice A ys.length c ∧ Src g s w N e ys [(id, s.ver id)] A ys.length news ∧
    ∃ S, RepsO (RepO w e) ys news S ∧ S.Nodup ∧ ∀ b ∈ S, g.ω b = some id := by
  obtain ⟨hv, hb, hr⟩ := hm.roots id _ h
  rcases hr with ⟨h1, rfl, h3⟩ | ⟨b, c, T, es, rest, h1, hω, hh, hc, hl, hsz, hcap, hcont⟩
  · exact ⟨none, 0, [], by rw [ownVal, h1, h3]; rfl, ⟨rfl, .inl rfl, rfl⟩, [], ⟨rfl, rfl⟩, List.nodup_nil, fun b hb => by cases hb⟩
  · simp only [if_true] at hcont
    obtain ⟨_, S, hS, hnd, hown⟩ := hcont
    refine ⟨some ⟨b, 0, none⟩, g.cp id, es, by rw [ownVal, h1]; rfl, ⟨rfl, .inr ⟨_, rfl, fun j v hj => ?_⟩, ?_⟩, S, hS, (List.nodup_cons.1 hnd).2, hown⟩
    · rw [add_mk, Nat.zero_add, cell_block hh, ← Array.getElem?_toList, hc, List.getElem?_append_left (List.getElem?_eq_some_iff.1 hj).1]
      exact hj
    · exact hS.reps fun x cs S1 hs hr => hr.repC fun b' hb' => ⟨hm.own b' id (hown b' (hs b' hb')), .inr ⟨id, by simp [dids], hm.ne0 h, hown b' (hs b' hb')⟩⟩

theorem opnds_two {key : Option (Nat × Bool)} {l : List Operand} {v1 v2 : AV} (h : opnds r key l = some [v1, v2]) : ∃ x y, l = [x, y] ∧ opnd r key x = some v1 ∧ opnd r key y = some v2 := by
  match l, h with
  | [], h => simp [opnds] at h
  | [x], h =>
    simp only [opnds] at h
    split at h
    · rename_i h1 h2; simp only [Option.some.injEq, List.cons.injEq] at h h2; subst h2; simp at h
    · cases h
  | x :: y :: [], h =>
    simp only [opnds] at h
    split at h
    · rename_i v vs h1 h2
      split at h2
      · rename_i v' vs' h3 h4
        simp only [Option.some.injEq] at h4 h2 h
        subst h4 h2
        simp only [List.cons.injEq, and_true] at h
        obtain ⟨rfl, rfl⟩ := h
        exact ⟨x, y, rfl, h1, h3⟩
      · cases h2
    · cases h
  | x :: y :: q :: l, h =>
    simp only [opnds] at h
    split at h
    · rename_i v vs h1 h2
      split at h2
      · rename_i v' vs' h3 h4
        split at h4
        · simp only [Option.some.injEq] at h4 h2 h
          subst h4 h2
          simp at h
        · cases h4
      · cases h2
    · cases h
theorem run_builtin {o : Oper} {c : Call} {b : Builtin} (ho : o.op = .call c) (hc : c.callee = .builtin b) (w : World) :
    (execOp a.eval o).run P w = (builtin b c.argTypes o.type (c.args.map fun | .const _ => true | _ => false) (c.args.map a.eval)).run P w := by
  simp only [execOp, ho]
  rw [Sem.run_bind]
  simp only [resolve, hc, Sem.run_pure, Result.andThen_ok, invoke]
  rfl

variable {k : Nat} {key : Option (Nat × Bool)} {o : Oper} {ok : Bool} {v : AV} {us : List Up}
variable (hΓ : CxOk P Γ) (hm : Mem N g s w) (hs : Sub r s) (hsl : ∀ t, AVRel g s w N (s.slot t).2 (a.tmps.getD t undef)) (hk : KeyOk r key)

theorem acts_append (hΓ : CxOk P Γ) (hm : Mem N g s w) (hs : Sub r s) (hsl : ∀ t, AVRel g s w N (s.slot t).2 (a.tmps.getD t undef)) (hk : KeyOk r key) {c : Call} (ho : o.op = .call c) (hc : c.callee = .builtin .append) (h : exec Γ k r key o = some (.val ok v us)) (hok' : ok = true) (hok : upsOk s us = true) : Acts P N g s w a o v us := by
  subst hok'
  simp only [exec, ho, hc] at h
  split at h
  case h_2 => cases h
  case h_1 l m T U hargs htys =>
    obtain ⟨x, y, hxy, hx, hy⟩ := opnds_two hargs
    have hA : c.args = #[x, y] := by rw [← Array.toArray_toList (xs := c.args), hxy]
    have hTy : c.argTypes = #[T, U] := by rw [← Array.toArray_toList (xs := c.argTypes), htys]
    have hl := opnd_rel hs hsl hk hx
    have hmv := opnd_rel hs hsl hk hy
    split at h
    case h_2 => cases h
    case h_1 eiU heiU =>
      obtain ⟨_, elU, _, _, _, _, huU, _⟩ := (elemOf_ok hΓ heiU).all
      unfold appendOp at h
      split at h
      case h_2 => cases h
      case h_1 dst ei hdst hei =>
        obtain ⟨ti, el, i, z, _, rfl, huT, _, hty, hi, hsz, hby, hz, hzc⟩ := (elemOf_ok hΓ hei).all
        have hrun : ∀ {v' : Value} {w' : World}, (Builtin.append_ #[T, U] o.type #[a.eval x, a.eval y]).run P w = .ok v' w' → (execOp a.eval o).run P w = .ok (.value v') w' := by
          intro v' w' hr
          rw [run_builtin ho hc, hA, hTy]
          simp only [builtin, List.map_toArray, List.map_cons, List.map_nil]
          rw [Sem.run_bind, hr]; rfl
        -- the end, from the pieces
        have fin : ∀ {xs ys : List ei.ty.den} {deep deep' : Bool} {d d' d2 : Deps} {old M : List Nat} {A A2 : Option Addr} {len cap c2 : Nat} {news : List Value},
            Base g s w N ei.ty xs deep d old A len cap → a.eval x = .slice A len cap → Src g s w N ei.ty ys d2 A2 ys.length news → a.eval y = .slice A2 ys.length c2 → Cur s d →
            (∀ i ∈ old, i ∈ M) → (∀ i ∈ M, ∃ q, s.root i = some q) → Bnd s d' → (deep' = true → d' = []) →
            (deep' = true → (deep = true ∨ ei.ty.hasSl = false) ∧ ∃ S2, RepsO (RepO w ei.ty) ys news S2 ∧ S2.Nodup ∧ ∀ b ∈ S2, ∃ i ∈ M, i ∉ old ∧ g.ω b = some i) →
            (deep' = false → (∀ i ∈ dids d, i ∈ dids d') ∧ ∀ i ∈ dids d2, i ∈ dids d' ∨ i ∈ M) → (∀ i ∈ old, i ∉ dids d2) →
            some (Res.val (appOk xs ys ei.bytes) (.one (.own (newId dst 0))) (consume r M ++ [⟨newId dst 0, some (.arr ei.ty (lcat xs ys) deep' d'), 1⟩])) = some (Res.val true v us) → Acts P N g s w a o v us := by
          intro xs ys deep deep' d d' d2 old M A A2 len cap c2 news B hux Sr huy hcur hMold hMal hbd hfl hdeep hread hfree he
          simp only [Option.some.injEq, Res.val.injEq] at he
          obtain ⟨happ, rfl, rfl⟩ := he
          have hv0 : s.ver (newId dst 0) = 0 := by
            have := (ups_le (id := newId dst 0) hok).2 (by rw [upIds_append]; simp [upIds])
            have h1 : (s.ups (consume r M ++ [⟨newId dst 0, some (.arr ei.ty (lcat xs ys) deep' d'), 1⟩])).ver (newId dst 0) = 1 := by rw [ups_append]; exact upd_same _ _ _
            omega
          have hnM : newId dst 0 ∉ M := fun hn => by
            obtain ⟨q, hq⟩ := hMal _ hn
            have := (hm.roots _ q hq).1
            omega
          obtain ⟨v', g', w', h1, h2, h3⟩ := append_fin (P := P) hm B Sr hcur hMold (fun h0 => by obtain ⟨q, hq⟩ := hMal 0 h0; exact hm.ne0 hq rfl) (by simp [newId]) hnM hok hbd hfl hdeep hread hfree huT huU hi hz hsz hzc hty.pos (by rw [hby]; exact hty.posb) (by rw [hby]; exact happ) (c2 := c2) o.type
          refine ⟨g', w', v', .inl (hrun ?_), h2, h3⟩
          rw [hux, huy]
          exact h1
        -- what is added
        have tail : ∀ {xs : List ei.ty.den} {deep : Bool} {d : Deps} {old : List Nat} {A : Option Addr} {len cap : Nat},
            Base g s w N ei.ty xs deep d old A len cap → a.eval x = .slice A len cap → Cur s d → (∀ i ∈ old, ∃ q, s.root i = some q) → (∀ i ∈ old, i ∉ dids (lfDeps r m)) →
            appFin r (newId dst 0) ei m xs deep d old = some (Res.val true v us) → Acts P N g s w a o v us := by
          intro xs deep d old A len cap B hux hcur hal hfree he
          unfold appFin at he
          split at he
          case h_1 => cases he
          case h_2 ys hys =>
            obtain ⟨A2, c2, news, huy, Sr⟩ := src_rel hm hs hys hmv
            obtain ⟨_, hbd2, _⟩ := slData_rel hm hs hys hmv
            have shared : some (Res.val (appOk xs ys ei.bytes) (.one (.own (newId dst 0))) (consume r old ++ [⟨newId dst 0, some (.arr ei.ty (lcat xs ys) false (djoin (lfDeps r m) d)), 1⟩])) = some (Res.val true v us) → Acts P N g s w a o v us :=
              fin B hux Sr huy hcur (fun i h => h) hal (hbd2.join B.bnd) (fun h => by cases h) (fun h => by cases h) (fun _ => ⟨fun i hi => dids_join.2 (.inr hi), fun i hi => .inl (dids_join.2 (.inl hi))⟩) hfree
            cases hsl' : ei.ty.hasSl
            · simp only [hsl', Bool.not_false, cond_true] at he
              exact fin B hux Sr huy hcur (fun i h => h) hal Bnd.nil (fun _ => rfl) (fun _ => ⟨.inr hsl', [], flats_own hsl' Sr.reps, List.nodup_nil, fun b hb => by cases hb⟩) (fun h => by cases h) hfree he
            · simp only [hsl', Bool.not_true, cond_false] at he
              cases m with
              | own id2 =>
                simp only at he
                split at he
                · rename_i e9 ys9 d9 hroot9
                  cases hmem : nmem id2 old
                  · simp only [hmem, cond_false] at he
                    have hnot := nmem_false.1 hmem
                    obtain ⟨hrs, hver⟩ := hs.root id2 _ hroot9
                    have hd9 := hm.flat id2 _ hrs
                    simp only [Root.flat] at hd9
                    subst hd9
                    -- the elements are those
                    have hee : ∃ h : e9 = ei.ty, ys = tcast h ys9 := by
                      simp only [slData, hroot9] at hys
                      split at hys
                      · rename_i hq
                        exact ⟨hq, by simpa [depsOk] using hys.symm⟩
                      · cases hys
                    obtain ⟨heq, hys9⟩ := hee
                    have hmv2 := hmv.1.2 _ _ _ _ hrs
                    have key : ∀ (e9 : Ty) (ys9 : List e9.den) (heq : e9 = ei.ty), s.root id2 = some (.arr e9 ys9 true []) → a.eval y = ownVal g id2 ys9.length → ys = tcast heq ys9 → Acts P N g s w a o v us := by
                      intro e9 ys9 heq hrs hmv2 hys9
                      subst heq
                      simp only [tcast] at hys9
                      subst hys9
                      obtain ⟨A3, c3, news3, hv3, Sr3, S, hS, hnd, hSo⟩ := src_own hm hrs
                      have hrw : a.eval y = .slice A3 ys.length c3 := by rw [hmv2, hv3]
                      refine fin (d2 := [(id2, s.ver id2)]) (M := id2 :: old) B hux Sr3 hrw hcur (fun i h => List.mem_cons_of_mem _ h) (fun i hi => ?_) B.bnd B.flat (fun hd => ⟨.inl hd, S, hS, hnd, fun b hb => ⟨id2, List.mem_cons_self .., hnot, hSo b hb⟩⟩) (fun _ => ⟨fun i h => h, fun i hi => .inr ?_⟩) (fun i hi => ?_) he
                      · rcases List.mem_cons.1 hi with rfl | hi
                        · exact ⟨_, hrs⟩
                        · exact hal i hi
                      · simp [dids] at hi; rw [hi]; exact List.mem_cons_self ..
                      · simp only [dids, List.mem_singleton]
                        rintro rfl
                        exact hnot hi
                    exact key e9 ys9 heq hrs hmv2 hys9
                  · simp [hmem] at he
                · exact shared he
              | nil =>
                simp only at he
                have hy0 : ys = [] := by simpa [slData] using hys.symm
                subst hy0
                have hn0 : news = [] := Sr.reps
                refine fin B hux Sr huy hcur (fun i h => h) hal B.bnd B.flat (fun hd => ⟨.inl hd, [], by rw [hn0]; exact ⟨rfl, rfl⟩, List.nodup_nil, fun b hb => by cases hb⟩) (fun _ => ⟨fun i h => h, fun i hi => by simp [lfDeps, dids] at hi⟩) hfree he
              | snap e9 xs9 d9 p9 => exact shared he
              | pre id9 n9 => exact shared he
              | part id9 o9 n9 => exact shared he
              | _ => simp [slData] at hys
        cases l with
        | nil =>
          have hux := hl.1
          simp only [LfCore] at hux
          exact tail base_nil hux Cur.nil (fun i h => by cases h) (fun i h => by cases h) h
        | own id =>
          simp only at h
          split at h
          case h_2 => cases h
          case h_1 e' xs deep d hq =>
            obtain ⟨hrr, hdok⟩ := arrOf_some hq
            simp only at hrr hdok
            obtain ⟨hroot, hver⟩ := hs.root id _ hrr
            cases hself : nmem id (dids (lfDeps r m))
            case true => simp [hself] at h
            simp only [hself, cond_false] at h
            split at h
            case isFalse => cases h
            case isTrue hee =>
              subst hee
              have hux := hl.1.2 _ _ _ _ hroot
              have hB := base_own hm hroot (Nat.le_refl _)
              rw [List.take_length] at hB
              refine tail hB hux (hs.cur (hm.roots id _ hroot).2.1 hdok) (fun i hi => ?_) (fun i hi => ?_) h
              · simp at hi; subst hi; exact ⟨_, hroot⟩
              · simp at hi; subst hi; exact nmem_false.1 hself
        | pre id len =>
          simp only at h
          split at h
          case h_2 => cases h
          case h_1 e' xs deep d hq =>
            obtain ⟨hrr, hdok⟩ := arrOf_some hq
            simp only at hrr hdok
            obtain ⟨hroot, hver⟩ := hs.root id _ hrr
            cases hself : nmem id (dids (lfDeps r m))
            case true => simp [hself] at h
            simp only [hself, cond_false] at h
            split at h
            case isFalse => cases h
            case isTrue hee =>
              subst hee
              obtain ⟨l0, l1, hux⟩ := hl.1.2 _ _ _ _ hroot
              have hB := base_own hm hroot (k := len.toNat) (by omega)
              refine tail hB hux (hs.cur (hm.roots id _ hroot).2.1 hdok) (fun i hi => ?_) (fun i hi => ?_) h
              · simp at hi; subst hi; exact ⟨_, hroot⟩
              · simp at hi; subst hi; exact nmem_false.1 hself
        | _ => simp at h
end
end Go.Proofs.XTv
/- copy, slice literals, conversions. -/
set_option linter.unusedVariables false
set_option linter.unusedSimpArgs false
set_option linter.unusedSectionVars false
namespace Go.Proofs.XTv

theorem flatten_at {α : Type} {n : Nat} : ∀ (ch : List (List α)) (i : Nat), (∀ c ∈ ch, c.length = n) → i < ch.length → ∃ A B, ch.flatten = A ++ ch[i]! ++ B ∧ A.length = i * n ∧ ∀ c : List α, (ch.set i c).flatten = A ++ c ++ B
  | [], i, _, h => by simp at h
  | c :: ch, 0, hn, _ => ⟨[], ch.flatten, by simp, by simp, fun d => by simp⟩
  | c :: ch, i + 1, hn, h => by
    obtain ⟨A, B, h1, h2, h3⟩ := flatten_at ch i (fun d hd => hn d (List.mem_cons_of_mem _ hd)) (by simpa using h)
    refine ⟨c ++ A, B, by simp [h1], by simp [h2, hn c (List.mem_cons_self ..), Nat.add_mul, Nat.add_comm], fun d => by simp [h3]⟩

theorem fill_chunks {size : Nat} : ∀ (qs : List (Nat × Value)) (ch : List (List Value)) (cs : Array Value), cs.toList = ch.flatten → (∀ c ∈ ch, c.length = size) → (∀ q ∈ qs, q.1 < ch.length ∧ q.2.cells.size = size) →
    ∃ cs', Instr.fill (fun i => some (i * size, size)) cs qs = some cs' ∧ cs'.toList = (qs.foldl (fun ch q => ch.set q.1 q.2.cells.toList) ch).flatten
  | [], ch, cs, h, _, _ => ⟨cs, rfl, h⟩
  | (i, v) :: qs, ch, cs, h, hn, hq => by
    obtain ⟨hi, hv⟩ := hq (i, v) (List.mem_cons_self ..)
    simp only at hi hv
    obtain ⟨A, B, h1, h2, h3⟩ := flatten_at ch i hn hi
    have hci : (ch[i]!).length = size := by
      rw [getElem!_pos ch i hi]; exact hn _ (List.getElem_mem hi)
    have hsz : i * size + size ≤ cs.size := by
      rw [← Array.length_toList, h, h1, List.length_append, List.length_append, h2, hci]; omega
    have hfold := fold_set v.cells.toList 0 (i * size) cs (by rw [Array.length_toList, hv]; exact hsz)
    simp only [Nat.add_zero, Array.length_toList, hv] at hfold
    have hset : (ch.set i v.cells.toList).flatten = cs.toList.take (i * size) ++ v.cells.toList ++ cs.toList.drop (i * size + size) := by
      have e1 : (A ++ ch[i]! ++ B).take A.length = A := by rw [List.append_assoc]; exact List.take_left
      have e2 : (A ++ ch[i]! ++ B).drop (A.length + size) = B := by
        rw [← hci, ← List.length_append]; exact List.drop_left
      rw [h3, h, h1, ← h2, e1, e2]
    obtain ⟨cs', k1, k2⟩ := fill_chunks qs (ch.set i v.cells.toList) (v.cells.zipIdx.foldl (fun cs (c, j) => cs.setIfInBounds (i * size + j) c) cs) (by
        rw [← Array.foldl_toList, Array.toList_zipIdx, hfold, hset]) (fun c hc => by
        rcases List.mem_or_eq_of_mem_set hc with hc | rfl
        · exact hn c hc
        · rw [Array.length_toList, hv]) (fun q hq' => by
        obtain ⟨a1, a2⟩ := hq q (List.mem_cons_of_mem _ hq')
        exact ⟨by rw [List.length_set]; exact a1, a2⟩)
    refine ⟨cs', ?_, k2⟩
    simp only [Instr.fill, hv]
    rw [if_neg (by simp; omega)]
    exact k1

section
variable {P : Program} {Γ : Cx} {g g' : G} {r s s' : St} {w w' : World} {N : Bd} {n : Nat} {a : Act} {E : Env}

theorem fold_part : ∀ {vs : List (Nat × AV)} {qs : List (Nat × Value)} (ch : List (List Value)) (j : Nat), PartsRel g s w N vs qs → (vs.map (·.1)).Nodup → j < ch.length →
    (findPart j vs = none ∧ (qs.foldl (fun ch q => ch.set q.1 q.2.cells.toList) ch)[j]? = ch[j]?) ∨ ∃ v u, findPart j vs = some v ∧ AVRel g s w N v u ∧ (qs.foldl (fun ch q => ch.set q.1 q.2.cells.toList) ch)[j]? = some u.cells.toList
  | [], [], ch, j, _, _, _ => .inl ⟨rfl, rfl⟩
  | [], _ :: _, _, _, h, _, _ => h.elim
  | _ :: _, [], _, _, h, _, _ => h.elim
  | (i, v) :: vs, (i', u) :: qs, ch, j, h, hn, hj => by
    obtain ⟨rfl, hv, hp⟩ := h
    simp only [List.map_cons, List.nodup_cons] at hn
    have hnone : ∀ {vs : List (Nat × AV)} {j : Nat}, j ∉ vs.map (·.1) → findPart j vs = none := by
      intro vs j
      induction vs with
      | nil => intro _; rfl
      | cons p vs ih =>
        intro h
        simp only [List.map_cons, List.mem_cons, not_or] at h
        unfold findPart
        rw [beq_false'.2 h.1]
        exact ih h.2
    rcases fold_part (ch.set i u.cells.toList) j hp hn.2 (by simpa using hj) with ⟨h1, h2⟩ | ⟨v', u', h1, h2, h3⟩
    · by_cases hij : j = i
      · subst hij
        right
        refine ⟨v, u, by simp [findPart, Nat.beq_refl], hv, ?_⟩
        simp only [List.foldl_cons, h2]
        simp [hj]
      · left
        refine ⟨by unfold findPart; rw [beq_false'.2 hij]; exact h1, ?_⟩
        simp only [List.foldl_cons, h2]
        rw [List.getElem?_set_ne (fun h => hij h.symm)]
    · by_cases hij : j = i
      · subst hij
        rw [hnone hn.1] at h1; cases h1
      · right
        exact ⟨v', u', by unfold findPart; rw [beq_false'.2 hij]; exact h1, h2, by simpa using h3⟩
theorem elems_rel {e : Ty} {agg : Bool} {vs : List (Nat × AV)} {fin : List (List Value)} (hfin : ∀ j, j < fin.length → (findPart j vs = none ∧ fin[j]? = some (zeroVals e)) ∨ ∃ v u, findPart j vs = some v ∧ AVRel g s w N v u ∧ fin[j]? = some u.cells.toList) :
    ∀ (n i : Nat) (xs : List e.den) (ls : List Lf), elemsFrom r e agg vs n i = some (xs, ls) → i + n = fin.length → xs.length = n ∧ LsRel g s w N ls ((fin.drop i).flatten) ∧ DL r ls (xs.flatMap (leaves [] none 0 e))
  | 0, i, xs, ls, h, hi => by
    simp only [elemsFrom, Option.some.injEq, Prod.mk.injEq] at h
    obtain ⟨rfl, rfl⟩ := h
    rw [List.drop_eq_nil_of_le (by omega)]
    exact ⟨rfl, trivial, trivial⟩
  | n + 1, i, xs, ls, h, hi => by
    simp only [elemsFrom] at h
    split at h
    case h_1 => cases h
    case h_2 l1 hl1 =>
      split at h
      case h_2 => cases h
      case h_1 x xs' ls' hx hxs =>
        simp only [Option.some.injEq, Prod.mk.injEq] at h
        obtain ⟨rfl, rfl⟩ := h
        obtain ⟨k1, k2, k3⟩ := elems_rel hfin n (i + 1) xs' ls' hxs (by omega)
        have hlt : i < fin.length := by omega
        have hdx := ofAll_data hx 0
        have hrel : LsRel g s w N l1 fin[i] := by
          have hget : fin[i]? = some fin[i] := List.getElem?_eq_getElem hlt
          rcases hfin i hlt with ⟨f1, f2⟩ | ⟨v, u, f1, f2, f3⟩
          · rw [f1] at hl1
            simp only [Option.some.injEq] at hl1
            subst hl1
            rw [hget] at f2
            simp only [Option.some.injEq] at f2
            rw [f2]; exact zero_rel e
          · rw [f1] at hl1
            simp only at hl1
            obtain ⟨hvr, _⟩ := avLs_rel hl1 f2
            obtain ⟨hc, _⟩ := hvr.cells (data_live hdx)
            rw [hget] at f3
            simp only [Option.some.injEq] at f3
            rw [f3]; exact hc
        refine ⟨by simp [k1], ?_, ?_⟩
        · rw [List.drop_eq_getElem_cons hlt, List.flatten_cons]
          exact hrel.append k2
        · rw [List.flatMap_cons]
          exact hdx.append k3
theorem repsO_elems {e : Ty} : ∀ {xs : List e.den} {cs : List Value} {S : List Nat}, RepLs w (xs.flatMap (leaves [] none 0 e)) cs S → RepsO (RepO w e) xs cs S
  | [], cs, S, h => by
    match cs, h with
    | [], h => exact ⟨rfl, h⟩
    | _ :: _, h => exact h.elim
  | x :: xs, cs, S, h => by
    rw [List.flatMap_cons] at h
    obtain ⟨v1, v2, S1, S2, e1, e2, h1, h2⟩ := h.split
    exact ⟨v1, v2, S1, S2, e1, e2, (repO_leaves 0).2 h1, repsO_elems h2⟩
theorem repsC_elems {e : Ty} {A : Nat → Prop} : ∀ {xs : List e.den} {cs : List Value}, LsC w A (xs.flatMap (leaves [] none 0 e)) cs → Reps (RepC w A e) xs cs
  | [], cs, h => by
    match cs, h with
    | [], _ => rfl
    | _ :: _, h => exact h.elim
  | x :: xs, cs, h => by
    rw [List.flatMap_cons] at h
    obtain ⟨v1, v2, e1, h1, h2⟩ := h.split
    exact ⟨v1, v2, e1, (repC_leaves 0).2 h1, repsC_elems h2⟩
theorem step_grow (hm : Mem N g s w) (hsize : w.heap.size ≤ w'.heap.size) (hheap : ∀ b, b < w.heap.size → w'.heap[b]? = w.heap[b]?) (hos : w'.os = w.os) (htape : w'.tape = w.tape) (hout : w'.output = w.output) : Step N g s w g s w' := by
  have hc : Chg N (fun _ => False) g g s s w w' := ⟨hsize, fun b hb _ => hheap b hb, fun _ _ _ => rfl, fun _ _ => ⟨rfl, rfl, rfl, rfl⟩, fun _ h => h.elim, fun _ h => h.elim⟩
  exact ⟨⟨_, hc⟩, hc.mem hm hm.zero (fun b id h => Nat.lt_of_lt_of_le (hm.own b id h) hsize) (fun _ _ h => h.elim), hos, htape, hout, fun b id h => .inl ⟨id, h⟩, fun _ _ => ⟨rfl, rfl⟩⟩
theorem root_ver {s' : St} (hroot : ∀ id, s'.root id = s.root id) (hle : ∀ id, s.ver id ≤ s'.ver id) {W : Nat → Prop} (hc : Chg N W g g s s' w w) (hm : Mem N g s w) {id : Nat} {e : Ty} {xs : List e.den} {deep : Bool} {d : Deps} (h : RootRel g s w N id (.arr e xs deep d)) : RootRel g s' w N id (.arr e xs deep d) := by
  obtain ⟨hb, h⟩ := h
  refine ⟨hb.mono hle, h.imp (fun h => h) fun ⟨b, c, T, es, rest, h1, h2, h3, h4, h5, h6, h7, h8⟩ => ⟨b, c, T, es, rest, h1, h2, h3, h4, h5, h6, h7, ?_⟩⟩
  cases deep
  · simp only [Bool.false_eq_true, if_false] at h8 ⊢
    intro hcur
    exact (h8 (hc.cur hb hcur)).imp fun _ _ hr => hr.keep (fun b' hb' => ⟨hb'.1, hb'.2.mono fun i hi => by simpa [dids] using hi⟩) (fun _ _ => rfl)
  · exact h8
/-- An array whose elements stay, at a new version. -/
theorem step_bump (hm : Mem N g s w) {id : Nat} {e : Ty} {xs : List e.den} {deep : Bool} {d : Deps} {v : Nat} (hroot : s.root id = some (.arr e xs deep d)) (hok : upsOk s [⟨id, some (.arr e xs deep d), v⟩] = true) :
    Step N g s w g (s.ups [⟨id, some (.arr e xs deep d), v⟩]) w := by
  have hr' : ∀ i, (s.ups [⟨id, some (.arr e xs deep d), v⟩]).root i = s.root i := fun i => by
    show upd s.root id _ i = _
    rw [upd_eq]
    split
    · rename_i h; rw [h, hroot]
    · rfl
  refine Step.of hm hok (Nat.le_refl _) (fun b _ _ => ⟨rfl, rfl⟩) (fun _ _ => ⟨rfl, rfl⟩) (fun i hi hv q hq => ?_) (fun hc i q hi hq => ?_) (by rw [hr']; exact hm.zero) hm.own (fun b id h => .inl ⟨id, h⟩) rfl rfl rfl
  · simp [upIds] at hi
    subst hi
    rw [hr'] at hq
    rw [hroot] at hq; cases hq
    exact ⟨_, hroot, rfl, rfl⟩
  · simp [upIds] at hi
    subst hi
    rw [hr', hroot] at hq
    cases hq
    exact ⟨root_ver hr' (fun j => (ups_le hok).1) hc hm (hm.roots _ _ hroot).2, hm.flat _ _ hroot⟩

variable {k : Nat} {key : Option (Nat × Bool)} {o : Oper} {ok : Bool} {v : AV} {us : List Up}
variable (hΓ : CxOk P Γ) (hm : Mem N g s w) (hs : Sub r s) (hsl : ∀ t, AVRel g s w N (s.slot t).2 (a.tmps.getD t undef)) (hk : KeyOk r key)

theorem acts_buildSlice (hΓ : CxOk P Γ) (hm : Mem N g s w) (hs : Sub r s) (hsl : ∀ t, AVRel g s w N (s.slot t).2 (a.tmps.getD t undef)) (hk : KeyOk r key) {T len : Nat} {parts : Array (Nat × Operand)} (ho : o.op = .buildSlice T len parts) (h : exec Γ k r key o = some (.val ok v us)) (hok : upsOk s us = true) : Acts P N g s w a o v us := by
  simp only [exec, ho] at h
  split at h
  case h_2 => cases h
  case h_1 d ei vs hd hei hvs =>
    obtain ⟨ti, el, i, z, _, rfl, hu, heli, hty, hi, hsz, hby, hz, hzc⟩ := (elemOf_ok hΓ hei).all
    cases hcond : (Nat.ble (len * ei.ty.size) 16777216 && ndist (vs.map (·.1)) && (vs.all fun p => Nat.blt p.1 len))
    · simp [hcond] at h
    simp only [hcond, cond_true] at h
    simp only [Bool.and_eq_true, List.all_eq_true] at hcond
    obtain ⟨⟨hc1, hc2⟩, hc3⟩ := hcond
    have hle := Nat.le_of_ble_eq_true hc1
    have hnd := ndist_iff.1 hc2
    split at h
    case h_2 => cases h
    case h_1 xs ls hel =>
      simp only [Option.some.injEq, Res.val.injEq] at h
      obtain ⟨_, rfl, rfl⟩ := h
      have hpr := vparts_rel hs hsl hk hvs
      have hzne : z.cells.toList ≠ [] := by
        rw [hzc]; intro h0
        have := zeroVals_length ei.ty
        rw [h0] at this
        have := hty.pos
        simp at *; omega
      have hzs : z.cells.size = i.size := by
        have := zeroVals_length ei.ty
        rw [← hzc, Array.length_toList] at this
        rw [this, hsz]
      -- the cells to begin with
      have hmade : (madeCells z.cells (len * i.size)).toList = (List.replicate len (zeroVals ei.ty)).flatten := by
        rw [← hzs, made_cells _ hzne, hzc]
      have hch0 : ∀ c ∈ List.replicate len (zeroVals ei.ty), c.length = i.size := fun c hc => by
        rw [List.eq_of_mem_replicate hc, zeroVals_length, hsz]
      -- the parts, each of the right size
      have hfin : ∀ j, j < len → (findPart j vs = none ∧ ((parts.toList.map fun p => (p.1, a.eval p.2)).foldl (fun ch q => ch.set q.1 q.2.cells.toList) (List.replicate len (zeroVals ei.ty)))[j]? = some (zeroVals ei.ty)) ∨
          ∃ v u, findPart j vs = some v ∧ AVRel g s w N v u ∧ ((parts.toList.map fun p => (p.1, a.eval p.2)).foldl (fun ch q => ch.set q.1 q.2.cells.toList) (List.replicate len (zeroVals ei.ty)))[j]? = some u.cells.toList := by
        intro j hj
        rcases fold_part (List.replicate len (zeroVals ei.ty)) j hpr hnd (by simpa using hj) with ⟨f1, f2⟩ | h
        · exact .inl ⟨f1, by rw [f2]; simp [hj]⟩
        · exact .inr h
      have hflen : ∀ (qs : List (Nat × Value)) (ch : List (List Value)), (qs.foldl (fun ch q => ch.set q.1 q.2.cells.toList) ch).length = ch.length := by
        intro qs
        induction qs with
        | nil => intro ch; rfl
        | cons q qs ih => intro ch; rw [List.foldl_cons, ih, List.length_set]
      have hfl : ((parts.toList.map fun p => (p.1, a.eval p.2)).foldl (fun ch q => ch.set q.1 q.2.cells.toList) (List.replicate len (zeroVals ei.ty))).length = len := by rw [hflen]; simp
      obtain ⟨hxl, hls, hdl⟩ := elems_rel (r := r) (g := g) (s := s) (w := w) (N := N) (fin := ((parts.toList.map fun p => (p.1, a.eval p.2)).foldl (fun ch q => ch.set q.1 q.2.cells.toList) (List.replicate len (zeroVals ei.ty)))) (fun j hj => hfin j (by omega)) len 0 xs ls hel (by omega)
      rw [List.drop_zero] at hls
      -- sizes of parts
      have hq : ∀ q ∈ (parts.toList.map fun p => (p.1, a.eval p.2)), q.1 < (List.replicate len (zeroVals ei.ty)).length ∧ q.2.cells.size = i.size := by
        have aux : ∀ {vs' : List (Nat × AV)} {qs : List (Nat × Value)}, PartsRel g s w N vs' qs → (∀ p ∈ vs', p ∈ vs) → ∀ q ∈ qs, ∃ v, (q.1, v) ∈ vs ∧ AVRel g s w N v q.2 := by
          intro vs'
          induction vs' with
          | nil => intro qs hp _ q hq; cases qs with
            | nil => cases hq
            | cons _ _ => exact hp.elim
          | cons p vs' ih =>
            intro qs hp hin q hq
            cases qs with
            | nil => cases hq
            | cons q0 qs =>
              obtain ⟨h1, h2, h3⟩ := hp
              rcases List.mem_cons.1 hq with rfl | hq
              · exact ⟨p.2, by rw [← h1]; exact hin p (List.mem_cons_self ..), h2⟩
              · exact ih h3 (fun p hp => hin p (List.mem_cons_of_mem _ hp)) q hq
        intro q hq
        obtain ⟨v0, hv0, hav⟩ := aux hpr (fun p hp => hp) q hq
        have hlt : q.1 < len := Nat.lt_of_succ_le (Nat.le_of_ble_eq_true (hc3 _ hv0))
        refine ⟨by simpa using hlt, ?_⟩
        have hfind : ∀ {vs : List (Nat × AV)}, (vs.map (·.1)).Nodup → (q.1, v0) ∈ vs → findPart q.1 vs = some v0 := by
          intro vs
          induction vs with
          | nil => intro _ h; cases h
          | cons p vs ih =>
            intro hnd hmem
            simp only [List.map_cons, List.nodup_cons] at hnd
            unfold findPart
            rcases List.mem_cons.1 hmem with hp | hp
            · rw [← hp]; simp [Nat.beq_refl]
            · have : q.1 ≠ p.1 := fun h => hnd.1 (h ▸ List.mem_map.2 ⟨_, hp, rfl⟩)
              rw [beq_false'.2 this]
              exact ih hnd.2 hp
        have hf := hfind hnd hv0
        -- what elemsFrom found at this place
        have hok2 : ∀ (n i : Nat) (xs : List ei.ty.den) (ls : List Lf), elemsFrom r ei.ty ei.agg vs n i = some (xs, ls) → ∀ j, i ≤ j → j < i + n → ∀ v, findPart j vs = some v → ∃ l x, avLs ei.agg v = some l ∧ ofAll r ei.ty l = some x := by
          intro n
          induction n with
          | zero => intro i xs ls _ j h1 h2; omega
          | succ n ih =>
            intro i xs ls hh j h1 h2 v hv
            simp only [elemsFrom] at hh
            split at hh
            case h_1 => cases hh
            case h_2 l1 hl1 =>
              split at hh
              case h_2 => cases hh
              case h_1 x xs' ls' hx hxs =>
                rcases Nat.eq_or_lt_of_le h1 with rfl | hlt
                · rw [hv] at hl1
                  exact ⟨l1, x, hl1, hx⟩
                · exact ih (i + 1) xs' ls' hxs j hlt (by omega) v hv
        obtain ⟨l, x, hl, hx⟩ := hok2 len 0 xs ls hel q.1 (by omega) (by omega) v0 hf
        have hdx := ofAll_data hx 0
        obtain ⟨hvr, _⟩ := avLs_rel hl hav
        obtain ⟨hc, _⟩ := hvr.cells (data_live hdx)
        rw [← Array.length_toList, ← hc.length, hdx.length, leaves_length, hsz]
      obtain ⟨cs', hfill, hcs'⟩ := fill_chunks (size := i.size) (parts.toList.map fun p => (p.1, a.eval p.2)) _ _ hmade hch0 hq
      have hcl : cs'.toList = ((parts.toList.map fun p => (p.1, a.eval p.2)).foldl (fun ch q => ch.set q.1 q.2.cells.toList) (List.replicate len (zeroVals ei.ty))).flatten := hcs'
      have hlsl := hls.length
      rw [← hcl] at hls hlsl
      have hlen : cs'.toList.length = len * ei.ty.size := by
        rw [← hlsl, hdl.length]
        have : ∀ (xs : List ei.ty.den), (xs.flatMap (leaves [] none 0 ei.ty)).length = xs.length * ei.ty.size := by
          intro xs
          induction xs with
          | nil => simp
          | cons x xs ih => rw [List.flatMap_cons, List.length_append, ih, leaves_length, List.length_cons, Nat.add_mul]; omega
        rw [this, hxl]
      have hrun : (execOp a.eval o).run P w = .ok (.value (.slice (some ⟨w.heap.size, 0, none⟩) len len)) (w.alloc (.cells cs' ti.elem)) := by
        have h24 : ¬ (len * i.size > 16777216) := by rw [hsz]; omega
        simp only [execOp, ho]
        rw [Sem.run_bind]
        have hparts : (parts.map fun (i, x) => (i, a.eval x)).toList = parts.toList.map fun p => (p.1, a.eval p.2) := by simp
        by_cases hz0 : len * i.size = 0
        · have hfill0 : Instr.fill (fun i_1 => some (i_1 * i.size, i.size)) #[] (parts.toList.map fun p => (p.1, a.eval p.2)) = some cs' := by
            have hm0 : madeCells z.cells (len * i.size) = #[] := by rw [hz0]; simp [madeCells, Array.range_zero']
            rw [hm0] at hfill; exact hfill
          simp [Instr.buildSlice, run_underlying hu, run_sizeOf' hi, hz0, hfill0, newRow, Array.range_zero']
        · simp only [madeCells] at hfill
          simp [Instr.buildSlice, run_underlying hu, run_sizeOf' hi, h24, hz0, zeroValue, typeInfo, hi, hz, hfill, newRow]
      have hv0 : s.ver (newId d 0) = 0 := by
        have := (ups_le (id := newId d 0) hok).2 (by rw [upIds_append]; simp [upIds])
        have h1 : (s.ups (consume r (absorb r ls).2.2 ++ [⟨newId d 0, some (.arr ei.ty xs (absorb r ls).1 (bif (absorb r ls).1 then [] else (absorb r ls).2.1)), 1⟩])).ver (newId d 0) = 1 := by rw [ups_append]; exact upd_same _ _ _
        omega
      have hMal : ∀ i ∈ (absorb r ls).2.2, ∃ q, s.root i = some q := fun i hi => by
        obtain ⟨e9, xs9, d9, h9⟩ := absorb_ids.2 i hi
        exact ⟨_, (hs.root i _ h9).1⟩
      have hnM : newId d 0 ∉ (absorb r ls).2.2 := fun hn => by
        obtain ⟨q, hq⟩ := hMal _ hn
        have := (hm.roots _ q hq).1
        omega
      obtain ⟨hlc, hbd, hcu⟩ := lsC_of hm hs hdl hls
      obtain ⟨hst, hk1, hk2⟩ := step_arr (n := newId d 0) (r := r) (M := (absorb r ls).2.2) (w' := w.alloc (.cells cs' ti.elem)) (xs := xs) (deep := (absorb r ls).1) (d := bif (absorb r ls).1 then [] else (absorb r ls).2.1) (v := 1) (b0 := w.heap.size) (cap := len)
        (es := cs'.toList) (rest := []) hm (by simp [newId]) hnM hok (fun h => by omega) (by simp) (fun b hb _ => heap_alloc_old w _ b hb) (heap_alloc_new w _) (.inl rfl) (by simp) (by rw [hlen, hxl]) (by rw [← Array.length_toList, hlen]) (by rw [hxl]; exact Nat.le_refl _)
        (by
          cases hdp : (absorb r ls).1
          · simp only [cond_false]; exact fun p hp => hbd p (absorb_sub hp)
          · exact Bnd.nil)
        (fun hdp => by
          have hab : absorb r ls = (true, (absorb r ls).2.1, (absorb r ls).2.2) := by rw [← hdp]
          obtain ⟨_, _, S, hS, hSn, hSo⟩ := absorb_deep hm hs hab hdl hls
          refine ⟨by simp [hdp], S, repsO_elems hS, hSn, fun hb => ?_, fun b hb => ?_⟩
          · obtain ⟨i, _, hw⟩ := hSo _ hb
            exact absurd (hm.own _ _ hw) (Nat.lt_irrefl _)
          · obtain ⟨i, hi, hw⟩ := hSo b hb
            exact ⟨i, .inl hi, hw⟩)
        (fun hdp _ _ => by
          simp only [hdp, cond_false]
          refine repsC_elems (hlc.imp fun b hb => ⟨Nat.ne_of_lt hb.1, ?_⟩)
          obtain ⟨hlt, h1⟩ := hb
          rcases h1 with ⟨h1, h2⟩ | ⟨i, h1, h2⟩
          · refine .inl ⟨hlt, .inl ⟨h1, h2.imp (fun h => ⟨?_, h.2⟩) (fun h => h)⟩⟩
            rcases absorb_deps hm hs h.1 with h | h
            · exact h
            · obtain ⟨q, hq⟩ := hMal 0 h
              exact absurd rfl (hm.ne0 hq)
          · rcases absorb_deps hm hs h1 with h | h
            · exact .inl ⟨hlt, .inr ⟨i, h, h2⟩⟩
            · exact .inr ⟨hlt, i, .inl h, h2.2⟩)
        rfl rfl rfl
      refine ⟨_, _, _, .inl hrun, hst, ?_⟩
      have hroot : (s.ups (consume r (absorb r ls).2.2 ++ [⟨newId d 0, some (.arr ei.ty xs (absorb r ls).1 (bif (absorb r ls).1 then [] else (absorb r ls).2.1)), 1⟩])).root (newId d 0) = some (.arr ei.ty xs (absorb r ls).1 (bif (absorb r ls).1 then [] else (absorb r ls).2.1)) := by rw [ups_append]; exact upd_same _ _ _
      have hver : (s.ups (consume r (absorb r ls).2.2 ++ [⟨newId d 0, some (.arr ei.ty xs (absorb r ls).1 (bif (absorb r ls).1 then [] else (absorb r ls).2.1)), 1⟩])).ver (newId d 0) = 1 := by rw [ups_append]; exact upd_same _ _ _
      have := own_rel (g := g.arr (newId d 0) (some w.heap.size) len (absorb r ls).2.2) (w := w.alloc (.cells cs' ti.elem)) (N := N) (Nat.le_of_eq hver.symm) hroot
      rw [ownVal, hk1, hk2, hxl] at this
      exact this
end
end Go.Proofs.XTv
/- copy, conversions; all operations but calls. -/
set_option linter.unusedVariables false
set_option linter.unusedSimpArgs false
set_option linter.unusedSectionVars false
namespace Go.Proofs.XTv

section
variable {P : Program} {Γ : Cx} {g g' : G} {r s s' : St} {w w' : World} {N : Bd} {n : Nat} {a : Act} {E : Env}
variable {k : Nat} {key : Option (Nat × Bool)} {o : Oper} {ok : Bool} {v : AV} {us : List Up}
variable (hΓ : CxOk P Γ) (hm : Mem N g s w) (hs : Sub r s) (hsl : ∀ t, AVRel g s w N (s.slot t).2 (a.tmps.getD t undef)) (hk : KeyOk r key)

theorem acts_copy (hΓ : CxOk P Γ) (hm : Mem N g s w) (hs : Sub r s) (hsl : ∀ t, AVRel g s w N (s.slot t).2 (a.tmps.getD t undef)) (hk : KeyOk r key) {c : Call} (ho : o.op = .call c) (hc : c.callee = .builtin .copy) (h : exec Γ k r key o = some (.val ok v us)) (hok : upsOk s us = true) : Acts P N g s w a o v us := by
  simp only [exec, ho, hc] at h
  split at h
  case h_2 => cases h
  case h_1 l m T U hargs htys =>
    obtain ⟨x, y, hxy, hx, hy⟩ := opnds_two hargs
    have hA : c.args = #[x, y] := by rw [← Array.toArray_toList (xs := c.args), hxy]
    have hTy : c.argTypes = #[T, U] := by rw [← Array.toArray_toList (xs := c.argTypes), htys]
    have hl := opnd_rel hs hsl hk hx
    have hmv := opnd_rel hs hsl hk hy
    have hrun : ∀ {v' : Value} {w' : World}, (Builtin.copy_ #[T, U] o.type #[a.eval x, a.eval y]).run P w = .ok v' w' → (execOp a.eval o).run P w = .ok (.value v') w' := by
      intro v' w' hr
      rw [run_builtin ho hc, hA, hTy]
      simp only [builtin, List.map_toArray, List.map_cons, List.map_nil]
      rw [Sem.run_bind, hr]; rfl
    unfold copyOp at h
    cases hei : elemOf Γ T with
    | none => simp [hei] at h
    | some ei =>
      obtain ⟨ti, el, i, z, _, rfl, huT, _, hty, hi, hsz, hby, hz, hzc⟩ := (elemOf_ok hΓ hei).all
      simp only [hei] at h
      -- into a part of an array
      have fin : ∀ (id : Nat) (off len : Int) {A : Option Addr} {cap : Nat}, a.eval x = .slice A len.toNat cap → 0 ≤ off → 0 ≤ len →
          (∀ (e : Ty) (xs : List e.den) (deep : Bool) (d : Deps), s.root id = some (.arr e xs deep d) → off + len ≤ (xs.length : Int) ∧ (len = 0 ∨ ∃ b, g.κ id = some b ∧ A = some ⟨b, off.toNat * e.size, none⟩)) →
          copyFin r ei m id off len = some (.val ok v us) → Acts P N g s w a o v us := by
        intro id off len A cap hux ho0 hl0 hpl h
        unfold copyFin at h
        split at h
        case h_2 => cases h
        case h_1 e' xs deep d ys hq hys =>
          obtain ⟨hrr, hdok⟩ := arrOf_some hq
          simp only at hrr hdok
          split at h
          case isFalse => cases h
          case isTrue hee =>
            subst hee
            cases hf : ei.ty.hasSl
            case true => simp [hf] at h
            simp only [hf, cond_false, Option.some.injEq, Res.val.injEq, tcast] at h
            obtain ⟨_, rfl, rfl⟩ := h
            obtain ⟨hroot, hver⟩ := hs.root id _ hrr
            obtain ⟨hle, hAd⟩ := hpl _ _ _ _ hroot
            obtain ⟨A2, c2, news, huy, Sr⟩ := src_rel hm hs hys hmv
            have hnl : news.length = ys.length * ei.ty.size := Sr.reps.length fun _ _ h => h.length
            have hmin : imin len (llen ys) = ((min ys.length len.toNat : Nat) : Int) := by
              unfold imin llen
              split <;> omega
            by_cases hz0 : min ys.length len.toNat = 0
            · have hsame : lcopy xs off len ys = xs := by
                unfold lcopy
                have e1 : ys.take len.toNat = [] := by
                  rcases Nat.eq_zero_or_pos ys.length with h0 | h0
                  · rw [List.eq_nil_of_length_eq_zero h0]; simp
                  · have : len.toNat = 0 := by omega
                    rw [this]; simp
                rw [e1, Nat.min_comm, hz0, Nat.add_zero, List.append_nil, List.take_append_drop]
              rw [hsame] at hok ⊢
              refine ⟨g, w, .int .i64 0, .inl (hrun ?_), step_bump hm hroot hok, by rw [hmin, hz0]; rfl, fun _ => rfl⟩
              rw [hux, huy]
              exact run_cpy_none (P := P) w T U o.type ti.elem i huT hi A A2 len.toNat cap ys.length c2 hz0
            · have hlpos : 0 < len.toNat := by omega
              rcases hAd with h0 | ⟨b, hb, rfl⟩
              · omega
              obtain ⟨hv1, hbd, hrr2⟩ := hm.roots id _ hroot
              rcases hrr2 with ⟨hk', _⟩ | ⟨b', cur, T', es, rest, hk', hω, hh, hc0, hlen, hcsz, hcap, hcont⟩
              · rw [hb] at hk'; cases hk'
              obtain rfl : b = b' := by rw [hb] at hk'; cases hk'; rfl
              have hcur := hs.cur hbd hdok
              have hreps : Reps (RepC w (fun _ => True) ei.ty) xs es := by
                rcases arr_reads hm hroot hcur with ⟨hk', _⟩ | ⟨b2, c9, T9, es9, rest9, k1, k2, k3, k4, k5, k6, _, _, k9⟩
                · rw [hb] at hk'; cases hk'
                obtain rfl : b = b2 := by rw [hb] at k1; cases k1; rfl
                rw [hh] at k4
                cases k4
                rw [hc0] at k5
                have := (List.append_inj k5 (by rw [hlen, k6])).1
                rw [this]
                exact k9.imp fun _ _ hr => flat_any hf hr
              -- the cells that are copied
              have hn1 : (news.take (min ys.length len.toNat * ei.ty.size)).length = min ys.length len.toNat * i.size := by
                rw [List.length_take, hnl, hsz]
                exact Nat.min_eq_left (Nat.mul_le_mul_right _ (Nat.min_le_left _ _))
              have hcell : min ys.length len.toNat = 0 ∨ ∃ a, A2 = some a ∧ ∀ j v, (news.take (min ys.length len.toNat * ei.ty.size))[j]? = some v → w.cell? (a.add j) = some v := by
                rcases Sr.cells with h0 | ⟨a0, ha, hcl⟩
                · exact absurd (by rw [h0]; simp) hz0
                · right
                  refine ⟨a0, ha, fun j v hj => hcl j v ?_⟩
                  rw [List.getElem?_take] at hj
                  split at hj
                  · exact hj
                  · cases hj
              have hone : ∀ u ∈ news.take (min ys.length len.toNat * ei.ty.size), u.oneCell' = true := fun u hu => reps_cells Sr.reps u (List.mem_of_mem_take hu)
              have hes : es.length + rest.length = cur.size := by rw [← Array.length_toList, hc0, List.length_append]
              have hbound : off.toNat + min ys.length len.toNat ≤ xs.length := by omega
              have hbm : off.toNat * ei.ty.size + min ys.length len.toNat * ei.ty.size ≤ es.length := by
                rw [hlen, ← Nat.add_mul]; exact Nat.mul_le_mul_right _ hbound
              have hr := run_cpy (P := P) w T U o.type ti.elem i huT hi b (off.toNat * ei.ty.size) len.toNat cap cur T' hh A2 ys.length c2 (news.take (min ys.length len.toNat * ei.ty.size)) hn1 hcell hone (by rw [hn1, hsz]; omega)
              have hytk : Reps (RepC w (fun _ => True) ei.ty) (ys.take len.toNat) (news.take (min ys.length len.toNat * ei.ty.size)) := by
                have := Sr.reps.take (fun _ _ h => h.length) (min ys.length len.toNat)
                have e1 : ys.take (min ys.length len.toNat) = ys.take len.toNat := by rw [Nat.min_comm, List.take_eq_take_iff]; omega
                rw [e1] at this
                exact this.imp fun _ _ hr => flat_any hf hr
              have hnew : Reps (RepC w (fun _ => True) ei.ty) (lcopy xs off len ys) (es.take (off.toNat * ei.ty.size) ++ news.take (min ys.length len.toNat * ei.ty.size) ++ es.drop (off.toNat * ei.ty.size + min ys.length len.toNat * ei.ty.size)) := by
                unfold lcopy
                refine Reps.append (Reps.append (hreps.take (fun _ _ h => h.length) _) hytk) ?_
                have := hreps.drop (fun _ _ h => h.length) (off.toNat + min ys.length len.toNat)
                rw [Nat.add_mul] at this
                rw [Nat.min_comm len.toNat]
                exact this
              have hrow : cur.toList.take (off.toNat * ei.ty.size) ++ news.take (min ys.length len.toNat * ei.ty.size) ++ cur.toList.drop (off.toNat * ei.ty.size + (news.take (min ys.length len.toNat * ei.ty.size)).length) =
                  (es.take (off.toNat * ei.ty.size) ++ news.take (min ys.length len.toNat * ei.ty.size) ++ es.drop (off.toNat * ei.ty.size + min ys.length len.toNat * ei.ty.size)) ++ rest := by
                rw [hn1, hsz, hc0, List.take_append_of_le_length (by omega), List.drop_append_of_le_length (by omega)]
                simp [List.append_assoc]
              rw [hrow] at hr
              have hlcl : (lcopy xs off len ys).length = xs.length := by
                simp only [lcopy, List.length_append, List.length_take, List.length_drop]; omega
              have hlnew := hnew.length (n := ei.ty.size) (fun _ _ h => h.length)
              rw [hlcl] at hlnew
              obtain ⟨hst, _⟩ := step_arr (n := id) (r := r) (M := []) (w' := w.setRow b ((es.take (off.toNat * ei.ty.size) ++ news.take (min ys.length len.toNat * ei.ty.size) ++ es.drop (off.toNat * ei.ty.size + min ys.length len.toNat * ei.ty.size)) ++ rest).toArray)
                (xs := lcopy xs off len ys) (deep := deep) (d := d) (v := r.ver id + 1) (b0 := b) (cap := g.cp id) (es := es.take (off.toNat * ei.ty.size) ++ news.take (min ys.length len.toNat * ei.ty.size) ++ es.drop (off.toNat * ei.ty.size + min ys.length len.toNat * ei.ty.size)) (rest := rest)
                hm (hm.ne0 hroot) (by simp) hok (fun _ => ⟨hb, rfl, _, hroot, rfl, hlcl.symm⟩) (by simp [World.setRow]) (fun b' _ hne => setRow_other w b b' _ hne) (setRow_heap w b cur _ T' _ hh) (.inr ⟨id, .inr rfl, hω⟩) (by simp)
                (by rw [hlcl]; exact hlnew) (by rw [List.size_toArray, List.length_append, hlnew, ← hlen, hes, hcsz]) (by rw [hlcl]; exact hcap) hbd
                (fun hd => by
                  subst hd
                  exact ⟨hm.flat id _ hroot, [], flats_own hf hnew, List.nodup_nil, by simp, fun b hb => by cases hb⟩)
                (fun _ _ _ => hnew.imp fun _ _ hr => flat_any hf hr) rfl rfl rfl
              refine ⟨_, _, .int .i64 (min ys.length len.toNat : Nat), .inl (hrun ?_), hst, by rw [hmin]; rfl, fun _ => rfl⟩
              rw [hux, huy]
              exact hr
      cases l with
      | nil =>
        simp only at h
        split at h
        · rename_i ys hys
          simp only [Option.some.injEq, Res.val.injEq] at h
          obtain ⟨_, rfl, rfl⟩ := h
          obtain ⟨A2, c2, news, huy, Sr⟩ := src_rel hm hs hys hmv
          have hux := hl.1
          simp only [LfCore] at hux
          refine ⟨g, w, .int .i64 0, .inl (hrun ?_), Step.refl hm, rfl, fun _ => rfl⟩
          rw [hux, huy]
          exact run_cpy_none (P := P) w T U o.type ti.elem i huT hi none A2 0 0 ys.length c2 (by simp)
        · cases h
      | own id =>
        simp only at h
        split at h
        · rename_i e xs deep d hr
          have hroot := (hs.root id _ hr).1
          have hux := hl.1.2 _ _ _ _ hroot
          have hop := own_parts hm hroot
          refine fin id 0 (llen xs) (A := (g.κ id).map fun b => ⟨b, 0, none⟩) (cap := g.cp id) (by rw [hux]; rfl) (Int.le_refl _) (by simp [llen]) (fun e' xs' deep' d' hr' => ?_) h
          rw [hroot] at hr'; cases hr'
          refine ⟨by simp [llen], ?_⟩
          by_cases hx0 : xs = []
          · left; simp [llen, hx0]
          · obtain ⟨b, hb⟩ := hop.2.2 hx0
            exact .inr ⟨b, hb, by rw [hb]; simp⟩
        · cases h
      | pre id len =>
        simp only at h
        have hroot : ∃ e xs deep d, r.root id = some (.arr e xs deep d) := by
          unfold copyFin at h
          split at h
          · rename_i e' xs deep d ys hq hys; exact ⟨_, _, _, _, (arrOf_some hq).1⟩
          · cases h
        obtain ⟨e, xs, deep, d, hrr⟩ := hroot
        have hroot := (hs.root id _ hrr).1
        obtain ⟨l0, l1, hux⟩ := hl.1.2 _ _ _ _ hroot
        have hop := own_parts hm hroot
        refine fin id 0 len (A := (g.κ id).map fun b => ⟨b, 0, none⟩) (cap := g.cp id) (by rw [hux]; rfl) (Int.le_refl _) l0 (fun e' xs' deep' d' hr' => ?_) h
        rw [hroot] at hr'; cases hr'
        refine ⟨by omega, ?_⟩
        by_cases hx0 : xs = []
        · left; rw [hx0] at l1; simp at l1; omega
        · obtain ⟨b, hb⟩ := hop.2.2 hx0
          exact .inr ⟨b, hb, by rw [hb]; simp⟩
      | part id off len =>
        simp only at h
        have hroot : ∃ e xs deep d, r.root id = some (.arr e xs deep d) := by
          unfold copyFin at h
          split at h
          · rename_i e' xs deep d ys hq hys; exact ⟨_, _, _, _, (arrOf_some hq).1⟩
          · cases h
        obtain ⟨e, xs, deep, d, hrr⟩ := hroot
        have hroot := (hs.root id _ hrr).1
        obtain ⟨o0, n0, n1, A, cap, hux, hcap, hAd⟩ := hl.1.2 _ _ _ _ hroot
        refine fin id off len (A := A) (cap := cap) hux o0 n0 (fun e' xs' deep' d' hr' => ?_) h
        rw [hroot] at hr'; cases hr'
        exact ⟨n1, hAd⟩
      | _ => simp at h
end
end Go.Proofs.XTv
/- Fields, conversions, lengths; all operations but calls of functions. -/
set_option linter.unusedVariables false
set_option linter.unusedSimpArgs false
set_option linter.unusedSectionVars false
namespace Go.Proofs.XTv

section
variable {P : Program} {Γ : Cx} {g g' : G} {r s s' : St} {w w' : World} {N : Bd} {n : Nat} {a : Act} {E : Env}
variable {k : Nat} {key : Option (Nat × Bool)} {o : Oper} {ok : Bool} {v : AV} {us : List Up}
variable (hΓ : CxOk P Γ) (hm : Mem N g s w) (hs : Sub r s) (hsl : ∀ t, AVRel g s w N (s.slot t).2 (a.tmps.getD t undef)) (hk : KeyOk r key)

theorem tyIs_int (hΓ : CxOk P Γ) (hm : Mem N g s w) (hs : Sub r s) (hsl : ∀ t, AVRel g s w N (s.slot t).2 (a.tmps.getD t undef)) (hk : KeyOk r key) {T : Nat} {kk : IntKind} (h : tyIs Γ T (.int kk) = true) : P.underlying T = some (.int kk) := by
  obtain ⟨ti, hti, hag, hty⟩ := tyIs_under hΓ h
  obtain ⟨_, d, hu, _, hd⟩ := (hΓ.ty T ti hti).flat hag
  unfold flatIs at hd; rw [hty] at hd
  rw [hu]; exact congrArg some hd

theorem acts_convert (hΓ : CxOk P Γ) (hm : Mem N g s w) (hs : Sub r s) (hsl : ∀ t, AVRel g s w N (s.slot t).2 (a.tmps.getD t undef)) (hk : KeyOk r key) {src dst : Nat} {x : Operand} (hN : N.n ≤ w.heap.size) (ho : o.op = .convert src dst x) (h : exec Γ k r key o = some (.val ok v us)) : Acts P N g s w a o v us := by
  simp only [exec, ho] at h
  split at h
  case h_2 => cases h
  case h_1 si ti l hsi hti hx =>
    have hl := opnd_rel hs hsl hk hx
    cases hag : si.agg || ti.agg
    case true => simp [hag] at h
    simp only [hag, cond_false] at h
    rw [Bool.or_eq_false_iff] at hag
    obtain ⟨_, ds, hus, _, hds⟩ := (hΓ.ty src si hsi).flat hag.1
    obtain ⟨_, dt, hut, _, hdt⟩ := (hΓ.ty dst ti hti).flat hag.2
    unfold flatIs at hds hdt
    split at h
    · rename_i k1 k2 k3 n hst htt
      simp only [Option.some.injEq, Res.val.injEq] at h
      obtain ⟨_, rfl, rfl⟩ := h
      have hv := hl.1
      simp only [LfCore] at hv
      rw [htt] at hdt
      subst hdt
      refine Looks.acts hm ⟨rfl, .int k2 (icast k2 n), ?_, rfl, fun _ => rfl⟩
      simp [execOp, ho, hv, convert, run_underlying hus, run_underlying hut, Conv.intToInt, icast]
    · rename_i b hst htt
      simp only [Option.some.injEq, Res.val.injEq] at h
      obtain ⟨_, rfl, rfl⟩ := h
      have hv := hl.1
      simp only [LfCore] at hv
      rw [htt] at hdt
      subst hdt
      refine Looks.acts hm ⟨rfl, .string b, ?_, rfl, fun _ => rfl⟩
      simp [execOp, ho, hv, convert, run_underlying hus, run_underlying hut]
    · rename_i _ l' hst htt
      cases hti8 : tyIs Γ si.elem (.int .u8)
      · simp [hti8] at h
      simp only [hti8, cond_true] at h
      split at h
      · rename_i xs hxs
        simp only [Option.some.injEq, Res.val.injEq] at h
        obtain ⟨_, rfl, rfl⟩ := h
        rw [hst] at hds
        obtain ⟨rfl, _⟩ := hds
        rw [htt] at hdt
        subst hdt
        have he := tyIs_int (P := P) hΓ hm hs hsl hk hti8
        obtain ⟨⟨base, cap, hue, hcap, hp⟩, _, _⟩ := slData_rel hm hs hxs hl
        simp only [List.cons.injEq, and_true] at hue
        refine Looks.acts hm ⟨rfl, .string (sofbytes xs), ?_, rfl, fun _ => rfl⟩
        simp only [execOp, ho]
        rw [Sem.run_bind, hue]
        rcases hp with rfl | ⟨b, off, es, rfl, ha, hr, hrow⟩
        · cases base with
          | none => rw [run_convert_bytes_nil w src si.elem hus he _ _ dst hut]; rfl
          | some aa =>
            have := run_loadCells_list (P := P) w aa [] (fun j v h => by simp at h)
            simp only [List.length_nil] at this
            rw [run_convert_bytes_string w src dst si.elem _ _ cap hus he hut, List.length_nil, run_bytesToString w aa 0 cap [] (by simpa using this)]
            rfl
        · have hes : ∀ {A : Nat → Prop} {xs : List Int} {es : List Value}, Reps (RepC w A (.int .u8)) xs es → es = xs.map (Value.int .u8) := by
            intro A xs
            induction xs with
            | nil => intro es h; exact h
            | cons x xs ih =>
              rintro es ⟨c1, c2, rfl, h1, h2⟩
              simp only [RepC] at h1
              rw [h1, ih h2]; rfl
          have hes' := hes hr
          rw [run_convert_bytes_arg w src si.elem hus he b off xs.length cap xs rfl (fun i hi => by
            have h1 : i < es.length := by rw [hes']; simpa using hi
            rw [hrow i h1]
            simp [hes', List.getD, List.getElem?_eq_getElem hi]) dst hut]
          rfl
      · cases h
    · rename_i b hst htt
      cases hti8 : tyIs Γ ti.elem (.int .u8)
      · simp [hti8] at h
      simp only [hti8, cond_true, Option.some.injEq, Res.val.injEq] at h
      obtain ⟨_, rfl, rfl⟩ := h
      have hv := hl.1
      simp only [LfCore] at hv
      rw [htt] at hdt
      obtain ⟨rfl, _⟩ := hdt
      have he := tyIs_int (P := P) hΓ hm hs hsl hk hti8
      have hrun := Lib.run_convert_string_bytes (P := P) w src dst ti.elem b hus hut he
      have hst := step_grow hm (w' := Lib.bytesWorld w ti.elem b) (by rw [Lib.bytesWorld_size]; omega) (fun j hj => Lib.bytesWorld_at_old w ti.elem b j hj) (by unfold Lib.bytesWorld World.freeze; split <;> rfl) (by unfold Lib.bytesWorld World.freeze; split <;> rfl) (by unfold Lib.bytesWorld World.freeze; split <;> rfl)
      refine ⟨g, _, _, .inl (by simp only [execOp, ho]; rw [Sem.run_bind, hv, hrun]; rfl), hst, ⟨Bnd.nil, fun _ => ⟨?_, fun id i o e => by cases e⟩⟩, fun _ => rfl⟩
      have hlen : (sbytes b).length = b.size := by unfold sbytes; rw [List.length_map]; rfl
      refine ⟨_, _, by rw [hlen], by rw [hlen]; exact grownCap_ge w _ _ _, .inr ⟨w.heap.size, 0, (sbytes b).map (Value.int .u8), rfl, ⟨by rw [Lib.bytesWorld_size]; omega, .inl ⟨noOwner hm, .inr (.inl hN)⟩⟩, ?_, ?_⟩⟩
      · have : ∀ xs : List Int, Reps (RepC (Lib.bytesWorld w ti.elem b) (Av g (Lib.bytesWorld w ti.elem b) N []) (.int .u8)) xs (xs.map (Value.int .u8)) := by
          intro xs
          induction xs with
          | nil => exact rfl
          | cons x xs ih => exact ⟨[.int .u8 x], _, rfl, rfl, ih⟩
        exact this _
      · intro j hj
        have hj' : j < b.size := by simpa [hlen] using hj
        rw [Nat.zero_add, Lib.bytesWorld_cell w ti.elem b j hj']
        have hjd : j < b.data.toList.length := hj'
        rw [List.getD_eq_getElem?_getD, List.getElem?_eq_getElem hjd]
        simp only [sbytes, List.getElem_map, Option.getD_some]
    · cases h

theorem looks_fieldAddr (hΓ : CxOk P Γ) (hm : Mem N g s w) (hs : Sub r s) (hsl : ∀ t, AVRel g s w N (s.slot t).2 (a.tmps.getD t undef)) (hk : KeyOk r key) {S : Nat} {x : Operand} {f : Nat} (ho : o.op = .fieldAddr S x f) (h : exec Γ k r key o = some (.val ok v us)) : Looks P g s w N a o v us := by
  simp only [exec, ho] at h
  split at h
  case h_2 => cases h
  case h_1 ti p hti hx =>
    cases hcond : !ti.agg || !(alive r p)
    case true => simp [hcond] at h
    simp only [hcond, cond_false] at h
    simp only [Bool.or_eq_false_iff, Bool.not_eq_false'] at hcond
    obtain ⟨hag, hal⟩ := hcond
    obtain ⟨fs, hu, hoffs⟩ := (hΓ.ty S ti hti).agg hag
    have hp := opnd_rel hs hsl hk hx
    have run : ∀ {fo ft : Nat} {b off : Nat}, ti.offs[f]? = some (fo, ft) → a.eval x = .pointer (some ⟨b, off, none⟩) → (execOp a.eval o).run P w = .ok (.value (.pointer (some ⟨b, off + fo, none⟩))) w := by
      intro fo ft b off e1 e2
      obtain ⟨fld, j, h1, h2, h3, h4, h5⟩ := hoffs f fo ft e1
      have hsz : (sizeOf fld.type).run P w = .ok j.size w := run_sizeOf' (by rw [h3]; exact h4) w
      simp [execOp, ho, e2, Instr.fieldAt, run_underlying hu, h1, Instr.sureAddr, fieldPlace, hsz, h5, add_mk, h2]
    split at h
    · rename_i fo ft id off e1
      simp only [Option.some.injEq, Res.val.injEq] at h
      obtain ⟨_, rfl, rfl⟩ := h
      simp only [alive] at hal
      split at hal
      · rename_i ls hroot
        have hroot' := (hs.root id _ hroot).1
        obtain ⟨b, hb, hv⟩ := hp.1.2 ls hroot'
        exact ⟨rfl, _, run e1 hv, ⟨hp.1.1, fun ls' hr' => ⟨b, hb, rfl⟩⟩, fun _ => rfl⟩
      · cases hal
    · rename_i fo ft id i off e1
      simp only [Option.some.injEq, Res.val.injEq] at h
      obtain ⟨_, rfl, rfl⟩ := h
      simp only [alive] at hal
      split at hal
      · rename_i e xs deep d hroot
        have hroot' := (hs.root id _ hroot).1
        obtain ⟨h0, h1, b, hb, hv⟩ := hp.1.2 _ _ _ _ hroot'
        refine ⟨rfl, _, run e1 hv, ⟨hp.1.1, fun e' xs' deep' d' hr' => ?_⟩, fun _ => rfl⟩
        rw [hroot'] at hr'; cases hr'
        exact ⟨h0, h1, b, hb, by rw [Nat.add_assoc]⟩
      · cases hal
    · rename_i fo ft e xx off d e1
      simp only [Option.some.injEq, Res.val.injEq] at h
      obtain ⟨_, rfl, rfl⟩ := h
      obtain ⟨b, oo, cs, hv, ha, hrep, hrow⟩ := hp.1.2 (hs.cur hp.1.1 hal)
      exact ⟨rfl, _, run e1 hv, ⟨hp.1.1, fun _ => ⟨b, oo, cs, by rw [Nat.add_assoc], ha, hrep, hrow⟩⟩, fun _ => rfl⟩
    · cases h

theorem looks_field (hΓ : CxOk P Γ) (hm : Mem N g s w) (hs : Sub r s) (hsl : ∀ t, AVRel g s w N (s.slot t).2 (a.tmps.getD t undef)) (hk : KeyOk r key) {S : Nat} {x : Operand} {f : Nat} (ho : o.op = .field S x f) (h : exec Γ k r key o = some (.val ok v us)) : Looks P g s w N a o v us := by
  simp only [exec, ho] at h
  split at h
  case h_2 => cases h
  case h_1 ti ls hti hx =>
    cases hag : ti.agg
    · simp [hag] at h
    simp only [hag, Bool.not_true, cond_false] at h
    obtain ⟨fs, hu, hoffs⟩ := (hΓ.ty S ti hti).agg hag
    obtain ⟨cs, hv, hls⟩ := opnd_rel hs hsl hk hx
    split at h
    case h_2 => cases h
    case h_1 fo T e1 =>
      split at h
      case h_2 => cases h
      case h_1 fi hfi =>
        cases hle : Nat.ble (fo + fi.ty.size) ls.length
        · simp [hle] at h
        have hle' := Nat.le_of_ble_eq_true hle
        simp only [hle, cond_true] at h
        split at h
        case h_2 => cases h
        case h_1 v1 hmk =>
          simp only [Option.some.injEq, Res.val.injEq] at h
          obtain ⟨_, rfl, rfl⟩ := h
          obtain ⟨fld, j, h1, h2, h3, h4, h5⟩ := hoffs f fo T e1
          have hTy := hΓ.ty T fi hfi
          obtain ⟨i, z, hi, hsz, _⟩ := hTy.info
          have hcl := hls.length
          have hcut : LsRel g s w N ((ls.drop fo).take fi.ty.size) ((cs.toList.drop fo).take fi.ty.size) := (hls.drop fo).take _
          have run : ∀ {u : Value}, (part fld.type cs fld.offset).run P w = .ok u w → (execOp a.eval o).run P w = .ok (.value u) w := by
            intro u hr
            simp [execOp, ho, hv, Instr.field, run_underlying hu, h1, asAgg, hr]
          cases hfa : fi.agg
          · obtain ⟨hs1, d, hud, hwd, _⟩ := hTy.flat hfa
            rw [hfa, hs1] at hmk
            rw [hs1] at hcut
            simp only [mkAV, cond_false] at hmk
            match hq : (ls.drop fo).take 1, hmk, hcut with
            | [l], hmk, hcut =>
              simp only [Option.some.injEq] at hmk
              subst hmk
              match hc : (cs.toList.drop fo).take 1, hcut with
              | [c], hcut =>
                have hget : cs[fld.offset]? = some c := by
                  rw [h2, ← Array.getElem?_toList]
                  have h9 : ((cs.toList.drop fo).take 1)[0]? = some c := by rw [hc]; rfl
                  simpa using h9
                exact ⟨rfl, c, run (run_part_one (by rw [h3]; exact hud) hwd hget w), hcut.1⟩
              | [], hcut => exact hcut.elim
          · obtain ⟨fs', hu', _⟩ := hTy.agg hfa
            rw [hfa] at hmk
            simp only [mkAV, cond_true, Option.some.injEq] at hmk
            subst hmk
            refine ⟨rfl, _, run (run_part_agg (by rw [h3]; exact hu') (by rw [h3]; exact hi) cs fld.offset w), _, rfl, ?_⟩
            rw [h2, hsz]
            have : (cs.extract fo (fo + fi.ty.size)).toList = (cs.toList.drop fo).take fi.ty.size := by
              simp [List.extract_eq_take_drop]
            rw [this]
            exact hcut

theorem looks_len (hΓ : CxOk P Γ) (hm : Mem N g s w) (hs : Sub r s) (hsl : ∀ t, AVRel g s w N (s.slot t).2 (a.tmps.getD t undef)) (hk : KeyOk r key) {c : Call} (ho : o.op = .call c) (hc : c.callee = .builtin .len) (h : exec Γ k r key o = some (.val ok v us)) : Looks P g s w N a o v us := by
  simp only [exec, ho, hc] at h
  split at h
  case h_2 => cases h
  case h_1 l T rest hargs htys =>
    cases hT : lfIs Γ r T l
    · simp [hT] at h
    simp only [hT, cond_true] at h
    split at h
    case h_2 => cases h
    case h_1 n hn =>
      simp only [Option.some.injEq, Res.val.injEq] at h
      obtain ⟨_, rfl, rfl⟩ := h
      have hone : ∃ x, c.args.toList = [x] ∧ opnd r key x = some (.one l) := by
        match hq : c.args.toList, hargs with
        | [], hh => simp [opnds] at hh
        | [x], hh =>
          simp only [opnds] at hh
          split at hh
          · rename_i v0 vs0 h1 h2
            simp only [Option.some.injEq] at h2
            subst h2
            simp only [Option.some.injEq, List.cons.injEq, and_true] at hh
            subst hh
            exact ⟨x, rfl, h1⟩
          · cases hh
        | x :: y :: l', hh =>
          simp only [opnds] at hh
          split at hh
          · rename_i v0 vs0 h1 h2
            split at h2
            · simp only [Option.some.injEq] at h2
              subst h2
              simp at hh
            · cases h2
          · cases hh
      obtain ⟨x, hxl, hx⟩ := hone
      have hA : c.args = #[x] := by rw [← Array.toArray_toList (xs := c.args), hxl]
      have hTy : c.argTypes = (T :: rest).toArray := by rw [← Array.toArray_toList (xs := c.argTypes), htys]
      have hr := len_rel (P := P) hΓ hm hs hT (opnd_rel hs hsl hk hx) hn o.type rest
      refine ⟨rfl, .int .i64 n, ?_, rfl, fun _ => rfl⟩
      rw [run_builtin ho hc, hA, hTy]
      simp only [builtin, List.map_toArray, List.map_cons, List.map_nil]
      rw [Sem.run_bind, hr]; rfl

/-- All operations but calls of functions. -/
theorem acts_all (hΓ : CxOk P Γ) (hm : Mem N g s w) (hs : Sub r s) (hsl : ∀ t, AVRel g s w N (s.slot t).2 (a.tmps.getD t undef)) (hk : KeyOk r key) (hN : N.n ≤ w.heap.size) (hp : PickOk r) (h : exec Γ k r key o = some (.val ok v us)) (hok' : ok = true) (hok : upsOk s us = true) : Acts P N g s w a o v us := by
  cases ho : o.op with
  | move x => exact (looks_move hs hsl hk (.inl ho) h).acts hm
  | assign x => exact (looks_move hs hsl hk (.inr ho) h).acts hm
  | pick c x y => exact (looks_pick hs hsl hk hp ho h).acts hm
  | alloc T => exact acts_alloc hΓ hm ho h hok
  | box T x => exact acts_box hΓ hm hs hsl hk ho h hok
  | build T ps => exact (looks_build hΓ hs hsl hk ho h).acts hm
  | buildSlice T l ps => exact acts_buildSlice hΓ hm hs hsl hk ho h hok
  | load T x => exact (looks_load hΓ hm hs hsl hk ho h).acts hm
  | store T x y => exact acts_store hΓ hm hs hsl hk ho h hok
  | nilCheck x => exact (looks_nilCheck hs hsl hk ho h).acts hm
  | binOp op T x y z => exact (looks_binOp hΓ hs hsl hk ho h hok').acts hm
  | unOp op T x => exact (looks_unOp hs hsl hk ho h).acts hm
  | convert src dst x => exact acts_convert hΓ hm hs hsl hk hN ho h
  | makeSlice T l c => exact acts_makeSlice hΓ hm hs hsl hk ho h hok' hok
  | slice T x lo hi mx => exact (looks_slice hΓ hm hs hsl hk ho h hok').acts hm
  | fieldAddr S x f => exact (looks_fieldAddr hΓ hm hs hsl hk ho h).acts hm
  | field S x f => exact (looks_field hΓ hm hs hsl hk ho h).acts hm
  | indexAddr T x ix => exact (looks_indexAddr hΓ hm hs hsl hk ho h hok').acts hm
  | index T x ix => exact (looks_index hΓ hs hsl hk ho h hok').acts hm
  | extract x ix => exact (looks_extract hs hsl hk ho h).acts hm
  | call c =>
    cases hc : c.callee with
    | builtin b =>
      cases b with
      | len => exact (looks_len hΓ hm hs hsl hk ho hc h).acts hm
      | append => exact acts_append hΓ hm hs hsl hk ho hc h hok' hok
      | copy => exact acts_copy hΓ hm hs hsl hk ho hc h hok
      | _ => simp [exec, ho, hc] at h
    | value f =>
      simp only [exec, ho, hc] at h
      split at h
      · split at h
        · unfold doCall at h
          split at h
          · cases h
          · rw [Bool.cond_eq_ite] at h
            split at h <;> cases h
        · cases h
      · cases h
    | invoke _ _ => simp [exec, ho, hc] at h
  | _ => simp [exec, ho] at h
end
end Go.Proofs.XTv
/- What a call is to be given, and what it is to give back: the contract of a function. -/
set_option linter.unusedVariables false
set_option linter.unusedSimpArgs false
set_option linter.unusedSectionVars false
namespace Go.Proofs.XTv

theorem tpFst_mk (a b : Ty) (x : a.den) (y : b.den) : tpFst a b (tpMk a b x y) = x := by cases a <;> cases b <;> rfl
theorem tpSnd_mk (a b : Ty) (x : a.den) (y : b.den) : tpSnd a b (tpMk a b x y) = y := by cases a <;> cases b <;> rfl
theorem tpMk_eta (a b : Ty) (z : (tp a b).den) : tpMk a b (tpFst a b z) (tpSnd a b z) = z := by cases a <;> cases b <;> rfl

/-- A value and its cells. -/
def PVal (agg : Bool) (v : Value) (cs : List Value) : Prop := match agg with
  | true => ∃ a, v = .agg a ∧ a.toList = cs
  | false => cs = [v]
def ArgR (w : World) (A : Nat → Prop) : (p : PK) → p.ty.den → Value → List Nat → Prop
  | .val t agg, x, v, S => S = [] ∧ ∃ cs, PVal agg v cs ∧ RepC w A t x cs
  | .take t agg, x, v, S => ∃ cs, PVal agg v cs ∧ RepO w t x cs S
  | .lend t agg, x, v, S => ∃ cs, PVal agg v cs ∧ RepO w t x cs S
  | .ptr t, x, v, S => ∃ b c T, v = .pointer (some ⟨b, 0, none⟩) ∧ w.heap[b]? = some (.cells c T (0, 0)) ∧ RepC w A t x c.toList ∧ S = [b]
  | .ptrown t, x, v, S => ∃ b c T S', v = .pointer (some ⟨b, 0, none⟩) ∧ w.heap[b]? = some (.cells c T (0, 0)) ∧ RepO w t x c.toList S' ∧ S = b :: S'
  | .fnc f, _, v, S => v = .func (.func f) #[] #[] ∧ S = []
def ArgsR (w : World) (A : Nat → Prop) : (ps : List PK) → (inTy ps).den → List Value → List Nat → Prop
  | [], _, [], S => S = []
  | p :: ps, x, v :: vs, S => ∃ S1 S2, S = S1 ++ S2 ∧ ArgR w A p (tpFst p.ty (inTy ps) x) v S1 ∧ ArgsR w A ps (tpSnd p.ty (inTy ps) x) vs S2
  | _, _, _, _ => False
def BackR (w : World) (A : Nat → Prop) : (p : PK) → p.out.den → Value → List Nat → Prop
  | .lend t agg, y, v, S => ∃ cs, PVal agg v cs ∧ RepO w t y cs S
  | .ptr t, y, v, S => ∃ b c T, v = .pointer (some ⟨b, 0, none⟩) ∧ w.heap[b]? = some (.cells c T (0, 0)) ∧ RepC w A t y c.toList ∧ S = [b]
  | .ptrown t, y, v, S => ∃ b c T S', v = .pointer (some ⟨b, 0, none⟩) ∧ w.heap[b]? = some (.cells c T (0, 0)) ∧ RepO w t y c.toList S' ∧ S = b :: S'
  | .val _ _, _, _, S => S = []
  | .take _ _, _, _, S => S = []
  | .fnc _, _, _, S => S = []
def BacksR (w : World) (A : Nat → Prop) : (ps : List PK) → (outPs ps).den → List Value → List Nat → Prop
  | [], _, [], S => S = []
  | p :: ps, x, v :: vs, S => ∃ S1 S2, S = S1 ++ S2 ∧ BackR w A p (tpFst p.out (outPs ps) x) v S1 ∧ BacksR w A ps (tpSnd p.out (outPs ps) x) vs S2
  | _, _, _, _ => False
def ResR (w : World) (A F : Nat → Prop) (r : RK) (y : r.t.den) (v : Value) (S : List Nat) : Prop := match r.mode with
  | .own => ∃ cs, PVal r.agg v cs ∧ RepO w r.t y cs S
  | .fresh => S = [] ∧ ∃ cs, PVal r.agg v cs ∧ RepC w F r.t y cs
  | .shared => S = [] ∧ ∃ cs, PVal r.agg v cs ∧ RepC w A r.t y cs
  | .ptr => ∃ b c T, v = .pointer (some ⟨b, 0, none⟩) ∧ w.heap[b]? = some (.cells c T (0, 0)) ∧ RepC w A r.t y c.toList ∧ S = [b]
def RessR (w : World) (A F : Nat → Prop) : (rs : List RK) → (outRs rs).den → List Value → List Nat → Prop
  | [], _, [], S => S = []
  | r :: rs, x, v :: vs, S => ∃ S1 S2, S = S1 ++ S2 ∧ ResR w A F r (tpFst r.t (outRs rs) x) v S1 ∧ RessR w A F rs (tpSnd r.t (outRs rs) x) vs S2
  | _, _, _, _ => False
/-- What a call gives: one value, or a tuple. -/
def resVal : List Value → Value
  | [v] => v
  | vs => .tuple vs.toArray

structure Post (ps : List PK) (rs : List RK) (w : World) (A : Nat → Prop) (S : List Nat) (args : List Value) (y : (outTy ps rs).den) (v : Value) (w' : World) : Prop where
  size : w.heap.size ≤ w'.heap.size
  os : w'.os = w.os
  tape : w'.tape = w.tape
  output : w'.output = w.output
  frame : ∀ b, b < w.heap.size → b ∉ S → w'.heap[b]? = w.heap[b]?
  out : ∃ vs S1 S2, v = resVal vs ∧ (S1 ++ S2).Nodup ∧ (∀ b ∈ S1 ++ S2, (b ∈ S ∨ w.heap.size ≤ b) ∧ b < w'.heap.size) ∧
    RessR w' (fun b => A b ∨ ((b ∈ S ∨ w.heap.size ≤ b) ∧ b < w'.heap.size ∧ b ∉ S1 ++ S2)) (fun b => (b ∈ S ∨ w.heap.size ≤ b) ∧ b < w'.heap.size ∧ b ∉ S1 ++ S2) rs (tpFst (outRs rs) (outPs ps) y) vs S1 ∧
    BacksR w' (fun b => A b ∨ ((b ∈ S ∨ w.heap.size ≤ b) ∧ b < w'.heap.size ∧ b ∉ S1 ++ S2)) ps (tpSnd (outRs rs) (outPs ps) y) args S2
/-- A function does what its contract says. -/
def Sound (P : Program) (f : FuncId) (C : Con) : Prop :=
  (∃ fn, P.funcs[f]? = some fn ∧ fn.body.isSome = true ∧ (fn.name == "runtime.NumGoroutine") = false) ∧
  ∀ (k : Nat) (x : (inTy C.ps).den) (y : (outTy C.ps C.rs).den), C.sem k x = some y → ∀ (w : World) (args : List Value) (A : Nat → Prop) (S : List Nat),
    ArgsR w A C.ps x args S → S.Nodup → (∀ b ∈ S, ¬ A b) → (∀ b, A b → b < w.heap.size) →
    Calls P f args.toArray w fun
      | .returned v, w' => Post C.ps C.rs w A S args y v w'
      | _, _ => False

/-! ### Where things lie behind a call -/
structure Place where
  id : Nat
  κ : Option Nat
  cp : Nat
  blocks : List Nat
/-- An array of one's own at a place. -/
def ArrAt (w : World) (p : Place) (e : Ty) (xs : List e.den) : Prop :=
  (p.κ = none ∧ xs = [] ∧ p.cp = 0 ∧ p.blocks = []) ∨
  ∃ b c T S es rest, p.κ = some b ∧ p.blocks = b :: S ∧ w.heap[b]? = some (.cells c T (0, 0)) ∧ c.toList = es ++ rest ∧ es.length = xs.length * e.size ∧ c.size = p.cp * e.size ∧ xs.length ≤ p.cp ∧ RepsO (RepO w e) xs es S
theorem arrAt_of {w : World} {e : Ty} {xs : List e.den} {v : Value} {S : List Nat} (id : Nat) (h : RepO w (.sl e) xs [v] S) : ∃ p : Place, p.id = id ∧ p.blocks = S ∧ ArrAt w p e xs ∧ v = .slice (p.κ.map fun b => ⟨b, 0, none⟩) xs.length p.cp := by
  rcases h with ⟨h1, h2, h3⟩ | ⟨b, cap, c, T, S', es, rest, h1, h2, h3, h4, h5, h6, h7⟩
  · simp only [List.cons.injEq, and_true] at h1
    exact ⟨⟨id, none, 0, []⟩, rfl, h3.symm, .inl ⟨rfl, h2, rfl, rfl⟩, by rw [h1, h2]; rfl⟩
  · simp only [List.cons.injEq, and_true] at h1
    exact ⟨⟨id, some b, cap, S⟩, rfl, rfl, .inr ⟨b, c, T, S', es, rest, rfl, h5, h2, h6, h7.length fun _ _ _ h => h.length, h3, h4, h7⟩, h1⟩
theorem arrAt_root {g : G} {s : St} {w : World} {N : Bd} {p : Place} {e : Ty} {xs : List e.den} (h : ArrAt w p e xs) (hk : g.κ p.id = p.κ) (hcp : g.cp p.id = p.cp) (hω : ∀ b ∈ p.blocks, g.ω b = some p.id) (hn : p.blocks.Nodup) : RootRel g s w N p.id (.arr e xs true []) := by
  refine ⟨Bnd.nil, ?_⟩
  rcases h with ⟨h1, h2, h3, h4⟩ | ⟨b, c, T, S, es, rest, h1, h2, h3, h4, h5, h6, h7, h8⟩
  · exact .inl ⟨hk.trans h1, h2, hcp.trans h3⟩
  · rw [h2] at hω hn
    refine .inr ⟨b, c, T, es, rest, hk.trans h1, hω b (List.mem_cons_self ..), h3, h4, h5, by rw [hcp]; exact h6, by rw [hcp]; exact h7, ?_⟩
    simp only [if_true]
    exact ⟨by trivial, S, h8, hn, fun b' hb' => hω b' (List.mem_cons_of_mem _ hb')⟩

section
variable {P : Program} {Γ : Cx} {g g' : G} {r s s' : St} {w w' : World} {N : Bd} {n : Nat} {a : Act} {E : Env}

theorem own_absorb : ∀ {ls : List Lf} {ids : List Nat}, ownIds r ls = some ids → absorb r ls = (true, [], ids)
  | [], ids, h => by simp only [ownIds, Option.some.injEq] at h; subst h; rfl
  | l :: ls, ids, h => by
    unfold ownIds at h
    split at h
    case h_1 => cases h
    case h_2 q hq =>
      have ih := own_absorb hq
      unfold absorb
      rw [ih]
      cases l with
      | int _ _ => simp only [Option.some.injEq] at h; subst h; rfl
      | bool _ => simp only [Option.some.injEq] at h; subst h; rfl
      | str _ => simp only [Option.some.injEq] at h; subst h; rfl
      | nil => simp only [Option.some.injEq] at h; subst h; rfl
      | own id =>
        simp only at h ⊢
        split at h
        · rename_i e xs d hroot
          cases hm : nmem id q
          · simp only [hm, cond_false, Option.some.injEq] at h ⊢
            subst h; rfl
          · simp [hm] at h
        · cases h
      | _ => cases h
/-- Data of one's own, root by root: each array with its blocks. -/
theorem own_gives (hm : Mem N g s w) (hs : Sub r s) {t : Ty} {ls : List Lf} {x : t.den} {vs : List Value} {ids : List Nat} (h : ownIds r ls = some ids) (hx : ofAll r t ls = some x) (hl : LsRel g s w N ls vs) :
    ids.Nodup ∧ (∀ i ∈ ids, ∃ e xs d, s.root i = some (.arr e xs true d)) ∧ ∃ S, RepO w t x vs S ∧ S.Nodup ∧ ∀ b ∈ S, ∃ id ∈ ids, g.ω b = some id := by
  have hab := own_absorb h
  obtain ⟨_, h2, S, h3, h4, h5⟩ := absorb_deep hm hs hab (ofAll_data hx 0) hl
  refine ⟨h2, fun i hi => ?_, S, (repO_leaves 0).2 h3, h4, h5⟩
  have := (absorb_ids (r := r) (ls := ls)).2 i (by rw [hab]; exact hi)
  obtain ⟨e, xs, d, hr⟩ := this
  exact ⟨e, xs, d, (hs.root i _ hr).1⟩

/-- The arrays that data of one's own makes up, once it has come. -/
theorem own_takes {base : Nat} : ∀ {off : Nat} {ms : List Lf} {vs : List Value} {S : List Nat}, RepLs w' ms vs S → (∀ b ∈ S, b < w'.heap.size) →
    ∃ Ps : List Place, Ps.map (·.id) = upIds (ownLl base off ms).2 ∧ S = Ps.flatMap (·.blocks) ∧
      (∀ u ∈ (ownLl base off ms).2, u.ver = 1 ∧ ∃ p ∈ Ps, p.id = u.id ∧ ∃ e xs, u.root = some (.arr e xs true []) ∧ ArrAt w' p e xs) ∧
      (∀ (g' : G) (s' : St), (∀ p ∈ Ps, g'.κ p.id = p.κ ∧ g'.cp p.id = p.cp) → (∀ u ∈ (ownLl base off ms).2, s'.root u.id = u.root ∧ 1 ≤ s'.ver u.id) → LsRel g' s' w' N (ownLl base off ms).1 vs)
  | off, [], [], S, h, _ => by
    simp only [RepLs] at h
    subst h
    exact ⟨[], rfl, rfl, (fun u hu => by cases hu), fun g' s' _ _ => trivial⟩
  | _, [], _ :: _, _, h, _ => h.elim
  | _, _ :: _, [], _, h, _ => h.elim
  | off, m :: ms, v :: vs, S, h, hlt => by
    obtain ⟨S1, S2, rfl, h1, h2⟩ := h
    obtain ⟨Ps, e1, e2, e3, e4⟩ := own_takes (base := base) (off := off + 1) h2 (fun b hb => hlt b (List.mem_append_right _ hb))
    have scal : (ownLl base off (m :: ms)).1 = m :: (ownLl base (off + 1) ms).1 → (ownLl base off (m :: ms)).2 = (ownLl base (off + 1) ms).2 → S1 = [] → (∀ (g' : G) (s' : St), LfRel g' s' w' N m v) →
        ∃ Ps : List Place, Ps.map (·.id) = upIds (ownLl base off (m :: ms)).2 ∧ S1 ++ S2 = Ps.flatMap (·.blocks) ∧
        (∀ u ∈ (ownLl base off (m :: ms)).2, u.ver = 1 ∧ ∃ p ∈ Ps, p.id = u.id ∧ ∃ e xs, u.root = some (.arr e xs true []) ∧ ArrAt w' p e xs) ∧
        (∀ (g' : G) (s' : St), (∀ p ∈ Ps, g'.κ p.id = p.κ ∧ g'.cp p.id = p.cp) → (∀ u ∈ (ownLl base off (m :: ms)).2, s'.root u.id = u.root ∧ 1 ≤ s'.ver u.id) → LsRel g' s' w' N (ownLl base off (m :: ms)).1 (v :: vs)) := by
      intro q1 q2 q3 q4
      rw [q1, q2, q3]
      exact ⟨Ps, e1, by simpa using e2, e3, fun g' s' k1 k2 => ⟨q4 g' s', e4 g' s' k1 k2⟩⟩
    cases m with
    | int k x => exact scal rfl rfl h1.2 fun _ _ => ⟨h1.1, fun _ => by rw [h1.1]; rfl⟩
    | bool x => exact scal rfl rfl h1.2 fun _ _ => ⟨h1.1, fun _ => by rw [h1.1]; rfl⟩
    | str x => exact scal rfl rfl h1.2 fun _ _ => ⟨h1.1, fun _ => by rw [h1.1]; rfl⟩
    | snap e x d p =>
      obtain ⟨q, k1, k2, k3, k4⟩ := arrAt_of (base + off) h1
      refine ⟨q :: Ps, by simp only [ownLl, upIds, List.map_cons, k1, e1], by rw [List.flatMap_cons, k2, e2], fun u hu => ?_, fun g' s' p1 p2 => ?_⟩
      · simp only [ownLl, List.mem_cons] at hu
        rcases hu with rfl | hu
        · exact ⟨rfl, q, List.mem_cons_self .., k1, e, x, rfl, k3⟩
        · obtain ⟨m1, p, m2, m3⟩ := e3 u hu
          exact ⟨m1, p, List.mem_cons_of_mem _ m2, m3⟩
      · simp only [ownLl]
        refine ⟨⟨?_, fun _ => by rw [k4]; rfl⟩, e4 g' s' (fun p hp => p1 p (List.mem_cons_of_mem _ hp)) (fun u hu => p2 u (by simp only [ownLl, List.mem_cons]; exact .inr hu))⟩
        obtain ⟨m1, m2⟩ := p2 ⟨base + off, some (.arr e x true []), 1⟩ (by simp [ownLl])
        refine ⟨m2, fun e' xs' deep' d' hr => ?_⟩
        simp only at m1
        rw [m1] at hr
        cases hr
        obtain ⟨n1, n2⟩ := p1 q (List.mem_cons_self ..)
        rw [k1] at n1 n2
        rw [k4, ownVal, n1, n2]
    | _ => exact h1.elim
end
end Go.Proofs.XTv
/- What is lent: given to a call root by root, and taken back. -/
set_option linter.unusedVariables false
set_option linter.unusedSimpArgs false
set_option linter.unusedSectionVars false
namespace Go.Proofs.XTv

/-- What a root has become behind a call, at its place. -/
structure Fit (N : Bd) (g : G) (s : St) (w : World) (S : List Nat) (w' : World) (p : Place) (q : Root) : Prop where
  old : ∃ q0, s.root p.id = some q0 ∧ Same q0 q
  κ : p.κ = g.κ p.id
  cp : p.cp = g.cp p.id
  flat : q.flat
  root : ∀ (g' : G) (s' : St), (∀ b ∈ p.blocks, g'.ω b = some p.id) → g'.κ p.id = p.κ → g'.cp p.id = p.cp → (∀ b, b < w.heap.size → b ∉ S → w'.heap[b]? = w.heap[b]? ∧ g'.ω b = g.ω b) →
    p.blocks.Nodup → (∀ b ∈ p.blocks, b ∈ S ∨ w.heap.size ≤ b) → RootRel g' s' w' N p.id q

section
variable {P : Program} {Γ : Cx} {g g' : G} {r s s' : St} {w w' : World} {N : Bd} {n : Nat} {a : Act} {E : Env}

/-- A slice within an element of an array of one's own: its own blocks, and what the array is with another slice in its place. -/
theorem path_rel (hm : Mem N g s w) (hs : Sub r s) {e : Ty} {xs : List e.den} {d : Deps} {id o : Nat} {i : Int} {v : Value} (hl : LfRel g s w N (.snap e xs d (some (id, i, o))) v) (hd : depsOk r d = true) {e' : Ty} {ys : List e'.den} {dd : Deps} (hroot : r.root id = some (.arr e' ys true dd)) :
    ∃ S0, RepO w (.sl e) xs [v] S0 ∧ S0.Nodup ∧ (∀ b ∈ S0, g.ω b = some id) ∧
      ∀ (w' : World) (S : List Nat), (∀ b, g.ω b = some id → b ∉ S0 → b ∉ S) → ∀ (e2 : Ty) (x : List e2.den) (S1 : List Nat) (y : e'.den), RepO w' (.sl e2) x [v] S1 → ofAll r e' (splice (leaves [] none 0 e' (lget e' ys i)) o [.snap e2 x [] none]) = some y →
        Fit N g s w S w' ⟨id, g.κ id, g.cp id, S1⟩ (.arr e' (lset ys i y) true []) := by
  obtain ⟨hrs, hver⟩ := hs.root id _ hroot
  have hcur := hs.cur hl.1.1 hd
  obtain ⟨_, hpath⟩ := hl.1.2 hcur
  obtain ⟨e9, ys9, d9, b, hr9, hi0, hi1, hlf, hk, hcell, _⟩ := hpath id i o rfl
  rw [hrs] at hr9
  cases hr9
  have hdd := hm.flat id _ hrs
  simp only [Root.flat] at hdd
  subst hdd
  obtain ⟨hv1, hbd, hr⟩ := hm.roots id _ hrs
  rcases hr with ⟨h1, h2, _⟩ | ⟨b2, c, T, es, rest, h1, hω, hh, hc, hlen, hsz, hcap, hcont⟩
  · rw [hk] at h1; cases h1
  obtain rfl : b = b2 := by rw [hk] at h1; cases h1; rfl
  simp only [if_true] at hcont
  obtain ⟨_, SR, hSR, hnd, hown⟩ := hcont
  have hin : i.toNat < ys.length := by omega
  have hget : lget e' ys i = ys[i.toNat] := by simp [lget, List.getD_eq_getElem?_getD, List.getElem?_eq_getElem hin]
  rw [hget] at hlf
  obtain ⟨c1, c2, c3, S1, S2, S3, hes, rfl, hc1, hel, hpre, hpost⟩ := hSR.at_ (fun _ _ _ h => h.length) hin
  have hc2 := hel.length
  have hLs := (repO_leaves 0).1 hel
  have ho : o < (leaves [] none 0 e' ys[i.toNat]).length := (List.getElem?_eq_some_iff.1 hlf).1
  have hoe : (leaves [] none 0 e' ys[i.toNat])[o] = .snap e xs [] none := (List.getElem?_eq_some_iff.1 hlf).2
  have hsplit := list_at (leaves [] none 0 e' ys[i.toNat]) o ho
  rw [hoe] at hsplit
  rw [hsplit] at hLs
  obtain ⟨u1, u23, Ta, T23, hu, hT, hL1, hL23⟩ := hLs.split
  have hlen1 : u1.length = o := by rw [← hL1.length, List.length_take]; omega
  match u23, hL23 with
  | [], h => exact h.elim
  | v0 :: u3, ⟨S0, Tb, hT2, hL2, hL3⟩ =>
    have hv0 : v0 = v := by
      have h1 : c.toList[i.toNat * e'.size + o]? = some v := by
        rw [cell_block hh, ← Array.getElem?_toList] at hcell; exact hcell
      rw [hc, hes, hu] at h1
      have h2 : ((c1 ++ (u1 ++ v0 :: u3) ++ c3) ++ rest)[i.toNat * e'.size + o]? = some v0 := by
        have : i.toNat * e'.size + o = (c1 ++ u1).length := by rw [List.length_append, hc1, hlen1]
        rw [this, show (c1 ++ (u1 ++ v0 :: u3) ++ c3) ++ rest = (c1 ++ u1) ++ (v0 :: (u3 ++ c3 ++ rest)) by simp]
        simp
      rw [h2] at h1
      exact Option.some.inj h1
    subst hv0
    subst hT2
    subst hT
    have hS0own : ∀ b' ∈ S0, g.ω b' = some id := fun b' hb' => hown b' (by simp [hb'])
    refine ⟨S0, hL2, ?_, hS0own, fun w' S hS e2 x Sn y hx hy => ?_⟩
    · refine (List.Nodup.sublist ?_ (List.nodup_cons.1 hnd).2)
      exact ((List.sublist_append_left S0 Tb).trans (List.sublist_append_right Ta _)).trans ((List.sublist_append_right S1 _).trans (List.sublist_append_left _ S3))
    · rw [hget] at hy
      have hfit : o + [Lf.snap e2 x [] none].length ≤ e'.size := by rw [leaves_length] at ho; exact ho
      obtain ⟨nd, hnd2, hX⟩ := elem_splice (r := r) (dd := []) (by rfl) hfit hy
      have hndeq : nd = [.snap e2 x [] none] := by
        match nd, hnd2 with
        | [m], h =>
          have h1 := h.1
          cases m <;> simp only [LfData, reduceCtorEq] at h1
          obtain ⟨rfl, rfl, h1⟩ := h1
          simp only [slData, depsOk] at h1
          split at h1
          · rename_i he
            subst he
            simp only [cond_true, tcast, Option.some.injEq] at h1
            rw [h1]
          · cases h1
        | m :: m2 :: ms, h => exact h.2.elim
        | [], h => exact h.elim
      subst hndeq
      have hlset : lset ys i y = ys.take i.toNat ++ y :: ys.drop (i.toNat + 1) := set_at ys i.toNat y hin
      refine ⟨⟨_, hrs, rfl, by simp [lset]⟩, rfl, rfl, rfl, fun g' s' hb hκ hcp hfr hndn hnew => ⟨Bnd.nil, .inr ⟨b, c, T, es, rest, hκ.trans hk, ?_, ?_, hc, ?_, ?_, ?_, ?_⟩⟩⟩
      · have hbS : b ∉ S := hS b hω (fun h => (List.nodup_cons.1 hnd).1 (by simp [h]))
        rw [(hfr b (hm.own b id hω) hbS).2]; exact hω
      · have hbS : b ∉ S := hS b hω (fun h => (List.nodup_cons.1 hnd).1 (by simp [h]))
        rw [(hfr b (hm.own b id hω) hbS).1]; exact hh
      · rw [show (lset ys i y).length = ys.length by simp [lset]]; exact hlen
      · rw [hcp]; exact hsz
      · rw [show (lset ys i y).length = ys.length by simp [lset], hcp]; exact hcap
      · simp only [if_true]
        -- the blocks that stayed
        have hstay : ∀ b' ∈ S1 ++ (Ta ++ Tb) ++ S3, b' ∉ S ∧ b' < w.heap.size ∧ g.ω b' = some id := by
          intro b' hb'
          have hmem : b' ∈ S1 ++ (Ta ++ (S0 ++ Tb)) ++ S3 := by
            simp only [List.mem_append] at hb' ⊢; grind
          have hω' := hown b' hmem
          refine ⟨hS b' hω' (fun h0 => ?_), hm.own b' id hω', hω'⟩
          have hperm : (S1 ++ (Ta ++ (S0 ++ Tb)) ++ S3).Perm (S0 ++ (S1 ++ (Ta ++ Tb) ++ S3)) := List.perm_iff_count.2 fun x => by simp only [List.count_append]; omega
          have hn2 := hperm.nodup_iff.1 (List.nodup_cons.1 hnd).2
          exact (List.nodup_append.1 hn2).2.2 b' h0 b' hb' rfl
        have hkeep : ∀ b', b' ∈ S1 ++ (Ta ++ Tb) ++ S3 → w'.heap[b']? = w.heap[b']? := fun b' hb' => (hfr b' (hstay b' hb').2.1 (hstay b' hb').1).1
        have keepL : ∀ {ls : List Lf} {vs : List Value} {Q : List Nat}, RepLs w ls vs Q → (∀ b' ∈ Q, w'.heap[b']? = w.heap[b']?) → RepLs w' ls vs Q := by
          intro ls
          induction ls with
          | nil => intro vs Q h _; cases vs with
            | nil => exact h
            | cons _ _ => exact h.elim
          | cons l ls ih =>
            intro vs Q h hq
            cases vs with
            | nil => exact h.elim
            | cons v vs =>
              obtain ⟨Q1, Q2, rfl, h1, h2⟩ := h
              refine ⟨Q1, Q2, rfl, ?_, ih h2 (fun b' hb' => hq b' (List.mem_append_right _ hb'))⟩
              cases l <;> first | exact h1 | exact RepO.keep (fun b' hb' => hq b' (List.mem_append_left _ hb')) h1
        have hnewEl : RepO w' e' y c2 (Ta ++ (Sn ++ Tb)) := by
          rw [repO_leaves 0, hX, hu]
          have q1 := keepL hL1 (fun b' hb' => hkeep b' (by simp [hb']))
          have q3 := keepL hL3 (fun b' hb' => hkeep b' (by simp [hb']))
          have := q1.append (show RepLs w' (.snap e2 x [] none :: (leaves [] none 0 e' ys[i.toNat]).drop (o + 1)) (v0 :: u3) (Sn ++ Tb) from ⟨Sn, Tb, rfl, hx, q3⟩)
          simpa using this
        refine ⟨trivial, S1 ++ (Ta ++ (Sn ++ Tb)) ++ S3, ?_, ?_, ?_⟩
        · rw [hlset, hes]
          have p1 := hpre.imp (R' := RepO w' e') fun x cs S4 hs4 hr => hr.keep fun b' hb' => hkeep b' (by have := hs4 b' hb'; simp [this])
          have p3 := hpost.imp (R' := RepO w' e') fun x cs S4 hs4 hr => hr.keep fun b' hb' => hkeep b' (by have := hs4 b' hb'; simp [this])
          have := p1.append (show RepsO (RepO w' e') (y :: ys.drop (i.toNat + 1)) (c2 ++ c3) ((Ta ++ (Sn ++ Tb)) ++ S3) from ⟨c2, c3, _, _, rfl, rfl, hnewEl, p3⟩)
          simpa [List.append_assoc] using this
        · have hperm : (b :: (S1 ++ (Ta ++ (Sn ++ Tb)) ++ S3)).Perm (Sn ++ (b :: (S1 ++ (Ta ++ Tb) ++ S3))) := List.perm_iff_count.2 fun x => by simp only [List.count_append, List.count_cons]; omega
          have hsub : (b :: (S1 ++ (Ta ++ Tb) ++ S3)).Sublist (b :: (S1 ++ (Ta ++ (S0 ++ Tb)) ++ S3)) :=
            (List.Sublist.append (List.Sublist.append (List.Sublist.refl _) (List.Sublist.append (List.Sublist.refl _) (List.sublist_append_right _ _))) (List.Sublist.refl _)).cons_cons b
          rw [hperm.nodup_iff, List.nodup_append]
          refine ⟨hndn, hsub.nodup hnd, fun b1 hb1 b2 hb2 he => ?_⟩
          subst he
          have hin' : b1 ∉ S ∧ b1 < w.heap.size := by
            rcases List.mem_cons.1 hb2 with rfl | hb2
            · exact ⟨hS b1 hω (fun h => (List.nodup_cons.1 hnd).1 (by simp [h])), hm.own b1 id hω⟩
            · exact ⟨(hstay b1 hb2).1, (hstay b1 hb2).2.1⟩
          rcases hnew b1 hb1 with h | h
          · exact hin'.1 h
          · omega
        · intro b' hb'
          by_cases hbn : b' ∈ Sn
          · exact hb b' hbn
          · have hmem : b' ∈ S1 ++ (Ta ++ Tb) ++ S3 := by simp only [List.mem_append] at hb' ⊢; grind
            obtain ⟨k1, k2, k3⟩ := hstay b' hmem
            rw [(hfr b' k2 k1).2]; exact k3
end
end Go.Proofs.XTv
/- A call's arguments: what they hand over, and what comes back. -/
set_option linter.unusedVariables false
set_option linter.unusedSimpArgs false
set_option linter.unusedSectionVars false
namespace Go.Proofs.XTv

/-- Roots that are handed over, each with the blocks that go with it. -/
abbrev Gives := List (Nat × List Nat)
def Gives.ids (G : Gives) : List Nat := G.map (·.1)
def Gives.blocks (G : Gives) : List Nat := G.flatMap (·.2)
def GOk (g : G) (Gs : Gives) : Prop := ∀ p ∈ Gs, p.2.Nodup ∧ ∀ b ∈ p.2, g.ω b = some p.1
theorem Gives.nodup {g : G} : ∀ {Gs : Gives}, GOk g Gs → Gs.ids.Nodup → Gs.blocks.Nodup
  | [], _, _ => List.nodup_nil
  | p :: Gs, h, hn => by
    simp only [Gives.ids, List.map_cons, List.nodup_cons] at hn
    simp only [Gives.blocks, List.flatMap_cons]
    rw [List.nodup_append]
    refine ⟨(h p (List.mem_cons_self ..)).1, Gives.nodup (fun q hq => h q (List.mem_cons_of_mem _ hq)) hn.2, fun b1 h1 b2 h2 he => ?_⟩
    subst he
    obtain ⟨q, hq, hb⟩ := List.mem_flatMap.1 h2
    have e1 := (h p (List.mem_cons_self ..)).2 b1 h1
    have e2 := (h q (List.mem_cons_of_mem _ hq)).2 b1 hb
    rw [e1] at e2
    have e3 : p.1 = q.1 := by simpa using e2
    exact hn.1 (List.mem_map.2 ⟨q, hq, e3.symm⟩)
theorem Gives.only {g : G} {Gs : Gives} (h : GOk g Gs) (hn : Gs.ids.Nodup) : ∀ p ∈ Gs, ∀ b, g.ω b = some p.1 → b ∉ p.2 → b ∉ Gs.blocks := by
  intro p hp b hω hb hmem
  obtain ⟨q, hq, hbq⟩ := List.mem_flatMap.1 hmem
  have e := (h q hq).2 b hbq
  rw [hω] at e
  have hpq : p.1 = q.1 := by simpa using e
  have : p = q := by
    have : ∀ {l : Gives}, (l.map (·.1)).Nodup → p ∈ l → q ∈ l → p.1 = q.1 → p = q := by
      intro l
      induction l with
      | nil => intro _ h; cases h
      | cons a l ih =>
        intro hn h1 h2 he
        simp only [List.map_cons, List.nodup_cons] at hn
        rcases List.mem_cons.1 h1 with h1 | h1
        · rcases List.mem_cons.1 h2 with h2 | h2
          · rw [h1, h2]
          · exact absurd (List.mem_map.2 ⟨q, h2, by rw [← he, h1]⟩) hn.1
        · rcases List.mem_cons.1 h2 with h2 | h2
          · exact absurd (List.mem_map.2 ⟨p, h1, by rw [he, h2]⟩) hn.1
          · exact ih hn.2 h1 h2 he
    exact this hn hp hq hpq
  subst this
  exact hb hbq

section
variable {P : Program} {Γ : Cx} {g g' : G} {r s s' : St} {w w' : World} {N : Bd} {n : Nat} {a : Act} {E : Env}

/-- What was handed over has come back so. -/
def TakesOk (N : Bd) (g : G) (s : St) (w : World) (S : List Nat) (w' : World) (us : List Up) (Ps : List Place) : Prop :=
  ∀ u ∈ us, ∀ q, u.root = some q → ∃ p ∈ Ps, p.id = u.id ∧ Fit N g s w S w' p q

theorem own_lent (hm : Mem N g s w) (hs : Sub r s) {id : Nat} {e' : Ty} {ys : List e'.den} {dd : Deps} (hroot : r.root id = some (.arr e' ys true dd)) {v : Value} (hl : LfRel g s w N (.own id) v) {e : Ty} {x : List e.den} {S1 S : List Nat}
    (hx : RepO w' (.sl e) x [v] S1) (he : e = e') : Fit N g s w S w' ⟨id, g.κ id, g.cp id, S1⟩ (.arr e x true []) := by
  subst he
  obtain ⟨hrs, hver⟩ := hs.root id _ hroot
  have hv := hl.1.2 _ _ _ _ hrs
  obtain ⟨p, k1, k2, k3, k4⟩ := arrAt_of id hx
  rw [hv, ownVal] at k4
  simp only [Value.slice.injEq] at k4
  obtain ⟨e1, e2, e3⟩ := k4
  have hκ : g.κ id = p.κ := by
    cases h1 : g.κ id <;> cases h2 : p.κ <;> simp_all
  have hp : p = ⟨id, g.κ id, g.cp id, S1⟩ := by
    cases p
    simp_all
  subst hp
  exact ⟨⟨_, hrs, rfl, e2⟩, rfl, rfl, rfl, fun g' s' hb hκ' hcp hfr hn hnew => arrAt_root k3 hκ' hcp hb hn⟩

theorem lend_rel (hm : Mem N g s w) (hs : Sub r s) : ∀ {ls ms : List Lf} {vs : List Value} {ids : List Nat}, DL r ls ms → lendIds r ls = some ids → LsRel g s w N ls vs →
    ids.Nodup ∧ (∀ i ∈ ids, ∃ q, s.root i = some q) ∧ ∃ Gs : Gives, Gs.ids = ids ∧ GOk g Gs ∧ RepLs w ms vs Gs.blocks ∧
      ∀ (w' : World) (S : List Nat), (∀ p ∈ Gs, ∀ b, g.ω b = some p.1 → b ∉ p.2 → b ∉ S) → ∀ (ms' : List Lf) (S' : List Nat) (us : List Up), RepLs w' ms' vs S' →
        (∀ (i : Nat) (m m' : Lf), ms[i]? = some m → ms'[i]? = some m' → ∀ e xs d p e' xs' d' p', m = .snap e xs d p → m' = .snap e' xs' d' p' → e = e') →
        lendBack r ls ms' = some us → ∃ Ps : List Place, Ps.map (·.id) = upIds us ∧ upIds us = ids ∧ S' = Ps.flatMap (·.blocks) ∧ TakesOk N g s w S w' us Ps
  | [], [], [], ids, _, h, _ => by
    simp only [lendIds, Option.some.injEq] at h
    subst h
    refine ⟨List.nodup_nil, (fun i h => by cases h), [], rfl, (fun p hp => by cases hp), rfl, fun w' S _ ms' S' us h1 _ h2 => ?_⟩
    cases ms' with
    | cons _ _ => exact h1.elim
    | nil =>
      simp only [lendBack, Option.some.injEq] at h2
      simp only [RepLs] at h1
      subst h2 h1
      exact ⟨[], rfl, rfl, rfl, fun u hu => by cases hu⟩
  | [], _ :: _, _, _, h, _, _ => h.elim
  | _ :: _, [], _, _, h, _, _ => h.elim
  | _ :: _, _, [], _, _, _, h => h.elim
  | [], [], _ :: _, _, _, _, h => h.elim
  | l :: ls, m :: ms, v :: vs, ids, hd, h, hl => by
    unfold lendIds at h
    split at h
    case h_1 => cases h
    case h_2 ids0 hids0 =>
      obtain ⟨a1, a2, Gs, a3, a4, a5, a6⟩ := lend_rel hm hs hd.2 hids0 hl.2
      have hd1 := hd.1
      -- a leaf that hands nothing over
      have scal : some ids0 = some ids → RepL w m v [] → (∀ (w' : World) (m' : Lf) (S1 : List Nat), RepL w' m' v S1 → S1 = []) → (∀ m', lendLf r l m' = some []) →
          ids.Nodup ∧ (∀ i ∈ ids, ∃ q, s.root i = some q) ∧ ∃ Gs : Gives, Gs.ids = ids ∧ GOk g Gs ∧ RepLs w (m :: ms) (v :: vs) Gs.blocks ∧
          ∀ (w' : World) (S : List Nat), (∀ p ∈ Gs, ∀ b, g.ω b = some p.1 → b ∉ p.2 → b ∉ S) → ∀ (ms' : List Lf) (S' : List Nat) (us : List Up), RepLs w' ms' (v :: vs) S' →
          (∀ (i : Nat) (m0 m' : Lf), (m :: ms)[i]? = some m0 → ms'[i]? = some m' → ∀ e xs d p e' xs' d' p', m0 = .snap e xs d p → m' = .snap e' xs' d' p' → e = e') →
          lendBack r (l :: ls) ms' = some us → ∃ Ps : List Place, Ps.map (·.id) = upIds us ∧ upIds us = ids ∧ S' = Ps.flatMap (·.blocks) ∧ TakesOk N g s w S w' us Ps := by
        intro e1 e2 e3 e4
        cases e1
        refine ⟨a1, a2, Gs, a3, a4, ⟨[], _, rfl, e2, a5⟩, fun w' S hS ms' S' us h1 hk h2 => ?_⟩
        cases ms' with
        | nil => exact h1.elim
        | cons m' ms' =>
          obtain ⟨S1, S2, rfl, h3, h4⟩ := h1
          simp only [lendBack, e4] at h2
          cases hb : lendBack r ls ms' with
          | none => simp [hb] at h2
          | some us' =>
            simp only [hb, List.nil_append, Option.some.injEq] at h2
            subst h2
            rw [e3 w' m' S1 h3, List.nil_append]
            exact a6 w' S hS ms' S2 us' h4 (fun i m0 m1 q1 q2 => hk (i + 1) m0 m1 (by simpa using q1) (by simpa using q2)) hb
      -- a leaf that hands a root over
      have root : ∀ (id : Nat) (S0 : List Nat), (bif nmem id ids0 then none else some (id :: ids0)) = some ids → RepL w m v S0 → S0.Nodup → (∀ b ∈ S0, g.ω b = some id) → (∃ q, s.root id = some q) →
          (∀ (w' : World) (S : List Nat), (∀ b, g.ω b = some id → b ∉ S0 → b ∉ S) → ∀ (m' : Lf) (S1 : List Nat) (us : List Up), RepL w' m' v S1 → (∀ e xs d p e' xs' d' p', m = .snap e xs d p → m' = .snap e' xs' d' p' → e = e') → lendLf r l m' = some us →
            ∃ q u, us = [u] ∧ u.id = id ∧ u.root = some q ∧ Fit N g s w S w' ⟨id, g.κ id, g.cp id, S1⟩ q) →
          ids.Nodup ∧ (∀ i ∈ ids, ∃ q, s.root i = some q) ∧ ∃ Gs : Gives, Gs.ids = ids ∧ GOk g Gs ∧ RepLs w (m :: ms) (v :: vs) Gs.blocks ∧
          ∀ (w' : World) (S : List Nat), (∀ p ∈ Gs, ∀ b, g.ω b = some p.1 → b ∉ p.2 → b ∉ S) → ∀ (ms' : List Lf) (S' : List Nat) (us : List Up), RepLs w' ms' (v :: vs) S' →
          (∀ (i : Nat) (m0 m' : Lf), (m :: ms)[i]? = some m0 → ms'[i]? = some m' → ∀ e xs d p e' xs' d' p', m0 = .snap e xs d p → m' = .snap e' xs' d' p' → e = e') →
          lendBack r (l :: ls) ms' = some us → ∃ Ps : List Place, Ps.map (·.id) = upIds us ∧ upIds us = ids ∧ S' = Ps.flatMap (·.blocks) ∧ TakesOk N g s w S w' us Ps := by
        intro id S0 e1 e2 e3 e4 e5 e6
        cases hmem : nmem id ids0
        case true => simp [hmem] at e1
        simp only [hmem, cond_false, Option.some.injEq] at e1
        subst e1
        refine ⟨List.nodup_cons.2 ⟨nmem_false.1 hmem, a1⟩, ?_, (id, S0) :: Gs, ?_, ?_, ⟨S0, _, rfl, e2, a5⟩, fun w' S hS ms' S' us h1 hk h2 => ?_⟩
        · intro i hi
          rcases List.mem_cons.1 hi with rfl | hi
          · exact e5
          · exact a2 i hi
        · simp only [Gives.ids, List.map_cons] at a3 ⊢; rw [a3]
        · intro p hp
          rcases List.mem_cons.1 hp with rfl | hp
          · exact ⟨e3, e4⟩
          · exact a4 p hp
        · cases ms' with
          | nil => exact h1.elim
          | cons m' ms' =>
            obtain ⟨S1, S2, rfl, h3, h4⟩ := h1
            simp only [lendBack] at h2
            cases hb1 : lendLf r l m' with
            | none => simp [hb1] at h2
            | some u1 =>
              cases hb : lendBack r ls ms' with
              | none => simp [hb1, hb] at h2
              | some us' =>
                simp only [hb1, hb, Option.some.injEq] at h2
                subst h2
                obtain ⟨Ps, f1, f2, f3, f4⟩ := a6 w' S (fun p hp => hS p (List.mem_cons_of_mem _ hp)) ms' S2 us' h4 (fun i m0 m1 q1 q2 => hk (i + 1) m0 m1 (by simpa using q1) (by simpa using q2)) hb
                obtain ⟨q, u, rfl, k1, k2, k3⟩ := e6 w' S (fun b => hS (id, S0) (List.mem_cons_self ..) b) m' S1 u1 h3 (hk 0 m m' rfl rfl) hb1
                refine ⟨⟨id, g.κ id, g.cp id, S1⟩ :: Ps, by simp [upIds, f1, k1], by simp [upIds, f2, k1], by rw [List.flatMap_cons, f3], fun u' hu' q' hq' => ?_⟩
                simp only [List.singleton_append, List.mem_cons] at hu'
                rcases hu' with rfl | hu'
                · rw [k2] at hq'; cases hq'
                  exact ⟨_, List.mem_cons_self .., k1.symm, k3⟩
                · obtain ⟨p, p1, p2⟩ := f4 u' hu' q' hq'
                  exact ⟨p, List.mem_cons_of_mem _ p1, p2⟩
      cases l with
      | int k x =>
        have hv := hl.1.1
        simp only [LfCore] at hv
        subst hv
        refine scal h ?_ (fun w' m' S1 hr => ?_) (fun m' => rfl)
        · cases m <;> simp only [LfData, reduceCtorEq] at hd1
          · cases hd1; exact ⟨rfl, rfl⟩
          · simp [slData] at hd1
        · cases m' <;> first | exact hr.2 | (rcases hr with ⟨h1, _⟩ | ⟨_, _, _, _, _, _, _, h1, _⟩ <;> simp at h1) | exact hr.elim
      | bool x =>
        have hv := hl.1.1
        simp only [LfCore] at hv
        subst hv
        refine scal h ?_ (fun w' m' S1 hr => ?_) (fun m' => rfl)
        · cases m <;> simp only [LfData, reduceCtorEq] at hd1
          · cases hd1; exact ⟨rfl, rfl⟩
          · simp [slData] at hd1
        · cases m' <;> first | exact hr.2 | (rcases hr with ⟨h1, _⟩ | ⟨_, _, _, _, _, _, _, h1, _⟩ <;> simp at h1) | exact hr.elim
      | str x =>
        have hv := hl.1.1
        simp only [LfCore] at hv
        subst hv
        refine scal h ?_ (fun w' m' S1 hr => ?_) (fun m' => rfl)
        · cases m <;> simp only [LfData, reduceCtorEq] at hd1
          · cases hd1; exact ⟨rfl, rfl⟩
          · simp [slData] at hd1
        · cases m' <;> first | exact hr.2 | (rcases hr with ⟨h1, _⟩ | ⟨_, _, _, _, _, _, _, h1, _⟩ <;> simp at h1) | exact hr.elim
      | nil =>
        have hv := hl.1.1
        simp only [LfCore] at hv
        subst hv
        refine scal h ?_ (fun w' m' S1 hr => ?_) (fun m' => by cases m' <;> rfl)
        · cases m <;> simp only [LfData, reduceCtorEq] at hd1
          obtain ⟨rfl, rfl, hd1⟩ := hd1
          simp only [slData, Option.some.injEq] at hd1
          exact .inl ⟨rfl, hd1.symm, rfl⟩
        · cases m' <;> first | exact hr.2 | (rcases hr with ⟨_, _, h1⟩ | ⟨_, _, _, _, _, _, _, h1, _⟩; exact h1; simp at h1) | exact hr.elim
      | own id =>
        simp only at h
        split at h
        case h_2 => cases h
        case h_1 e ys dd hroot =>
          obtain ⟨hrs, hver⟩ := hs.root id _ hroot
          cases m <;> simp only [LfData, reduceCtorEq] at hd1
          rename_i e' xs' d' p'
          obtain ⟨rfl, rfl, hd1⟩ := hd1
          have hab : absorb r [Lf.own id] = (true, [], [id]) := by
            simp [absorb, hroot, nmem]
          obtain ⟨_, _, S0, g1, g2, g3⟩ := absorb_deep hm hs hab (show DL r [Lf.own id] [Lf.snap e' xs' [] none] from ⟨⟨rfl, rfl, hd1⟩, trivial⟩) (show LsRel g s w N [Lf.own id] [v] from ⟨hl.1, trivial⟩)
          obtain ⟨T1, T2, rfl, g4, g5⟩ := g1
          simp only [RepLs] at g5
          subst g5
          rw [List.append_nil] at g2 g3
          have hee : e' = e := by
            simp only [slData, hroot] at hd1
            split at hd1
            · rename_i hq; exact hq.symm
            · cases hd1
          refine root id T1 h g4 g2 (fun b hb => ?_) ⟨_, hrs⟩ (fun w' S hS m' S1 us hr hk hlf => ?_)
          · obtain ⟨i, hi, hw⟩ := g3 b hb
            simp at hi; rw [← hi]; exact hw
          · rw [lendLf_eq] at hlf
            cases m' <;> simp only [lendLfL, reduceCtorEq] at hlf
            rename_i e2 x2 d2 p2
            simp only [Option.some.injEq] at hlf
            subst hlf
            have he2 := hk _ _ _ _ _ _ _ _ rfl rfl
            exact ⟨_, _, rfl, rfl, rfl, own_lent hm hs hroot hl.1 hr (he2.symm.trans hee)⟩
      | snap e xs d p =>
        cases p with
        | none => cases h
        | some pth =>
          obtain ⟨id, i, o⟩ := pth
          simp only at h
          split at h
          case h_2 => cases h
          case h_1 e' ys dd hroot =>
            cases hdo : depsOk r d
            · simp [hdo] at h
            simp only [hdo, cond_true] at h
            obtain ⟨S0, g1, g2, g3, g4⟩ := path_rel hm hs hl.1 hdo hroot
            cases m <;> simp only [LfData, reduceCtorEq] at hd1
            rename_i e9 xs9 d9 p9
            obtain ⟨rfl, rfl, hd1⟩ := hd1
            have hee : e = e9 ∧ HEq xs xs9 := by
              simp only [slData] at hd1
              split at hd1
              · rename_i hq
                subst hq
                simp only [hdo, cond_true, tcast, Option.some.injEq] at hd1
                exact ⟨rfl, heq_of_eq hd1⟩
              · cases hd1
            obtain ⟨rfl, hxs⟩ := hee
            have hxs := eq_of_heq hxs
            subst hxs
            refine root id S0 h g1 g2 g3 ⟨_, (hs.root id _ hroot).1⟩ (fun w' S hS m' S1 us hr hk hlf => ?_)
            rw [lendLf_eq] at hlf
            cases m' <;> simp only [lendLfL, reduceCtorEq] at hlf
            rename_i e2 x2 d2 p2
            simp only [hroot] at hlf
            split at hlf
            · rename_i y hy
              simp only [Option.some.injEq] at hlf
              subst hlf
              exact ⟨_, _, rfl, rfl, rfl, g4 w' S hS e2 x2 S1 y hr hy⟩
            · cases hlf
      | _ => cases h
end
end Go.Proofs.XTv
/- A call, seen from the caller: arguments handed over, memory behind it. -/
set_option linter.unusedVariables false
set_option linter.unusedSimpArgs false
set_option linter.unusedSectionVars false
namespace Go.Proofs.XTv

section
variable {P : Program} {Γ : Cx} {g g' : G} {r s s' : St} {w w' : World} {N : Bd} {n : Nat} {a : Act} {E : Env}

theorem valrel_pval {agg : Bool} {ls : List Lf} {u : Value} (h : ValRel g s w N agg ls u) : ∃ cs, PVal agg u cs ∧ LsRel g s w N ls cs := by
  cases agg
  · obtain ⟨l, rfl, hl⟩ := h
    exact ⟨[u], rfl, hl, trivial⟩
  · obtain ⟨cs, rfl, hl⟩ := h
    exact ⟨cs.toList, ⟨cs, rfl, rfl⟩, hl⟩
theorem pval_eq {agg : Bool} {u : Value} {cs cs' : List Value} (h : PVal agg u cs) (h' : PVal agg u cs') : cs = cs' := by
  cases agg
  · rw [show cs = _ from h, show cs' = _ from h']
  · obtain ⟨a, rfl, h1⟩ := h
    obtain ⟨b, hb, h2⟩ := h'
    cases hb
    rw [← h1, ← h2]

/-- All that a state behind a call is to bring, for the roots to be as told. -/
structure Ready (N : Bd) (g : G) (w : World) (S : List Nat) (w' : World) (A : Nat → Prop) (d : Deps) (us : List Up) (Ps : List Place) (g' : G) (s' : St) : Prop where
  own : ∀ p ∈ Ps, ∀ b ∈ p.blocks, g'.ω b = some p.id
  κ : ∀ p ∈ Ps, g'.κ p.id = p.κ ∧ g'.cp p.id = p.cp
  nodup : ∀ p ∈ Ps, p.blocks.Nodup
  from_ : ∀ p ∈ Ps, ∀ b ∈ p.blocks, b ∈ S ∨ w.heap.size ≤ b
  frame : ∀ b, b < w.heap.size → b ∉ S → w'.heap[b]? = w.heap[b]? ∧ g'.ω b = g.ω b
  reads : ∀ b, A b → Av g' w' N d b
  bnd : Bnd s' d
  roots : ∀ u ∈ us, s'.root u.id = u.root ∧ 1 ≤ s'.ver u.id
structure BackOk (N : Bd) (g : G) (s : St) (w : World) (S : List Nat) (w' : World) (A : Nat → Prop) (d : Deps) (us : List Up) (Ps : List Place) : Prop where
  sub : (Ps.map (·.id)).Sublist (upIds us)
  keep : ∀ p ∈ Ps, 1 ≤ s.ver p.id → p.κ = g.κ p.id ∧ p.cp = g.cp p.id
  same : ∀ u ∈ us, ∀ q, u.root = some q → q.flat ∧ u.id ≠ 0 ∧ (1 ≤ s.ver u.id → ∃ q0, s.root u.id = some q0 ∧ Same q0 q)
  roots : ∀ (g' : G) (s' : St), Ready N g w S w' A d us Ps g' s' → ∀ u ∈ us, ∀ q, u.root = some q → RootRel g' s' w' N u.id q
theorem Ready.left {S : List Nat} {A : Nat → Prop} {d : Deps} {us us2 : List Up} {Ps Ps2 : List Place} (h : Ready N g w S w' A d (us ++ us2) (Ps ++ Ps2) g' s') : Ready N g w S w' A d us Ps g' s' :=
  ⟨fun p hp => h.own p (List.mem_append_left _ hp), fun p hp => h.κ p (List.mem_append_left _ hp), fun p hp => h.nodup p (List.mem_append_left _ hp), fun p hp => h.from_ p (List.mem_append_left _ hp), h.frame, h.reads, h.bnd, fun u hu => h.roots u (List.mem_append_left _ hu)⟩
theorem Ready.right {S : List Nat} {A : Nat → Prop} {d : Deps} {us us2 : List Up} {Ps Ps2 : List Place} (h : Ready N g w S w' A d (us ++ us2) (Ps ++ Ps2) g' s') : Ready N g w S w' A d us2 Ps2 g' s' :=
  ⟨fun p hp => h.own p (List.mem_append_right _ hp), fun p hp => h.κ p (List.mem_append_right _ hp), fun p hp => h.nodup p (List.mem_append_right _ hp), fun p hp => h.from_ p (List.mem_append_right _ hp), h.frame, h.reads, h.bnd, fun u hu => h.roots u (List.mem_append_right _ hu)⟩
theorem BackOk.append {S : List Nat} {A : Nat → Prop} {d : Deps} {us us2 : List Up} {Ps Ps2 : List Place} (h : BackOk N g s w S w' A d us Ps) (h2 : BackOk N g s w S w' A d us2 Ps2) : BackOk N g s w S w' A d (us ++ us2) (Ps ++ Ps2) := by
  refine ⟨?_, fun p hp => ?_, fun u hu => ?_, fun g' s' hr u hu => ?_⟩
  · rw [List.map_append, upIds_append]; exact h.sub.append h2.sub
  · exact (List.mem_append.1 hp).elim (h.keep p) (h2.keep p)
  · exact (List.mem_append.1 hu).elim (h.same u) (h2.same u)
  · exact (List.mem_append.1 hu).elim (h.roots g' s' hr.left u) (h2.roots g' s' hr.right u)
theorem BackOk.nil {S : List Nat} {A : Nat → Prop} {d : Deps} : BackOk N g s w S w' A d [] [] :=
  ⟨List.Sublist.refl _, (fun p hp => by cases hp), (fun u hu => by cases hu), fun g' s' hr u hu => by cases hu⟩
theorem BackOk.gone {S : List Nat} {A : Nat → Prop} {d : Deps} {us : List Up} (h : ∀ u ∈ us, u.root = none) : BackOk N g s w S w' A d us [] :=
  ⟨List.nil_sublist _, (fun p hp => by cases hp), (fun u hu q hq => by rw [h u hu] at hq; cases hq), fun g' s' hr u hu q hq => by rw [h u hu] at hq; cases hq⟩
theorem consume_gone : ∀ {ids : List Nat} {u : Up}, u ∈ consume r ids → u.root = none
  | i :: ids, u, h => by
    rw [consume] at h
    rcases List.mem_cons.1 h with rfl | h
    · rfl
    · exact consume_gone h
/-- New arrays: that data has come. -/
theorem own_back {base off : Nat} {t : Ty} {y : t.den} {vs : List Value} {S S' : List Nat} {A : Nat → Prop} {d : Deps} (h : RepO w' t y vs S') (hlt : ∀ b ∈ S', b < w'.heap.size) (hbase : base ≠ 0) (hup : ∀ u ∈ (ownLs base off t y).2, s.ver u.id < u.ver) :
    ∃ Ps : List Place, S' = Ps.flatMap (·.blocks) ∧ BackOk N g s w S w' A d (ownLs base off t y).2 Ps ∧ (∀ (g' : G) (s' : St), Ready N g w S w' A d (ownLs base off t y).2 Ps g' s' → LsRel g' s' w' N (ownLs base off t y).1 vs) := by
  obtain ⟨Ps, e1, e2, e3, e4⟩ := own_takes (N := N) (base := base) (off := off) ((repO_leaves 0).1 h) hlt
  have hv0 : ∀ u ∈ (ownLs base off t y).2, s.ver u.id = 0 := fun u hu => by
    have := hup u hu
    rw [(e3 u hu).1] at this
    omega
  have hid : ∀ {off : Nat} {ms : List Lf} {u : Up}, u ∈ (ownLl base off ms).2 → base ≤ u.id := by
    intro off ms
    induction ms generalizing off with
    | nil => intro u hu; cases hu
    | cons m ms ih =>
      intro u hu
      cases m <;> simp only [ownLl] at hu <;> first | exact ih hu | skip
      rcases List.mem_cons.1 hu with rfl | hu
      · exact Nat.le_add_right _ _
      · exact ih hu
  refine ⟨Ps, e2, ⟨by rw [e1]; exact List.Sublist.refl _, fun p hp hv => ?_, fun u hu q hq => ?_, fun g' s' hr u hu q hq => ?_⟩, fun g' s' hr => e4 g' s' hr.κ hr.roots⟩
  · have : p.id ∈ upIds (ownLl base off (leaves [] none 0 t y)).2 := e1 ▸ List.mem_map.2 ⟨p, hp, rfl⟩
    have hmem : ∀ {us : List Up} {i : Nat}, i ∈ upIds us → ∃ u ∈ us, u.id = i := by
      intro us
      induction us with
      | nil => intro i h; cases h
      | cons u us ih =>
        intro i h
        rcases List.mem_cons.1 h with rfl | h
        · exact ⟨u, List.mem_cons_self .., rfl⟩
        · obtain ⟨v, hv, he⟩ := ih h
          exact ⟨v, List.mem_cons_of_mem _ hv, he⟩
    obtain ⟨u, hu, hui⟩ := hmem this
    have := hv0 u hu
    rw [hui] at this
    omega
  · obtain ⟨_, p, hp, hpi, e, xs, hr, ha⟩ := e3 u hu
    rw [hr] at hq; cases hq
    refine ⟨rfl, fun h0 => ?_, fun hv => ?_⟩
    · have := hid hu
      omega
    · have := hv0 u hu; omega
  · obtain ⟨_, p, hp, hpi, e, xs, hr', ha⟩ := e3 u hu
    rw [hr'] at hq; cases hq
    rw [← hpi]
    exact arrAt_root ha (hr.κ p hp).1 (hr.κ p hp).2 (hr.own p hp) (hr.nodup p hp)

theorem lendLf_root {l m : Lf} {us : List Up} (h : lendLf r l m = some us) : ∀ z ∈ us, ∃ q, z.root = some q := by
  rw [lendLf_eq] at h
  have one : ∀ {u : Up}, some [u] = some us → (∃ q, u.root = some q) → ∀ z ∈ us, ∃ q, z.root = some q := by
    intro u h1 h2 z hz
    simp only [Option.some.injEq] at h1
    subst h1
    simp only [List.mem_singleton] at hz
    subst hz
    exact h2
  have none_ : some ([] : List Up) = some us → ∀ z ∈ us, ∃ q, z.root = some q := by
    intro h1 z hz
    simp only [Option.some.injEq] at h1
    subst h1
    cases hz
  cases l with
  | int _ _ => exact none_ h
  | bool _ => exact none_ h
  | str _ => exact none_ h
  | nil => exact none_ h
  | own id => cases m <;> first | exact one h ⟨_, rfl⟩ | (simp [lendLfL] at h)
  | snap e xs d p =>
    cases p with
    | none => cases m <;> simp [lendLfL] at h
    | some q =>
      obtain ⟨id, i, o⟩ := q
      cases m with
      | snap e2 x2 d2 p2 =>
        simp only [lendLfL] at h
        split at h
        · split at h
          · exact one h ⟨_, rfl⟩
          · cases h
        · cases h
      | _ => simp [lendLfL] at h
  | _ => simp [lendLfL] at h
/-- An argument: what it hands over, and how it comes back. -/
theorem arg_rel (hm : Mem N g s w) (hs : Sub r s) {p : PK} {v : AV} {u : Value} {x : p.ty.den} {d1 : Deps} {c : List Nat} (h : arg1 r p v = some (x, d1, c)) (hv : AVRel g s w N v u) :
    c.Nodup ∧ (∀ i ∈ c, ∃ q, s.root i = some q) ∧ Bnd s d1 ∧ Cur s d1 ∧ ∃ Gs : Gives, (∀ q ∈ Gs, q.1 ∈ c) ∧ Gs.ids.Nodup ∧ GOk g Gs ∧ (∃ S, ArgR w (Av g w N d1) p x u S ∧ S.Nodup ∧ (∀ b ∈ S, ∃ i ∈ c, g.ω b = some i) ∧
      ∀ (w' : World) (S0 : List Nat) (A : Nat → Prop) (d : Deps), (∀ i ∈ c, ∀ b, g.ω b = some i → b ∉ S → b ∉ S0) → ∀ (y : p.out.den) (S' : List Nat) (us : List Up), BackR w' A p y u S' → (∀ b ∈ S', b < w'.heap.size) → back r d p v y = some us → (∀ z ∈ us, s.ver z.id < z.ver) →
        (∀ i ∈ c, i ∈ upIds us) ∧ ∃ Ps : List Place, S' = Ps.flatMap (·.blocks) ∧ BackOk N g s w S0 w' A d us Ps) := by
  cases p with
  | val t agg =>
    simp only [arg1] at h
    split at h
    case h_2 => cases h
    case h_1 ls hls =>
      split at h
      case h_2 => cases h
      case h_1 x' hx =>
        simp only [Option.some.injEq, Prod.mk.injEq] at h
        obtain ⟨rfl, rfl, rfl⟩ := h
        obtain ⟨cs, hpv, hcs⟩ := valrel_pval (avLs_rel hls hv).1
        obtain ⟨h1, h2, h3⟩ := ofAll_rel hm hs hx hcs
        refine ⟨List.nodup_nil, (fun i hi => by cases hi), h2, h3, [], (fun q hq => by cases hq), List.nodup_nil, (fun q hq => by cases hq), [], ⟨rfl, cs, hpv, h1⟩, List.nodup_nil, (fun b hb => by cases hb), fun w' S0 A d _ y S' us hb _ hbk _ => ?_⟩
        simp only [back, Option.some.injEq] at hbk
        subst hbk
        simp only [BackR] at hb
        subst hb
        exact ⟨(fun i hi => by cases hi), [], rfl, BackOk.nil⟩
  | fnc f =>
    simp only [arg1] at h
    split at h
    case h_2 => cases h
    case h_1 f' =>
      cases hb : Nat.beq f f'
      · simp [hb] at h
      simp only [hb, cond_true, Option.some.injEq, Prod.mk.injEq] at h
      obtain ⟨rfl, rfl, rfl⟩ := h
      have hf := beq_iff'.1 hb
      subst hf
      refine ⟨List.nodup_nil, (fun i hi => by cases hi), Bnd.nil, Cur.nil, [], (fun q hq => by cases hq), List.nodup_nil, (fun q hq => by cases hq), [], ⟨hv.1, rfl⟩, List.nodup_nil, (fun b hb => by cases hb), fun w' S0 A d _ y S' us hb _ hbk _ => ?_⟩
      simp only [back, Option.some.injEq] at hbk
      subst hbk
      simp only [BackR] at hb
      subst hb
      exact ⟨(fun i hi => by cases hi), [], rfl, BackOk.nil⟩
  | take t agg =>
    simp only [arg1] at h
    split at h
    case h_2 => cases h
    case h_1 ls hls =>
      split at h
      case h_2 => cases h
      case h_1 x' ids hx hids =>
        simp only [Option.some.injEq, Prod.mk.injEq] at h
        obtain ⟨rfl, rfl, rfl⟩ := h
        obtain ⟨cs, hpv, hcs⟩ := valrel_pval (avLs_rel hls hv).1
        obtain ⟨h1, h2, S, h3, h4, h5⟩ := own_gives hm hs hids hx hcs
        refine ⟨h1, fun i hi => ?_, Bnd.nil, Cur.nil, [], (fun q hq => by cases hq), List.nodup_nil, (fun q hq => by cases hq), S, ⟨cs, hpv, h3⟩, h4, h5, fun w' S0 A d _ y S' us hb _ hbk _ => ?_⟩
        · obtain ⟨e, xs, d, hr⟩ := h2 i hi
          exact ⟨_, hr⟩
        · simp only [back, hls, hids, Option.some.injEq] at hbk
          subst hbk
          simp only [BackR] at hb
          subst hb
          exact ⟨(fun i hi => by rw [consume_ids]; exact hi), [], rfl, BackOk.gone fun u hu => consume_gone hu⟩
  | lend t agg =>
    simp only [arg1] at h
    split at h
    case h_2 => cases h
    case h_1 ls hls =>
      split at h
      case h_2 => cases h
      case h_1 x' ids hx hids =>
        simp only [Option.some.injEq, Prod.mk.injEq] at h
        obtain ⟨rfl, rfl, rfl⟩ := h
        obtain ⟨cs, hpv, hcs⟩ := valrel_pval (avLs_rel hls hv).1
        obtain ⟨h1, h2, Gs, h3, h4, h5, h6⟩ := lend_rel hm hs (ofAll_data hx 0) hids hcs
        have hnd : Gs.ids.Nodup := by rw [h3]; exact h1
        refine ⟨h1, h2, Bnd.nil, Cur.nil, Gs, (fun q hq => by rw [← h3]; exact List.mem_map.2 ⟨q, hq, rfl⟩), hnd, h4, Gs.blocks, ⟨cs, hpv, (repO_leaves 0).2 h5⟩, Gives.nodup h4 hnd, fun b hb => ?_, fun w' S0 A d hS y S' us hb hlt hbk hup => ?_⟩
        · obtain ⟨q, hq, hbq⟩ := List.mem_flatMap.1 hb
          exact ⟨q.1, by rw [← h3]; exact List.mem_map.2 ⟨q, hq, rfl⟩, (h4 q hq).2 b hbq⟩
        · obtain ⟨cs', hpv', hy⟩ := hb
          obtain rfl := pval_eq hpv hpv'
          simp only [back, hls] at hbk
          obtain ⟨Ps, k1, k2, k3, k4⟩ := h6 w' S0 (fun q hq b hω hb' => hS q.1 (by rw [← h3]; exact List.mem_map.2 ⟨q, hq, rfl⟩) b hω (Gives.only h4 hnd q hq b hω hb')) _ S' us ((repO_leaves 0).1 hy) (fun i m m' q1 q2 => leaves_kind 0 t x y i m m' q1 q2) hbk
          refine ⟨(fun i hi => by rw [k2]; exact hi), Ps, k3, ⟨by rw [k1]; exact List.Sublist.refl _, fun q hq hvq => ?_, fun z hz q hq => ?_, fun g' s' hr z hz q hq => ?_⟩⟩
          · -- each place belongs to a change
            have hmem : q.id ∈ upIds us := k1 ▸ List.mem_map.2 ⟨q, hq, rfl⟩
            have : ∀ {us : List Up} {i : Nat}, i ∈ upIds us → ∃ z ∈ us, z.id = i := by
              intro us
              induction us with
              | nil => intro i h; cases h
              | cons z us ih =>
                intro i h
                rcases List.mem_cons.1 h with rfl | h
                · exact ⟨z, List.mem_cons_self .., rfl⟩
                · obtain ⟨v, hv, he⟩ := ih h
                  exact ⟨v, List.mem_cons_of_mem _ hv, he⟩
            obtain ⟨z, hz, hzi⟩ := this hmem
            have hnz : ∀ z ∈ us, ∃ q, z.root = some q := by
              have : ∀ {ls ms : List Lf} {us : List Up}, lendBack r ls ms = some us → ∀ z ∈ us, ∃ q, z.root = some q := by
                intro ls
                induction ls with
                | nil => intro ms us h z hz; cases ms with
                  | nil => simp only [lendBack, Option.some.injEq] at h; subst h; cases hz
                  | cons _ _ => simp [lendBack] at h
                | cons l ls ih =>
                  intro ms us h z hz
                  cases ms with
                  | nil => simp [lendBack] at h
                  | cons m ms =>
                    simp only [lendBack] at h
                    split at h
                    · rename_i u1 us1 e1 e2
                      simp only [Option.some.injEq] at h
                      subst h
                      rcases List.mem_append.1 hz with hz | hz
                      · exact lendLf_root e1 z hz
                      · exact ih e2 z hz
                    · cases h
              exact this hbk
            obtain ⟨qq, hqq⟩ := hnz z hz
            obtain ⟨p, hp, hpi, hfit⟩ := k4 z hz qq hqq
            have hpq : p = q := by
              have hn : (Ps.map (·.id)).Nodup := by rw [k1, k2]; exact h1
              have : ∀ {l : List Place}, (l.map (·.id)).Nodup → p ∈ l → q ∈ l → p.id = q.id → p = q := by
                intro l
                induction l with
                | nil => intro _ h; cases h
                | cons a l ih =>
                  intro hn h1 h2 he
                  simp only [List.map_cons, List.nodup_cons] at hn
                  rcases List.mem_cons.1 h1 with h1 | h1
                  · rcases List.mem_cons.1 h2 with h2 | h2
                    · rw [h1, h2]
                    · exact absurd (List.mem_map.2 ⟨q, h2, by rw [← he, h1]⟩) hn.1
                  · rcases List.mem_cons.1 h2 with h2 | h2
                    · exact absurd (List.mem_map.2 ⟨p, h1, by rw [he, h2]⟩) hn.1
                    · exact ih hn.2 h1 h2 he
              exact this hn hp hq (hpi.trans hzi)
            subst hpq
            exact ⟨hfit.κ, hfit.cp⟩
          · obtain ⟨p, hp, hpi, hfit⟩ := k4 z hz q hq
            obtain ⟨q0, e1, e2⟩ := hfit.old
            rw [hpi] at e1
            exact ⟨hfit.flat, hm.ne0 e1, fun _ => ⟨q0, e1, e2⟩⟩
          · obtain ⟨p, hp, hpi, hfit⟩ := k4 z hz q hq
            rw [← hpi]
            exact hfit.root g' s' (hr.own p hp) (hr.κ p hp).1 (hr.κ p hp).2 hr.frame (hr.nodup p hp) (hr.from_ p hp)
  | ptr t =>
    simp only [arg1] at h
    split at h
    case h_2 => cases h
    case h_1 id =>
      split at h
      case h_2 => cases h
      case h_1 ls hroot =>
        split at h
        case h_2 => cases h
        case h_1 x' hx =>
          simp only [Option.some.injEq, Prod.mk.injEq] at h
          obtain ⟨rfl, rfl, rfl⟩ := h
          obtain ⟨hrs, hver⟩ := hs.root id _ hroot
          obtain ⟨b, hb, hu⟩ := hv.1.2 ls hrs
          obtain ⟨hv1, b', c, T, hk', hω, hh, hls⟩ := hm.roots id _ hrs
          obtain rfl : b = b' := by rw [hb] at hk'; cases hk'; rfl
          obtain ⟨h1, h2, h3⟩ := ofAll_rel hm hs hx hls
          refine ⟨by simp, (fun i hi => by simp at hi; rw [hi]; exact ⟨_, hrs⟩), h2, h3, [], (fun q hq => by cases hq), List.nodup_nil, (fun q hq => by cases hq), [b], ⟨b, c, T, hu, hh, h1, rfl⟩, by simp, (fun b1 hb1 => by simp at hb1; subst hb1; exact ⟨id, by simp, hω⟩), fun w' S0 A d _ y S' us hbk hlt hbe hup => ?_⟩
          obtain ⟨b2, c2, T2, e1, e2, e3, rfl⟩ := hbk
          rw [hu] at e1
          simp only [Value.pointer.injEq, Option.some.injEq, Addr.mk.injEq, and_true] at e1
          subst e1
          simp only [back, Option.some.injEq] at hbe
          subst hbe
          refine ⟨(fun i hi => by simpa [upIds] using hi), [⟨id, g.κ id, g.cp id, [b]⟩], rfl, ⟨by simp [upIds], fun q hq hvq => ?_, fun z hz q hq => ?_, fun g' s' hr z hz q hq => ?_⟩⟩
          · simp at hq; subst hq; exact ⟨rfl, rfl⟩
          · simp at hz; subst hz
            simp only [Option.some.injEq] at hq
            subst hq
            exact ⟨trivial, hm.ne0 hrs, fun _ => ⟨_, hrs, trivial⟩⟩
          · simp at hz; subst hz
            simp only [Option.some.injEq] at hq
            subst hq
            have hp0 := hr.κ ⟨id, g.κ id, g.cp id, [b]⟩ (by simp)
            refine ⟨b, c2, T2, hp0.1.trans hb, hr.own ⟨id, g.κ id, g.cp id, [b]⟩ (by simp) b (by simp), e2, ?_⟩
            exact leaves_rel hr.bnd 0 (e3.keep hr.reads (fun _ _ => rfl))
  | ptrown t =>
    simp only [arg1] at h
    split at h
    case h_2 => cases h
    case h_1 id =>
      split at h
      case h_2 => cases h
      case h_1 ls hroot =>
        split at h
        case h_2 => cases h
        case h_1 x' ids hx hids =>
          simp only [Option.some.injEq, Prod.mk.injEq] at h
          obtain ⟨rfl, rfl, rfl⟩ := h
          obtain ⟨hrs, hver⟩ := hs.root id _ hroot
          obtain ⟨b, hb, hu⟩ := hv.1.2 ls hrs
          obtain ⟨hv1, b', c, T, hk', hω, hh, hls⟩ := hm.roots id _ hrs
          obtain rfl : b = b' := by rw [hb] at hk'; cases hk'; rfl
          obtain ⟨h1, h2, S, h3, h4, h5⟩ := own_gives hm hs hids hx hls
          have hnid : id ∉ ids := fun hi => by
            obtain ⟨e, xs, d, hr⟩ := h2 id hi
            rw [hrs] at hr; cases hr
          have hbS : b ∉ S := fun hbS => by
            obtain ⟨i, hi, hw⟩ := h5 b hbS
            rw [hω] at hw; cases hw
            exact hnid hi
          refine ⟨List.nodup_cons.2 ⟨hnid, h1⟩, fun i hi => ?_, Bnd.nil, Cur.nil, [], (fun q hq => by cases hq), List.nodup_nil, (fun q hq => by cases hq), b :: S, ⟨b, c, T, S, hu, hh, h3, rfl⟩, List.nodup_cons.2 ⟨hbS, h4⟩, fun b1 hb1 => ?_, fun w' S0 A d _ y S' us hbk hlt hbe hup => ?_⟩
          · rcases List.mem_cons.1 hi with rfl | hi
            · exact ⟨_, hrs⟩
            · obtain ⟨e, xs, d, hr⟩ := h2 i hi
              exact ⟨_, hr⟩
          · rcases List.mem_cons.1 hb1 with rfl | hb1
            · exact ⟨id, List.mem_cons_self .., hω⟩
            · obtain ⟨i, hi, hw⟩ := h5 b1 hb1
              exact ⟨i, List.mem_cons_of_mem _ hi, hw⟩
          · obtain ⟨b2, c2, T2, S2, e1, e2, e3, rfl⟩ := hbk
            rw [hu] at e1
            simp only [Value.pointer.injEq, Option.some.injEq, Addr.mk.injEq, and_true] at e1
            subst e1
            simp only [back, hroot, hids, Option.some.injEq] at hbe
            subst hbe
            obtain ⟨Ps, k1, k2, k3⟩ := own_back (N := N) (g := g) (s := s) (w := w) (S := S0) (A := A) (d := d) (base := id + 1 + 1048576 * r.ver id) (off := 0) e3 (fun b1 hb1 => hlt b1 (List.mem_cons_of_mem _ hb1)) (by omega) (fun z hz => hup z (by simp [hz]))
            have hgone : BackOk N g s w S0 w' A d (consume r ids) [] := BackOk.gone fun u hu => consume_gone hu
            have hbox : BackOk N g s w S0 w' A d ([⟨id, some (.box (ownLs (id + 1 + 1048576 * r.ver id) 0 t y).1), r.ver id + 1⟩] ++ (ownLs (id + 1 + 1048576 * r.ver id) 0 t y).2) ([⟨id, g.κ id, g.cp id, [b]⟩] ++ Ps) := by
              refine ⟨?_, fun q hq hvq => ?_, fun z hz q hq => ?_, fun g' s' hr z hz q hq => ?_⟩
              · rw [List.map_append, upIds_append]
                exact List.Sublist.append (List.Sublist.refl _) k2.sub
              · rcases List.mem_append.1 hq with hq | hq
                · simp at hq; subst hq; exact ⟨rfl, rfl⟩
                · exact k2.keep q hq hvq
              · rcases List.mem_append.1 hz with hz | hz
                · simp at hz; subst hz
                  simp only [Option.some.injEq] at hq
                  subst hq
                  exact ⟨trivial, hm.ne0 hrs, fun _ => ⟨_, hrs, trivial⟩⟩
                · exact k2.same z hz q hq
              · rcases List.mem_append.1 hz with hz | hz
                · simp at hz; subst hz
                  simp only [Option.some.injEq] at hq
                  subst hq
                  have hp0 := hr.κ ⟨id, g.κ id, g.cp id, [b]⟩ (by simp)
                  exact ⟨b, c2, T2, hp0.1.trans hb, hr.own ⟨id, g.κ id, g.cp id, [b]⟩ (by simp) b (by simp), e2, k3 g' s' hr.right⟩
                · exact k2.roots g' s' hr.right z hz q hq
            refine ⟨(fun i hi => by rw [upIds_append, upIds_append, consume_ids]; simp only [upIds, List.mem_append, List.mem_cons, List.not_mem_nil, or_false] at hi ⊢; rcases hi with h | h; exact .inl (.inr h); exact .inl (.inl h)), [] ++ ([⟨id, g.κ id, g.cp id, [b]⟩] ++ Ps), ?_, ?_⟩
            · rw [List.nil_append, List.flatMap_append, ← k1]; rfl
            · have := hgone.append hbox
              rw [← List.append_assoc] at this
              exact this
end
end Go.Proofs.XTv
/- A call, seen from the caller: all arguments, all results, the step. -/
set_option linter.unusedVariables false
set_option linter.unusedSimpArgs false
set_option linter.unusedSectionVars false
namespace Go.Proofs.XTv

def AVsRel (g : G) (s : St) (w : World) (N : Bd) : List AV → List Value → Prop
  | [], [] => True
  | v :: vs, u :: us => AVRel g s w N v u ∧ AVsRel g s w N vs us
  | _, _ => False
theorem ArgR.mono {w : World} {A A' : Nat → Prop} (h : ∀ b, A b → A' b) : ∀ {p : PK} {x : p.ty.den} {v : Value} {S : List Nat}, ArgR w A p x v S → ArgR w A' p x v S
  | .val t agg, x, v, S, ⟨h1, cs, h2, h3⟩ => ⟨h1, cs, h2, h3.keep h (fun _ _ => rfl)⟩
  | .take t agg, x, v, S, hr => hr
  | .lend t agg, x, v, S, hr => hr
  | .ptr t, x, v, S, ⟨b, c, T, h1, h2, h3, h4⟩ => ⟨b, c, T, h1, h2, h3.keep h (fun _ _ => rfl), h4⟩
  | .ptrown t, x, v, S, hr => hr
  | .fnc f, x, v, S, hr => hr
theorem ArgsR.mono {w : World} {A A' : Nat → Prop} (h : ∀ b, A b → A' b) : ∀ {ps : List PK} {x : (inTy ps).den} {vs : List Value} {S : List Nat}, ArgsR w A ps x vs S → ArgsR w A' ps x vs S
  | [], x, [], S, hr => hr
  | p :: ps, x, v :: vs, S, ⟨S1, S2, e, h1, h2⟩ => ⟨S1, S2, e, h1.mono h, ArgsR.mono h h2⟩
  | [], _, _ :: _, _, hr => hr.elim
  | _ :: _, _, [], _, hr => hr.elim

theorem ups_at : ∀ {us : List Up} {s : St}, (upIds us).Nodup → ∀ u ∈ us, (s.ups us).root u.id = u.root ∧ (s.ups us).ver u.id = u.ver
  | v :: us, s, hn, u, hu => by
    simp only [upIds, List.nodup_cons] at hn
    rcases List.mem_cons.1 hu with rfl | hu
    · rw [St.ups, (ups_other hn.1).1, (ups_other hn.1).2]
      exact ⟨upd_same _ _ _, upd_same _ _ _⟩
    · rw [St.ups]
      exact ups_at hn.2 u hu
theorem mem_upIds {us : List Up} {i : Nat} : i ∈ upIds us ↔ ∃ u ∈ us, u.id = i := by
  induction us with
  | nil => simp [upIds]
  | cons u us ih =>
    simp only [upIds, List.mem_cons, ih]
    constructor
    · rintro (rfl | ⟨v, hv, he⟩)
      · exact ⟨u, .inl rfl, rfl⟩
      · exact ⟨v, .inr hv, he⟩
    · rintro ⟨v, rfl | hv, he⟩
      · exact .inl he.symm
      · exact .inr ⟨v, hv, he⟩

noncomputable def G.place (g : G) (S : List Nat) (Ps : List Place) : G :=
  { κ := fun i => match Ps.find? (fun p => p.id == i) with | some p => p.κ | none => g.κ i
    cp := fun i => match Ps.find? (fun p => p.id == i) with | some p => p.cp | none => g.cp i
    ω := fun b => match Ps.find? (fun p => p.blocks.contains b) with | some p => some p.id | none => if b ∈ S then none else g.ω b }

section
variable {P : Program} {Γ : Cx} {g g' : G} {r s s' : St} {w w' : World} {N : Bd} {n : Nat} {a : Act} {E : Env}

theorem assembly (hm : Mem N g s w) (hgrown : N.n ≤ w.heap.size) (hent : ∀ b id, g.ω b = some id → N.F b) {us : List Up} {Ps : List Place} {S : List Nat} {A : Nat → Prop} {d : Deps} (hok : upsOk s us = true) (hnd : (upIds us).Nodup) (hB : BackOk N g s w S w' A d us Ps)
    (hbn : (Ps.flatMap (·.blocks)).Nodup) (hfrom : ∀ b ∈ Ps.flatMap (·.blocks), (b ∈ S ∨ w.heap.size ≤ b) ∧ b < w'.heap.size) (hS : ∀ b ∈ S, ∃ i ∈ upIds us, g.ω b = some i) (hSA : ∀ b ∈ S, ¬ Av g w N d b)
    (hA : ∀ b, A b → Av g w N d b ∨ ((b ∈ S ∨ w.heap.size ≤ b) ∧ b < w'.heap.size ∧ b ∉ Ps.flatMap (·.blocks))) (hbd : Bnd s d)
    (hsize : w.heap.size ≤ w'.heap.size) (hframe : ∀ b, b < w.heap.size → b ∉ S → w'.heap[b]? = w.heap[b]?) (hos : w'.os = w.os) (htape : w'.tape = w.tape) (hout : w'.output = w.output) :
    ∃ g', Step N g s w g' (s.ups us) w' ∧ Ready N g w S w' A d us Ps g' (s.ups us) ∧ (∀ b, (b ∈ S ∨ w.heap.size ≤ b) → b < w'.heap.size → b ∉ Ps.flatMap (·.blocks) → Av g' w' N [] b) := by
  have hidn : (Ps.map (·.id)).Nodup := hB.sub.nodup hnd
  have hsubid : ∀ p ∈ Ps, p.id ∈ upIds us := fun p hp => hB.sub.subset (List.mem_map.2 ⟨p, hp, rfl⟩)
  -- looking up
  have find_id : ∀ p ∈ Ps, Ps.find? (fun q => q.id == p.id) = some p := by
    have : ∀ {l : List Place}, (l.map (·.id)).Nodup → ∀ p ∈ l, l.find? (fun q => q.id == p.id) = some p := by
      intro l
      induction l with
      | nil => intro _ p h; cases h
      | cons q l ih =>
        intro hn p hp
        simp only [List.map_cons, List.nodup_cons] at hn
        rcases List.mem_cons.1 hp with rfl | hp
        · simp
        · have hne : q.id ≠ p.id := fun h => hn.1 (List.mem_map.2 ⟨p, hp, h.symm⟩)
          have hb : (q.id == p.id) = false := by simpa using hne
          rw [List.find?_cons, hb]
          exact ih hn.2 p hp
    exact this hidn
  have find_bl : ∀ p ∈ Ps, ∀ b ∈ p.blocks, Ps.find? (fun q => q.blocks.contains b) = some p := by
    have : ∀ {l : List Place}, (l.flatMap (·.blocks)).Nodup → ∀ p ∈ l, ∀ b ∈ p.blocks, l.find? (fun q => q.blocks.contains b) = some p := by
      intro l
      induction l with
      | nil => intro _ p h; cases h
      | cons q l ih =>
        intro hn p hp b hb
        rw [List.flatMap_cons, List.nodup_append] at hn
        rcases List.mem_cons.1 hp with rfl | hp
        · have : (p.blocks.contains b) = true := by simpa using hb
          rw [List.find?_cons, this]
        · have hnq : (q.blocks.contains b) = false := by
            cases hc : q.blocks.contains b
            · rfl
            · have h1 : b ∈ q.blocks := by simpa using hc
              exact absurd rfl (hn.2.2 b h1 b (List.mem_flatMap.2 ⟨p, hp, hb⟩))
          rw [List.find?_cons, hnq]
          exact ih hn.2.1 p hp b hb
    exact this hbn
  have nofind_bl : ∀ b, b ∉ Ps.flatMap (·.blocks) → Ps.find? (fun q => q.blocks.contains b) = none := fun b hb => by
    rw [List.find?_eq_none]
    intro q hq hc
    exact hb (List.mem_flatMap.2 ⟨q, hq, by simpa using hc⟩)
  have nofind_id : ∀ i, i ∉ upIds us → Ps.find? (fun q => q.id == i) = none := fun i hi => by
    rw [List.find?_eq_none]
    intro q hq hc
    have : q.id = i := by simpa using hc
    exact hi (this ▸ hsubid q hq)
  have hκ : ∀ p ∈ Ps, (g.place S Ps).κ p.id = p.κ ∧ (g.place S Ps).cp p.id = p.cp := fun p hp => by
    simp only [G.place, find_id p hp]; exact ⟨trivial, trivial⟩
  have hω : ∀ p ∈ Ps, ∀ b ∈ p.blocks, (g.place S Ps).ω b = some p.id := fun p hp b hb => by
    simp only [G.place, find_bl p hp b hb]
  have hSlt : ∀ b ∈ S, b < w.heap.size := fun b hb => by
    obtain ⟨i, _, h⟩ := hS b hb
    exact hm.own b i h
  have hold : ∀ b, b < w.heap.size → b ∉ S → (g.place S Ps).ω b = g.ω b := fun b hlt hb => by
    have : b ∉ Ps.flatMap (·.blocks) := fun h => by
      rcases (hfrom b h).1 with h' | h'
      · exact hb h'
      · omega
    simp only [G.place, nofind_bl b this, if_neg hb]
  have hnew : ∀ b, (b ∈ S ∨ w.heap.size ≤ b) → b < w'.heap.size → b ∉ Ps.flatMap (·.blocks) → (g.place S Ps).ω b = none ∧ N.F b := fun b h1 h2 h3 => by
    by_cases hbS : b ∈ S
    · obtain ⟨i, _, hw⟩ := hS b hbS
      exact ⟨by simp only [G.place, nofind_bl b h3, if_pos hbS], hent b i hw⟩
    · have h1 : w.heap.size ≤ b := h1.resolve_left hbS
      refine ⟨?_, .inl (Nat.le_trans hgrown h1)⟩
      simp only [G.place, nofind_bl b h3, if_neg hbS]
      cases hw : g.ω b with
      | none => rfl
      | some i => exact absurd (hm.own b i hw) (by omega)
  have hready : Ready N g w S w' A d us Ps (g.place S Ps) (s.ups us) := by
    refine ⟨hω, hκ, fun p hp => ?_, fun p hp b hb => ?_, fun b hlt hb => ⟨hframe b hlt hb, hold b hlt hb⟩, fun b hb => ?_, hbd.mono fun id => (ups_le hok).1, fun u hu => ?_⟩
    · have : ∀ {l : List Place}, (l.flatMap (·.blocks)).Nodup → ∀ p ∈ l, p.blocks.Nodup := by
        intro l
        induction l with
        | nil => intro _ p h; cases h
        | cons q l ih =>
          intro hn p hp
          rw [List.flatMap_cons, List.nodup_append] at hn
          rcases List.mem_cons.1 hp with rfl | hp
          · exact hn.1
          · exact ih hn.2.1 p hp
      exact this hbn p hp
    · exact (hfrom b (List.mem_flatMap.2 ⟨p, hp, hb⟩)).1
    · rcases hA b hb with h | ⟨h1, h2, h3⟩
      · have hbS : b ∉ S := fun h' => hSA b h' h
        obtain ⟨hlt, h⟩ := h
        refine ⟨Nat.lt_of_lt_of_le hlt hsize, ?_⟩
        rw [hold b hlt hbS]; exact h
      · exact ⟨h2, .inl ⟨(hnew b h1 h2 h3).1, .inr (hnew b h1 h2 h3).2⟩⟩
    · obtain ⟨e1, e2⟩ := ups_at hnd (s := s) u hu
      refine ⟨e1, ?_⟩
      have := (ups_le (id := u.id) hok).2 (mem_upIds.2 ⟨u, hu, rfl⟩)
      omega
  refine ⟨g.place S Ps, Step.of hm hok hsize (fun b hlt hf => ?_) (fun id h => ?_) (fun id hid hv q hq => ?_) (fun hc id q hid hq => ?_) ?_ (fun b id hb => ?_) (fun b id hb => ?_) hos htape hout, hready, fun b h1 h2 h3 => ⟨h2, .inl ⟨(hnew b h1 h2 h3).1, .inr (hnew b h1 h2 h3).2⟩⟩⟩
  · have hbS : b ∉ S := fun h => by
      obtain ⟨i, hi, hw⟩ := hS b h
      exact hf i hw hi
    exact ⟨hframe b hlt hbS, hold b hlt hbS⟩
  · by_cases hp : ∃ p ∈ Ps, p.id = id
    · obtain ⟨p, hp, rfl⟩ := hp
      rcases h with h | h
      · exact absurd (hsubid p hp) h
      · obtain ⟨k1, k2⟩ := hB.keep p hp h
        exact ⟨(hκ p hp).1.trans k1, (hκ p hp).2.trans k2⟩
    · have hnf : Ps.find? (fun q => q.id == id) = none := by
        rw [List.find?_eq_none]
        intro q hq hc
        exact hp ⟨q, hq, by simpa using hc⟩
      simp only [G.place, hnf]; exact ⟨trivial, trivial⟩
  · obtain ⟨u, hu, rfl⟩ := mem_upIds.1 hid
    rw [(ups_at hnd (s := s) u hu).1] at hq
    exact (hB.same u hu q hq).2.2 hv
  · obtain ⟨u, hu, rfl⟩ := mem_upIds.1 hid
    rw [(ups_at hnd (s := s) u hu).1] at hq
    exact ⟨hB.roots _ _ hready u hu q hq, (hB.same u hu q hq).1⟩
  · by_cases h0 : 0 ∈ upIds us
    · obtain ⟨u, hu, hu0⟩ := mem_upIds.1 h0
      have := (ups_at hnd (s := s) u hu).1
      rw [hu0] at this
      rw [this]
      cases hr : u.root with
      | none => rfl
      | some q => exact absurd hu0 (hB.same u hu q hr).2.1
    · rw [(ups_other h0).1]; exact hm.zero
  · by_cases hf : b ∈ Ps.flatMap (·.blocks)
    · exact (hfrom b hf).2
    · simp only [G.place, nofind_bl b hf] at hb
      split at hb
      · cases hb
      · exact Nat.lt_of_lt_of_le (hm.own b id hb) hsize
  · by_cases hf : b ∈ Ps.flatMap (·.blocks)
    · rcases (hfrom b hf).1 with h | h
      · obtain ⟨i, _, hi⟩ := hS b h
        exact .inl ⟨i, hi⟩
      · exact .inr h
    · simp only [G.place, nofind_bl b hf] at hb
      split at hb
      · cases hb
      · exact .inl ⟨id, hb⟩

theorem args_rel (hm : Mem N g s w) (hs : Sub r s) : ∀ {ps : List PK} {vs : List AV} {us : List Value} {x : (inTy ps).den} {d : Deps} {c : List Nat}, args r ps vs = some (x, d, c) → AVsRel g s w N vs us →
    c.Nodup ∧ (∀ i ∈ c, ∃ q, s.root i = some q) ∧ Bnd s d ∧ Cur s d ∧ ∃ S, ArgsR w (Av g w N d) ps x us S ∧ S.Nodup ∧ (∀ b ∈ S, ∃ i ∈ c, g.ω b = some i) ∧
      ∀ (w' : World) (S0 : List Nat) (A : Nat → Prop) (d' : Deps), (∀ i ∈ c, ∀ b, g.ω b = some i → b ∉ S → b ∉ S0) → ∀ (y : (outPs ps).den) (S' : List Nat) (ups : List Up), BacksR w' A ps y us S' → (∀ b ∈ S', b < w'.heap.size) → backs r d' ps vs y = some ups → (∀ z ∈ ups, s.ver z.id < z.ver) →
        (∀ i ∈ c, i ∈ upIds ups) ∧ ∃ Ps : List Place, S' = Ps.flatMap (·.blocks) ∧ BackOk N g s w S0 w' A d' ups Ps
  | [], [], [], x, d, c, h, _ => by
    simp only [args, Option.some.injEq, Prod.mk.injEq] at h
    obtain ⟨_, rfl, rfl⟩ := h
    refine ⟨List.nodup_nil, (fun i hi => by cases hi), Bnd.nil, Cur.nil, [], rfl, List.nodup_nil, (fun b hb => by cases hb), fun w' S0 A d' _ y S' ups hb _ hbk _ => ?_⟩
    simp only [backs, Option.some.injEq] at hbk
    subst hbk
    simp only [BacksR] at hb
    subst hb
    exact ⟨(fun i hi => by cases hi), [], rfl, BackOk.nil⟩
  | [], [], _ :: _, _, _, _, _, hv => hv.elim
  | [], _ :: _, _, _, _, _, h, _ => by simp [args] at h
  | _ :: _, [], _, _, _, _, h, _ => by simp [args] at h
  | _ :: _, _ :: _, [], _, _, _, _, hv => hv.elim
  | p :: ps, v :: vs, u :: us, x, d, c, h, hv => by
    simp only [args] at h
    split at h
    case h_1 => cases h
    case h_2 y0 d0 c0 h0 =>
      split at h
      case h_1 => cases h
      case h_2 x1 d1 c1 h1 =>
        cases hme : nmeet c1 c0
        case true => simp [hme] at h
        simp only [hme, cond_false, Option.some.injEq, Prod.mk.injEq] at h
        obtain ⟨rfl, rfl, rfl⟩ := h
        have hdis := nmeet_false.1 hme
        obtain ⟨b1, b2, b3, b4, _, _, _, _, S1, b5, b6, b7, b8⟩ := arg_rel hm hs h1 hv.1
        obtain ⟨a1, a2, a3, a4, S2, a5, a6, a7, a8⟩ := args_rel hm hs h0 hv.2
        refine ⟨?_, fun i hi => (List.mem_append.1 hi).elim (b2 i) (a2 i), b3.join a3, b4.join a4, S1 ++ S2, ⟨S1, S2, rfl, ?_, ?_⟩, ?_, fun b hb => ?_, fun w' S0 A d' hS y S' ups hb hlt hbk hup => ?_⟩
        · rw [List.nodup_append]
          exact ⟨b1, a1, fun i hi j hj he => hdis i hi (he ▸ hj)⟩
        · rw [tpFst_mk]
          exact b5.mono fun b hb => hb.mono fun i hi => dids_join.2 (.inl hi)
        · rw [tpSnd_mk]
          exact a5.mono fun b hb => hb.mono fun i hi => dids_join.2 (.inr hi)
        · rw [List.nodup_append]
          refine ⟨b6, a6, fun i hi j hj he => ?_⟩
          subst he
          obtain ⟨k1, q1, e1⟩ := b7 i hi
          obtain ⟨k2, q2, e2⟩ := a7 i hj
          rw [e1] at e2; cases e2
          exact hdis k1 q1 q2
        · rcases List.mem_append.1 hb with hb | hb
          · obtain ⟨i, hi, hw⟩ := b7 b hb
            exact ⟨i, List.mem_append_left _ hi, hw⟩
          · obtain ⟨i, hi, hw⟩ := a7 b hb
            exact ⟨i, List.mem_append_right _ hi, hw⟩
        · obtain ⟨T1, T2, rfl, k1, k2⟩ := hb
          simp only [backs] at hbk
          split at hbk
          case h_2 => cases hbk
          case h_1 u1 u2 e1 e2 =>
            simp only [Option.some.injEq] at hbk
            subst hbk
            obtain ⟨m1, P1, m2, m3⟩ := b8 w' S0 A d' (fun i hi b hw hb => hS i (List.mem_append_left _ hi) b hw (fun hh => by
              rcases List.mem_append.1 hh with hh | hh
              · exact hb hh
              · obtain ⟨j, hj, hw'⟩ := a7 b hh
                rw [hw] at hw'; cases hw'
                exact hdis i hi hj)) _ T1 u1 k1 (fun b hb => hlt b (List.mem_append_left _ hb)) e1 (fun z hz => hup z (List.mem_append_left _ hz))
            obtain ⟨n1, P2, n2, n3⟩ := a8 w' S0 A d' (fun i hi b hw hb => hS i (List.mem_append_right _ hi) b hw (fun hh => by
              rcases List.mem_append.1 hh with hh | hh
              · obtain ⟨j, hj, hw'⟩ := b7 b hh
                rw [hw] at hw'; cases hw'
                exact hdis i hj hi
              · exact hb hh)) _ T2 u2 k2 (fun b hb => hlt b (List.mem_append_right _ hb)) e2 (fun z hz => hup z (List.mem_append_right _ hz))
            refine ⟨fun i hi => ?_, P1 ++ P2, by rw [List.flatMap_append, m2, n2], m3.append n3⟩
            rw [upIds_append]
            rcases List.mem_append.1 hi with hi | hi
            · exact List.mem_append_left _ (m1 i hi)
            · exact List.mem_append_right _ (n1 i hi)
end
end Go.Proofs.XTv
/- A call, seen from the caller: its results; the whole of it. -/
set_option linter.unusedVariables false
set_option linter.unusedSimpArgs false
set_option linter.unusedSectionVars false
namespace Go.Proofs.XTv

section
variable {P : Program} {Γ : Cx} {g g' : G} {r s s' : St} {w w' : World} {N : Bd} {n : Nat} {a : Act} {E : Env}

theorem pval_valrel {agg : Bool} {ls : List Lf} {v : Value} {cs : List Value} (h : PVal agg v cs) (hl : LsRel g s w N ls cs) : ValRel g s w N agg ls v := by
  cases agg
  · rw [show cs = [v] from h] at hl
    match ls, hl with
    | [l], hl => exact ⟨l, rfl, hl.1⟩
    | _ :: _ :: _, hl => exact hl.2.elim
    | [], hl => exact hl.elim
  · obtain ⟨a, rfl, rfl⟩ := h
    exact ⟨a, rfl, hl⟩
theorem res_rel {d : Deps} {S : List Nat} {A F : Nat → Prop} : ∀ {rs : List RK} {base : Nat} {y : (outRs rs).den} {vs : List Value} {S1 : List Nat}, RessR w' A F rs y vs S1 → (∀ b ∈ S1, b < w'.heap.size) → base ≠ 0 → (∀ z ∈ (resAll d base rs y).2, s.ver z.id < z.ver) →
    ∃ Ps : List Place, S1 = Ps.flatMap (·.blocks) ∧ BackOk N g s w S w' A d (resAll d base rs y).2 Ps ∧
      ∀ (g' : G) (s' : St), Ready N g w S w' A d (resAll d base rs y).2 Ps g' s' → (∀ b, F b → Av g' w' N [] b) → TupRel g' s' w' N (resAll d base rs y).1 vs
  | [], base, y, [], S1, h, _, _, _ => by
    simp only [RessR] at h
    subst h
    exact ⟨[], rfl, BackOk.nil, fun _ _ _ _ => trivial⟩
  | [], _, _, _ :: _, _, h, _, _, _ => h.elim
  | _ :: _, _, _, [], _, h, _, _, _ => h.elim
  | q :: rs, base, y, v :: vs, S1, h, hlt, hb0, hup => by
    obtain ⟨T1, T2, rfl, h1, h2⟩ := h
    simp only [resAll] at hup ⊢
    obtain ⟨P2, a1, a2, a3⟩ := res_rel (d := d) (S := S) (base := base + q.t.size) h2 (fun b hb => hlt b (List.mem_append_right _ hb)) (by omega) (fun z hz => hup z (List.mem_append_right _ hz))
    -- the first
    have first : ∃ P1 : List Place, T1 = P1.flatMap (·.blocks) ∧ BackOk N g s w S w' A d (resLs d base q (tpFst q.t (outRs rs) y)).2 P1 ∧
        ∀ (g' : G) (s' : St), Ready N g w S w' A d (resLs d base q (tpFst q.t (outRs rs) y)).2 P1 g' s' → (∀ b, F b → Av g' w' N [] b) → ValRel g' s' w' N q.wide (resLs d base q (tpFst q.t (outRs rs) y)).1 v := by
      have hup1 : ∀ z ∈ (resLs d base q (tpFst q.t (outRs rs) y)).2, s.ver z.id < z.ver := fun z hz => hup z (List.mem_append_left _ hz)
      obtain ⟨t, agg, mode⟩ := q
      cases mode with
      | own =>
        obtain ⟨cs, hp, hr⟩ := h1
        obtain ⟨Ps, k1, k2, k3⟩ := own_back (N := N) (g := g) (s := s) (w := w) (S := S) (A := A) (d := d) (base := base) (off := 0) hr (fun b hb => hlt b (List.mem_append_left _ hb)) hb0 hup1
        exact ⟨Ps, k1, k2, fun g' s' hr _ => pval_valrel hp (k3 g' s' hr)⟩
      | fresh =>
        obtain ⟨rfl, cs, hp, hr⟩ := h1
        exact ⟨[], rfl, BackOk.nil, fun g' s' _ hF => pval_valrel hp (leaves_rel Bnd.nil 0 (hr.keep hF (fun _ _ => rfl)))⟩
      | shared =>
        obtain ⟨rfl, cs, hp, hr⟩ := h1
        exact ⟨[], rfl, BackOk.nil, fun g' s' hrd _ => pval_valrel hp (leaves_rel hrd.bnd 0 (hr.keep hrd.reads (fun _ _ => rfl)))⟩
      | ptr =>
        obtain ⟨b, c, T, rfl, hh, hr, rfl⟩ := h1
        have hv0 : s.ver base = 0 := by
          have := hup1 ⟨base, some (.box (leaves d none 0 t (tpFst t (outRs rs) y))), 1⟩ (by simp [resLs])
          simp only at this; omega
        refine ⟨[⟨base, some b, 0, [b]⟩], rfl, ⟨by simp [resLs, upIds], fun p hp hv => ?_, fun u hu q hq => ?_, fun g' s' hrd u hu q hq => ?_⟩, fun g' s' hrd _ => ⟨.ptr base 0, rfl, ⟨?_, fun ls hls => ⟨b, ?_, rfl⟩⟩, fun _ => rfl⟩⟩
        · simp at hp; subst hp; simp only at hv; omega
        · simp [resLs] at hu; subst hu
          simp only [Option.some.injEq] at hq; subst hq
          exact ⟨trivial, hb0, fun hv => by simp only at hv; omega⟩
        · simp [resLs] at hu; subst hu
          simp only [Option.some.injEq] at hq; subst hq
          have hp0 := hrd.κ ⟨base, some b, 0, [b]⟩ (by simp)
          exact ⟨b, c, T, hp0.1, hrd.own ⟨base, some b, 0, [b]⟩ (by simp) b (by simp), hh, leaves_rel hrd.bnd 0 (hr.keep hrd.reads (fun _ _ => rfl))⟩
        · exact (hrd.roots ⟨base, some (.box (leaves d none 0 t (tpFst t (outRs rs) y))), 1⟩ (by simp [resLs])).2
        · exact (hrd.κ ⟨base, some b, 0, [b]⟩ (by simp)).1
    obtain ⟨P1, b1, b2, b3⟩ := first
    refine ⟨P1 ++ P2, by rw [List.flatMap_append, b1, a1], b2.append a2, fun g' s' hr hF => ⟨b3 g' s' hr.left hF, a3 g' s' hr.right hF⟩⟩
theorem resAV_rel : ∀ {ps : List (Bool × List Lf)} {vs : List Value}, TupRel g s w N ps vs → AVRel g s w N (resAV ps) (resVal vs)
  | [], [], h => ⟨#[], rfl, trivial⟩
  | [], _ :: _, h => h.elim
  | _ :: _, [], h => h.elim
  | [(false, ls)], [v], h => by
    obtain ⟨l, hl, hr⟩ := h.1
    simp only at hl
    subst hl
    exact hr
  | [(true, ls)], [v], h => h.1
  | p :: q :: ps, v :: u :: vs, h => by
      have : (resAV (p :: q :: ps)) = .tup (p :: q :: ps) := by
        obtain ⟨b, l⟩ := p
        cases b <;> cases l <;> first | rfl | (rename_i a l; cases l <;> rfl)
      rw [this]
      exact ⟨(v :: u :: vs).toArray, rfl, by simpa using h⟩
  | p :: [], v :: u :: vs, h => h.2.elim
  | p :: q :: ps, [v], h => h.2.elim

theorem flat_ups {base : Nat} : ∀ {off : Nat} {t : Ty} {x : t.den}, t.hasSl = false → (ownLs base off t x).2 = [] := by
  have key : ∀ {ls : List Lf} {off : Nat}, (∀ l ∈ ls, ∀ e xs d p, l ≠ .snap e xs d p) → (ownLl base off ls).2 = [] := by
    intro ls
    induction ls with
    | nil => intro off _; rfl
    | cons l ls ih =>
      intro off h
      have h0 := h l (List.mem_cons_self ..)
      have h1 := ih (off := off + 1) (fun l' hl' => h l' (List.mem_cons_of_mem _ hl'))
      cases l <;> simp only [ownLl, h1]
      exact absurd rfl (h0 _ _ _ _)
  have hl : ∀ {t : Ty} {off : Nat} {x : t.den}, t.hasSl = false → ∀ l ∈ leaves [] none off t x, ∀ e xs d p, l ≠ .snap e xs d p := by
    intro t
    induction t with
    | sl e => intro off x h; simp [Ty.hasSl] at h
    | pair a b iha ihb =>
      intro off x h l hl
      simp only [Ty.hasSl, Bool.or_eq_false_iff] at h
      simp only [leaves, List.mem_append] at hl
      exact hl.elim (iha h.1 l) (ihb h.2 l)
    | unit => intro off x h l hl; cases hl
    | _ => intro off x h l hl e xs d p; simp only [leaves, List.mem_singleton] at hl; subst hl; simp
  intro off t x h
  exact key (hl h)
theorem plain_ups {d : Deps} : ∀ {rs : List RK} {base : Nat} {y : (outRs rs).den}, rs.all RK.plain = true → (resAll d base rs y).2 = []
  | [], _, _, _ => rfl
  | q :: rs, base, y, h => by
    simp only [List.all_cons, Bool.and_eq_true] at h
    simp only [resAll, plain_ups h.2, List.append_nil]
    obtain ⟨t, agg, mode⟩ := q
    cases mode with
    | own =>
      have := h.1
      simp only [RK.plain, Bool.not_eq_true'] at this
      exact flat_ups this
    | fresh => rfl
    | shared => rfl
    | ptr => have := h.1; simp [RK.plain] at this
/-- What was not called leaves all as it was. -/
theorem skip_back {A : Nat → Prop} : ∀ {ps : List PK} {x : (inTy ps).den} {us : List Value} {S : List Nat}, ps.all PK.plain = true → ArgsR w A ps x us S → BacksR w A ps (skipPs ps x) us S
  | [], x, [], S, _, h => h
  | [], _, _ :: _, _, _, h => h.elim
  | _ :: _, _, [], _, _, h => h.elim
  | p :: ps, x, u :: us, S, hp, h => by
    simp only [List.all_cons, Bool.and_eq_true] at hp
    obtain ⟨S1, S2, rfl, h1, h2⟩ := h
    have ih := skip_back hp.2 h2
    refine ⟨S1, S2, rfl, ?_, ?_⟩
    · cases p with
      | val t agg => exact h1.1
      | ptr _ => simp [PK.plain] at hp
      | fnc f => exact h1.2
      | take _ _ => simp [PK.plain] at hp
      | lend _ _ => simp [PK.plain] at hp
      | ptrown _ => simp [PK.plain] at hp
    · cases p with
      | val t agg =>
        exact (congrArg (fun z => BacksR w A ps z us S2) (tpSnd_mk .unit (outPs ps) () _)).mpr ih
      | ptr _ => simp [PK.plain] at hp
      | fnc f =>
        exact (congrArg (fun z => BacksR w A ps z us S2) (tpSnd_mk .unit (outPs ps) () _)).mpr ih
      | take _ _ => simp [PK.plain] at hp
      | lend _ _ => simp [PK.plain] at hp
      | ptrown _ => simp [PK.plain] at hp

theorem back_ups {us : List Up} (hok : upsOk s us = true) (hnd : (upIds us).Nodup) : ∀ z ∈ us, s.ver z.id < z.ver := fun z hz => by
  have h1 := (ups_le (id := z.id) hok).2 (mem_upIds.2 ⟨z, hz, rfl⟩)
  rw [(ups_at hnd (s := s) z hz).2] at h1
  exact h1
theorem opnds_rel {key : Option (Nat × Bool)} (hs : Sub r s) (hsl : ∀ t, AVRel g s w N (s.slot t).2 (a.tmps.getD t undef)) (hk : KeyOk r key) : ∀ {l : List Operand} {vs : List AV}, opnds r key l = some vs → AVsRel g s w N vs (l.map a.eval)
  | [], vs, h => by simp only [opnds, Option.some.injEq] at h; subst h; exact trivial
  | x :: l, vs, h => by
    simp only [opnds] at h
    split at h
    · rename_i v1 vs1 h1 h2
      simp only [Option.some.injEq] at h
      subst h
      exact ⟨opnd_rel hs hsl hk h1, opnds_rel hs hsl hk h2⟩
    · cases h

theorem load_val {T : Nat} {p : Lf} {t : Ty} {m : Option t.den} {b : Bool} {sk : t.den} {ct : t.den → Option (AV × List Up)} : loadOp Γ r T p ≠ some (.call t m b sk ct) := by
  intro h
  unfold loadOp at h
  (repeat' (first | split at h | simp only [Bool.cond_eq_ite] at h)) <;> cases h
theorem store_val {T : Nat} {p : Lf} {v : AV} {t : Ty} {m : Option t.den} {b : Bool} {sk : t.den} {ct : t.den → Option (AV × List Up)} : storeOp Γ r T p v ≠ some (.call t m b sk ct) := by
  intro h
  rw [storeOp_eq] at h
  unfold storeOpL at h
  (repeat' (first | split at h | simp only [Bool.cond_eq_ite] at h)) <;> cases h
theorem append_val {T : Nat} {d : Option Nat} {l l2 : Lf} {t : Ty} {m : Option t.den} {b : Bool} {sk : t.den} {ct : t.den → Option (AV × List Up)} : appendOp Γ r d T l l2 ≠ some (.call t m b sk ct) := by
  intro h
  unfold appendOp appFin at h
  (repeat' (first | split at h | simp only [Bool.cond_eq_ite] at h)) <;> cases h
theorem copy_val {T : Nat} {l l2 : Lf} {t : Ty} {m : Option t.den} {b : Bool} {sk : t.den} {ct : t.den → Option (AV × List Up)} : copyOp Γ r T l l2 ≠ some (.call t m b sk ct) := by
  intro h
  unfold copyOp copyFin at h
  (repeat' (first | split at h | simp only [Bool.cond_eq_ite] at h)) <;> cases h
theorem slice_val {x : Lf} {lo hi : Option Int} {t : Ty} {m : Option t.den} {b : Bool} {sk : t.den} {ct : t.den → Option (AV × List Up)} : sliceOp r x lo hi ≠ some (.call t m b sk ct) := by
  intro h
  unfold sliceOp at h
  (repeat' (first | split at h | simp only [Bool.cond_eq_ite] at h)) <;> cases h
theorem indexAddr_val {x : Lf} {i : Int} {t : Ty} {m : Option t.den} {b : Bool} {sk : t.den} {ct : t.den → Option (AV × List Up)} : indexAddrOp r x i ≠ some (.call t m b sk ct) := by
  intro h
  unfold indexAddrOp at h
  (repeat' (first | split at h | simp only [Bool.cond_eq_ite] at h)) <;> cases h
end
end Go.Proofs.XTv
/- A call, seen from the caller: made, or passed over. -/
set_option linter.unusedVariables false
set_option linter.unusedSimpArgs false
set_option linter.unusedSectionVars false
namespace Go.Proofs.XTv

section
variable {P : Program} {Γ : Cx} {g g' : G} {r s s' : St} {w w' : World} {N : Bd} {n : Nat} {a : Act} {E : Env}
variable {k : Nat} {key : Option (Nat × Bool)} {o : Oper} {ok : Bool} {v : AV} {us : List Up}

theorem exec_call {t : Ty} {m : Option t.den} {plain : Bool} {skip : t.den} {cont : t.den → Option (AV × List Up)} (h : exec Γ k r key o = some (.call t m plain skip cont)) :
    ∃ c f n C vs, o.op = .call c ∧ c.callee = .value f ∧ opnd r key f = some (.one (.fn n)) ∧ opnds r key c.args.toList = some vs ∧ Γ.con n = some C ∧ doCall C k r o.dst vs = some (.call t m plain skip cont) := by
  cases ho : o.op with
  | call c =>
    cases hc : c.callee with
    | value f =>
      simp only [exec, ho, hc] at h
      split at h
      case h_2 => cases h
      case h_1 n vs hf hvs =>
        split at h
        case h_2 => cases h
        case h_1 C hC => exact ⟨c, f, n, C, vs, rfl, hc, hf, hvs, hC, h⟩
    | builtin b =>
      cases b with
      | len => simp only [exec, ho, hc] at h; (repeat' (first | split at h | simp only [Bool.cond_eq_ite] at h)) <;> cases h
      | append =>
        simp only [exec, ho, hc] at h
        split at h
        · split at h
          · exact absurd h append_val
          · cases h
        · cases h
      | copy =>
        simp only [exec, ho, hc] at h
        split at h
        · exact absurd h copy_val
        · cases h
      | _ => simp [exec, ho, hc] at h
    | invoke _ _ => simp [exec, ho, hc] at h
  | load T x =>
    simp only [exec, ho] at h
    split at h
    · exact absurd h load_val
    · cases h
  | store T x y =>
    simp only [exec, ho] at h
    split at h
    · exact absurd h store_val
    · cases h
  | slice T x lo hi mx =>
    simp only [exec, ho] at h
    split at h
    · rw [Bool.cond_eq_ite] at h
      split at h
      · exact absurd h slice_val
      · cases h
    · cases h
  | indexAddr T x ix =>
    simp only [exec, ho] at h
    split at h
    · rw [Bool.cond_eq_ite] at h
      split at h
      · exact absurd h indexAddr_val
      · cases h
    · cases h
  | _ =>
    simp only [exec, ho] at h
    (repeat' (first | split at h | simp only [Bool.cond_eq_ite] at h)) <;> cases h

variable (hm : Mem N g s w) (hgrown : N.n ≤ w.heap.size) (hent : ∀ b id, g.ω b = some id → N.F b) (hs : Sub r s) (hsl : ∀ t, AVRel g s w N (s.slot t).2 (a.tmps.getD t undef)) (hk : KeyOk r key)

/-- What a call leaves behind, whatever its body did. -/
theorem call_behind (hm : Mem N g s w) (hgrown : N.n ≤ w.heap.size) (hent : ∀ b id, g.ω b = some id → N.F b) (hs : Sub r s) (hsl : ∀ t, AVRel g s w N (s.slot t).2 (a.tmps.getD t undef)) (hk : KeyOk r key) {C : Con} {vs : List AV} {uv : List Value} (hav : AVsRel g s w N vs uv) {x : (inTy C.ps).den} {d : Deps} {c : List Nat} (hargs : args r C.ps vs = some (x, d, c)) (hdc : nmeet (dids d) c = false) :
    ∃ S, ArgsR w (Av g w N d) C.ps x uv S ∧ S.Nodup ∧ (∀ b ∈ S, ¬ Av g w N d b) ∧ (∀ b ∈ S, b < w.heap.size) ∧
      ∀ (w' : World) (y : (outTy C.ps C.rs).den) (S1 S2 : List Nat) (rv : List Value) (dst : Option Nat) (us : List Up) (v : AV) (res : Bool),
        w.heap.size ≤ w'.heap.size → w'.os = w.os → w'.tape = w.tape → w'.output = w.output → (∀ b, b < w.heap.size → b ∉ S → w'.heap[b]? = w.heap[b]?) →
        (S1 ++ S2).Nodup → (∀ b ∈ S1 ++ S2, (b ∈ S ∨ w.heap.size ≤ b) ∧ b < w'.heap.size) →
        (if res = true then RessR w' (fun b => Av g w N d b ∨ ((b ∈ S ∨ w.heap.size ≤ b) ∧ b < w'.heap.size ∧ b ∉ S1 ++ S2)) (fun b => (b ∈ S ∨ w.heap.size ≤ b) ∧ b < w'.heap.size ∧ b ∉ S1 ++ S2) C.rs (tpFst (outRs C.rs) (outPs C.ps) y) rv S1 else C.rs.all RK.plain = true) →
        BacksR w' (fun b => Av g w N d b ∨ ((b ∈ S ∨ w.heap.size ≤ b) ∧ b < w'.heap.size ∧ b ∉ S1 ++ S2)) C.ps (tpSnd (outRs C.rs) (outPs C.ps) y) uv S2 →
        (match backs r d C.ps vs (tpSnd (outRs C.rs) (outPs C.ps) y) with
          | none => none
          | some us => match dst with
            | none => bif ndist (upIds us) then some (.tup [], us) else none
            | some dst =>
              let q := resAll d (newId dst 0) C.rs (tpFst (outRs C.rs) (outPs C.ps) y)
              bif ndist (upIds (us ++ q.2)) then some (resAV q.1, us ++ q.2) else none) = some (v, us) → upsOk s us = true →
        ∃ g', Step N g s w g' (s.ups us) w' ∧ (dst = none ∨ (res = true → AVRel g' (s.ups us) w' N v (resVal rv))) := by
  obtain ⟨hcn, hcal, hbd, hcur, S, hA, hSn, hSo, hcl⟩ := args_rel hm hs hargs hav
  have hdis := nmeet_false.1 hdc
  have hSA : ∀ b ∈ S, ¬ Av g w N d b := fun b hb ha => by
    obtain ⟨i, hi, hw⟩ := hSo b hb
    rcases ha.2 with ⟨h1, _⟩ | ⟨j, hj, _, h1⟩
    · rw [hw] at h1; cases h1
    · rw [hw] at h1; cases h1
      exact hdis i hj hi
  have hSlt : ∀ b ∈ S, b < w.heap.size := fun b hb => by
    obtain ⟨i, _, hw⟩ := hSo b hb
    exact hm.own b i hw
  have hSonly : ∀ i ∈ c, ∀ b, g.ω b = some i → b ∉ S → b ∉ S := fun _ _ _ _ h => h
  refine ⟨S, hA, hSn, hSA, hSlt, fun w' y S1 S2 rv dst us v res hsize hos htape hout hframe hn12 hfrom hres hback hc hok => ?_⟩
  have hlt1 : ∀ b ∈ S1, b < w'.heap.size := fun b hb => (hfrom b (List.mem_append_left _ hb)).2
  have hlt2 : ∀ b ∈ S2, b < w'.heap.size := fun b hb => (hfrom b (List.mem_append_right _ hb)).2
  split at hc
  case h_1 => cases hc
  case h_2 ub hub =>
    cases dst with
    | none =>
      simp only at hc
      cases hnd : ndist (upIds ub)
      · simp [hnd] at hc
      simp only [hnd, cond_true, Option.some.injEq, Prod.mk.injEq] at hc
      obtain ⟨rfl, rfl⟩ := hc
      have hnd' := ndist_iff.1 hnd
      obtain ⟨hci, Ps, hPs, hB⟩ := hcl w' S _ d hSonly _ S2 ub hback hlt2 hub (back_ups hok hnd')
      have hn2 := (List.nodup_append.1 hn12).2.1
      obtain ⟨g', h1, h2, h3⟩ := assembly hm hgrown hent hok hnd' hB (by rw [← hPs]; exact hn2) (by rw [← hPs]; exact fun b hb => hfrom b (List.mem_append_right _ hb)) (fun b hb => by
          obtain ⟨i, hi, hw⟩ := hSo b hb
          exact ⟨i, hci i hi, hw⟩) hSA (fun b hb => hb.imp (fun h => h) (fun h => ⟨h.1, h.2.1, fun hh => h.2.2 (List.mem_append_right _ (hPs ▸ hh))⟩)) hbd hsize hframe hos htape hout
      exact ⟨g', h1, .inl rfl⟩
    | some dst =>
      simp only at hc
      cases hnd : ndist (upIds (ub ++ (resAll d (newId dst 0) C.rs (tpFst (outRs C.rs) (outPs C.ps) y)).2))
      · simp [hnd] at hc
      simp only [hnd, cond_true, Option.some.injEq, Prod.mk.injEq] at hc
      obtain ⟨rfl, rfl⟩ := hc
      have hnd' := ndist_iff.1 hnd
      have hup := back_ups hok hnd'
      obtain ⟨hci, Ps, hPs, hB⟩ := hcl w' S _ d hSonly _ S2 ub hback hlt2 hub (fun z hz => hup z (List.mem_append_left _ hz))
      cases res with
      | false =>
        simp only [Bool.false_eq_true, if_false] at hres
        have hpl := plain_ups (d := d) (base := newId dst 0) (y := tpFst (outRs C.rs) (outPs C.ps) y) hres
        rw [hpl, List.append_nil] at hok hnd' ⊢
        have hn2 := (List.nodup_append.1 hn12).2.1
        obtain ⟨g', h1, h2, h3⟩ := assembly hm hgrown hent hok hnd' hB (by rw [← hPs]; exact hn2) (by rw [← hPs]; exact fun b hb => hfrom b (List.mem_append_right _ hb)) (fun b hb => by
            obtain ⟨i, hi, hw⟩ := hSo b hb
            exact ⟨i, hci i hi, hw⟩) hSA (fun b hb => hb.imp (fun h => h) (fun h => ⟨h.1, h.2.1, fun hh => h.2.2 (List.mem_append_right _ (hPs ▸ hh))⟩)) hbd hsize hframe hos htape hout
        exact ⟨g', h1, .inr fun h => by cases h⟩
      | true =>
        simp only [if_true] at hres
        obtain ⟨P1, e1, e2, e3⟩ := res_rel (g := g) (s := s) (w := w) (N := N) (d := d) (S := S) hres hlt1 (by simp [newId]) (fun z hz => hup z (List.mem_append_right _ hz))
        have hfl : (Ps ++ P1).flatMap (·.blocks) = S2 ++ S1 := by rw [List.flatMap_append, ← hPs, ← e1]
        have hmem : ∀ b, b ∈ S2 ++ S1 ↔ b ∈ S1 ++ S2 := fun b => by simp only [List.mem_append]; exact Or.comm
        obtain ⟨g', h1, h2, h3⟩ := assembly hm hgrown hent hok hnd' (hB.append e2) (by
            rw [hfl]
            exact (List.perm_append_comm.nodup_iff).1 hn12) (by rw [hfl]; exact fun b hb => hfrom b ((hmem b).1 hb)) (fun b hb => by
            obtain ⟨i, hi, hw⟩ := hSo b hb
            exact ⟨i, by rw [upIds_append]; exact List.mem_append_left _ (hci i hi), hw⟩) hSA (fun b hb => hb.imp (fun h => h) (fun h => ⟨h.1, h.2.1, fun hh => h.2.2 ((hmem b).1 (hfl ▸ hh))⟩)) hbd hsize hframe hos htape hout
        refine ⟨g', h1, .inr fun _ => resAV_rel (e3 g' _ h2.right fun b hb => h3 b hb.1 hb.2.1 (fun hh => hb.2.2 ((hmem b).1 (hfl ▸ hh))))⟩

/-- A call that is made. -/
theorem call_made (hm : Mem N g s w) (hgrown : N.n ≤ w.heap.size) (hent : ∀ b id, g.ω b = some id → N.F b) (hs : Sub r s) (hsl : ∀ t, AVRel g s w N (s.slot t).2 (a.tmps.getD t undef)) (hk : KeyOk r key) (hC : ∀ n C, Γ.con n = some C → Sound P n C) {t : Ty} {m : Option t.den} {plain : Bool} {skip : t.den} {cont : t.den → Option (AV × List Up)} (h : exec Γ k r key o = some (.call t m plain skip cont)) {y : t.den} (hy : m = some y) (hc : cont y = some (v, us)) (hok : upsOk s us = true)
    {K : Act → World → Prop} {Q : Exit → Act → World → Prop} (hK : ∀ g' w' v', Step N g s w g' (s.ups us) w' → (o.dst = none ∨ AVRel g' (s.ups us) w' N v v') → K (a.put o.dst v') w') : o.wp P a w K Q := by
  obtain ⟨c, f, n, C, vs, ho, hcal, hf, hvs, hcon, hdo⟩ := exec_call h
  have hfv := (opnd_rel hs hsl hk hf).1
  simp only [LfCore] at hfv
  have hav := opnds_rel hs hsl hk hvs
  unfold doCall at hdo
  split at hdo
  case h_1 => cases hdo
  case h_2 x d c0 hargs =>
    cases hdc : nmeet (dids d) c0
    case true => simp [hdc] at hdo
    simp only [hdc, cond_false] at hdo
    cases hdo
    obtain ⟨S, hA, hSn, hSA, hSlt, hbeh⟩ := call_behind hm hgrown hent hs hsl hk (C := C) hav hargs hdc
    obtain ⟨⟨fn, hfn, hbody, hname⟩, hsound⟩ := hC n C hcon
    have hcall := hsound k x y hy w (c.args.toList.map a.eval) (Av g w N d) S hA hSn hSA (fun b hb => hb.1)
    have hrun : (execOp a.eval o).run P w = .ok (.enter n (c.args.toList.map a.eval).toArray) w := by
      have hbn : fn.body.isNone = false := by
        cases hb : fn.body with
        | none => rw [hb] at hbody; cases hbody
        | some _ => rfl
      simp only [execOp, ho]
      rw [Sem.run_bind]
      simp only [resolve, hcal, hfv, Deferred.ofValue, Sem.run_pure, Result.andThen_ok, invoke, callFunc]
      rw [Sem.run_bind]
      simp only [run_program, Result.andThen_ok, hfn, hname, Bool.false_eq_true, if_false, hbn, Sem.run_pure]
      congr 2
      apply Array.ext'
      simp
    unfold Oper.wp
    rw [hrun, Oper.upon_enter]
    refine Calls.mono hcall fun e w' he => ?_
    cases e with
    | panicked ch => exact he.elim
    | outgrown => exact he.elim
    | returned u =>
      obtain ⟨h1, h2, h3, h4, h5, rv, S1, S2, h6, h7, h8, h9, h10⟩ := he
      obtain ⟨g', k1, k2⟩ := hbeh w' y S1 S2 rv o.dst us v true h1 h2 h3 h4 h5 h7 h8 (by simpa using h9) h10 hc hok
      rw [h6]
      exact hK g' w' (resVal rv) k1 (k2.imp (fun h => h) (fun h => h rfl))
/-- A call that is passed over. -/
theorem call_passed (hm : Mem N g s w) (hgrown : N.n ≤ w.heap.size) (hent : ∀ b id, g.ω b = some id → N.F b) (hs : Sub r s) (hsl : ∀ t, AVRel g s w N (s.slot t).2 (a.tmps.getD t undef)) (hk : KeyOk r key) {t : Ty} {m : Option t.den} {plain : Bool} (hpl : plain = true) {skip : t.den} {cont : t.den → Option (AV × List Up)} (h : exec Γ k r key o = some (.call t m plain skip cont)) (hc : cont skip = some (v, us)) (hok : upsOk s us = true) : ∃ g', Step N g s w g' (s.ups us) w := by
  obtain ⟨c, f, n, C, vs, ho, hcal, hf, hvs, hcon, hdo⟩ := exec_call h
  have hav := opnds_rel hs hsl hk hvs
  unfold doCall at hdo
  split at hdo
  case h_1 => cases hdo
  case h_2 x d c0 hargs =>
    cases hdc : nmeet (dids d) c0
    case true => simp [hdc] at hdo
    simp only [hdc, cond_false] at hdo
    cases hdo
    rw [Bool.and_eq_true] at hpl
    obtain ⟨S, hA, hSn, hSA, hSlt, hbeh⟩ := call_behind hm hgrown hent hs hsl hk (C := C) hav hargs hdc
    obtain ⟨g', k1, _⟩ := hbeh w (tpMk (outRs C.rs) (outPs C.ps) (outRs C.rs).dflt (skipPs C.ps x)) [] S [] o.dst us v false (Nat.le_refl _) rfl rfl rfl (fun _ _ _ => rfl) (by simpa using hSn) (fun b hb => by
        simp only [List.nil_append] at hb
        exact ⟨.inl hb, hSlt b hb⟩) (by simpa using hpl.2) (by
        rw [tpSnd_mk]
        exact skip_back hpl.1 (hA.mono fun b hb => .inl hb)) hc hok
    exact ⟨g', k1⟩
end
end Go.Proofs.XTv
/- A region in text order: what each operation did; states after some of the operations. -/
set_option linter.unusedVariables false
set_option linter.unusedSimpArgs false
set_option linter.unusedSectionVars false
namespace Go.Proofs.XTv

/-- What an operation did to a state. -/
def Did (Γ : Cx) (k : Nat) (all : List Oper) (s : St) (o : Oper) (av : AV) (us : List Up) : Prop :=
  dstLt Γ.n o.dst = true ∧ upsOk s us = true ∧ ∃ gg key, guardOf all (only s (opSlots all o) (reads s o)) o = some (gg, key) ∧
    ((∃ ok v, exec Γ k (only s (opSlots all o) (reads s o)) key o = some (.val ok v us) ∧ v.isOpt = false ∧ ((key = none ∧ ok = true ∧ av = v) ∨ ∃ ky, key = some ky ∧ us = [] ∧ (ok = true ∨ gg = false) ∧ av = .opt gg ky v)) ∨
     (∃ t m plain skip cont y v, exec Γ k (only s (opSlots all o) (reads s o)) key o = some (.call t m plain skip cont) ∧ cont y = some (v, us) ∧ v.isOpt = false ∧
       ((key = none ∧ m = some y ∧ av = v) ∨ ∃ ky, key = some ky ∧ us = [] ∧ ((gg = true ∧ m = some y) ∨ (gg = false ∧ y = skip)) ∧ av = .opt gg ky v)))

structure Rec where
  o : Oper
  sl : List Nat
  rd : List Nat
  av : AV
  us : List Up
def Rec.app (q : Rec) (i : Nat) (s : St) : St := (s.ups q.us).put q.o.dst (i + 1) q.av
def Rec.tr (q : Rec) (i : Nat) : Tr := ⟨i, q.sl, q.o.dst, q.rd, upIds q.us⟩
def trs : List Rec → Nat → Trace → Trace
  | [], _, t => t
  | q :: qs, i, t => trs qs (i + 1) (q.tr i :: t)
inductive Run (Γ : Cx) (k : Nat) (all : List Oper) : List Oper → Nat → St → List Rec → St → Prop
  | nil (i : Nat) (s : St) : Run Γ k all [] i s [] s
  | cons {o : Oper} {os : List Oper} {i : Nat} {s : St} {av : AV} {us : List Up} {qs : List Rec} {s' : St} : Did Γ k all s o av us → Run Γ k all os (i + 1) ((s.ups us).put o.dst (i + 1) av) qs s' → Run Γ k all (o :: os) i s (⟨o, opSlots all o, reads s o, av, us⟩ :: qs) s'

theorem evOps_run {ρ : Type} {Γ : Cx} {k : Nat} {all : List Oper} : ∀ {os : List Oper} {i : Nat} {s : St} {tr : Trace} {K : St → Trace → Option ρ} {x : ρ}, evOps Γ k all os i s tr K = some x → ∃ qs s', Run Γ k all os i s qs s' ∧ K s' (trs qs i tr) = some x
  | [], i, s, tr, K, x, h => ⟨[], s, .nil i s, h⟩
  | o :: os, i, s, tr, K, x, h => by
    have fin : ∀ {av : AV} {us : List Up}, Did Γ k all s o av us → evOps Γ k all os (i + 1) ((s.ups us).put o.dst (i + 1) av) (⟨i, opSlots all o, o.dst, reads s o, upIds us⟩ :: tr) K = some x → ∃ qs s', Run Γ k all (o :: os) i s qs s' ∧ K s' (trs qs i tr) = some x := by
      intro av us hd he
      obtain ⟨qs, s', h1, h2⟩ := evOps_run he
      exact ⟨_, s', .cons hd h1, h2⟩
    simp only [evOps] at h
    split at h
    case h_1 => cases h
    case h_2 g key hg =>
      have hg2 : dstLt Γ.n o.dst = true ∧ guardOf all (only s (opSlots all o) (reads s o)) o = some (g, key) := by
        cases hd : dstLt Γ.n o.dst
        · simp [hd] at hg
        · simpa [hd] using hg
      split at h
      case h_1 => cases h
      case h_2 ok v us hex =>
        cases hok2 : upsOk s us && !v.isOpt
        · simp [hok2] at h
        simp only [hok2, cond_true] at h
        simp only [Bool.and_eq_true, Bool.not_eq_true'] at hok2
        obtain ⟨hok, hno⟩ := hok2
        cases key with
        | none =>
          simp only at h
          cases ok
          · simp at h
          · exact fin ⟨hg2.1, hok, g, none, hg2.2, .inl ⟨true, v, hex, hno, .inl ⟨rfl, rfl, rfl⟩⟩⟩ h
        | some ky =>
          simp only at h
          cases us with
          | cons _ _ => simp at h
          | nil =>
            simp only at h
            cases hcnd : (bif ok then true else dnot g)
            · simp [hcnd] at h
            simp only [hcnd, cond_true] at h
            refine fin (us := []) ⟨hg2.1, hok, g, some ky, hg2.2, .inl ⟨ok, v, hex, hno, .inr ⟨ky, rfl, rfl, ?_, rfl⟩⟩⟩ h
            cases ok
            · right; simpa [dnot] using hcnd
            · exact .inl rfl
      case h_3 t m plain skip cont hex =>
        cases key with
        | none =>
          simp only at h
          cases hm : m with
          | none => rw [hm] at h; simp [obind] at h
          | some y =>
            rw [hm] at h
            simp only [obind] at h
            split at h
            case h_1 => cases h
            case h_2 v us hc =>
              cases hok2 : upsOk s us && !v.isOpt
              · simp [hok2] at h
              simp only [hok2, cond_true] at h
              simp only [Bool.and_eq_true, Bool.not_eq_true'] at hok2
              obtain ⟨hok, hno⟩ := hok2
              exact fin ⟨hg2.1, hok, g, none, hg2.2, .inr ⟨t, m, plain, skip, cont, y, v, hex, hc, hno, .inl ⟨rfl, hm, rfl⟩⟩⟩ h
        | some ky =>
          simp only at h
          cases plain
          · simp at h
          simp only [cond_true] at h
          cases hgm : (bif g then m else some skip) with
          | none => rw [hgm] at h; simp [obind] at h
          | some y =>
            rw [hgm] at h
            simp only [obind] at h
            split at h
            case h_1 => cases h
            case h_2 v us hc =>
              cases us with
              | cons _ _ => cases h
              | nil =>
              simp only at h
              cases hno : v.isOpt
              case true => simp [hno] at h
              simp only [hno, cond_false] at h
              refine fin (us := []) ⟨hg2.1, rfl, g, some ky, hg2.2, .inr ⟨t, m, true, skip, cont, y, v, hex, hc, hno, .inr ⟨ky, rfl, rfl, ?_, rfl⟩⟩⟩ h
              cases g
              · simp only [cond_false, Option.some.injEq] at hgm; exact .inr ⟨rfl, hgm.symm⟩
              · simp only [cond_true] at hgm; exact .inl ⟨rfl, hgm⟩

/-! ### What an operation sees -/
theorem reads_congr {s s' : St} {o : Oper} (hsl : ∀ t ∈ tmpsOf o.op.operands.toList, s'.slot t = s.slot t) (hrd : ∀ i ∈ reads s o, s'.root i = s.root i) : reads s' o = reads s o := by
  have ha : ∀ {l : List Operand}, (∀ t ∈ tmpsOf l, s'.slot t = s.slot t) → refsOps s' l = refsOps s l := by
    intro l
    induction l with
    | nil => intro _; rfl
    | cons x l ih =>
      intro h
      cases x with
      | tmp t =>
        simp only [tmpsOf, List.mem_cons, forall_eq_or_imp] at h
        simp only [refsOps, h.1, ih h.2]
      | _ => exact ih h
  have hb : ∀ {l : List Nat}, (∀ i ∈ l, s'.root i = s.root i) → refsRoots s' l = refsRoots s l := by
    intro l
    induction l with
    | nil => intro _; rfl
    | cons i l ih =>
      intro h
      simp only [List.mem_cons, forall_eq_or_imp] at h
      simp only [refsRoots, h.1, ih h.2]
  unfold reads at hrd ⊢
  simp only at hrd ⊢
  have e1 := ha hsl
  generalize readKind o.op = q at hrd ⊢
  match q, hrd with
  | 0, _ => rfl
  | 1, _ => exact e1
  | q + 2, hrd =>
  simp only at hrd ⊢
  have e2 : refsRoots s' (refsOps s o.op.operands.toList) = refsRoots s (refsOps s o.op.operands.toList) := hb fun i hi => hrd i (by simp [hi])
  rw [e1, e2]
  have e3 : refsRoots s' (refsRoots s (refsOps s o.op.operands.toList)) = refsRoots s (refsRoots s (refsOps s o.op.operands.toList)) := hb fun i hi => hrd i (by simp [hi])
  rw [e3]
theorem only_congr {s s' : St} {sl rd : List Nat} (hsl : ∀ t ∈ sl, s'.slot t = s.slot t) (hrd : ∀ i ∈ rd, s'.root i = s.root i ∧ s'.ver i = s.ver i) : only s' sl rd = only s sl rd := by
  unfold only
  congr 1
  · funext t
    cases h : nmem t sl
    · simp
    · simp [hsl t (nmem_iff.1 h)]
  · funext i
    cases h : nmem i rd
    · simp
    · simp [(hrd i (nmem_iff.1 h)).1]
  · funext i
    cases h : nmem i rd
    · simp
    · simp [(hrd i (nmem_iff.1 h)).2]
theorem upsOk_congr : ∀ {us : List Up} {s s' : St}, (∀ i ∈ upIds us, s'.ver i = s.ver i) → upsOk s' us = upsOk s us
  | [], _, _, _ => rfl
  | u :: us, s, s', h => by
    simp only [upIds, List.mem_cons, forall_eq_or_imp] at h
    unfold upsOk
    rw [h.1]
    rw [upsOk_congr (us := us) (s := s.up u) (s' := s'.up u) (fun i hi => by
      simp only [St.up, upd_eq]
      split
      · rfl
      · exact h.2 i hi)]
theorem Did.congr {Γ : Cx} {k : Nat} {all : List Oper} {s s' : St} {o : Oper} {av : AV} {us : List Up} (h : Did Γ k all s o av us) (hsl : ∀ t ∈ opSlots all o, s'.slot t = s.slot t) (hrd : ∀ i ∈ reads s o, s'.root i = s.root i ∧ s'.ver i = s.ver i) (hwr : ∀ i ∈ upIds us, s'.ver i = s.ver i) : Did Γ k all s' o av us := by
  have e1 : reads s' o = reads s o := reads_congr (fun t ht => hsl t (by unfold opSlots; exact List.mem_append_right _ ht)) (fun i hi => (hrd i hi).1)
  have e2 : only s' (opSlots all o) (reads s' o) = only s (opSlots all o) (reads s o) := by rw [e1]; exact only_congr hsl hrd
  unfold Did at h ⊢
  rw [e2, upsOk_congr hwr]
  exact h

/-! ### States after some of the operations -/
def foldD : List Rec → Nat → (Nat → Bool) → St → St
  | [], _, _, s => s
  | q :: qs, i, D, s => foldD qs (i + 1) D (bif D i then q.app i s else s)
theorem fold_slot {t : Nat} : ∀ {qs : List Rec} {i : Nat} {D D' : Nat → Bool} {s s' : St}, s.slot t = s'.slot t → (∀ j q, qs[j]? = some q → q.o.dst = some t → D (i + j) = D' (i + j)) → (foldD qs i D s).slot t = (foldD qs i D' s').slot t
  | [], _, _, _, _, _, h, _ => h
  | q :: qs, i, D, D', s, s', h, hd => by
    show (foldD qs (i + 1) D (bif D i then q.app i s else s)).slot t = (foldD qs (i + 1) D' (bif D' i then q.app i s' else s')).slot t
    refine fold_slot ?_ (fun j q' hj hq => by have := hd (j + 1) q' (by simpa using hj) hq; rwa [show i + 1 + j = i + (j + 1) by omega])
    by_cases hq : q.o.dst = some t
    · have := hd 0 q rfl hq
      rw [Nat.add_zero] at this
      rw [this]
      cases D' i
      · exact h
      · simp only [cond_true, Rec.app, put_slot, hq, if_pos]
    · have e : ∀ (s : St), (q.app i s).slot t = s.slot t := fun s => by simp only [Rec.app, put_slot, if_neg hq, ups_slot]
      cases D i <;> cases D' i <;> simp only [cond_true, cond_false, e, h]
theorem fold_root {r : Nat} : ∀ {qs : List Rec} {i : Nat} {D D' : Nat → Bool} {s s' : St}, (s.root r = s'.root r ∧ s.ver r = s'.ver r) → (∀ j q, qs[j]? = some q → r ∈ upIds q.us → D (i + j) = D' (i + j)) →
    (foldD qs i D s).root r = (foldD qs i D' s').root r ∧ (foldD qs i D s).ver r = (foldD qs i D' s').ver r
  | [], _, _, _, _, _, h, _ => h
  | q :: qs, i, D, D', s, s', h, hd => by
    show (foldD qs (i + 1) D (bif D i then q.app i s else s)).root r = (foldD qs (i + 1) D' (bif D' i then q.app i s' else s')).root r ∧ (foldD qs (i + 1) D (bif D i then q.app i s else s)).ver r = (foldD qs (i + 1) D' (bif D' i then q.app i s' else s')).ver r
    refine fold_root ?_ (fun j q' hj hq => by have := hd (j + 1) q' (by simpa using hj) hq; rwa [show i + 1 + j = i + (j + 1) by omega])
    by_cases hq : r ∈ upIds q.us
    · have := hd 0 q rfl hq
      rw [Nat.add_zero] at this
      rw [this]
      cases D' i
      · exact h
      · simp only [cond_true, Rec.app, put_root]
        have : ∀ {us : List Up} {s s' : St}, (s.root r = s'.root r ∧ s.ver r = s'.ver r) → ((s.ups us).root r = (s'.ups us).root r ∧ (s.ups us).ver r = (s'.ups us).ver r) := by
          intro us
          induction us with
          | nil => intro s s' h; exact h
          | cons u us ih =>
            intro s s' h
            refine ih ⟨?_, ?_⟩
            · simp only [St.up, upd_eq, h.1]
            · simp only [St.up, upd_eq, h.2]
        exact this h
    · have e : ∀ (s : St), (q.app i s).root r = s.root r ∧ (q.app i s).ver r = s.ver r := fun s => by
        simp only [Rec.app, put_root]
        exact ups_other hq
      cases D i <;> cases D' i <;> simp only [cond_true, cond_false, (e _).1, (e _).2, h, and_self]
end Go.Proofs.XTv
/- A region in any order: the operations that conflict stand in text order. -/
set_option linter.unusedVariables false
set_option linter.unusedSimpArgs false
set_option linter.unusedSectionVars false
namespace Go.Proofs.XTv

/-! ### Operations apart -/
def Free (a b : Tr) : Prop := (∀ i ∈ a.wr, i ∉ b.rd) ∧ (∀ i ∈ a.wr, i ∉ b.wr) ∧ (∀ i ∈ b.wr, i ∉ a.rd) ∧ (∀ d, a.dst = some d → d ∉ b.sl) ∧ (∀ d, b.dst = some d → d ∉ a.sl) ∧ (∀ d, a.dst = some d → b.dst ≠ some d)
theorem Free.symm {a b : Tr} (h : Free a b) : Free b a := ⟨h.2.2.1, fun i hi hj => h.2.1 i hj hi, h.1, h.2.2.2.2.1, h.2.2.2.1, fun d hb ha => h.2.2.2.2.2 d ha hb⟩
theorem free_spec {a b : Tr} (h : free a b = true) : Free a b := by
  unfold free at h
  cases h1 : nmeet a.wr b.rd
  case true => simp [h1] at h
  cases h2 : nmeet a.wr b.wr
  case true => simp [h1, h2] at h
  cases h3 : nmeet b.wr a.rd
  case true => simp [h1, h2, h3] at h
  cases h4 : dmem a.dst b.sl
  case true => simp [h1, h2, h3, h4] at h
  cases h5 : dmem b.dst a.sl
  case true => simp [h1, h2, h3, h4, h5] at h
  simp only [h1, h2, h3, h4, h5, cond_false, Bool.not_eq_true'] at h
  refine ⟨nmeet_false.1 h1, nmeet_false.1 h2, nmeet_false.1 h3, fun d hd => ?_, fun d hd => ?_, fun d hd hb => ?_⟩
  · rw [hd] at h4; exact nmem_false.1 h4
  · rw [hd] at h5; exact nmem_false.1 h5
  · rw [hd, hb] at h; simp [dbeq, Nat.beq_refl] at h
theorem apart1_spec {bs : List Nat} {a : Tr} : ∀ {t : Trace}, apart1 bs a t = true → ∀ b ∈ t, a.i = b.i ∨ ordered bs a.i b.i = true ∨ Free a b
  | [], _, b, hb => by cases hb
  | c :: t, h, b, hb => by
    unfold apart1 at h
    cases h1 : (bif Nat.beq a.i c.i then true else bif ordered bs a.i c.i then true else free a c)
    · rw [h1] at h; cases h
    rw [h1] at h
    simp only [cond_true] at h
    rcases List.mem_cons.1 hb with rfl | hb
    · cases h2 : Nat.beq a.i b.i
      · simp only [h2, cond_false] at h1
        cases h3 : ordered bs a.i b.i
        · simp only [h3, cond_false] at h1
          exact .inr (.inr (free_spec h1))
        · exact .inr (.inl rfl)
      · exact .inl (beq_iff'.1 h2)
    · exact apart1_spec h b hb
theorem apart_spec {bs : List Nat} : ∀ {t : Trace}, apartAll bs t = true → ∀ a ∈ t, ∀ b ∈ t, a.i = b.i ∨ ordered bs a.i b.i = true ∨ Free a b
  | [], _, a, ha, _, _ => by cases ha
  | c :: t, h, a, ha, b, hb => by
    unfold apartAll at h
    cases h1 : apart1 bs c t
    · simp [h1] at h
    simp only [h1, cond_true] at h
    have hsym : ∀ {x y : Nat}, ordered bs x y = true → ordered bs y x = true := fun h => by
      unfold ordered at h ⊢; rw [Bool.or_comm]; exact h
    rcases List.mem_cons.1 ha with ha' | ha'
    · rcases List.mem_cons.1 hb with hb' | hb'
      · exact .inl (by rw [ha', hb'])
      · rw [ha']; exact apart1_spec h1 b hb'
    · rcases List.mem_cons.1 hb with hb' | hb'
      · rw [hb']
        rcases apart1_spec h1 a ha' with h | h | h
        · exact .inl h.symm
        · exact .inr (.inl (hsym h))
        · exact .inr (.inr h.symm)
      · exact apart_spec h a ha' b hb'

/-! ### What stands ahead -/
theorem fold_bits {p : Edge → Bool} {f : Nat → Nat} {i : Nat} : ∀ (l : List Edge) (s : Nat), ((l.foldl (fun s e => bif p e then s ||| 2 ^ e.on ||| f e.on else s) s).testBit i = true) → s.testBit i = true ∨ ∃ e ∈ l, p e = true ∧ (e.on = i ∨ (f e.on).testBit i = true)
  | [], s, h => .inl h
  | e :: l, s, h => by
    rw [List.foldl_cons] at h
    rcases fold_bits l _ h with h1 | ⟨e', he', h1⟩
    · cases hp : p e
      · rw [hp] at h1
        exact .inl h1
      · rw [hp] at h1
        simp only [cond_true, Nat.testBit_or, Bool.or_eq_true] at h1
        rcases h1 with (h1 | h1) | h1
        · exact .inl h1
        · rw [Nat.testBit_two_pow] at h1
          exact .inr ⟨e, List.mem_cons_self .., hp, .inl (by simpa using h1)⟩
        · exact .inr ⟨e, List.mem_cons_self .., hp, .inr h1⟩
    · exact .inr ⟨e', List.mem_cons_of_mem _ he', h1⟩
theorem bits_prefix : ∀ (os : List Oper) (acc : List Nat) (i : Nat), i < acc.length → (beforeBits os acc).getD i 0 = acc.reverse.getD i 0
  | [], acc, i, h => rfl
  | o :: os, acc, i, h => by
    rw [beforeBits, bits_prefix os _ i (by simp; omega)]
    simp only [List.reverse_cons, List.getD_eq_getElem?_getD]
    rw [List.getElem?_append_left (by simpa using h)]
theorem bits_at : ∀ (os : List Oper) (acc : List Nat) (j : Nat) (o : Oper) (i : Nat), os[j]? = some o → (∀ e ∈ o.after.toList, Region.binds .any e = true → e.on < acc.length + j) → ((beforeBits os acc).getD (acc.length + j) 0).testBit i = true →
    ∃ e ∈ o.after.toList, Region.binds .any e = true ∧ (e.on = i ∨ ((beforeBits os acc).getD e.on 0).testBit i = true)
  | [], acc, j, o, i, h, _, _ => by simp at h
  | q :: os, acc, 0, o, i, h, he, hb => by
    simp only [List.getElem?_cons_zero, Option.some.injEq] at h
    subst h
    rw [Nat.add_zero, beforeBits, bits_prefix os _ acc.length (by simp)] at hb
    simp only [List.reverse_cons, List.getD_eq_getElem?_getD] at hb
    rw [List.getElem?_append_right (by simp)] at hb
    simp only [List.length_reverse, Nat.sub_self, List.getElem?_cons_zero, Option.getD_some] at hb
    rcases fold_bits (p := Region.binds .any) (f := fun n => acc.reverse[n]?.getD 0) _ _ hb with h0 | ⟨e, h1, h2, h3⟩
    · simp at h0
    · refine ⟨e, h1, h2, h3.imp (fun h => h) (fun h => ?_)⟩
      have hlt := he e h1 h2
      rw [beforeBits, bits_prefix os _ e.on (by simp; omega)]
      simp only [List.reverse_cons, List.getD_eq_getElem?_getD]
      rw [List.getElem?_append_left (by simpa using hlt)]
      exact h
  | q :: os, acc, j + 1, o, i, h, he, hb => by
    rw [beforeBits] at hb ⊢
    have := bits_at os (_ :: acc) j o i (by simpa using h) (fun e h1 h2 => by have := he e h1 h2; simp; omega) (by
      rw [List.length_cons, show acc.length + 1 + j = acc.length + (j + 1) by omega]; exact hb)
    exact this
theorem edges_spec : ∀ {os : List Oper} {i : Nat}, edgesOk os i = true → ∀ j o, os[j]? = some o → ∀ e ∈ o.after.toList, Region.binds .any e = true → e.on < i + j
  | [], _, _, j, o, ho, _, _, _ => by simp at ho
  | q :: os, i, h, j, o, ho, e, he, hb => by
    unfold edgesOk at h
    cases h1 : q.after.toList.all (fun e => !(Region.binds .any e) || Nat.blt e.on i)
    · simp [h1] at h
    simp only [h1, cond_true] at h
    cases j with
    | zero =>
      simp only [List.getElem?_cons_zero, Option.some.injEq] at ho
      subst ho
      have := List.all_eq_true.1 h1 e he
      rw [hb] at this
      have : Nat.blt e.on i = true := by simpa using this
      exact Nat.le_of_ble_eq_true this
    | succ j =>
      have := edges_spec h j o (by simpa using ho) e he hb
      omega
/-- Operations that are ordered: the one ahead comes first. -/
theorem ahead {os : List Oper} (he : edgesOk os 0 = true) : ∀ (j : Nat) (i : Nat), j < os.length → ((beforeBits os []).getD j 0).testBit i = true → i < j ∧
    ∀ D : Nat → Bool, (∀ j o, os[j]? = some o → D j = true → ∀ e ∈ o.after.toList, Region.binds .any e = true → D e.on = true) → (D j = true ∨ ∃ o, os[j]? = some o ∧ ∀ e ∈ o.after.toList, Region.binds .any e = true → D e.on = true) → D i = true := by
  intro j
  induction j using Nat.strongRecOn with
  | _ j ih =>
    intro i hj hb
    have ho : os[j]? = some os[j] := List.getElem?_eq_getElem hj
    have hed := edges_spec he j _ ho
    obtain ⟨e, h1, h2, h3⟩ := bits_at os [] j _ i ho (by simpa using hed) (by simpa using hb)
    have hlt := hed e h1 h2
    rw [Nat.zero_add] at hlt
    have step : ∀ D : Nat → Bool, (∀ j o, os[j]? = some o → D j = true → ∀ e ∈ o.after.toList, Region.binds .any e = true → D e.on = true) → (D j = true ∨ ∃ o, os[j]? = some o ∧ ∀ e ∈ o.after.toList, Region.binds .any e = true → D e.on = true) → D e.on = true := by
      rintro D hD (h | ⟨o, ho', h⟩)
      · exact hD j _ ho h e h1 h2
      · rw [ho] at ho'
        cases ho'
        exact h e h1 h2
    rcases h3 with rfl | h3
    · exact ⟨hlt, step⟩
    · obtain ⟨k1, k2⟩ := ih e.on hlt i (by omega) h3
      exact ⟨by omega, fun D hD hj' => k2 D hD (.inl (step D hD hj'))⟩

/-! ### States after some of the operations -/
theorem fold_false : ∀ {qs : List Rec} {i : Nat} {D : Nat → Bool} {s : St}, (∀ j, j < qs.length → D (i + j) = false) → foldD qs i D s = s
  | [], _, _, _, _ => rfl
  | q :: qs, i, D, s, h => by
    have h0 := h 0 (by simp)
    rw [Nat.add_zero] at h0
    simp only [foldD, h0, cond_false]
    exact fold_false fun j hj => by have := h (j + 1) (by simpa using hj); rwa [show i + 1 + j = i + (j + 1) by omega]
theorem fold_ext : ∀ {qs : List Rec} {i : Nat} {D D' : Nat → Bool} {s : St}, (∀ j, j < qs.length → D (i + j) = D' (i + j)) → foldD qs i D s = foldD qs i D' s
  | [], _, _, _, _, _ => rfl
  | q :: qs, i, D, D', s, h => by
    have h0 := h 0 (by simp)
    rw [Nat.add_zero] at h0
    simp only [foldD, h0]
    exact fold_ext fun j hj => by have := h (j + 1) (by simpa using hj); rwa [show i + 1 + j = i + (j + 1) by omega]
theorem fold_succ : ∀ {qs : List Rec} {i m : Nat} {q : Rec} {s : St}, qs[m]? = some q → foldD qs i (fun x => decide (x < i + m + 1)) s = q.app (i + m) (foldD qs i (fun x => decide (x < i + m)) s)
  | [], _, _, _, _, h => by simp at h
  | q0 :: qs, i, 0, q, s, h => by
    simp only [List.getElem?_cons_zero, Option.some.injEq] at h
    subst h
    simp only [foldD, Nat.add_zero, Nat.lt_irrefl, decide_false, cond_false, Nat.lt_succ_self, decide_true, cond_true]
    have e1 : foldD qs (i + 1) (fun x => decide (x < i + 1)) (q0.app i s) = q0.app i s := fold_false (fun j hj => by simp)
    have e2 : foldD qs (i + 1) (fun x => decide (x < i)) s = s := fold_false (fun j hj => by simp; omega)
    rw [e1, e2]
  | q0 :: qs, i, m + 1, q, s, h => by
    have e1 : decide (i < i + (m + 1) + 1) = true := by simp; omega
    have e2 : decide (i < i + (m + 1)) = true := by simp
    simp only [foldD, e1, e2, cond_true]
    have := fold_succ (qs := qs) (i := i + 1) (m := m) (q := q) (s := q0.app i s) (by simpa using h)
    rw [show i + 1 + m = i + (m + 1) by omega] at this
    exact this
/-- What each record tells. -/
theorem run_spec {Γ : Cx} {k : Nat} {all : List Oper} : ∀ {os : List Oper} {i : Nat} {s s' : St} {qs : List Rec}, Run Γ k all os i s qs s' → qs.length = os.length ∧ s' = foldD qs i (fun _ => true) s ∧
    ∀ m q, qs[m]? = some q → os[m]? = some q.o ∧ q.sl = opSlots all q.o ∧ q.rd = reads (foldD qs i (fun x => decide (x < i + m)) s) q.o ∧ Did Γ k all (foldD qs i (fun x => decide (x < i + m)) s) q.o q.av q.us := by
  intro os i s s' qs h
  induction h with
  | nil i s => exact ⟨rfl, rfl, fun m q h => by simp at h⟩
  | @cons o os i s av us qs s' hd hr ih =>
    obtain ⟨h1, h2, h3⟩ := ih
    refine ⟨by simp [h1], by rw [h2]; rfl, fun m q hq => ?_⟩
    cases m with
    | zero =>
      simp only [List.getElem?_cons_zero, Option.some.injEq] at hq
      subst hq
      have : foldD (⟨o, opSlots all o, reads s o, av, us⟩ :: qs) i (fun x => decide (x < i + 0)) s = s := fold_false fun j hj => by simp
      rw [this]
      exact ⟨rfl, rfl, rfl, hd⟩
    | succ m =>
      obtain ⟨k1, k2, k3, k4⟩ := h3 m q (by simpa using hq)
      have : foldD (⟨o, opSlots all o, reads s o, av, us⟩ :: qs) i (fun x => decide (x < i + (m + 1))) s = foldD qs (i + 1) (fun x => decide (x < i + 1 + m)) ((s.ups us).put o.dst (i + 1) av) := by
        have e2 : decide (i < i + (m + 1)) = true := by simp
        simp only [foldD, e2, cond_true, Rec.app]
        rw [show i + (m + 1) = i + 1 + m by omega]
      rw [this]
      exact ⟨by simpa using k1, k2, k3, k4⟩
theorem trs_mem : ∀ {qs : List Rec} {i : Nat} {t : Trace} {m : Nat} {q : Rec}, qs[m]? = some q → q.tr (i + m) ∈ trs qs i t
  | [], _, _, _, _, h => by simp at h
  | q0 :: qs, i, t, 0, q, h => by
    simp only [List.getElem?_cons_zero, Option.some.injEq] at h
    subst h
    have : ∀ {qs : List Rec} {i : Nat} {t : Trace} {x : Tr}, x ∈ t → x ∈ trs qs i t := by
      intro qs
      induction qs with
      | nil => intro i t x h; exact h
      | cons q qs ih => intro i t x h; exact ih (List.mem_cons_of_mem _ h)
    exact this (t := q0.tr i :: t) (List.mem_cons_self ..)
  | q0 :: qs, i, t, m + 1, q, h => by
    have := trs_mem (qs := qs) (i := i + 1) (t := q0.tr i :: t) (m := m) (q := q) (by simpa using h)
    rw [show i + 1 + m = i + (m + 1) by omega] at this
    exact this

/-- An operation that comes next, in a state after some of the others: it does what it did, and the state is the one after it as well. -/
theorem next_op {Γ : Cx} {k : Nat} {all : List Oper} {s s' : St} {qs : List Rec} (hr : Run Γ k all all 0 s qs s') {D : Nat → Bool} {m : Nat} {q : Rec} (hq : qs[m]? = some q) (hm : D m = false)
    (hc : ∀ j p, qs[j]? = some p → j ≠ m → (D j = decide (j < m) ∨ Free (p.tr j) (q.tr m))) :
    Did Γ k all (foldD qs 0 D s) q.o q.av q.us ∧ foldD qs 0 (fun x => D x || decide (x = m)) s = q.app m (foldD qs 0 D s) := by
  obtain ⟨hlen, _, hspec⟩ := run_spec hr
  obtain ⟨k1, k2, k3, k4⟩ := hspec m q hq
  rw [Nat.zero_add] at k3 k4
  -- where it looks, the state is as it was in text order
  have hDm : ∀ j p, qs[j]? = some p → ¬ Free (p.tr j) (q.tr m) → D j = decide (j < m) := fun j p hj hf => by
    by_cases he : j = m
    · subst he; simpa using hm
    · exact (hc j p hj he).resolve_right hf
  have slot : ∀ t, t ∈ q.sl → (foldD qs 0 D s).slot t = (foldD qs 0 (fun x => decide (x < m)) s).slot t := fun t ht =>
    fold_slot rfl fun j p hj hd => by
      rw [Nat.zero_add]
      exact hDm j p hj fun hf => hf.2.2.2.1 t hd ht
  have slotd : ∀ t, q.o.dst = some t → (foldD qs 0 D s).slot t = (foldD qs 0 (fun x => decide (x < m)) s).slot t := fun t ht =>
    fold_slot rfl fun j p hj hd => by
      rw [Nat.zero_add]
      exact hDm j p hj fun hf => hf.2.2.2.2.2 t hd ht
  have rootr : ∀ i, i ∈ q.rd → (foldD qs 0 D s).root i = (foldD qs 0 (fun x => decide (x < m)) s).root i ∧ (foldD qs 0 D s).ver i = (foldD qs 0 (fun x => decide (x < m)) s).ver i := fun i hi =>
    fold_root ⟨rfl, rfl⟩ fun j p hj hd => by
      rw [Nat.zero_add]
      exact hDm j p hj fun hf => hf.1 i hd hi
  have rootw : ∀ i, i ∈ upIds q.us → (foldD qs 0 D s).root i = (foldD qs 0 (fun x => decide (x < m)) s).root i ∧ (foldD qs 0 D s).ver i = (foldD qs 0 (fun x => decide (x < m)) s).ver i := fun i hi =>
    fold_root ⟨rfl, rfl⟩ fun j p hj hd => by
      rw [Nat.zero_add]
      exact hDm j p hj fun hf => hf.2.1 i hd hi
  refine ⟨k4.congr (fun t ht => slot t (k2 ▸ ht)) (fun i hi => rootr i (k3 ▸ hi)) (fun i hi => (rootw i hi).2), ?_⟩
  have hother : ∀ j p, qs[j]? = some p → j ≠ m → (D j || decide (j = m)) = D j := fun j p hj hne => by simp [hne]
  have hsucc := fold_succ (i := 0) (s := s) hq
  rw [Nat.zero_add] at hsucc
  have ext : ∀ (a b : St), (∀ t, a.slot t = b.slot t) → (∀ i, a.root i = b.root i ∧ a.ver i = b.ver i) → a = b := by
    intro a b h1 h2
    cases a; cases b
    simp only [St.mk.injEq]
    exact ⟨funext h1, funext fun i => (h2 i).1, funext fun i => (h2 i).2⟩
  refine ext _ _ (fun t => ?_) (fun i => ?_)
  · by_cases ht : q.o.dst = some t
    · have e1 : (foldD qs 0 (fun x => D x || decide (x = m)) s).slot t = (foldD qs 0 (fun x => decide (x < m + 1)) s).slot t :=
        fold_slot rfl fun j p hj hd => by
          rw [Nat.zero_add]
          by_cases he : j = m
          · subst he; simp
          · have := hDm j p hj fun hf => hf.2.2.2.2.2 t hd ht
            rw [this]; simp [he]; omega
      rw [e1, hsucc]
      simp only [Rec.app, put_slot, if_pos ht]
    · have e1 : (foldD qs 0 (fun x => D x || decide (x = m)) s).slot t = (foldD qs 0 D s).slot t :=
        fold_slot rfl fun j p hj hd => by
          rw [Nat.zero_add]
          have hne : j ≠ m := by
            rintro rfl
            rw [hj] at hq; cases hq
            exact ht hd
          exact hother j p hj hne
      rw [e1]
      simp only [Rec.app, put_slot, if_neg ht, ups_slot]
  · by_cases hi : i ∈ upIds q.us
    · have e1 := fold_root (r := i) (qs := qs) (i := 0) (D := fun x => D x || decide (x = m)) (D' := fun x => decide (x < m + 1)) (s := s) (s' := s) ⟨rfl, rfl⟩ (fun j p hj hd => by
          rw [Nat.zero_add]
          by_cases he : j = m
          · subst he; simp
          · have := hDm j p hj fun hf => hf.2.1 i hd hi
            rw [this]; simp [he]; omega)
      rw [e1.1, e1.2, hsucc]
      simp only [Rec.app, put_root]
      have hw := rootw i hi
      have : ∀ {us : List Up} {a b : St}, (a.root i = b.root i ∧ a.ver i = b.ver i) → ((a.ups us).root i = (b.ups us).root i ∧ (a.ups us).ver i = (b.ups us).ver i) := by
        intro us
        induction us with
        | nil => intro a b h; exact h
        | cons u us ih =>
          intro a b h
          refine ih ⟨?_, ?_⟩
          · simp only [St.up, upd_eq, h.1]
          · simp only [St.up, upd_eq, h.2]
      have h9 := this (us := q.us) hw
      exact ⟨h9.1.symm, h9.2.symm⟩
    · have e1 := fold_root (r := i) (qs := qs) (i := 0) (D := fun x => D x || decide (x = m)) (D' := D) (s := s) (s' := s) ⟨rfl, rfl⟩ (fun j p hj hd => by
          rw [Nat.zero_add]
          have hne : j ≠ m := by
            rintro rfl
            rw [hj] at hq; cases hq
            exact hi hd
          exact hother j p hj hne)
      rw [e1.1, e1.2]
      simp only [Rec.app, put_root]
      have := ups_other (s := foldD qs 0 D s) hi
      exact ⟨this.1.symm, this.2.symm⟩
end Go.Proofs.XTv
/- A region: the machine's run of it, in any order, comes to what the evaluator says. -/
set_option linter.unusedVariables false
set_option linter.unusedSimpArgs false
set_option linter.unusedSectionVars false
namespace Go.Proofs.XTv

/-- No guarded value stands in a slot, none has a writer. -/
def Flat (s : St) : Prop := ∀ t, (s.slot t).1 = 0 ∧ ∀ gg k v, (s.slot t).2 ≠ .opt gg k v
theorem norm_flat (s : St) : Flat (norm s) := fun t => by
  refine ⟨rfl, fun gg k v h => ?_⟩
  simp only [norm] at h
  split at h
  · cases h
  · rename_i hne; exact hne _ _ _ h
def gval (qs : List Rec) (key : Nat × Bool) : Option Bool := match qs[key.1]? with
  | some p => match p.av with
    | .one (.bool b) => some (bif key.2 then b else dnot b)
    | .opt g _ (.one (.bool b)) => some (dand g (bif key.2 then b else dnot b))
    | _ => none
  | none => none
def TagOk (qs : List Rec) (s : St) : Prop := ∀ t, ((s.slot t).1 = 0 ∧ ∀ gg k v, (s.slot t).2 ≠ .opt gg k v) ∨ ∃ j q, qs[j]? = some q ∧ s.slot t = (j + 1, q.av)
theorem fold_tag : ∀ {qs : List Rec} {i : Nat} {D : Nat → Bool} {s : St} (t : Nat), (foldD qs i D s).slot t = s.slot t ∨ ∃ j q, qs[j]? = some q ∧ (foldD qs i D s).slot t = (i + j + 1, q.av)
  | [], _, _, _, _ => .inl rfl
  | q :: qs, i, D, s, t => by
    rcases fold_tag (qs := qs) (i := i + 1) (D := D) (s := bif D i then q.app i s else s) t with h | ⟨j, p, h1, h2⟩
    · have hf : (foldD (q :: qs) i D s).slot t = (bif D i then q.app i s else s).slot t := h
      cases hD : D i
      · left; rw [hf, hD]; rfl
      · rw [hD] at hf
        simp only [cond_true] at hf
        by_cases hd : q.o.dst = some t
        · right
          refine ⟨0, q, rfl, ?_⟩
          rw [hf]; simp only [Rec.app, put_slot, if_pos hd, Nat.add_zero]
        · left
          rw [hf]; simp only [Rec.app, put_slot, if_neg hd, ups_slot]
    · right
      exact ⟨j + 1, p, by simpa using h1, by simp only [foldD]; rw [h2]; congr 1; omega⟩
theorem tag_ok {qs : List Rec} {D : Nat → Bool} {s : St} (hf : Flat s) : TagOk qs (foldD qs 0 D s) := fun t => by
  rcases fold_tag (qs := qs) (i := 0) (D := D) (s := s) t with h | ⟨j, p, h1, h2⟩
  · left; rw [h]; exact hf t
  · right; exact ⟨j, p, h1, by rw [h2]; simp⟩
/-- A guard's value. -/
theorem guard_val {all : List Oper} {s : St} {sl rd : List Nat} {o : Oper} {gg : Bool} {key : Option (Nat × Bool)} {qs : List Rec} (ht : TagOk qs s) (h : guardOf all (only s sl rd) o = some (gg, key)) :
    (o.guard = none ∧ gg = true ∧ key = none) ∨ ∃ j want d, o.guard = some (j, want) ∧ key = some (j, want) ∧ (all[j]?).bind (·.dst) = some d ∧ gval qs (j, want) = some gg ∧
      ((∃ b, (s.slot d).2 = .one (.bool b) ∧ gg = (bif want then b else dnot b)) ∨ ∃ g k b, (s.slot d).2 = .opt g k (.one (.bool b)) ∧ gg = dand g (bif want then b else dnot b)) := by
  unfold guardOf at h
  split at h
  · rename_i hg
    simp only [Option.some.injEq, Prod.mk.injEq] at h
    exact .inl ⟨hg, h.1.symm, h.2.symm⟩
  · rename_i j want hg
    right
    split at h
    · cases h
    · rename_i d hd
      cases hb : Nat.beq ((only s sl rd).slot d).1 (j + 1)
      · simp [hb] at h
      simp only [hb, cond_true] at h
      have htag := beq_iff'.1 hb
      have hslot : (only s sl rd).slot d = s.slot d := by
        simp only [only] at htag ⊢
        cases hm : nmem d sl
        · simp [hm] at htag
        · simp
      rw [hslot] at htag h
      have hq : ∃ q, qs[j]? = some q ∧ (s.slot d).2 = q.av := by
        rcases ht d with ⟨h0, _⟩ | ⟨j', q, h1, h2⟩
        · omega
        · rw [h2] at htag
          simp only at htag
          have : j' = j := by omega
          subst this
          exact ⟨q, h1, by rw [h2]⟩
      obtain ⟨q, hq1, hq2⟩ := hq
      split at h
      · rename_i b hs
        simp only [Option.some.injEq, Prod.mk.injEq] at h
        refine ⟨j, want, d, hg, h.2.symm, hd, ?_, .inl ⟨b, hs, h.1.symm⟩⟩
        simp only [gval, hq1, ← hq2, hs, h.1]
      · rename_i g k b hs
        simp only [Option.some.injEq, Prod.mk.injEq] at h
        refine ⟨j, want, d, hg, h.2.symm, hd, ?_, .inr ⟨g, k, b, hs, h.1.symm⟩⟩
        simp only [gval, hq1, ← hq2, hs, h.1]
      · cases h
def VOk (qs : List Rec) : Prop := ∀ (j : Nat) (q : Rec) (gg : Bool) (ky : Nat × Bool) (v : AV), qs[j]? = some q → q.av = AV.opt gg ky v → gval qs ky = some gg
section
variable {P : Program} {Γ : Cx} {g g' : G} {r s s' : St} {w w' : World} {N : Bd} {n : Nat} {a : Act} {E : Env} {k : Nat}

theorem keyOk_of {qs : List Rec} (ht : TagOk qs s) (hv : VOk qs) {sl rd : List Nat} {key : Option (Nat × Bool)} (hk : ∀ ky, key = some ky → gval qs ky = some true) : KeyOk (only s sl rd) key := by
  intro t gg kk v hslot k' hkey hq
  have hslot' : s.slot t = (only s sl rd).slot t := by
    simp only [only] at hslot ⊢
    cases hm : nmem t sl
    · simp [hm] at hslot
    · simp
  rw [← hslot'] at hslot
  have hkk : kk = k' := by
    unfold keyEq at hq
    cases h1 : Nat.beq kk.1 k'.1
    · simp [h1] at hq
    · simp only [h1, cond_true, beq_iff_eq] at hq
      exact Prod.ext (beq_iff'.1 h1) hq
  subst hkk
  rcases ht t with ⟨_, h⟩ | ⟨j, q, h1, h2⟩
  · exact absurd hslot (h _ _ _)
  · rw [h2] at hslot
    have e1 := hv j q gg kk v h1 hslot
    rw [hk kk hkey] at e1
    cases e1; rfl
theorem pickOk_of {qs : List Rec} (ht : TagOk qs s) (hv : VOk qs) {sl rd : List Nat} : PickOk (only s sl rd) := by
  intro t gg kk v hslot u hu
  have real : ∀ x, ((only s sl rd).slot x ≠ (0, .one .junk)) → s.slot x = (only s sl rd).slot x := by
    intro x hx
    simp only [only] at hx ⊢
    cases hm : nmem x sl
    · simp [hm] at hx
    · simp
  have e1 := real t (fun h => by rw [h] at hslot; cases hslot)
  have e2 := real u (fun h => by rw [h] at hu; simp at hu)
  rw [← e1] at hslot
  rw [← e2] at hu ⊢
  rcases ht t with ⟨_, h⟩ | ⟨j, q, h1, h2⟩
  · exact absurd hslot (h _ _ _)
  · rw [h2] at hslot
    have hg := hv j q gg kk v h1 hslot
    rcases ht u with ⟨h0, _⟩ | ⟨j', q', h1', h2'⟩
    · omega
    · rw [h2'] at hu ⊢
      simp only at hu
      have : j' = kk.1 := by omega
      subst this
      simp only [gval, h1'] at hg
      split at hg
      · rename_i b hb; rw [hb]; simpa using hg.symm
      · rename_i g0 k0 b hb; rw [hb]; simpa using hg.symm
      · cases hg

theorem Inv.still (inv : Inv E n g s a w) (h : Step E.N g s w g' s' w') (hsl : s'.slot = s.slot) : Inv E n g' s' a w' := by
  have := inv.step h hsl (d := none) (tag := 0) (v := .one .junk) (v' := undef) ⟨trivial, fun h => by cases h⟩ rfl
  exact this

/-- One operation, as the machine runs it. -/
theorem op_sound (hΓ : CxOk P Γ) (hC : ∀ n C, Γ.con n = some C → Sound P n C) {ops : Array Oper} {qs : List Rec} (ht : TagOk qs s) (hv : VOk qs) (inv : Inv E Γ.n g s a w) {o : Oper} {av : AV} {us : List Up} {m : Nat} (hm : ops[m]? = some o) (hd : Did Γ k ops.toList s o av us)
    {K : Act → World → Prop} {Q : Exit → Act → World → Prop} (hK : ∀ g' a' w', Inv E Γ.n g' ((s.ups us).put o.dst (m + 1) av) a' w' → K a' w') : wpOp P ops Q m K a w := by
  obtain ⟨hdst, hups, gg, key, hguard, hdo⟩ := hd
  have hgrown : E.N.n ≤ w.heap.size := inv.grown
  have hsub := only_sub s (opSlots ops.toList o) (reads s o)
  have hgv := guard_val ht hguard
  -- where it is wanted
  have made : gg = true → (∀ ky, key = some ky → gval qs ky = some true) → o.wp P a w K Q := by
    intro hgg hky
    have hkey := keyOk_of (sl := opSlots ops.toList o) (rd := reads s o) (key := key) ht hv hky
    have hpick := pickOk_of (sl := opSlots ops.toList o) (rd := reads s o) ht hv
    -- the value that is put
    have put : ∀ {v : AV} {g' : G} {w' : World} {v' : Value}, Step E.N g s w g' (s.ups us) w' → (o.dst = none ∨ AVRel g' (s.ups us) w' E.N v v') → (av = v ∨ ∃ ky, av = .opt true ky v) → K (a.put o.dst v') w' := by
      intro v g' w' v' hst hav hop
      refine hK g' _ _ ?_
      rcases hav with hn | hav
      · rw [hn]
        have := inv.still hst (ups_slot us s)
        exact this
      · refine inv.step hst (ups_slot us s) ?_ hdst
        rcases hop with rfl | ⟨ky, rfl⟩
        · exact hav
        · exact ⟨fun _ => hav, fun h => by cases h⟩
    rcases hdo with ⟨ok, v, hex, hno, hcase⟩ | ⟨t, mm, plain, skip, cont, y, v, hex, hcont, hno, hcase⟩
    · have hok : ok = true ∧ (av = v ∨ ∃ ky, av = .opt true ky v) := by
        rcases hcase with ⟨_, h1, h2⟩ | ⟨ky, _, _, h1, h2⟩
        · exact ⟨h1, .inl h2⟩
        · refine ⟨?_, .inr ⟨ky, by rw [h2, hgg]⟩⟩
          rcases h1 with h1 | h1
          · exact h1
          · rw [hgg] at h1; cases h1
      obtain ⟨g', w', v', hrun, hst, hav⟩ := acts_all (P := P) hΓ inv.mem hsub inv.slots hkey hgrown hpick hex hok.1 hups
      unfold Oper.wp
      rcases hrun with hrun | ⟨hrun, rfl⟩
      · rw [hrun, Oper.upon_value]
        exact put hst (.inr hav) hok.2
      · rw [hrun, Oper.upon_skip]
        exact put hst (.inr hav) hok.2
    · have hy : mm = some y ∧ (av = v ∨ ∃ ky, av = .opt true ky v) := by
        rcases hcase with ⟨_, h1, h2⟩ | ⟨ky, _, _, h1, h2⟩
        · exact ⟨h1, .inl h2⟩
        · refine ⟨?_, .inr ⟨ky, by rw [h2, hgg]⟩⟩
          rcases h1 with h1 | h1
          · exact h1.2
          · rw [hgg] at h1; cases h1.1
      exact call_made inv.mem hgrown inv.entry hsub inv.slots hkey hC hex hy.1 hcont hups (fun g' w' v' hst hav => put hst hav hy.2)
  unfold wpOp
  rw [hm]
  simp only
  rcases hgv with ⟨hg, hgg, hkey⟩ | ⟨j, want, d, hg, hkey, hd, hval, hcont⟩
  · have hw : Region.wanted o (yielded ops a.tmps) = true := by simp [Region.wanted, hg]
    rw [if_pos hw]
    exact .inl (made hgg (fun ky h => by rw [hkey] at h; cases h))
  · have hdd : (ops[j]?).bind (·.dst) = some d := by simpa using hd
    have hsl := inv.slots d
    have hy : Region.wanted o (yielded ops a.tmps) = gg := by
      simp only [Region.wanted, hg]
      have : yielded ops a.tmps j = match a.tmps.getD d undef with | .bool b => some b | _ => none := by
        simp only [yielded, hdd, Option.bind_some, Array.getD_eq_getD_getElem?]
        cases a.tmps[d]? with
        | none => rfl
        | some v => cases v <;> rfl
      rw [this]
      rcases hcont with ⟨b, h1, h2⟩ | ⟨g0, k0, b, h1, h2⟩
      · rw [h1] at hsl
        have := hsl.1
        simp only [LfCore] at this
        rw [this, h2]
        cases want <;> cases b <;> rfl
      · rw [h1] at hsl
        cases g0
        · rw [hsl.2 rfl, h2]
          cases want <;> cases b <;> rfl
        · have := (hsl.1 rfl).1
          simp only [LfCore] at this
          rw [this, h2]
          cases want <;> cases b <;> rfl
    rw [hy]
    cases hgg : gg
    · simp only [Bool.false_eq_true, if_false]
      -- passed over
      rcases hdo with ⟨ok, v, hex, hno, hcase⟩ | ⟨t, mm, plain, skip, cont, y, v, hex, hcont', hno, hcase⟩
      · rcases hcase with ⟨h0, _⟩ | ⟨ky, _, rfl, _, rfl⟩
        · rw [hkey] at h0; cases h0
        · refine hK g _ _ (inv.step (Step.refl inv.mem) rfl ?_ hdst)
          rw [hgg]
          exact ⟨(fun h => by cases h), fun _ => rfl⟩
      · rcases hcase with ⟨h0, _⟩ | ⟨ky, hky, rfl, h1, rfl⟩
        · rw [hkey] at h0; cases h0
        · refine hK g _ _ (inv.step (Step.refl inv.mem) rfl ?_ hdst)
          rw [hgg]
          exact ⟨(fun h => by cases h), fun _ => rfl⟩
    · simp only [if_true]
      exact .inl (made hgg (fun ky h => by
        rw [hkey] at h
        cases h
        rw [hval, hgg]))
end
end Go.Proofs.XTv
/- A region, run by the machine. -/
set_option linter.unusedVariables false
set_option linter.unusedSimpArgs false
set_option linter.unusedSectionVars false
namespace Go.Proofs.XTv

section
variable {P : Program} {Γ : Cx} {g g' : G} {r s s' : St} {w w' : World} {N : Bd} {n : Nat} {a : Act} {E : Env} {k : Nat}

theorem vok_of {all : List Oper} {qs : List Rec} (hr : Run Γ k all all 0 s qs s') (hf : Flat s) : VOk qs := by
  intro j q gg ky v hq hav
  obtain ⟨_, _, _, _, _, gg', key, hg, hdo⟩ := (run_spec hr).2.2 j q hq
  have ht : TagOk qs (foldD qs 0 (fun x => decide (x < 0 + j)) s) := tag_ok hf
  have fin : ∀ ky', key = some ky' → q.av = .opt gg' ky' v ∨ (∃ v', q.av = .opt gg' ky' v') → gval qs ky = some gg := by
    intro ky' hkey h
    have : gg' = gg ∧ ky' = ky := by
      rcases h with h | ⟨v', h⟩ <;> (rw [hav] at h; cases h; exact ⟨rfl, rfl⟩)
    obtain ⟨rfl, rfl⟩ := this
    rcases guard_val ht hg with ⟨_, _, h0⟩ | ⟨j', want, d, _, h1, _, h2, _⟩
    · rw [hkey] at h0; cases h0
    · rw [hkey] at h1; cases h1
      exact h2
  rcases hdo with ⟨ok, v1, _, hno, ⟨_, _, h⟩ | ⟨ky', h1, _, _, h⟩⟩ | ⟨t, m, plain, skip, cont, y, v1, _, _, hno, ⟨_, _, h⟩ | ⟨ky', h1, _, _, h⟩⟩
  · rw [hav] at h; subst h; simp [AV.isOpt] at hno
  · exact fin ky' h1 (.inr ⟨_, h⟩)
  · rw [hav] at h; subst h; simp [AV.isOpt] at hno
  · exact fin ky' h1 (.inr ⟨_, h⟩)

theorem inv_norm (inv : Inv E n g s a w) : Inv E n g (norm s) a w := by
  have hids : ∀ id, (norm s).root id = s.root id ∧ (norm s).ver id = s.ver id := fun id => ⟨rfl, rfl⟩
  have hm : Mem E.N g (norm s) w := by
    have := inv.mem
    refine ⟨this.zero, this.flat, fun id q hq => ?_, this.own⟩
    obtain ⟨h1, h2⟩ := this.roots id q hq
    refine ⟨h1, ?_⟩
    cases q with
    | box ls =>
      obtain ⟨b, c, T, e1, e2, e3, e4⟩ := h2
      exact ⟨b, c, T, e1, e2, e3, e4.imp fun l v _ hl => hl.slots hids⟩
    | arr e xs deep d' => exact h2
  refine ⟨hm, fun t => ?_, inv.size, inv.defers, inv.os, inv.tape, inv.output, inv.grown, inv.frame, inv.entry, inv.pins⟩
  have := inv.slots t
  simp only [norm]
  split
  · exact ⟨trivial, fun h => by cases h⟩
  · exact AVRel.of_lf (fun l v hl => hl.slots hids) this
theorem inv_drew (inv : Inv E n g s a w) : Inv E n g s a { w with drawn := w.drawn + 1 } :=
  inv.still (step_grow inv.mem (Nat.le_refl _) (fun _ _ => rfl) rfl rfl rfl) rfl

variable (hΓ : CxOk P Γ) (hC : ∀ n C, Γ.con n = some C → Sound P n C)

/-- The operation that comes next. -/
theorem next_sound (hΓ : CxOk P Γ) (hC : ∀ n C, Γ.con n = some C → Sound P n C) {ops : Array Oper} {qs : List Rec} (hr : Run Γ k ops.toList ops.toList 0 s qs s') (hf : Flat s) {D : Nat → Bool} {m : Nat} (hlt : m < ops.size) (hD : D m = false)
    (hc : ∀ j p q, qs[j]? = some p → qs[m]? = some q → j ≠ m → (D j = decide (j < m) ∨ XTv.Free (p.tr j) (q.tr m))) {a : Act} {w : World} {g : G} (inv : Inv E Γ.n g (foldD qs 0 D s) a w) {K : Act → World → Prop} {Q : Exit → Act → World → Prop}
    (hK : ∀ g' a' w', Inv E Γ.n g' (foldD qs 0 (fun x => D x || decide (x = m)) s) a' w' → K a' w') : wpOp P ops Q m K a w := by
  obtain ⟨hlen, _, hspec⟩ := run_spec hr
  have hlt' : m < qs.length := by rw [hlen]; simpa using hlt
  have hq : qs[m]? = some qs[m] := List.getElem?_eq_getElem hlt'
  obtain ⟨h1, h2⟩ := next_op hr hq hD (fun j p hj hne => hc j p _ hj hq hne)
  obtain ⟨ho, _⟩ := hspec m _ hq
  refine op_sound hΓ hC (tag_ok hf) (vok_of hr hf) inv (by simpa using ho) h1 (fun g' a' w' h => hK g' a' w' ?_)
  rw [h2]
  exact h

theorem region_sound (hΓ : CxOk P Γ) (hC : ∀ n C, Γ.con n = some C → Sound P n C) {ops : Array Oper} {draw : Bool} {id : Nat} (hmix : P.follows .mixedOrders = true) {ρ : Type} {K : St → Option ρ} {x : ρ} (h : evRegion Γ k ops.toList draw s K = some x) (hf : Flat s) (inv : Inv E Γ.n g s a w) :
    ∃ s', K s' = some x ∧ XTv.Flat s' ∧ (Code.region id ops draw).wp P (fun e a' w' => e = .normal ∧ ∃ g', Inv E Γ.n g' s' a' w') a w := by
  obtain ⟨qs, s1, hr, hk⟩ := evOps_run h
  obtain ⟨hlen, hs1, hspec⟩ := run_spec hr
  have hlen' : qs.length = ops.size := by rw [hlen]; simp
  cases hcond : (bif draw then edgesOk ops.toList 0 && apartAll (beforeBits ops.toList []) (trs qs 0 []) else true)
  · rw [hcond] at hk; cases hk
  rw [hcond] at hk
  refine ⟨norm s1, hk, norm_flat s1, ?_⟩
  cases draw with
  | false =>
    refine wp_region ?_
    have key : ∀ (m c : Nat), m + c = ops.size → ∀ (g : G) (a : Act) (w : World), Inv E Γ.n g (foldD qs 0 (fun x => decide (x < m)) s) a w →
        wpOps P ops (fun e a' w' => e = .normal ∧ ∃ g', Inv E Γ.n g' (norm s1) a' w') (List.range' m c) a w := by
      intro m c
      induction c generalizing m with
      | zero =>
        intro hm g a w inv
        simp only [List.range'_zero, wpOps]
        refine ⟨trivial, g, inv_norm ?_⟩
        rw [hs1, fold_ext (D := fun _ => true) (D' := fun x => decide (x < m)) (fun j hj => by simp; omega)]
        exact inv
      | succ c ih =>
        intro hm g a w inv
        rw [List.range'_succ, wpOps_cons]
        refine next_sound hΓ hC hr hf (D := fun x => decide (x < m)) (by omega) (by simp) (fun j p q _ _ hne => .inl rfl) inv (fun g' a' w' inv' => ih (m + 1) (by omega) g' a' w' ?_)
        have : (fun x => decide (x < m) || decide (x = m)) = fun x => decide (x < m + 1) := by
          funext x
          rw [← Bool.decide_or, decide_eq_decide]; omega
        rw [this] at inv'
        exact inv'
    rw [List.range_eq_range']
    refine key 0 ops.size (by omega) g a w ?_
    rw [fold_false (fun j hj => by simp)]
    exact inv
  | true =>
    simp only [cond_true, Bool.and_eq_true] at hcond
    obtain ⟨hedges, hapart⟩ := hcond
    refine wp_region_any hmix ?_
    have hap := apart_spec hapart
    -- the masks
    have key : ∀ (fuel : Nat) (listed : Array Bool) (a : Act) (w : World) (g : G), listed.size = ops.size →
        (∀ j o, ops.toList[j]? = some o → listed.getD j false = true → ∀ e ∈ o.after.toList, Region.binds .any e = true → listed.getD e.on false = true) →
        Inv E Γ.n g (foldD qs 0 (fun x => listed.getD x false) s) a w → ((List.range ops.size).filter fun j => !listed.getD j false).length ≤ fuel →
        wpAny P .any ops (fun e a' w' => e = .normal ∧ ∃ g', Inv E Γ.n g' (norm s1) a' w') fuel listed a w := by
      -- nothing is ready only where all are listed
      have done : ∀ (listed : Array Bool), listed.size = ops.size → (∀ j o, ops.toList[j]? = some o → listed.getD j false = true → ∀ e ∈ o.after.toList, Region.binds .any e = true → listed.getD e.on false = true) →
          Region.ready .any ops listed = [] → ∀ j, j < ops.size → listed.getD j false = true := by
        intro listed hsz hdown hready j
        induction j using Nat.strongRecOn with
        | _ j ih =>
          intro hj
          cases hjl : listed.getD j false with
          | true => rfl
          | false =>
            exfalso
            have hmem : j ∈ Region.ready .any ops listed := by
              rw [mem_ready]
              refine ⟨?_, ops[j], by simp [hj], fun e he hb => ?_⟩
              · have hjs : j < listed.size := by omega
                simpa [hjs] using hjl
              · have := edges_spec hedges j ops[j] (by simp [hj]) e (by simpa using he) hb
                exact ih e.on (by omega) (by omega)
            rw [hready] at hmem
            cases hmem
      have fin : ∀ (listed : Array Bool) (a : Act) (w : World) (g : G), (∀ j, j < ops.size → listed.getD j false = true) → Inv E Γ.n g (foldD qs 0 (fun x => listed.getD x false) s) a w →
          (fun e a' w' => e = Exit.normal ∧ ∃ g', Inv E Γ.n g' (norm s1) a' w') Exit.normal a w := by
        intro listed a w g hall inv
        refine ⟨rfl, g, inv_norm ?_⟩
        rw [hs1, fold_ext (D := fun _ => true) (D' := fun x => listed.getD x false) (fun j hj => by rw [Nat.zero_add]; exact (hall j (by omega)).symm)]
        exact inv
      intro fuel
      induction fuel with
      | zero =>
        intro listed a w g hsz hdown inv hfuel
        have hall : ∀ j, j < ops.size → listed.getD j false = true := by
          intro j hj
          have h0 : ((List.range ops.size).filter fun j => !listed.getD j false) = [] := List.eq_nil_of_length_eq_zero (by omega)
          rw [List.filter_eq_nil_iff] at h0
          have := h0 j (List.mem_range.2 hj)
          simpa using this
        refine ⟨?_, fin listed a w g hall inv⟩
        rw [List.eq_nil_iff_forall_not_mem]
        intro j hj
        rw [mem_ready] at hj
        obtain ⟨h1, o, h2, _⟩ := hj
        have hjlt : j < ops.size := (Array.getElem?_eq_some_iff.1 h2).1
        have h3 := hall j hjlt
        have hjs : j < listed.size := by omega
        simp [hjs] at h1 h3
        rw [h1] at h3; cases h3
      | succ fuel ih =>
        intro listed a w g hsz hdown inv hfuel
        refine ⟨fun hready => fin listed a w g (done listed hsz hdown hready) inv, fun i hi => ?_⟩
        rw [mem_ready] at hi
        obtain ⟨h1, o, h2, h3⟩ := hi
        have hilt : i < ops.size := (Array.getElem?_eq_some_iff.1 h2).1
        have his : i < listed.size := by omega
        have hif : listed.getD i false = false := by simpa [his] using h1
        have hol : ops.toList[i]? = some o := by simpa using h2
        refine next_sound hΓ hC hr hf (D := fun x => listed.getD x false) hilt hif (fun j p q hp hq hne => ?_) inv (fun g' a' w' inv' => ih _ a' w' g' (by simpa using hsz) (fun j o' ho' hj e he hb => ?_) ?_ ?_)
        · have hjlt : j < ops.size := by
            have := (List.getElem?_eq_some_iff.1 hp).1; omega
          rcases hap _ (trs_mem (i := 0) (t := []) hp) _ (trs_mem (i := 0) (t := []) hq) with h | h | h
          · simp only [Rec.tr] at h; omega
          · left
            simp only [Rec.tr, Nat.zero_add, ordered, Bool.or_eq_true] at h
            rcases h with h | h
            · -- i stands after j
              obtain ⟨k1, k2⟩ := ahead hedges i j (by simpa using hilt) h
              have := k2 (fun x => listed.getD x false) hdown (.inr ⟨o, hol, fun e he hb => h3 e (by simpa using he) hb⟩)
              rw [show listed.getD j false = true from this]; simp [k1]
            · obtain ⟨k1, k2⟩ := ahead hedges j i (by simpa using hjlt) h
              cases hjl : listed.getD j false with
              | false => simp; omega
              | true =>
                have := k2 (fun x => listed.getD x false) hdown (.inl hjl)
                have this : listed.getD i false = true := this
                rw [hif] at this; cases this
          · exact .inr (by simpa [Rec.tr] using h)
        · by_cases hij : i = j
          · subst hij
            rw [hol] at ho'; cases ho'
            exact getD_set_true (h3 e (by simpa using he) hb)
          · rw [getD_set_ne false hij] at hj
            exact getD_set_true (hdown j o' ho' hj e he hb)
        · rw [fold_ext (D := fun x => (listed.setIfInBounds i true).getD x false) (D' := fun x => listed.getD x false || decide (x = i)) (fun j hj => by
            rw [Nat.zero_add]
            by_cases hij : i = j
            · subst hij; simp [his]
            · rw [getD_set_ne false hij]; simp [Ne.symm hij])]
          exact inv'
        · have hsub : ((List.range ops.size).filter fun j => !(listed.setIfInBounds i true).getD j false) = ((List.range ops.size).filter fun j => !listed.getD j false).erase i := by
            rw [List.Nodup.erase_eq_filter (List.filter_sublist.nodup List.nodup_range), List.filter_filter]
            refine List.filter_congr fun j hj => ?_
            by_cases hij : i = j
            · subst hij; simp [his]
            · rw [getD_set_ne false hij]
              have : (j != i) = true := by simpa using Ne.symm hij
              rw [this, Bool.true_and]
          rw [hsub, List.length_erase_of_mem]
          · omega
          · rw [List.mem_filter]
            exact ⟨List.mem_range.2 hilt, by rw [hif]; rfl⟩
    refine key ops.size (Array.replicate ops.size false) a _ g (by simp) (fun j o ho hj => ?_) ?_ ?_
    · exfalso
      rw [Array.getD_eq_getD_getElem?, Array.getElem?_replicate] at hj
      split at hj <;> simp at hj
    · rw [fold_false (fun j hj => by
        rw [Array.getD_eq_getD_getElem?, Array.getElem?_replicate]
        split <;> rfl)]
      exact inv_drew inv
    · exact Nat.le_trans (List.length_filter_le _ _) (by simp)
end
end Go.Proofs.XTv
/- A text of code: the machine's run of it comes to what the evaluator says. -/
set_option linter.unusedVariables false
set_option linter.unusedSimpArgs false
set_option linter.unusedSectionVars false
namespace Go.Proofs.XTv

def keyExit : ExitKey → Exit
  | .normal => .normal
  | .exit id => .exit id
  | .ret => .ret
/-- What a text of code is to come to. -/
def Comes' {ρ : Type} (E : Env) (n : Nat) (K : ExitKey → St → Option ρ) (x : ρ) (e : Exit) (a : Act) (w : World) : Prop :=
  ∃ key s', e = keyExit key ∧ K key s' = some x ∧ Flat s' ∧ ∃ g', Inv E n g' s' a w
/-- A loop's form may stand for the state. -/
def MkOk (E : Env) (n : Nat) (pins : List Nat) : Prop := ∀ (h : Shape) (s : St) (d : h.ty.den) (g : G) (a : Act) (w : World), un pins h s = some d → Flat s → Inv E n g s a w → ∃ g', Inv E n g' (mk h d) a w ∧ Flat (mk h d)

section
variable {P : Program} {Γ : Cx} {E : Env} {k : Nat} {pins : List Nat}

theorem unEx_out {ρ : Type} {K : ExitKey → St → Option ρ} {x : ρ} : ∀ {l : List (ExitKey × Shape)} {key : ExitKey} {s : St} {e : exTy l}, unEx pins l key s = some e → outEx K l e = some x → ∃ h d, un pins h s = some d ∧ K key (mk h d) = some x
  | [], _, _, _, h, _ => by cases h
  | [(key', h)], key, s, e, hu, ho => by
    simp only [unEx] at hu
    cases hk : exKeyEq key key'
    · simp [hk] at hu
    simp only [hk, cond_true] at hu
    have : key = key' := by
      cases key <;> cases key' <;> simp [exKeyEq] at hk <;> first | rfl | (rw [hk])
    subst this
    exact ⟨h, e, hu, ho⟩
  | (key', h) :: r1 :: r, key, s, e, hu, ho => by
    simp only [unEx] at hu
    cases hk : exKeyEq key key'
    · simp only [hk, cond_false] at hu
      cases hr : unEx pins (r1 :: r) key s with
      | none => simp [hr] at hu
      | some e' =>
        simp only [hr, Option.map_some, Option.some.injEq] at hu
        subst hu
        exact unEx_out hr ho
    · simp only [hk, cond_true] at hu
      have : key = key' := by
        cases key <;> cases key' <;> simp [exKeyEq] at hk <;> first | rfl | (rw [hk])
      subst this
      cases hr : un pins h s with
      | none => simp [hr] at hu
      | some d =>
        simp only [hr, Option.map_some, Option.some.injEq] at hu
        subst hu
        exact ⟨h, d, hr, ho⟩

theorem code_sound (hΓ : CxOk P Γ) (hC : ∀ n C, Γ.con n = some C → Sound P n C) (hmix : P.follows .mixedOrders = true) (hmk : MkOk E Γ.n pins) : ∀ (c : Code) {ρ : Type} {s : St} {K : ExitKey → St → Option ρ} {x : ρ} {g : G} {a : Act} {w : World},
    evCode Γ pins k c s K = some x → Flat s → Inv E Γ.n g s a w → c.wp P (Comes' E Γ.n K x) a w := by
  intro c
  induction c with
  | skip => intro ρ s K x g a w h hf inv; exact wp_skip ⟨.normal, s, rfl, h, hf, g, inv⟩
  | region id ops draw =>
    intro ρ s K x g a w h hf inv
    obtain ⟨s', h1, h2, h3⟩ := region_sound (id := id) hΓ hC hmix h hf inv
    refine wp_mono h3 fun e a' w' he => ?_
    obtain ⟨rfl, g', inv'⟩ := he
    exact ⟨.normal, s', rfl, h1, h2, g', inv'⟩
  | seq c1 c2 ih1 ih2 =>
    intro ρ s K x g a w h hf inv
    refine wp_seq (wp_mono (ih1 h hf inv) fun e a' w' he => ?_)
    obtain ⟨key, s', rfl, h1, h2, g', inv'⟩ := he
    cases key with
    | normal => exact ih2 h1 h2 inv'
    | exit id => exact ⟨.exit id, s', rfl, h1, h2, g', inv'⟩
    | ret => exact ⟨.ret, s', rfl, h1, h2, g', inv'⟩
  | cond c0 c1 c2 ih1 ih2 =>
    intro ρ s K x g a w h hf inv
    simp only [evCode] at h
    split at h
    · rename_i b hb
      have hv := opnd_rel ⟨fun t => .inl rfl, fun _ _ h => ⟨h, rfl⟩, fun _ _ => rfl⟩ inv.slots (key := none) (fun t gg k v _ k' hk' => by cases hk') hb
      have hv1 := hv.1
      simp only [LfCore] at hv1
      refine wp_cond hv1 ?_
      cases b
      · simp only [cond_false] at h
        exact ih2 h hf inv
      · simp only [cond_true] at h
        exact ih1 h hf inv
    · cases h
  | block id c ih =>
    intro ρ s K x g a w h hf inv
    refine wp_block (wp_mono (ih h hf inv) fun e a' w' he => ?_)
    obtain ⟨key, s', rfl, h1, h2, g', inv'⟩ := he
    cases key with
    | normal => exact ⟨.normal, s', rfl, h1, h2, g', inv'⟩
    | exit id' =>
      simp only [keyExit, Exit.inBlock]
      simp only at h1
      cases hb : Nat.beq id' id
      · simp only [hb, cond_false] at h1
        rw [if_neg (beq_false'.1 hb)]
        exact ⟨.exit id', s', rfl, h1, h2, g', inv'⟩
      · simp only [hb, cond_true] at h1
        rw [if_pos (beq_iff'.1 hb)]
        exact ⟨.normal, s', rfl, h1, h2, g', inv'⟩
    | ret => exact ⟨.ret, s', rfl, h1, h2, g', inv'⟩
  | exit id => intro ρ s K x g a w h hf inv; exact wp_exit ⟨.exit id, s, rfl, h, hf, g, inv⟩
  | ret => intro ρ s K x g a w h hf inv; exact wp_ret ⟨.ret, s, rfl, h, hf, g, inv⟩
  | loop c ih =>
    intro ρ s K x g a w h hf inv
    simp only [evCode] at h
    split at h
    · cases h
    · rename_i an han
      split at h
      · cases h
      · rename_i d0 hd0
        unfold obind at h
        split at h
        case h_2 => cases h
        case h_1 e0 he0 =>
          intro b kk cs
          -- rounds
          have key : ∀ (n : Nat) (d : an.head.ty.den) (g : G) (a : Act) (w : World), loopN (D := an.head.ty.den) (E := exTy an.exits) (fun d => evCode Γ pins k c (mk an.head d) fun e s' => match e with
              | .normal => (un pins an.head s').map .inl
              | e => (unEx pins an.exits e s').map .inr) n d = some e0 → Inv E Γ.n g (mk an.head d) a w → Flat (mk an.head d) →
              ∃ e a' w', Comes' E Γ.n K x e a' w' ∧ Arrives P (lone (b.at a (.code c :: .inLoop c :: kk)) cs w) b kk cs e a' w' := by
            intro n
            induction n with
            | zero => intro d g a w hl; cases hl
            | succ n ihn =>
              intro d g a w hl inv hf
              simp only [loopN] at hl
              unfold obind at hl
              split at hl
              case h_2 => cases hl
              case h_1 r hr =>
                obtain ⟨e1, a1, w1, hq, harr⟩ := ih hr hf inv b (.inLoop c :: kk) cs
                obtain ⟨key, s', rfl, h1, h2, g', inv'⟩ := hq
                have out : ∀ (key : ExitKey), (unEx pins an.exits key s').map Sum.inr = some r → Arrives P (lone (b.at a (.code c :: .inLoop c :: kk)) cs w) b kk cs (keyExit key) a1 w1 → ∃ e a' w', Comes' E Γ.n K x e a' w' ∧ Arrives P (lone (b.at a (.code c :: .inLoop c :: kk)) cs w) b kk cs e a' w' := by
                  intro key hu harr
                  cases hx : unEx pins an.exits key s' with
                  | none => simp [hx] at hu
                  | some e2 =>
                    simp only [hx, Option.map_some, Option.some.injEq] at hu
                    subst hu
                    simp only [selim, Option.some.injEq] at hl
                    subst hl
                    obtain ⟨hh, dd, hun, hK⟩ := unEx_out hx h
                    obtain ⟨g2, inv2, hf2⟩ := hmk hh s' dd g' a1 w1 hun h2 inv'
                    exact ⟨keyExit key, a1, w1, ⟨key, _, rfl, hK, hf2, g2, inv2⟩, harr⟩
                cases key with
                | normal =>
                  simp only at h1
                  cases hu : un pins an.head s' with
                  | none => simp [hu] at h1
                  | some d' =>
                    simp only [hu, Option.map_some, Option.some.injEq] at h1
                    subst h1
                    simp only [selim] at hl
                    obtain ⟨g2, inv2, hf2⟩ := hmk an.head s' d' g' a1 w1 hu h2 inv'
                    obtain ⟨e3, a3, w3, hq3, harr3⟩ := ihn d' g2 a1 w1 hl inv2 hf2
                    exact ⟨e3, a3, w3, hq3, .of_steps (Steps.trans harr (.one step_inLoop)) harr3⟩
                | exit id => exact out (.exit id) h1 (.pass (x := .inLoop c) rfl (fun _ _ => .inl (by simp [keyExit])) harr)
                | ret => exact out .ret h1 (.pass (x := .inLoop c) rfl (fun _ _ => .inl (by simp [keyExit])) harr)
          obtain ⟨g2, inv2, hf2⟩ := hmk an.head s d0 g a w hd0 hf inv
          obtain ⟨e, a', w', hq, harr⟩ := key k d0 g2 a w he0 inv2 hf2
          exact ⟨e, a', w', hq, .of_steps (.one step_loop) harr⟩
  | _ => intro ρ s K x g a w h hf inv; cases h
end
end Go.Proofs.XTv
