/- What the law rests on: part 6 of 6. -/
import Derived.Test.YtbgkgnhlfmidhaaGreatV4
set_option linter.unusedVariables false
set_option linter.unusedSimpArgs false
set_option linter.unusedSectionVars false
/- Each function of the program does what the plain Lean one says. -/
set_option linter.unusedVariables false
set_option maxRecDepth 100000
namespace Go.Proofs.YtbgkgnhlfmidhaaGreat.XS
open Go Go.Proofs.XTv Go.Proofs.XF
def ConsOk (P : Program) (l : List (Nat × Con)) : Prop := ∀ p ∈ l, Sound P p.1 p.2
theorem con_nil {P : Program} : ConsOk P [] := fun p hp => by cases hp
theorem con_cons {P : Program} {n : Nat} {C : Con} {l : List (Nat × Con)} (h : Sound P n C) (hl : ConsOk P l) : ConsOk P ((n, C) :: l) := fun p hp => by
  rcases List.mem_cons.1 hp with rfl | hp
  · exact h
  · exact hl p hp
theorem con_look {P : Program} {l : List (Nat × Con)} (hl : ConsOk P l) {n : Nat} {C : Con} (h : look l n = some C) : Sound P n C := hl _ (look_mem h)
theorem laws_szIntS.sound : Sound Tryz.prog 173 laws_szIntS.con := by
  have h := fun_sound (Γ := laws_szIntS.cx) (cx_ok.same rfl rfl) (fun n C h => con_look (con_nil) h) Tryz.checked.mixed Tryz.func173 (by kernel_rfl) (ps := laws_szIntS.ps) (rs := laws_szIntS.rs) (by kernel_rfl) (by kernel_rfl) (by kernel_rfl)
  rw [laws_szIntS.eq] at h
  exact h
theorem laws_szSubscription.sound : Sound Tryz.prog 82 laws_szSubscription.con := by
  have h := fun_sound (Γ := laws_szSubscription.cx) (cx_ok.same rfl rfl) (fun n C h => con_look (con_cons laws_szIntS.sound con_nil) h) Tryz.checked.mixed Tryz.func82 (by kernel_rfl) (ps := laws_szSubscription.ps) (rs := laws_szSubscription.rs) (by kernel_rfl) (by kernel_rfl) (by kernel_rfl)
  rw [laws_szSubscription.eq] at h
  exact h
theorem laws_szByteS.sound : Sound Tryz.prog 157 laws_szByteS.con := by
  have h := fun_sound (Γ := laws_szByteS.cx) (cx_ok.same rfl rfl) (fun n C h => con_look (con_nil) h) Tryz.checked.mixed Tryz.func157 (by kernel_rfl) (ps := laws_szByteS.ps) (rs := laws_szByteS.rs) (by kernel_rfl) (by kernel_rfl) (by kernel_rfl)
  rw [laws_szByteS.eq] at h
  exact h
theorem laws_szPayload.sound : Sound Tryz.prog 174 laws_szPayload.con := by
  have h := fun_sound (Γ := laws_szPayload.cx) (cx_ok.same rfl rfl) (fun n C h => con_look (con_cons laws_szByteS.sound con_nil) h) Tryz.checked.mixed Tryz.func174 (by kernel_rfl) (ps := laws_szPayload.ps) (rs := laws_szPayload.rs) (by kernel_rfl) (by kernel_rfl) (by kernel_rfl)
  rw [laws_szPayload.eq] at h
  exact h
theorem laws_szPayloadS.sound : Sound Tryz.prog 83 laws_szPayloadS.con := by
  have h := fun_sound (Γ := laws_szPayloadS.cx) (cx_ok.same rfl rfl) (fun n C h => con_look (con_cons laws_szPayload.sound con_nil) h) Tryz.checked.mixed Tryz.func83 (by kernel_rfl) (ps := laws_szPayloadS.ps) (rs := laws_szPayloadS.rs) (by kernel_rfl) (by kernel_rfl) (by kernel_rfl)
  rw [laws_szPayloadS.eq] at h
  exact h
theorem laws_szNumberedPacket.sound : Sound Tryz.prog 226 laws_szNumberedPacket.con := by
  have h := fun_sound (Γ := laws_szNumberedPacket.cx) (cx_ok.same rfl rfl) (fun n C h => con_look (con_cons laws_szByteS.sound con_nil) h) Tryz.checked.mixed Tryz.func226 (by kernel_rfl) (ps := laws_szNumberedPacket.ps) (rs := laws_szNumberedPacket.rs) (by kernel_rfl) (by kernel_rfl) (by kernel_rfl)
  rw [laws_szNumberedPacket.eq] at h
  exact h
theorem laws_szNumberedPacketS.sound : Sound Tryz.prog 139 laws_szNumberedPacketS.con := by
  have h := fun_sound (Γ := laws_szNumberedPacketS.cx) (cx_ok.same rfl rfl) (fun n C h => con_look (con_cons laws_szNumberedPacket.sound con_nil) h) Tryz.checked.mixed Tryz.func139 (by kernel_rfl) (ps := laws_szNumberedPacketS.ps) (rs := laws_szNumberedPacketS.rs) (by kernel_rfl) (by kernel_rfl) (by kernel_rfl)
  rw [laws_szNumberedPacketS.eq] at h
  exact h
theorem laws_szSendWindow.sound : Sound Tryz.prog 84 laws_szSendWindow.con := by
  have h := fun_sound (Γ := laws_szSendWindow.cx) (cx_ok.same rfl rfl) (fun n C h => con_look (con_cons laws_szNumberedPacketS.sound con_nil) h) Tryz.checked.mixed Tryz.func84 (by kernel_rfl) (ps := laws_szSendWindow.ps) (rs := laws_szSendWindow.rs) (by kernel_rfl) (by kernel_rfl) (by kernel_rfl)
  rw [laws_szSendWindow.eq] at h
  exact h
theorem laws_szSession.sound : Sound Tryz.prog 24 laws_szSession.con := by
  have h := fun_sound (Γ := laws_szSession.cx) (cx_ok.same rfl rfl) (fun n C h => con_look (con_cons laws_szSubscription.sound (con_cons laws_szPayloadS.sound (con_cons laws_szSendWindow.sound con_nil))) h) Tryz.checked.mixed Tryz.func24 (by kernel_rfl) (ps := laws_szSession.ps) (rs := laws_szSession.rs) (by kernel_rfl) (by kernel_rfl) (by kernel_rfl)
  rw [laws_szSession.eq] at h
  exact h
theorem laws_szReservationS.sound : Sound Tryz.prog 85 laws_szReservationS.con := by
  have h := fun_sound (Γ := laws_szReservationS.cx) (cx_ok.same rfl rfl) (fun n C h => con_look (con_nil) h) Tryz.checked.mixed Tryz.func85 (by kernel_rfl) (ps := laws_szReservationS.ps) (rs := laws_szReservationS.rs) (by kernel_rfl) (by kernel_rfl) (by kernel_rfl)
  rw [laws_szReservationS.eq] at h
  exact h
theorem laws_szAccount.sound : Sound Tryz.prog 25 laws_szAccount.con := by
  have h := fun_sound (Γ := laws_szAccount.cx) (cx_ok.same rfl rfl) (fun n C h => con_look (con_cons laws_szReservationS.sound con_nil) h) Tryz.checked.mixed Tryz.func25 (by kernel_rfl) (ps := laws_szAccount.ps) (rs := laws_szAccount.rs) (by kernel_rfl) (by kernel_rfl) (by kernel_rfl)
  rw [laws_szAccount.eq] at h
  exact h
theorem laws_toAuthVector.sound : Sound Tryz.prog 58 laws_toAuthVector.con := by
  have h := fun_sound (Γ := laws_toAuthVector.cx) (cx_ok.same rfl rfl) (fun n C h => con_look (con_nil) h) Tryz.checked.mixed Tryz.func58 (by kernel_rfl) (ps := laws_toAuthVector.ps) (rs := laws_toAuthVector.rs) (by kernel_rfl) (by kernel_rfl) (by kernel_rfl)
  rw [laws_toAuthVector.eq] at h
  exact h
theorem laws_toSubscriberID.sound : Sound Tryz.prog 144 laws_toSubscriberID.con := by
  have h := fun_sound (Γ := laws_toSubscriberID.cx) (cx_ok.same rfl rfl) (fun n C h => con_look (con_nil) h) Tryz.checked.mixed Tryz.func144 (by kernel_rfl) (ps := laws_toSubscriberID.ps) (rs := laws_toSubscriberID.rs) (by kernel_rfl) (by kernel_rfl) (by kernel_rfl)
  rw [laws_toSubscriberID.eq] at h
  exact h
theorem laws_toSubscriberRecord.sound : Sound Tryz.prog 91 laws_toSubscriberRecord.con := by
  have h := fun_sound (Γ := laws_toSubscriberRecord.cx) (cx_ok.same rfl rfl) (fun n C h => con_look (con_cons laws_toSubscriberID.sound con_nil) h) Tryz.checked.mixed Tryz.func91 (by kernel_rfl) (ps := laws_toSubscriberRecord.ps) (rs := laws_toSubscriberRecord.rs) (by kernel_rfl) (by kernel_rfl) (by kernel_rfl)
  rw [laws_toSubscriberRecord.eq] at h
  exact h
theorem laws_toIntS.sound : Sound Tryz.prog 183 laws_toIntS.con := by
  have h := fun_sound (Γ := laws_toIntS.cx) (cx_ok.same rfl rfl) (fun n C h => con_look (con_nil) h) Tryz.checked.mixed Tryz.func183 (by kernel_rfl) (ps := laws_toIntS.ps) (rs := laws_toIntS.rs) (by kernel_rfl) (by kernel_rfl) (by kernel_rfl)
  rw [laws_toIntS.eq] at h
  exact h
theorem laws_toSubscription.sound : Sound Tryz.prog 92 laws_toSubscription.con := by
  have h := fun_sound (Γ := laws_toSubscription.cx) (cx_ok.same rfl rfl) (fun n C h => con_look (con_cons laws_toIntS.sound con_nil) h) Tryz.checked.mixed Tryz.func92 (by kernel_rfl) (ps := laws_toSubscription.ps) (rs := laws_toSubscription.rs) (by kernel_rfl) (by kernel_rfl) (by kernel_rfl)
  rw [laws_toSubscription.eq] at h
  exact h
theorem laws_toPagingState.sound : Sound Tryz.prog 93 laws_toPagingState.con := by
  have h := fun_sound (Γ := laws_toPagingState.cx) (cx_ok.same rfl rfl) (fun n C h => con_look (con_nil) h) Tryz.checked.mixed Tryz.func93 (by kernel_rfl) (ps := laws_toPagingState.ps) (rs := laws_toPagingState.rs) (by kernel_rfl) (by kernel_rfl) (by kernel_rfl)
  rw [laws_toPagingState.eq] at h
  exact h
theorem laws_toByteS.sound : Sound Tryz.prog 163 laws_toByteS.con := by
  have h := fun_sound (Γ := laws_toByteS.cx) (cx_ok.same rfl rfl) (fun n C h => con_look (con_nil) h) Tryz.checked.mixed Tryz.func163 (by kernel_rfl) (ps := laws_toByteS.ps) (rs := laws_toByteS.rs) (by kernel_rfl) (by kernel_rfl) (by kernel_rfl)
  rw [laws_toByteS.eq] at h
  exact h
theorem laws_toPayload.sound : Sound Tryz.prog 184 laws_toPayload.con := by
  have h := fun_sound (Γ := laws_toPayload.cx) (cx_ok.same rfl rfl) (fun n C h => con_look (con_cons laws_toByteS.sound con_nil) h) Tryz.checked.mixed Tryz.func184 (by kernel_rfl) (ps := laws_toPayload.ps) (rs := laws_toPayload.rs) (by kernel_rfl) (by kernel_rfl) (by kernel_rfl)
  rw [laws_toPayload.eq] at h
  exact h
theorem laws_toPayloadS.sound : Sound Tryz.prog 94 laws_toPayloadS.con := by
  have h := fun_sound (Γ := laws_toPayloadS.cx) (cx_ok.same rfl rfl) (fun n C h => con_look (con_cons laws_toPayload.sound con_nil) h) Tryz.checked.mixed Tryz.func94 (by kernel_rfl) (ps := laws_toPayloadS.ps) (rs := laws_toPayloadS.rs) (by kernel_rfl) (by kernel_rfl) (by kernel_rfl)
  rw [laws_toPayloadS.eq] at h
  exact h
theorem laws_toNumberedPacket.sound : Sound Tryz.prog 236 laws_toNumberedPacket.con := by
  have h := fun_sound (Γ := laws_toNumberedPacket.cx) (cx_ok.same rfl rfl) (fun n C h => con_look (con_cons laws_toByteS.sound con_nil) h) Tryz.checked.mixed Tryz.func236 (by kernel_rfl) (ps := laws_toNumberedPacket.ps) (rs := laws_toNumberedPacket.rs) (by kernel_rfl) (by kernel_rfl) (by kernel_rfl)
  rw [laws_toNumberedPacket.eq] at h
  exact h
theorem laws_toNumberedPacketS.sound : Sound Tryz.prog 145 laws_toNumberedPacketS.con := by
  have h := fun_sound (Γ := laws_toNumberedPacketS.cx) (cx_ok.same rfl rfl) (fun n C h => con_look (con_cons laws_toNumberedPacket.sound con_nil) h) Tryz.checked.mixed Tryz.func145 (by kernel_rfl) (ps := laws_toNumberedPacketS.ps) (rs := laws_toNumberedPacketS.rs) (by kernel_rfl) (by kernel_rfl) (by kernel_rfl)
  rw [laws_toNumberedPacketS.eq] at h
  exact h
theorem laws_toSendWindow.sound : Sound Tryz.prog 95 laws_toSendWindow.con := by
  have h := fun_sound (Γ := laws_toSendWindow.cx) (cx_ok.same rfl rfl) (fun n C h => con_look (con_cons laws_toNumberedPacketS.sound con_nil) h) Tryz.checked.mixed Tryz.func95 (by kernel_rfl) (ps := laws_toSendWindow.ps) (rs := laws_toSendWindow.rs) (by kernel_rfl) (by kernel_rfl) (by kernel_rfl)
  rw [laws_toSendWindow.eq] at h
  exact h
theorem laws_toQuota.sound : Sound Tryz.prog 96 laws_toQuota.con := by
  have h := fun_sound (Γ := laws_toQuota.cx) (cx_ok.same rfl rfl) (fun n C h => con_look (con_nil) h) Tryz.checked.mixed Tryz.func96 (by kernel_rfl) (ps := laws_toQuota.ps) (rs := laws_toQuota.rs) (by kernel_rfl) (by kernel_rfl) (by kernel_rfl)
  rw [laws_toQuota.eq] at h
  exact h
theorem laws_toSession.sound : Sound Tryz.prog 27 laws_toSession.con := by
  have h := fun_sound (Γ := laws_toSession.cx) (cx_ok.same rfl rfl) (fun n C h => con_look (con_cons laws_toAuthVector.sound (con_cons laws_toSubscriberRecord.sound (con_cons laws_toSubscription.sound (con_cons laws_toPagingState.sound (con_cons laws_toPayloadS.sound (con_cons laws_toSendWindow.sound (con_cons laws_toQuota.sound con_nil))))))) h) Tryz.checked.mixed Tryz.func27 (by kernel_rfl) (ps := laws_toSession.ps) (rs := laws_toSession.rs) (by kernel_rfl) (by kernel_rfl) (by kernel_rfl)
  rw [laws_toSession.eq] at h
  exact h
theorem laws_toReservation.sound : Sound Tryz.prog 185 laws_toReservation.con := by
  have h := fun_sound (Γ := laws_toReservation.cx) (cx_ok.same rfl rfl) (fun n C h => con_look (con_nil) h) Tryz.checked.mixed Tryz.func185 (by kernel_rfl) (ps := laws_toReservation.ps) (rs := laws_toReservation.rs) (by kernel_rfl) (by kernel_rfl) (by kernel_rfl)
  rw [laws_toReservation.eq] at h
  exact h
theorem laws_toReservationS.sound : Sound Tryz.prog 97 laws_toReservationS.con := by
  have h := fun_sound (Γ := laws_toReservationS.cx) (cx_ok.same rfl rfl) (fun n C h => con_look (con_cons laws_toReservation.sound con_nil) h) Tryz.checked.mixed Tryz.func97 (by kernel_rfl) (ps := laws_toReservationS.ps) (rs := laws_toReservationS.rs) (by kernel_rfl) (by kernel_rfl) (by kernel_rfl)
  rw [laws_toReservationS.eq] at h
  exact h
theorem laws_toAccount.sound : Sound Tryz.prog 28 laws_toAccount.con := by
  have h := fun_sound (Γ := laws_toAccount.cx) (cx_ok.same rfl rfl) (fun n C h => con_look (con_cons laws_toReservationS.sound con_nil) h) Tryz.checked.mixed Tryz.func28 (by kernel_rfl) (ps := laws_toAccount.ps) (rs := laws_toAccount.rs) (by kernel_rfl) (by kernel_rfl) (by kernel_rfl)
  rw [laws_toAccount.eq] at h
  exact h
theorem laws_eqSubscriberID.sound : Sound Tryz.prog 153 laws_eqSubscriberID.con := by
  have h := fun_sound (Γ := laws_eqSubscriberID.cx) (cx_ok.same rfl rfl) (fun n C h => con_look (con_nil) h) Tryz.checked.mixed Tryz.func153 (by kernel_rfl) (ps := laws_eqSubscriberID.ps) (rs := laws_eqSubscriberID.rs) (by kernel_rfl) (by kernel_rfl) (by kernel_rfl)
  rw [laws_eqSubscriberID.eq] at h
  exact h
theorem laws_eqSubscriberRecord.sound : Sound Tryz.prog 103 laws_eqSubscriberRecord.con := by
  have h := fun_sound (Γ := laws_eqSubscriberRecord.cx) (cx_ok.same rfl rfl) (fun n C h => con_look (con_cons laws_eqSubscriberID.sound con_nil) h) Tryz.checked.mixed Tryz.func103 (by kernel_rfl) (ps := laws_eqSubscriberRecord.ps) (rs := laws_eqSubscriberRecord.rs) (by kernel_rfl) (by kernel_rfl) (by kernel_rfl)
  rw [laws_eqSubscriberRecord.eq] at h
  exact h
theorem laws_eqIntS.sound : Sound Tryz.prog 194 laws_eqIntS.con := by
  have h := fun_sound (Γ := laws_eqIntS.cx) (cx_ok.same rfl rfl) (fun n C h => con_look (con_nil) h) Tryz.checked.mixed Tryz.func194 (by kernel_rfl) (ps := laws_eqIntS.ps) (rs := laws_eqIntS.rs) (by kernel_rfl) (by kernel_rfl) (by kernel_rfl)
  rw [laws_eqIntS.eq] at h
  exact h
theorem laws_eqSubscription.sound : Sound Tryz.prog 104 laws_eqSubscription.con := by
  have h := fun_sound (Γ := laws_eqSubscription.cx) (cx_ok.same rfl rfl) (fun n C h => con_look (con_cons laws_eqIntS.sound con_nil) h) Tryz.checked.mixed Tryz.func104 (by kernel_rfl) (ps := laws_eqSubscription.ps) (rs := laws_eqSubscription.rs) (by kernel_rfl) (by kernel_rfl) (by kernel_rfl)
  rw [laws_eqSubscription.eq] at h
  exact h
theorem laws_eqAuthVector.sound : Sound Tryz.prog 105 laws_eqAuthVector.con := by
  have h := fun_sound (Γ := laws_eqAuthVector.cx) (cx_ok.same rfl rfl) (fun n C h => con_look (con_nil) h) Tryz.checked.mixed Tryz.func105 (by kernel_rfl) (ps := laws_eqAuthVector.ps) (rs := laws_eqAuthVector.rs) (by kernel_rfl) (by kernel_rfl) (by kernel_rfl)
  rw [laws_eqAuthVector.eq] at h
  exact h
theorem laws_eqPagingState.sound : Sound Tryz.prog 106 laws_eqPagingState.con := by
  have h := fun_sound (Γ := laws_eqPagingState.cx) (cx_ok.same rfl rfl) (fun n C h => con_look (con_nil) h) Tryz.checked.mixed Tryz.func106 (by kernel_rfl) (ps := laws_eqPagingState.ps) (rs := laws_eqPagingState.rs) (by kernel_rfl) (by kernel_rfl) (by kernel_rfl)
  rw [laws_eqPagingState.eq] at h
  exact h
theorem laws_eqByteS.sound : Sound Tryz.prog 171 laws_eqByteS.con := by
  have h := fun_sound (Γ := laws_eqByteS.cx) (cx_ok.same rfl rfl) (fun n C h => con_look (con_nil) h) Tryz.checked.mixed Tryz.func171 (by kernel_rfl) (ps := laws_eqByteS.ps) (rs := laws_eqByteS.rs) (by kernel_rfl) (by kernel_rfl) (by kernel_rfl)
  rw [laws_eqByteS.eq] at h
  exact h
theorem laws_eqPayload.sound : Sound Tryz.prog 195 laws_eqPayload.con := by
  have h := fun_sound (Γ := laws_eqPayload.cx) (cx_ok.same rfl rfl) (fun n C h => con_look (con_cons laws_eqByteS.sound con_nil) h) Tryz.checked.mixed Tryz.func195 (by kernel_rfl) (ps := laws_eqPayload.ps) (rs := laws_eqPayload.rs) (by kernel_rfl) (by kernel_rfl) (by kernel_rfl)
  rw [laws_eqPayload.eq] at h
  exact h
theorem laws_eqPayloadS.sound : Sound Tryz.prog 107 laws_eqPayloadS.con := by
  have h := fun_sound (Γ := laws_eqPayloadS.cx) (cx_ok.same rfl rfl) (fun n C h => con_look (con_cons laws_eqPayload.sound con_nil) h) Tryz.checked.mixed Tryz.func107 (by kernel_rfl) (ps := laws_eqPayloadS.ps) (rs := laws_eqPayloadS.rs) (by kernel_rfl) (by kernel_rfl) (by kernel_rfl)
  rw [laws_eqPayloadS.eq] at h
  exact h
theorem laws_eqNumberedPacket.sound : Sound Tryz.prog 245 laws_eqNumberedPacket.con := by
  have h := fun_sound (Γ := laws_eqNumberedPacket.cx) (cx_ok.same rfl rfl) (fun n C h => con_look (con_cons laws_eqByteS.sound con_nil) h) Tryz.checked.mixed Tryz.func245 (by kernel_rfl) (ps := laws_eqNumberedPacket.ps) (rs := laws_eqNumberedPacket.rs) (by kernel_rfl) (by kernel_rfl) (by kernel_rfl)
  rw [laws_eqNumberedPacket.eq] at h
  exact h
theorem laws_eqNumberedPacketS.sound : Sound Tryz.prog 154 laws_eqNumberedPacketS.con := by
  have h := fun_sound (Γ := laws_eqNumberedPacketS.cx) (cx_ok.same rfl rfl) (fun n C h => con_look (con_cons laws_eqNumberedPacket.sound con_nil) h) Tryz.checked.mixed Tryz.func154 (by kernel_rfl) (ps := laws_eqNumberedPacketS.ps) (rs := laws_eqNumberedPacketS.rs) (by kernel_rfl) (by kernel_rfl) (by kernel_rfl)
  rw [laws_eqNumberedPacketS.eq] at h
  exact h
theorem laws_eqSendWindow.sound : Sound Tryz.prog 108 laws_eqSendWindow.con := by
  have h := fun_sound (Γ := laws_eqSendWindow.cx) (cx_ok.same rfl rfl) (fun n C h => con_look (con_cons laws_eqNumberedPacketS.sound con_nil) h) Tryz.checked.mixed Tryz.func108 (by kernel_rfl) (ps := laws_eqSendWindow.ps) (rs := laws_eqSendWindow.rs) (by kernel_rfl) (by kernel_rfl) (by kernel_rfl)
  rw [laws_eqSendWindow.eq] at h
  exact h
theorem laws_eqQuota.sound : Sound Tryz.prog 109 laws_eqQuota.con := by
  have h := fun_sound (Γ := laws_eqQuota.cx) (cx_ok.same rfl rfl) (fun n C h => con_look (con_nil) h) Tryz.checked.mixed Tryz.func109 (by kernel_rfl) (ps := laws_eqQuota.ps) (rs := laws_eqQuota.rs) (by kernel_rfl) (by kernel_rfl) (by kernel_rfl)
  rw [laws_eqQuota.eq] at h
  exact h
theorem laws_eqSession.sound : Sound Tryz.prog 30 laws_eqSession.con := by
  have h := fun_sound (Γ := laws_eqSession.cx) (cx_ok.same rfl rfl) (fun n C h => con_look (con_cons laws_eqSubscriberRecord.sound (con_cons laws_eqSubscription.sound (con_cons laws_eqAuthVector.sound (con_cons laws_eqPagingState.sound (con_cons laws_eqPayloadS.sound (con_cons laws_eqSendWindow.sound (con_cons laws_eqQuota.sound con_nil))))))) h) Tryz.checked.mixed Tryz.func30 (by kernel_rfl) (ps := laws_eqSession.ps) (rs := laws_eqSession.rs) (by kernel_rfl) (by kernel_rfl) (by kernel_rfl)
  rw [laws_eqSession.eq] at h
  exact h
theorem laws_eqReservation.sound : Sound Tryz.prog 196 laws_eqReservation.con := by
  have h := fun_sound (Γ := laws_eqReservation.cx) (cx_ok.same rfl rfl) (fun n C h => con_look (con_nil) h) Tryz.checked.mixed Tryz.func196 (by kernel_rfl) (ps := laws_eqReservation.ps) (rs := laws_eqReservation.rs) (by kernel_rfl) (by kernel_rfl) (by kernel_rfl)
  rw [laws_eqReservation.eq] at h
  exact h
theorem laws_eqReservationS.sound : Sound Tryz.prog 110 laws_eqReservationS.con := by
  have h := fun_sound (Γ := laws_eqReservationS.cx) (cx_ok.same rfl rfl) (fun n C h => con_look (con_cons laws_eqReservation.sound con_nil) h) Tryz.checked.mixed Tryz.func110 (by kernel_rfl) (ps := laws_eqReservationS.ps) (rs := laws_eqReservationS.rs) (by kernel_rfl) (by kernel_rfl) (by kernel_rfl)
  rw [laws_eqReservationS.eq] at h
  exact h
theorem laws_eqAccount.sound : Sound Tryz.prog 31 laws_eqAccount.con := by
  have h := fun_sound (Γ := laws_eqAccount.cx) (cx_ok.same rfl rfl) (fun n C h => con_look (con_cons laws_eqReservationS.sound con_nil) h) Tryz.checked.mixed Tryz.func31 (by kernel_rfl) (ps := laws_eqAccount.ps) (rs := laws_eqAccount.rs) (by kernel_rfl) (by kernel_rfl) (by kernel_rfl)
  rw [laws_eqAccount.eq] at h
  exact h
theorem laws_markIntS.sound : Sound Tryz.prog 197 laws_markIntS.con := by
  have h := fun_sound (Γ := laws_markIntS.cx) (cx_ok.same rfl rfl) (fun n C h => con_look (con_nil) h) Tryz.checked.mixed Tryz.func197 (by kernel_rfl) (ps := laws_markIntS.ps) (rs := laws_markIntS.rs) (by kernel_rfl) (by kernel_rfl) (by kernel_rfl)
  rw [laws_markIntS.eq] at h
  exact h
theorem laws_markSubscription.sound : Sound Tryz.prog 111 laws_markSubscription.con := by
  have h := fun_sound (Γ := laws_markSubscription.cx) (cx_ok.same rfl rfl) (fun n C h => con_look (con_cons laws_markIntS.sound con_nil) h) Tryz.checked.mixed Tryz.func111 (by kernel_rfl) (ps := laws_markSubscription.ps) (rs := laws_markSubscription.rs) (by kernel_rfl) (by kernel_rfl) (by kernel_rfl)
  rw [laws_markSubscription.eq] at h
  exact h
theorem laws_markByteS.sound : Sound Tryz.prog 172 laws_markByteS.con := by
  have h := fun_sound (Γ := laws_markByteS.cx) (cx_ok.same rfl rfl) (fun n C h => con_look (con_nil) h) Tryz.checked.mixed Tryz.func172 (by kernel_rfl) (ps := laws_markByteS.ps) (rs := laws_markByteS.rs) (by kernel_rfl) (by kernel_rfl) (by kernel_rfl)
  rw [laws_markByteS.eq] at h
  exact h
theorem laws_markPayloadS.sound : Sound Tryz.prog 112 laws_markPayloadS.con := by
  have h := fun_sound (Γ := laws_markPayloadS.cx) (cx_ok.same rfl rfl) (fun n C h => con_look (con_cons laws_markByteS.sound con_nil) h) Tryz.checked.mixed Tryz.func112 (by kernel_rfl) (ps := laws_markPayloadS.ps) (rs := laws_markPayloadS.rs) (by kernel_rfl) (by kernel_rfl) (by kernel_rfl)
  rw [laws_markPayloadS.eq] at h
  exact h
theorem laws_markNumberedPacketS.sound : Sound Tryz.prog 155 laws_markNumberedPacketS.con := by
  have h := fun_sound (Γ := laws_markNumberedPacketS.cx) (cx_ok.same rfl rfl) (fun n C h => con_look (con_cons laws_markByteS.sound con_nil) h) Tryz.checked.mixed Tryz.func155 (by kernel_rfl) (ps := laws_markNumberedPacketS.ps) (rs := laws_markNumberedPacketS.rs) (by kernel_rfl) (by kernel_rfl) (by kernel_rfl)
  rw [laws_markNumberedPacketS.eq] at h
  exact h
theorem laws_markSendWindow.sound : Sound Tryz.prog 113 laws_markSendWindow.con := by
  have h := fun_sound (Γ := laws_markSendWindow.cx) (cx_ok.same rfl rfl) (fun n C h => con_look (con_cons laws_markNumberedPacketS.sound con_nil) h) Tryz.checked.mixed Tryz.func113 (by kernel_rfl) (ps := laws_markSendWindow.ps) (rs := laws_markSendWindow.rs) (by kernel_rfl) (by kernel_rfl) (by kernel_rfl)
  rw [laws_markSendWindow.eq] at h
  exact h
theorem laws_markSession.sound : Sound Tryz.prog 32 laws_markSession.con := by
  have h := fun_sound (Γ := laws_markSession.cx) (cx_ok.same rfl rfl) (fun n C h => con_look (con_cons laws_markSubscription.sound (con_cons laws_markPayloadS.sound (con_cons laws_markSendWindow.sound con_nil))) h) Tryz.checked.mixed Tryz.func32 (by kernel_rfl) (ps := laws_markSession.ps) (rs := laws_markSession.rs) (by kernel_rfl) (by kernel_rfl) (by kernel_rfl)
  rw [laws_markSession.eq] at h
  exact h
theorem laws_markReservationS.sound : Sound Tryz.prog 114 laws_markReservationS.con := by
  have h := fun_sound (Γ := laws_markReservationS.cx) (cx_ok.same rfl rfl) (fun n C h => con_look (con_nil) h) Tryz.checked.mixed Tryz.func114 (by kernel_rfl) (ps := laws_markReservationS.ps) (rs := laws_markReservationS.rs) (by kernel_rfl) (by kernel_rfl) (by kernel_rfl)
  rw [laws_markReservationS.eq] at h
  exact h
theorem laws_markAccount.sound : Sound Tryz.prog 33 laws_markAccount.con := by
  have h := fun_sound (Γ := laws_markAccount.cx) (cx_ok.same rfl rfl) (fun n C h => con_look (con_cons laws_markReservationS.sound con_nil) h) Tryz.checked.mixed Tryz.func33 (by kernel_rfl) (ps := laws_markAccount.ps) (rs := laws_markAccount.rs) (by kernel_rfl) (by kernel_rfl) (by kernel_rfl)
  rw [laws_markAccount.eq] at h
  exact h
theorem spec_l30Plan.sound : Sound Tryz.prog 175 spec_l30Plan.con := by
  have h := fun_sound (Γ := spec_l30Plan.cx) (cx_ok.same rfl rfl) (fun n C h => con_look (con_nil) h) Tryz.checked.mixed Tryz.func175 (by kernel_rfl) (ps := spec_l30Plan.ps) (rs := spec_l30Plan.rs) (by kernel_rfl) (by kernel_rfl) (by kernel_rfl)
  rw [spec_l30Plan.eq] at h
  exact h
theorem spec_l15Bodies.sound : Sound Tryz.prog 176 spec_l15Bodies.con := by
  have h := fun_sound (Γ := spec_l15Bodies.cx) (cx_ok.same rfl rfl) (fun n C h => con_look (con_nil) h) Tryz.checked.mixed Tryz.func176 (by kernel_rfl) (ps := spec_l15Bodies.ps) (rs := spec_l15Bodies.rs) (by kernel_rfl) (by kernel_rfl) (by kernel_rfl)
  rw [spec_l15Bodies.eq] at h
  exact h
theorem spec_l24Sents.sound : Sound Tryz.prog 227 spec_l24Sents.con := by
  have h := fun_sound (Γ := spec_l24Sents.cx) (cx_ok.same rfl rfl) (fun n C h => con_look (con_nil) h) Tryz.checked.mixed Tryz.func227 (by kernel_rfl) (ps := spec_l24Sents.ps) (rs := spec_l24Sents.rs) (by kernel_rfl) (by kernel_rfl) (by kernel_rfl)
  rw [spec_l24Sents.eq] at h
  exact h
theorem spec_l24Sender.sound : Sound Tryz.prog 177 spec_l24Sender.con := by
  have h := fun_sound (Γ := spec_l24Sender.cx) (cx_ok.same rfl rfl) (fun n C h => con_look (con_cons spec_l24Sents.sound con_nil) h) Tryz.checked.mixed Tryz.func177 (by kernel_rfl) (ps := spec_l24Sender.ps) (rs := spec_l24Sender.rs) (by kernel_rfl) (by kernel_rfl) (by kernel_rfl)
  rw [spec_l24Sender.eq] at h
  exact h
theorem spec_l30Copy.sound : Sound Tryz.prog 86 spec_l30Copy.con := by
  have h := fun_sound (Γ := spec_l30Copy.cx) (cx_ok.same rfl rfl) (fun n C h => con_look (con_cons spec_l30Plan.sound (con_cons spec_l15Bodies.sound (con_cons spec_l24Sender.sound con_nil))) h) Tryz.checked.mixed Tryz.func86 (by kernel_rfl) (ps := spec_l30Copy.ps) (rs := spec_l30Copy.rs) (by kernel_rfl) (by kernel_rfl) (by kernel_rfl)
  rw [spec_l30Copy.eq] at h
  exact h
theorem spec_Max.sound : Sound Tryz.prog 90 spec_Max.con := by
  have h := fun_sound (Γ := spec_Max.cx) (cx_ok.same rfl rfl) (fun n C h => con_look (con_nil) h) Tryz.checked.mixed Tryz.func90 (by kernel_rfl) (ps := spec_Max.ps) (rs := spec_Max.rs) (by kernel_rfl) (by kernel_rfl) (by kernel_rfl)
  rw [spec_Max.eq] at h
  exact h
theorem spec_l30Bytes.sound : Sound Tryz.prog 208 spec_l30Bytes.con := by
  have h := fun_sound (Γ := spec_l30Bytes.cx) (cx_ok.same rfl rfl) (fun n C h => con_look (con_nil) h) Tryz.checked.mixed Tryz.func208 (by kernel_rfl) (ps := spec_l30Bytes.ps) (rs := spec_l30Bytes.rs) (by kernel_rfl) (by kernel_rfl) (by kernel_rfl)
  rw [spec_l30Bytes.eq] at h
  exact h
theorem spec_OutstandingBytes.sound : Sound Tryz.prog 178 spec_OutstandingBytes.con := by
  have h := fun_sound (Γ := spec_OutstandingBytes.cx) (cx_ok.same rfl rfl) (fun n C h => con_look (con_cons spec_l30Bytes.sound con_nil) h) Tryz.checked.mixed Tryz.func178 (by kernel_rfl) (ps := spec_OutstandingBytes.ps) (rs := spec_OutstandingBytes.rs) (by kernel_rfl) (by kernel_rfl) (by kernel_rfl)
  rw [spec_OutstandingBytes.eq] at h
  exact h
theorem spec_l1In.sound : Sound Tryz.prog 140 spec_l1In.con := by
  have h := fun_sound (Γ := spec_l1In.cx) (cx_ok.same rfl rfl) (fun n C h => con_look (con_nil) h) Tryz.checked.mixed Tryz.func140 (by kernel_rfl) (ps := spec_l1In.ps) (rs := spec_l1In.rs) (by kernel_rfl) (by kernel_rfl) (by kernel_rfl)
  rw [spec_l1In.eq] at h
  exact h
theorem spec_IsValidQuota.sound : Sound Tryz.prog 182 spec_IsValidQuota.con := by
  have h := fun_sound (Γ := spec_IsValidQuota.cx) (cx_ok.same rfl rfl) (fun n C h => con_look (con_cons spec_l1In.sound con_nil) h) Tryz.checked.mixed Tryz.func182 (by kernel_rfl) (ps := spec_IsValidQuota.ps) (rs := spec_IsValidQuota.rs) (by kernel_rfl) (by kernel_rfl) (by kernel_rfl)
  rw [spec_IsValidQuota.eq] at h
  exact h
theorem spec_RemainingQuota.sound : Sound Tryz.prog 179 spec_RemainingQuota.con := by
  have h := fun_sound (Γ := spec_RemainingQuota.cx) (cx_ok.same rfl rfl) (fun n C h => con_look (con_cons spec_IsValidQuota.sound con_nil) h) Tryz.checked.mixed Tryz.func179 (by kernel_rfl) (ps := spec_RemainingQuota.ps) (rs := spec_RemainingQuota.rs) (by kernel_rfl) (by kernel_rfl) (by kernel_rfl)
  rw [spec_RemainingQuota.eq] at h
  exact h
theorem spec_QuotaNeeded.sound : Sound Tryz.prog 87 spec_QuotaNeeded.con := by
  have h := fun_sound (Γ := spec_QuotaNeeded.cx) (cx_ok.same rfl rfl) (fun n C h => con_look (con_cons spec_Max.sound (con_cons spec_OutstandingBytes.sound (con_cons spec_RemainingQuota.sound con_nil))) h) Tryz.checked.mixed Tryz.func87 (by kernel_rfl) (ps := spec_QuotaNeeded.ps) (rs := spec_QuotaNeeded.rs) (by kernel_rfl) (by kernel_rfl) (by kernel_rfl)
  rw [spec_QuotaNeeded.eq] at h
  exact h
theorem spec_l16Copy.sound : Sound Tryz.prog 88 spec_l16Copy.con := by
  have h := fun_sound (Γ := spec_l16Copy.cx) (cx_ok.same rfl rfl) (fun n C h => con_look (con_nil) h) Tryz.checked.mixed Tryz.func88 (by kernel_rfl) (ps := spec_l16Copy.ps) (rs := spec_l16Copy.rs) (by kernel_rfl) (by kernel_rfl) (by kernel_rfl)
  rw [spec_l16Copy.eq] at h
  exact h
theorem spec_TotalReserved.sound : Sound Tryz.prog 287 spec_TotalReserved.con := by
  have h := fun_sound (Γ := spec_TotalReserved.cx) (cx_ok.same rfl rfl) (fun n C h => con_look (con_nil) h) Tryz.checked.mixed Tryz.func287 (by kernel_rfl) (ps := spec_TotalReserved.ps) (rs := spec_TotalReserved.rs) (by kernel_rfl) (by kernel_rfl) (by kernel_rfl)
  rw [spec_TotalReserved.eq] at h
  exact h
theorem spec_IsValidAccount.sound : Sound Tryz.prog 257 spec_IsValidAccount.con := by
  have h := fun_sound (Γ := spec_IsValidAccount.cx) (cx_ok.same rfl rfl) (fun n C h => con_look (con_cons spec_l1In.sound (con_cons spec_TotalReserved.sound con_nil)) h) Tryz.checked.mixed Tryz.func257 (by kernel_rfl) (ps := spec_IsValidAccount.ps) (rs := spec_IsValidAccount.rs) (by kernel_rfl) (by kernel_rfl) (by kernel_rfl)
  rw [spec_IsValidAccount.eq] at h
  exact h
theorem spec_l16Find.sound : Sound Tryz.prog 258 spec_l16Find.con := by
  have h := fun_sound (Γ := spec_l16Find.cx) (cx_ok.same rfl rfl) (fun n C h => con_look (con_nil) h) Tryz.checked.mixed Tryz.func258 (by kernel_rfl) (ps := spec_l16Find.ps) (rs := spec_l16Find.rs) (by kernel_rfl) (by kernel_rfl) (by kernel_rfl)
  rw [spec_l16Find.eq] at h
  exact h
theorem spec_Min.sound : Sound Tryz.prog 259 spec_Min.con := by
  have h := fun_sound (Γ := spec_Min.cx) (cx_ok.same rfl rfl) (fun n C h => con_look (con_nil) h) Tryz.checked.mixed Tryz.func259 (by kernel_rfl) (ps := spec_Min.ps) (rs := spec_Min.rs) (by kernel_rfl) (by kernel_rfl) (by kernel_rfl)
  rw [spec_Min.eq] at h
  exact h
theorem spec_l16Add.sound : Sound Tryz.prog 260 spec_l16Add.con := by
  have h := fun_sound (Γ := spec_l16Add.cx) (cx_ok.same rfl rfl) (fun n C h => con_look (con_nil) h) Tryz.checked.mixed Tryz.func260 (by kernel_rfl) (ps := spec_l16Add.ps) (rs := spec_l16Add.rs) (by kernel_rfl) (by kernel_rfl) (by kernel_rfl)
  rw [spec_l16Add.eq] at h
  exact h
theorem spec_Reserve.sound : Sound Tryz.prog 180 spec_Reserve.con := by
  have h := fun_sound (Γ := spec_Reserve.cx) (cx_ok.same rfl rfl) (fun n C h => con_look (con_cons spec_l16Copy.sound (con_cons spec_l1In.sound (con_cons spec_IsValidAccount.sound (con_cons spec_l16Find.sound (con_cons spec_Min.sound (con_cons spec_l16Add.sound con_nil)))))) h) Tryz.checked.mixed Tryz.func180 (by kernel_rfl) (ps := spec_Reserve.ps) (rs := spec_Reserve.rs) (by kernel_rfl) (by kernel_rfl) (by kernel_rfl)
  rw [spec_Reserve.eq] at h
  exact h
theorem spec_ReservedFor.sound : Sound Tryz.prog 261 spec_ReservedFor.con := by
  have h := fun_sound (Γ := spec_ReservedFor.cx) (cx_ok.same rfl rfl) (fun n C h => con_look (con_cons spec_l16Find.sound con_nil) h) Tryz.checked.mixed Tryz.func261 (by kernel_rfl) (ps := spec_ReservedFor.ps) (rs := spec_ReservedFor.rs) (by kernel_rfl) (by kernel_rfl) (by kernel_rfl)
  rw [spec_ReservedFor.eq] at h
  exact h
theorem spec_QuotaMatchesAccount.sound : Sound Tryz.prog 181 spec_QuotaMatchesAccount.con := by
  have h := fun_sound (Γ := spec_QuotaMatchesAccount.cx) (cx_ok.same rfl rfl) (fun n C h => con_look (con_cons spec_IsValidQuota.sound (con_cons spec_IsValidAccount.sound (con_cons spec_ReservedFor.sound con_nil))) h) Tryz.checked.mixed Tryz.func181 (by kernel_rfl) (ps := spec_QuotaMatchesAccount.ps) (rs := spec_QuotaMatchesAccount.rs) (by kernel_rfl) (by kernel_rfl) (by kernel_rfl)
  rw [spec_QuotaMatchesAccount.eq] at h
  exact h
theorem spec_RequestQuota.sound : Sound Tryz.prog 89 spec_RequestQuota.con := by
  have h := fun_sound (Γ := spec_RequestQuota.cx) (cx_ok.same rfl rfl) (fun n C h => con_look (con_cons spec_l16Copy.sound (con_cons spec_Reserve.sound (con_cons spec_QuotaMatchesAccount.sound (con_cons spec_IsValidQuota.sound con_nil)))) h) Tryz.checked.mixed Tryz.func89 (by kernel_rfl) (ps := spec_RequestQuota.ps) (rs := spec_RequestQuota.rs) (by kernel_rfl) (by kernel_rfl) (by kernel_rfl)
  rw [spec_RequestQuota.eq] at h
  exact h
theorem spec_EnsureQuota.sound : Sound Tryz.prog 26 spec_EnsureQuota.con := by
  have h := fun_sound (Γ := spec_EnsureQuota.cx) (cx_ok.same rfl rfl) (fun n C h => con_look (con_cons spec_l30Copy.sound (con_cons spec_QuotaNeeded.sound (con_cons spec_l16Copy.sound (con_cons spec_RequestQuota.sound (con_cons spec_Max.sound con_nil))))) h) Tryz.checked.mixed Tryz.func26 (by kernel_rfl) (ps := spec_EnsureQuota.ps) (rs := spec_EnsureQuota.rs) (by kernel_rfl) (by kernel_rfl) (by kernel_rfl)
  rw [spec_EnsureQuota.eq] at h
  exact h
theorem spec_l31None.sound : Sound Tryz.prog 129 spec_l31None.con := by
  have h := fun_sound (Γ := spec_l31None.cx) (cx_ok.same rfl rfl) (fun n C h => con_look (con_cons spec_l30Copy.sound (con_cons spec_l16Copy.sound con_nil)) h) Tryz.checked.mixed Tryz.func129 (by kernel_rfl) (ps := spec_l31None.ps) (rs := spec_l31None.rs) (by kernel_rfl) (by kernel_rfl) (by kernel_rfl)
  rw [spec_l31None.eq] at h
  exact h
theorem spec_IsValidKey.sound : Sound Tryz.prog 51 spec_IsValidKey.con := by
  have h := fun_sound (Γ := spec_IsValidKey.cx) (cx_ok.same rfl rfl) (fun n C h => con_look (con_cons spec_l1In.sound con_nil) h) Tryz.checked.mixed Tryz.func51 (by kernel_rfl) (ps := spec_IsValidKey.ps) (rs := spec_IsValidKey.rs) (by kernel_rfl) (by kernel_rfl) (by kernel_rfl)
  rw [spec_IsValidKey.eq] at h
  exact h
theorem spec_IsValidSubscriberID.sound : Sound Tryz.prog 278 spec_IsValidSubscriberID.con := by
  have h := fun_sound (Γ := spec_IsValidSubscriberID.cx) (cx_ok.same rfl rfl) (fun n C h => con_look (con_cons spec_l1In.sound con_nil) h) Tryz.checked.mixed Tryz.func278 (by kernel_rfl) (ps := spec_IsValidSubscriberID.ps) (rs := spec_IsValidSubscriberID.rs) (by kernel_rfl) (by kernel_rfl) (by kernel_rfl)
  rw [spec_IsValidSubscriberID.eq] at h
  exact h
theorem spec_IsValidSubscriberRecord.sound : Sound Tryz.prog 268 spec_IsValidSubscriberRecord.con := by
  have h := fun_sound (Γ := spec_IsValidSubscriberRecord.cx) (cx_ok.same rfl rfl) (fun n C h => con_look (con_cons spec_IsValidKey.sound (con_cons spec_l1In.sound (con_cons spec_IsValidSubscriberID.sound con_nil))) h) Tryz.checked.mixed Tryz.func268 (by kernel_rfl) (ps := spec_IsValidSubscriberRecord.ps) (rs := spec_IsValidSubscriberRecord.rs) (by kernel_rfl) (by kernel_rfl) (by kernel_rfl)
  rw [spec_IsValidSubscriberRecord.eq] at h
  exact h
theorem spec_IsValidSubscription.sound : Sound Tryz.prog 269 spec_IsValidSubscription.con := by
  have h := fun_sound (Γ := spec_IsValidSubscription.cx) (cx_ok.same rfl rfl) (fun n C h => con_look (con_cons spec_l1In.sound con_nil) h) Tryz.checked.mixed Tryz.func269 (by kernel_rfl) (ps := spec_IsValidSubscription.ps) (rs := spec_IsValidSubscription.rs) (by kernel_rfl) (by kernel_rfl) (by kernel_rfl)
  rw [spec_IsValidSubscription.eq] at h
  exact h
theorem spec_IsValidPaging.sound : Sound Tryz.prog 270 spec_IsValidPaging.con := by
  have h := fun_sound (Γ := spec_IsValidPaging.cx) (cx_ok.same rfl rfl) (fun n C h => con_look (con_cons spec_l1In.sound con_nil) h) Tryz.checked.mixed Tryz.func270 (by kernel_rfl) (ps := spec_IsValidPaging.ps) (rs := spec_IsValidPaging.rs) (by kernel_rfl) (by kernel_rfl) (by kernel_rfl)
  rw [spec_IsValidPaging.eq] at h
  exact h
theorem spec_IsValidSender.sound : Sound Tryz.prog 216 spec_IsValidSender.con := by
  have h := fun_sound (Γ := spec_IsValidSender.cx) (cx_ok.same rfl rfl) (fun n C h => con_look (con_cons spec_l1In.sound con_nil) h) Tryz.checked.mixed Tryz.func216 (by kernel_rfl) (ps := spec_IsValidSender.ps) (rs := spec_IsValidSender.rs) (by kernel_rfl) (by kernel_rfl) (by kernel_rfl)
  rw [spec_IsValidSender.eq] at h
  exact h
theorem spec_EqualBytes.sound : Sound Tryz.prog 289 spec_EqualBytes.con := by
  have h := fun_sound (Γ := spec_EqualBytes.cx) (cx_ok.same rfl rfl) (fun n C h => con_look (con_nil) h) Tryz.checked.mixed Tryz.func289 (by kernel_rfl) (ps := spec_EqualBytes.ps) (rs := spec_EqualBytes.rs) (by kernel_rfl) (by kernel_rfl) (by kernel_rfl)
  rw [spec_EqualBytes.eq] at h
  exact h
theorem spec_l30Stream.sound : Sound Tryz.prog 271 spec_l30Stream.con := by
  have h := fun_sound (Γ := spec_l30Stream.cx) (cx_ok.same rfl rfl) (fun n C h => con_look (con_cons spec_RemainingQuota.sound (con_cons spec_l30Bytes.sound (con_cons spec_IsValidSender.sound (con_cons spec_EqualBytes.sound con_nil)))) h) Tryz.checked.mixed Tryz.func271 (by kernel_rfl) (ps := spec_l30Stream.ps) (rs := spec_l30Stream.rs) (by kernel_rfl) (by kernel_rfl) (by kernel_rfl)
  rw [spec_l30Stream.eq] at h
  exact h
theorem spec_IsValidSession.sound : Sound Tryz.prog 215 spec_IsValidSession.con := by
  have h := fun_sound (Γ := spec_IsValidSession.cx) (cx_ok.same rfl rfl) (fun n C h => con_look (con_cons spec_IsValidKey.sound (con_cons spec_l1In.sound (con_cons spec_IsValidQuota.sound (con_cons spec_IsValidSubscriberRecord.sound (con_cons spec_IsValidSubscription.sound (con_cons spec_IsValidPaging.sound (con_cons spec_l30Stream.sound con_nil))))))) h) Tryz.checked.mixed Tryz.func215 (by kernel_rfl) (ps := spec_IsValidSession.ps) (rs := spec_IsValidSession.rs) (by kernel_rfl) (by kernel_rfl) (by kernel_rfl)
  rw [spec_IsValidSession.eq] at h
  exact h
theorem spec_l31Idle.sound : Sound Tryz.prog 130 spec_l31Idle.con := by
  have h := fun_sound (Γ := spec_l31Idle.cx) (cx_ok.same rfl rfl) (fun n C h => con_look (con_cons spec_IsValidSession.sound con_nil) h) Tryz.checked.mixed Tryz.func130 (by kernel_rfl) (ps := spec_l31Idle.ps) (rs := spec_l31Idle.rs) (by kernel_rfl) (by kernel_rfl) (by kernel_rfl)
  rw [spec_l31Idle.eq] at h
  exact h
theorem spec_SendPacket.sound : Sound Tryz.prog 131 spec_SendPacket.con := by
  have h := fun_sound (Γ := spec_SendPacket.cx) (cx_ok.same rfl rfl) (fun n C h => con_look (con_cons spec_l24Sender.sound (con_cons spec_IsValidSender.sound con_nil)) h) Tryz.checked.mixed Tryz.func131 (by kernel_rfl) (ps := spec_SendPacket.ps) (rs := spec_SendPacket.rs) (by kernel_rfl) (by kernel_rfl) (by kernel_rfl)
  rw [spec_SendPacket.eq] at h
  exact h
theorem spec_Mod.sound : Sound Tryz.prog 279 spec_Mod.con := by
  have h := fun_sound (Γ := spec_Mod.cx) (cx_ok.same rfl rfl) (fun n C h => con_look (con_cons spec_l1In.sound con_nil) h) Tryz.checked.mixed Tryz.func279 (by kernel_rfl) (ps := spec_Mod.ps) (rs := spec_Mod.rs) (by kernel_rfl) (by kernel_rfl) (by kernel_rfl)
  rw [spec_Mod.eq] at h
  exact h
theorem spec_Hash.sound : Sound Tryz.prog 281 spec_Hash.con := by
  have h := fun_sound (Γ := spec_Hash.cx) (cx_ok.same rfl rfl) (fun n C h => con_look (con_cons spec_Mod.sound con_nil) h) Tryz.checked.mixed Tryz.func281 (by kernel_rfl) (ps := spec_Hash.ps) (rs := spec_Hash.rs) (by kernel_rfl) (by kernel_rfl) (by kernel_rfl)
  rw [spec_Hash.eq] at h
  exact h
theorem spec_KeyedHash.sound : Sound Tryz.prog 231 spec_KeyedHash.con := by
  have h := fun_sound (Γ := spec_KeyedHash.cx) (cx_ok.same rfl rfl) (fun n C h => con_look (con_cons spec_Hash.sound con_nil) h) Tryz.checked.mixed Tryz.func231 (by kernel_rfl) (ps := spec_KeyedHash.ps) (rs := spec_KeyedHash.rs) (by kernel_rfl) (by kernel_rfl) (by kernel_rfl)
  rw [spec_KeyedHash.eq] at h
  exact h
theorem spec_DeriveKey.sound : Sound Tryz.prog 249 spec_DeriveKey.con := by
  have h := fun_sound (Γ := spec_DeriveKey.cx) (cx_ok.same rfl rfl) (fun n C h => con_look (con_cons spec_Max.sound (con_cons spec_KeyedHash.sound con_nil)) h) Tryz.checked.mixed Tryz.func249 (by kernel_rfl) (ps := spec_DeriveKey.ps) (rs := spec_DeriveKey.rs) (by kernel_rfl) (by kernel_rfl) (by kernel_rfl)
  rw [spec_DeriveKey.eq] at h
  exact h
theorem spec_KeyForPath.sound : Sound Tryz.prog 234 spec_KeyForPath.con := by
  have h := fun_sound (Γ := spec_KeyForPath.cx) (cx_ok.same rfl rfl) (fun n C h => con_look (con_cons spec_DeriveKey.sound con_nil) h) Tryz.checked.mixed Tryz.func234 (by kernel_rfl) (ps := spec_KeyForPath.ps) (rs := spec_KeyForPath.rs) (by kernel_rfl) (by kernel_rfl) (by kernel_rfl)
  rw [spec_KeyForPath.eq] at h
  exact h
theorem spec_RadioKeyPath.sound : Sound Tryz.prog 250 spec_RadioKeyPath.con := by
  have h := fun_sound (Γ := spec_RadioKeyPath.cx) (cx_ok.same rfl rfl) (fun n C h => con_look (con_nil) h) Tryz.checked.mixed Tryz.func250 (by kernel_rfl) (ps := spec_RadioKeyPath.ps) (rs := spec_RadioKeyPath.rs) (by kernel_rfl) (by kernel_rfl) (by kernel_rfl)
  rw [spec_RadioKeyPath.eq] at h
  exact h
theorem spec_RadioKey.sound : Sound Tryz.prog 160 spec_RadioKey.con := by
  have h := fun_sound (Γ := spec_RadioKey.cx) (cx_ok.same rfl rfl) (fun n C h => con_look (con_cons spec_KeyForPath.sound (con_cons spec_RadioKeyPath.sound con_nil)) h) Tryz.checked.mixed Tryz.func160 (by kernel_rfl) (ps := spec_RadioKey.ps) (rs := spec_RadioKey.rs) (by kernel_rfl) (by kernel_rfl) (by kernel_rfl)
  rw [spec_RadioKey.eq] at h
  exact h
theorem spec_BytesToInts.sound : Sound Tryz.prog 292 spec_BytesToInts.con := by
  have h := fun_sound (Γ := spec_BytesToInts.cx) (cx_ok.same rfl rfl) (fun n C h => con_look (con_nil) h) Tryz.checked.mixed Tryz.func292 (by kernel_rfl) (ps := spec_BytesToInts.ps) (rs := spec_BytesToInts.rs) (by kernel_rfl) (by kernel_rfl) (by kernel_rfl)
  rw [spec_BytesToInts.eq] at h
  exact h
theorem spec_l8Mac.sound : Sound Tryz.prog 286 spec_l8Mac.con := by
  have h := fun_sound (Γ := spec_l8Mac.cx) (cx_ok.same rfl rfl) (fun n C h => con_look (con_cons spec_KeyedHash.sound (con_cons spec_BytesToInts.sound con_nil)) h) Tryz.checked.mixed Tryz.func286 (by kernel_rfl) (ps := spec_l8Mac.ps) (rs := spec_l8Mac.rs) (by kernel_rfl) (by kernel_rfl) (by kernel_rfl)
  rw [spec_l8Mac.eq] at h
  exact h
theorem spec_Encrypt.sound : Sound Tryz.prog 290 spec_Encrypt.con := by
  have h := fun_sound (Γ := spec_Encrypt.cx) (cx_ok.same rfl rfl) (fun n C h => con_look (con_cons spec_KeyedHash.sound con_nil) h) Tryz.checked.mixed Tryz.func290 (by kernel_rfl) (ps := spec_Encrypt.ps) (rs := spec_Encrypt.rs) (by kernel_rfl) (by kernel_rfl) (by kernel_rfl)
  rw [spec_Encrypt.eq] at h
  exact h
theorem spec_Protect.sound : Sound Tryz.prog 272 spec_Protect.con := by
  have h := fun_sound (Γ := spec_Protect.cx) (cx_ok.same rfl rfl) (fun n C h => con_look (con_cons spec_DeriveKey.sound (con_cons spec_l8Mac.sound (con_cons spec_Encrypt.sound con_nil))) h) Tryz.checked.mixed Tryz.func272 (by kernel_rfl) (ps := spec_Protect.ps) (rs := spec_Protect.rs) (by kernel_rfl) (by kernel_rfl) (by kernel_rfl)
  rw [spec_Protect.eq] at h
  exact h
theorem spec_SealRadio.sound : Sound Tryz.prog 217 spec_SealRadio.con := by
  have h := fun_sound (Γ := spec_SealRadio.cx) (cx_ok.same rfl rfl) (fun n C h => con_look (con_cons spec_RadioKey.sound (con_cons spec_Protect.sound con_nil)) h) Tryz.checked.mixed Tryz.func217 (by kernel_rfl) (ps := spec_SealRadio.ps) (rs := spec_SealRadio.rs) (by kernel_rfl) (by kernel_rfl) (by kernel_rfl)
  rw [spec_SealRadio.eq] at h
  exact h
theorem spec_l31Seal.sound : Sound Tryz.prog 132 spec_l31Seal.con := by
  have h := fun_sound (Γ := spec_l31Seal.cx) (cx_ok.same rfl rfl) (fun n C h => con_look (con_cons spec_SealRadio.sound con_nil) h) Tryz.checked.mixed Tryz.func132 (by kernel_rfl) (ps := spec_l31Seal.ps) (rs := spec_l31Seal.rs) (by kernel_rfl) (by kernel_rfl) (by kernel_rfl)
  rw [spec_l31Seal.eq] at h
  exact h
theorem spec_SendNew.sound : Sound Tryz.prog 41 spec_SendNew.con := by
  have h := fun_sound (Γ := spec_SendNew.cx) (cx_ok.same rfl rfl) (fun n C h => con_look (con_cons spec_EnsureQuota.sound (con_cons spec_QuotaNeeded.sound (con_cons spec_l31None.sound (con_cons spec_l31Idle.sound (con_cons spec_SendPacket.sound (con_cons spec_l31Seal.sound con_nil)))))) h) Tryz.checked.mixed Tryz.func41 (by kernel_rfl) (ps := spec_SendNew.ps) (rs := spec_SendNew.rs) (by kernel_rfl) (by kernel_rfl) (by kernel_rfl)
  rw [spec_SendNew.eq] at h
  exact h
theorem impl_copyInts.sound : Sound Tryz.prog 262 impl_copyInts.con := by
  have h := fun_sound (Γ := impl_copyInts.cx) (cx_ok.same rfl rfl) (fun n C h => con_look (con_nil) h) Tryz.checked.mixed Tryz.func262 (by kernel_rfl) (ps := impl_copyInts.ps) (rs := impl_copyInts.rs) (by kernel_rfl) (by kernel_rfl) (by kernel_rfl)
  rw [impl_copyInts.eq] at h
  exact h
theorem impl_copySubscription.sound : Sound Tryz.prog 186 impl_copySubscription.con := by
  have h := fun_sound (Γ := impl_copySubscription.cx) (cx_ok.same rfl rfl) (fun n C h => con_look (con_cons impl_copyInts.sound con_nil) h) Tryz.checked.mixed Tryz.func186 (by kernel_rfl) (ps := impl_copySubscription.ps) (rs := impl_copySubscription.rs) (by kernel_rfl) (by kernel_rfl) (by kernel_rfl)
  rw [impl_copySubscription.eq] at h
  exact h
theorem impl_copyBytes.sound : Sound Tryz.prog 170 impl_copyBytes.con := by
  have h := fun_sound (Γ := impl_copyBytes.cx) (cx_ok.same rfl rfl) (fun n C h => con_look (con_nil) h) Tryz.checked.mixed Tryz.func170 (by kernel_rfl) (ps := impl_copyBytes.ps) (rs := impl_copyBytes.rs) (by kernel_rfl) (by kernel_rfl) (by kernel_rfl)
  rw [impl_copyBytes.eq] at h
  exact h
theorem impl_copyPayloads.sound : Sound Tryz.prog 187 impl_copyPayloads.con := by
  have h := fun_sound (Γ := impl_copyPayloads.cx) (cx_ok.same rfl rfl) (fun n C h => con_look (con_cons impl_copyBytes.sound con_nil) h) Tryz.checked.mixed Tryz.func187 (by kernel_rfl) (ps := impl_copyPayloads.ps) (rs := impl_copyPayloads.rs) (by kernel_rfl) (by kernel_rfl) (by kernel_rfl)
  rw [impl_copyPayloads.eq] at h
  exact h
theorem impl_copyNumbered.sound : Sound Tryz.prog 256 impl_copyNumbered.con := by
  have h := fun_sound (Γ := impl_copyNumbered.cx) (cx_ok.same rfl rfl) (fun n C h => con_look (con_cons impl_copyBytes.sound con_nil) h) Tryz.checked.mixed Tryz.func256 (by kernel_rfl) (ps := impl_copyNumbered.ps) (rs := impl_copyNumbered.rs) (by kernel_rfl) (by kernel_rfl) (by kernel_rfl)
  rw [impl_copyNumbered.eq] at h
  exact h
theorem impl_copySender.sound : Sound Tryz.prog 188 impl_copySender.con := by
  have h := fun_sound (Γ := impl_copySender.cx) (cx_ok.same rfl rfl) (fun n C h => con_look (con_cons impl_copyNumbered.sound con_nil) h) Tryz.checked.mixed Tryz.func188 (by kernel_rfl) (ps := impl_copySender.ps) (rs := impl_copySender.rs) (by kernel_rfl) (by kernel_rfl) (by kernel_rfl)
  rw [impl_copySender.eq] at h
  exact h
theorem impl_copySession.sound : Sound Tryz.prog 98 impl_copySession.con := by
  have h := fun_sound (Γ := impl_copySession.cx) (cx_ok.same rfl rfl) (fun n C h => con_look (con_cons impl_copySubscription.sound (con_cons impl_copyPayloads.sound (con_cons impl_copySender.sound con_nil))) h) Tryz.checked.mixed Tryz.func98 (by kernel_rfl) (ps := impl_copySession.ps) (rs := impl_copySession.rs) (by kernel_rfl) (by kernel_rfl) (by kernel_rfl)
  rw [impl_copySession.eq] at h
  exact h
theorem impl_Max.sound : Sound Tryz.prog 102 impl_Max.con := by
  have h := fun_sound (Γ := impl_Max.cx) (cx_ok.same rfl rfl) (fun n C h => con_look (con_nil) h) Tryz.checked.mixed Tryz.func102 (by kernel_rfl) (ps := impl_Max.ps) (rs := impl_Max.rs) (by kernel_rfl) (by kernel_rfl) (by kernel_rfl)
  rw [impl_Max.eq] at h
  exact h
theorem impl_numberedBytes.sound : Sound Tryz.prog 263 impl_numberedBytes.con := by
  have h := fun_sound (Γ := impl_numberedBytes.cx) (cx_ok.same rfl rfl) (fun n C h => con_look (con_nil) h) Tryz.checked.mixed Tryz.func263 (by kernel_rfl) (ps := impl_numberedBytes.ps) (rs := impl_numberedBytes.rs) (by kernel_rfl) (by kernel_rfl) (by kernel_rfl)
  rw [impl_numberedBytes.eq] at h
  exact h
theorem impl_OutstandingBytes.sound : Sound Tryz.prog 189 impl_OutstandingBytes.con := by
  have h := fun_sound (Γ := impl_OutstandingBytes.cx) (cx_ok.same rfl rfl) (fun n C h => con_look (con_cons impl_numberedBytes.sound con_nil) h) Tryz.checked.mixed Tryz.func189 (by kernel_rfl) (ps := impl_OutstandingBytes.ps) (rs := impl_OutstandingBytes.rs) (by kernel_rfl) (by kernel_rfl) (by kernel_rfl)
  rw [impl_OutstandingBytes.eq] at h
  exact h
theorem impl_IsValidQuota.sound : Sound Tryz.prog 222 impl_IsValidQuota.con := by
  have h := fun_sound (Γ := impl_IsValidQuota.cx) (cx_ok.same rfl rfl) (fun n C h => con_look (con_nil) h) Tryz.checked.mixed Tryz.func222 (by kernel_rfl) (ps := impl_IsValidQuota.ps) (rs := impl_IsValidQuota.rs) (by kernel_rfl) (by kernel_rfl) (by kernel_rfl)
  rw [impl_IsValidQuota.eq] at h
  exact h
theorem impl_RemainingQuota.sound : Sound Tryz.prog 190 impl_RemainingQuota.con := by
  have h := fun_sound (Γ := impl_RemainingQuota.cx) (cx_ok.same rfl rfl) (fun n C h => con_look (con_cons impl_IsValidQuota.sound con_nil) h) Tryz.checked.mixed Tryz.func190 (by kernel_rfl) (ps := impl_RemainingQuota.ps) (rs := impl_RemainingQuota.rs) (by kernel_rfl) (by kernel_rfl) (by kernel_rfl)
  rw [impl_RemainingQuota.eq] at h
  exact h
theorem impl_QuotaNeeded.sound : Sound Tryz.prog 99 impl_QuotaNeeded.con := by
  have h := fun_sound (Γ := impl_QuotaNeeded.cx) (cx_ok.same rfl rfl) (fun n C h => con_look (con_cons impl_Max.sound (con_cons impl_OutstandingBytes.sound (con_cons impl_RemainingQuota.sound con_nil))) h) Tryz.checked.mixed Tryz.func99 (by kernel_rfl) (ps := impl_QuotaNeeded.ps) (rs := impl_QuotaNeeded.rs) (by kernel_rfl) (by kernel_rfl) (by kernel_rfl)
  rw [impl_QuotaNeeded.eq] at h
  exact h
theorem impl_copyItems_impl_Reservation.sound : Sound Tryz.prog 191 impl_copyItems_impl_Reservation.con := by
  have h := fun_sound (Γ := impl_copyItems_impl_Reservation.cx) (cx_ok.same rfl rfl) (fun n C h => con_look (con_nil) h) Tryz.checked.mixed Tryz.func191 (by kernel_rfl) (ps := impl_copyItems_impl_Reservation.ps) (rs := impl_copyItems_impl_Reservation.rs) (by kernel_rfl) (by kernel_rfl) (by kernel_rfl)
  rw [impl_copyItems_impl_Reservation.eq] at h
  exact h
theorem impl_copyAccount.sound : Sound Tryz.prog 100 impl_copyAccount.con := by
  have h := fun_sound (Γ := impl_copyAccount.cx) (cx_ok.same rfl rfl) (fun n C h => con_look (con_cons impl_copyItems_impl_Reservation.sound con_nil) h) Tryz.checked.mixed Tryz.func100 (by kernel_rfl) (ps := impl_copyAccount.ps) (rs := impl_copyAccount.rs) (by kernel_rfl) (by kernel_rfl) (by kernel_rfl)
  rw [impl_copyAccount.eq] at h
  exact h
theorem impl_InRange.sound : Sound Tryz.prog 146 impl_InRange.con := by
  have h := fun_sound (Γ := impl_InRange.cx) (cx_ok.same rfl rfl) (fun n C h => con_look (con_nil) h) Tryz.checked.mixed Tryz.func146 (by kernel_rfl) (ps := impl_InRange.ps) (rs := impl_InRange.rs) (by kernel_rfl) (by kernel_rfl) (by kernel_rfl)
  rw [impl_InRange.eq] at h
  exact h
theorem impl_TotalReserved.sound : Sound Tryz.prog 288 impl_TotalReserved.con := by
  have h := fun_sound (Γ := impl_TotalReserved.cx) (cx_ok.same rfl rfl) (fun n C h => con_look (con_nil) h) Tryz.checked.mixed Tryz.func288 (by kernel_rfl) (ps := impl_TotalReserved.ps) (rs := impl_TotalReserved.rs) (by kernel_rfl) (by kernel_rfl) (by kernel_rfl)
  rw [impl_TotalReserved.eq] at h
  exact h
theorem impl_IsValidAccount.sound : Sound Tryz.prog 264 impl_IsValidAccount.con := by
  have h := fun_sound (Γ := impl_IsValidAccount.cx) (cx_ok.same rfl rfl) (fun n C h => con_look (con_cons impl_InRange.sound (con_cons impl_TotalReserved.sound con_nil)) h) Tryz.checked.mixed Tryz.func264 (by kernel_rfl) (ps := impl_IsValidAccount.ps) (rs := impl_IsValidAccount.rs) (by kernel_rfl) (by kernel_rfl) (by kernel_rfl)
  rw [impl_IsValidAccount.eq] at h
  exact h
theorem impl_reservationIndex.sound : Sound Tryz.prog 267 impl_reservationIndex.con := by
  have h := fun_sound (Γ := impl_reservationIndex.cx) (cx_ok.same rfl rfl) (fun n C h => con_look (con_nil) h) Tryz.checked.mixed Tryz.func267 (by kernel_rfl) (ps := impl_reservationIndex.ps) (rs := impl_reservationIndex.rs) (by kernel_rfl) (by kernel_rfl) (by kernel_rfl)
  rw [impl_reservationIndex.eq] at h
  exact h
theorem impl_ReservedFor.sound : Sound Tryz.prog 265 impl_ReservedFor.con := by
  have h := fun_sound (Γ := impl_ReservedFor.cx) (cx_ok.same rfl rfl) (fun n C h => con_look (con_cons impl_reservationIndex.sound con_nil) h) Tryz.checked.mixed Tryz.func265 (by kernel_rfl) (ps := impl_ReservedFor.ps) (rs := impl_ReservedFor.rs) (by kernel_rfl) (by kernel_rfl) (by kernel_rfl)
  rw [impl_ReservedFor.eq] at h
  exact h
theorem impl_QuotaMatchesAccount.sound : Sound Tryz.prog 192 impl_QuotaMatchesAccount.con := by
  have h := fun_sound (Γ := impl_QuotaMatchesAccount.cx) (cx_ok.same rfl rfl) (fun n C h => con_look (con_cons impl_IsValidQuota.sound (con_cons impl_IsValidAccount.sound (con_cons impl_ReservedFor.sound con_nil))) h) Tryz.checked.mixed Tryz.func192 (by kernel_rfl) (ps := impl_QuotaMatchesAccount.ps) (rs := impl_QuotaMatchesAccount.rs) (by kernel_rfl) (by kernel_rfl) (by kernel_rfl)
  rw [impl_QuotaMatchesAccount.eq] at h
  exact h
theorem impl_Min.sound : Sound Tryz.prog 266 impl_Min.con := by
  have h := fun_sound (Γ := impl_Min.cx) (cx_ok.same rfl rfl) (fun n C h => con_look (con_nil) h) Tryz.checked.mixed Tryz.func266 (by kernel_rfl) (ps := impl_Min.ps) (rs := impl_Min.rs) (by kernel_rfl) (by kernel_rfl) (by kernel_rfl)
  rw [impl_Min.eq] at h
  exact h
theorem impl_Reserve.sound : Sound Tryz.prog 193 impl_Reserve.con := by
  have h := fun_sound (Γ := impl_Reserve.cx) (cx_ok.same rfl rfl) (fun n C h => con_look (con_cons impl_copyAccount.sound (con_cons impl_InRange.sound (con_cons impl_IsValidAccount.sound (con_cons impl_Min.sound (con_cons impl_reservationIndex.sound con_nil))))) h) Tryz.checked.mixed Tryz.func193 (by kernel_rfl) (ps := impl_Reserve.ps) (rs := impl_Reserve.rs) (by kernel_rfl) (by kernel_rfl) (by kernel_rfl)
  rw [impl_Reserve.eq] at h
  exact h
theorem impl_RequestQuota.sound : Sound Tryz.prog 101 impl_RequestQuota.con := by
  have h := fun_sound (Γ := impl_RequestQuota.cx) (cx_ok.same rfl rfl) (fun n C h => con_look (con_cons impl_copyAccount.sound (con_cons impl_QuotaMatchesAccount.sound (con_cons impl_Reserve.sound con_nil))) h) Tryz.checked.mixed Tryz.func101 (by kernel_rfl) (ps := impl_RequestQuota.ps) (rs := impl_RequestQuota.rs) (by kernel_rfl) (by kernel_rfl) (by kernel_rfl)
  rw [impl_RequestQuota.eq] at h
  exact h
theorem impl_EnsureQuota.sound : Sound Tryz.prog 29 impl_EnsureQuota.con := by
  have h := fun_sound (Γ := impl_EnsureQuota.cx) (cx_ok.same rfl rfl) (fun n C h => con_look (con_cons impl_copySession.sound (con_cons impl_QuotaNeeded.sound (con_cons impl_copyAccount.sound (con_cons impl_RequestQuota.sound (con_cons impl_Max.sound con_nil))))) h) Tryz.checked.mixed Tryz.func29 (by kernel_rfl) (ps := impl_EnsureQuota.ps) (rs := impl_EnsureQuota.rs) (by kernel_rfl) (by kernel_rfl) (by kernel_rfl)
  rw [impl_EnsureQuota.eq] at h
  exact h
theorem impl_IsValidKey.sound : Sound Tryz.prog 62 impl_IsValidKey.con := by
  have h := fun_sound (Γ := impl_IsValidKey.cx) (cx_ok.same rfl rfl) (fun n C h => con_look (con_cons impl_InRange.sound con_nil) h) Tryz.checked.mixed Tryz.func62 (by kernel_rfl) (ps := impl_IsValidKey.ps) (rs := impl_IsValidKey.rs) (by kernel_rfl) (by kernel_rfl) (by kernel_rfl)
  rw [impl_IsValidKey.eq] at h
  exact h
theorem impl_IsValidSubscriberID.sound : Sound Tryz.prog 273 impl_IsValidSubscriberID.con := by
  have h := fun_sound (Γ := impl_IsValidSubscriberID.cx) (cx_ok.same rfl rfl) (fun n C h => con_look (con_cons impl_InRange.sound con_nil) h) Tryz.checked.mixed Tryz.func273 (by kernel_rfl) (ps := impl_IsValidSubscriberID.ps) (rs := impl_IsValidSubscriberID.rs) (by kernel_rfl) (by kernel_rfl) (by kernel_rfl)
  rw [impl_IsValidSubscriberID.eq] at h
  exact h
theorem impl_IsValidSubscriberRecord.sound : Sound Tryz.prog 218 impl_IsValidSubscriberRecord.con := by
  have h := fun_sound (Γ := impl_IsValidSubscriberRecord.cx) (cx_ok.same rfl rfl) (fun n C h => con_look (con_cons impl_IsValidKey.sound (con_cons impl_InRange.sound (con_cons impl_IsValidSubscriberID.sound con_nil))) h) Tryz.checked.mixed Tryz.func218 (by kernel_rfl) (ps := impl_IsValidSubscriberRecord.ps) (rs := impl_IsValidSubscriberRecord.rs) (by kernel_rfl) (by kernel_rfl) (by kernel_rfl)
  rw [impl_IsValidSubscriberRecord.eq] at h
  exact h
theorem impl_isAscending.sound : Sound Tryz.prog 274 impl_isAscending.con := by
  have h := fun_sound (Γ := impl_isAscending.cx) (cx_ok.same rfl rfl) (fun n C h => con_look (con_nil) h) Tryz.checked.mixed Tryz.func274 (by kernel_rfl) (ps := impl_isAscending.ps) (rs := impl_isAscending.rs) (by kernel_rfl) (by kernel_rfl) (by kernel_rfl)
  rw [impl_isAscending.eq] at h
  exact h
theorem impl_IsValidSubscription.sound : Sound Tryz.prog 219 impl_IsValidSubscription.con := by
  have h := fun_sound (Γ := impl_IsValidSubscription.cx) (cx_ok.same rfl rfl) (fun n C h => con_look (con_cons impl_InRange.sound (con_cons impl_isAscending.sound con_nil)) h) Tryz.checked.mixed Tryz.func219 (by kernel_rfl) (ps := impl_IsValidSubscription.ps) (rs := impl_IsValidSubscription.rs) (by kernel_rfl) (by kernel_rfl) (by kernel_rfl)
  rw [impl_IsValidSubscription.eq] at h
  exact h
theorem impl_IsValidPaging.sound : Sound Tryz.prog 220 impl_IsValidPaging.con := by
  have h := fun_sound (Γ := impl_IsValidPaging.cx) (cx_ok.same rfl rfl) (fun n C h => con_look (con_cons impl_InRange.sound con_nil) h) Tryz.checked.mixed Tryz.func220 (by kernel_rfl) (ps := impl_IsValidPaging.ps) (rs := impl_IsValidPaging.rs) (by kernel_rfl) (by kernel_rfl) (by kernel_rfl)
  rw [impl_IsValidPaging.eq] at h
  exact h
theorem impl_IsValidSender.sound : Sound Tryz.prog 221 impl_IsValidSender.con := by
  have h := fun_sound (Γ := impl_IsValidSender.cx) (cx_ok.same rfl rfl) (fun n C h => con_look (con_cons impl_InRange.sound con_nil) h) Tryz.checked.mixed Tryz.func221 (by kernel_rfl) (ps := impl_IsValidSender.ps) (rs := impl_IsValidSender.rs) (by kernel_rfl) (by kernel_rfl) (by kernel_rfl)
  rw [impl_IsValidSender.eq] at h
  exact h
theorem impl_fitPayload.sound : Sound Tryz.prog 223 impl_fitPayload.con := by
  have h := fun_sound (Γ := impl_fitPayload.cx) (cx_ok.same rfl rfl) (fun n C h => con_look (con_nil) h) Tryz.checked.mixed Tryz.func223 (by kernel_rfl) (ps := impl_fitPayload.ps) (rs := impl_fitPayload.rs) (by kernel_rfl) (by kernel_rfl) (by kernel_rfl)
  rw [impl_fitPayload.eq] at h
  exact h
theorem bytes_Equal.sound : Sound Tryz.prog 275 bytes_Equal.con := by
  have h := fun_sound (Γ := bytes_Equal.cx) (cx_ok.same rfl rfl) (fun n C h => con_look (con_nil) h) Tryz.checked.mixed Tryz.func275 (by kernel_rfl) (ps := bytes_Equal.ps) (rs := bytes_Equal.rs) (by kernel_rfl) (by kernel_rfl) (by kernel_rfl)
  rw [bytes_Equal.eq] at h
  exact h
theorem impl_EqualBytes.sound : Sound Tryz.prog 224 impl_EqualBytes.con := by
  have h := fun_sound (Γ := impl_EqualBytes.cx) (cx_ok.same rfl rfl) (fun n C h => con_look (con_cons bytes_Equal.sound con_nil) h) Tryz.checked.mixed Tryz.func224 (by kernel_rfl) (ps := impl_EqualBytes.ps) (rs := impl_EqualBytes.rs) (by kernel_rfl) (by kernel_rfl) (by kernel_rfl)
  rw [impl_EqualBytes.eq] at h
  exact h
theorem impl_IsValidSession.sound : Sound Tryz.prog 133 impl_IsValidSession.con := by
  have h := fun_sound (Γ := impl_IsValidSession.cx) (cx_ok.same rfl rfl) (fun n C h => con_look (con_cons impl_IsValidKey.sound (con_cons impl_InRange.sound (con_cons impl_OutstandingBytes.sound (con_cons impl_RemainingQuota.sound (con_cons impl_IsValidSubscriberRecord.sound (con_cons impl_IsValidSubscription.sound (con_cons impl_IsValidPaging.sound (con_cons impl_IsValidSender.sound (con_cons impl_IsValidQuota.sound (con_cons impl_fitPayload.sound (con_cons impl_EqualBytes.sound con_nil))))))))))) h) Tryz.checked.mixed Tryz.func133 (by kernel_rfl) (ps := impl_IsValidSession.ps) (rs := impl_IsValidSession.rs) (by kernel_rfl) (by kernel_rfl) (by kernel_rfl)
  rw [impl_IsValidSession.eq] at h
  exact h
theorem impl_SendPacket.sound : Sound Tryz.prog 134 impl_SendPacket.con := by
  have h := fun_sound (Γ := impl_SendPacket.cx) (cx_ok.same rfl rfl) (fun n C h => con_look (con_cons impl_copyBytes.sound (con_cons impl_copySender.sound (con_cons impl_IsValidSender.sound con_nil))) h) Tryz.checked.mixed Tryz.func134 (by kernel_rfl) (ps := impl_SendPacket.ps) (rs := impl_SendPacket.rs) (by kernel_rfl) (by kernel_rfl) (by kernel_rfl)
  rw [impl_SendPacket.eq] at h
  exact h
theorem impl_Mod.sound : Sound Tryz.prog 282 impl_Mod.con := by
  have h := fun_sound (Γ := impl_Mod.cx) (cx_ok.same rfl rfl) (fun n C h => con_look (con_cons impl_InRange.sound con_nil) h) Tryz.checked.mixed Tryz.func282 (by kernel_rfl) (ps := impl_Mod.ps) (rs := impl_Mod.rs) (by kernel_rfl) (by kernel_rfl) (by kernel_rfl)
  rw [impl_Mod.eq] at h
  exact h
theorem impl_hashStep.sound : Sound Tryz.prog 284 impl_hashStep.con := by
  have h := fun_sound (Γ := impl_hashStep.cx) (cx_ok.same rfl rfl) (fun n C h => con_look (con_cons impl_Mod.sound con_nil) h) Tryz.checked.mixed Tryz.func284 (by kernel_rfl) (ps := impl_hashStep.ps) (rs := impl_hashStep.rs) (by kernel_rfl) (by kernel_rfl) (by kernel_rfl)
  rw [impl_hashStep.eq] at h
  exact h
theorem impl_KeyedHash.sound : Sound Tryz.prog 240 impl_KeyedHash.con := by
  have h := fun_sound (Γ := impl_KeyedHash.cx) (cx_ok.same rfl rfl) (fun n C h => con_look (con_cons impl_hashStep.sound con_nil) h) Tryz.checked.mixed Tryz.func240 (by kernel_rfl) (ps := impl_KeyedHash.ps) (rs := impl_KeyedHash.rs) (by kernel_rfl) (by kernel_rfl) (by kernel_rfl)
  rw [impl_KeyedHash.eq] at h
  exact h
theorem impl_DeriveKey.sound : Sound Tryz.prog 254 impl_DeriveKey.con := by
  have h := fun_sound (Γ := impl_DeriveKey.cx) (cx_ok.same rfl rfl) (fun n C h => con_look (con_cons impl_KeyedHash.sound con_nil) h) Tryz.checked.mixed Tryz.func254 (by kernel_rfl) (ps := impl_DeriveKey.ps) (rs := impl_DeriveKey.rs) (by kernel_rfl) (by kernel_rfl) (by kernel_rfl)
  rw [impl_DeriveKey.eq] at h
  exact h
theorem impl_deriveSteps.sound : Sound Tryz.prog 285 impl_deriveSteps.con := by
  have h := fun_sound (Γ := impl_deriveSteps.cx) (cx_ok.same rfl rfl) (fun n C h => con_look (con_cons impl_DeriveKey.sound con_nil) h) Tryz.checked.mixed Tryz.func285 (by kernel_rfl) (ps := impl_deriveSteps.ps) (rs := impl_deriveSteps.rs) (by kernel_rfl) (by kernel_rfl) (by kernel_rfl)
  rw [impl_deriveSteps.eq] at h
  exact h
theorem impl_KeyForPath.sound : Sound Tryz.prog 243 impl_KeyForPath.con := by
  have h := fun_sound (Γ := impl_KeyForPath.cx) (cx_ok.same rfl rfl) (fun n C h => con_look (con_cons impl_deriveSteps.sound con_nil) h) Tryz.checked.mixed Tryz.func243 (by kernel_rfl) (ps := impl_KeyForPath.ps) (rs := impl_KeyForPath.rs) (by kernel_rfl) (by kernel_rfl) (by kernel_rfl)
  rw [impl_KeyForPath.eq] at h
  exact h
theorem impl_RadioKeyPath.sound : Sound Tryz.prog 255 impl_RadioKeyPath.con := by
  have h := fun_sound (Γ := impl_RadioKeyPath.cx) (cx_ok.same rfl rfl) (fun n C h => con_look (con_nil) h) Tryz.checked.mixed Tryz.func255 (by kernel_rfl) (ps := impl_RadioKeyPath.ps) (rs := impl_RadioKeyPath.rs) (by kernel_rfl) (by kernel_rfl) (by kernel_rfl)
  rw [impl_RadioKeyPath.eq] at h
  exact h
theorem impl_RadioKey.sound : Sound Tryz.prog 166 impl_RadioKey.con := by
  have h := fun_sound (Γ := impl_RadioKey.cx) (cx_ok.same rfl rfl) (fun n C h => con_look (con_cons impl_KeyForPath.sound (con_cons impl_RadioKeyPath.sound con_nil)) h) Tryz.checked.mixed Tryz.func166 (by kernel_rfl) (ps := impl_RadioKey.ps) (rs := impl_RadioKey.rs) (by kernel_rfl) (by kernel_rfl) (by kernel_rfl)
  rw [impl_RadioKey.eq] at h
  exact h
theorem impl_Encrypt.sound : Sound Tryz.prog 276 impl_Encrypt.con := by
  have h := fun_sound (Γ := impl_Encrypt.cx) (cx_ok.same rfl rfl) (fun n C h => con_look (con_cons impl_copyBytes.sound (con_cons impl_KeyedHash.sound con_nil)) h) Tryz.checked.mixed Tryz.func276 (by kernel_rfl) (ps := impl_Encrypt.ps) (rs := impl_Encrypt.rs) (by kernel_rfl) (by kernel_rfl) (by kernel_rfl)
  rw [impl_Encrypt.eq] at h
  exact h
theorem impl_BytesToInts.sound : Sound Tryz.prog 291 impl_BytesToInts.con := by
  have h := fun_sound (Γ := impl_BytesToInts.cx) (cx_ok.same rfl rfl) (fun n C h => con_look (con_nil) h) Tryz.checked.mixed Tryz.func291 (by kernel_rfl) (ps := impl_BytesToInts.ps) (rs := impl_BytesToInts.rs) (by kernel_rfl) (by kernel_rfl) (by kernel_rfl)
  rw [impl_BytesToInts.eq] at h
  exact h
theorem impl_securedMAC.sound : Sound Tryz.prog 277 impl_securedMAC.con := by
  have h := fun_sound (Γ := impl_securedMAC.cx) (cx_ok.same rfl rfl) (fun n C h => con_look (con_cons impl_KeyedHash.sound (con_cons impl_BytesToInts.sound con_nil)) h) Tryz.checked.mixed Tryz.func277 (by kernel_rfl) (ps := impl_securedMAC.ps) (rs := impl_securedMAC.rs) (by kernel_rfl) (by kernel_rfl) (by kernel_rfl)
  rw [impl_securedMAC.eq] at h
  exact h
theorem impl_Protect.sound : Sound Tryz.prog 225 impl_Protect.con := by
  have h := fun_sound (Γ := impl_Protect.cx) (cx_ok.same rfl rfl) (fun n C h => con_look (con_cons impl_DeriveKey.sound (con_cons impl_Encrypt.sound (con_cons impl_securedMAC.sound con_nil))) h) Tryz.checked.mixed Tryz.func225 (by kernel_rfl) (ps := impl_Protect.ps) (rs := impl_Protect.rs) (by kernel_rfl) (by kernel_rfl) (by kernel_rfl)
  rw [impl_Protect.eq] at h
  exact h
theorem impl_SealRadio.sound : Sound Tryz.prog 135 impl_SealRadio.con := by
  have h := fun_sound (Γ := impl_SealRadio.cx) (cx_ok.same rfl rfl) (fun n C h => con_look (con_cons impl_RadioKey.sound (con_cons impl_Protect.sound con_nil)) h) Tryz.checked.mixed Tryz.func135 (by kernel_rfl) (ps := impl_SealRadio.ps) (rs := impl_SealRadio.rs) (by kernel_rfl) (by kernel_rfl) (by kernel_rfl)
  rw [impl_SealRadio.eq] at h
  exact h
theorem impl_SendNew.sound : Sound Tryz.prog 42 impl_SendNew.con := by
  have h := fun_sound (Γ := impl_SendNew.cx) (cx_ok.same rfl rfl) (fun n C h => con_look (con_cons impl_EnsureQuota.sound (con_cons impl_copySession.sound (con_cons impl_QuotaNeeded.sound (con_cons impl_copyAccount.sound (con_cons impl_IsValidSession.sound (con_cons impl_SendPacket.sound (con_cons impl_SealRadio.sound con_nil))))))) h) Tryz.checked.mixed Tryz.func42 (by kernel_rfl) (ps := impl_SendNew.ps) (rs := impl_SendNew.rs) (by kernel_rfl) (by kernel_rfl) (by kernel_rfl)
  rw [impl_SendNew.eq] at h
  exact h
theorem laws_eqSignal.sound : Sound Tryz.prog 152 laws_eqSignal.con := by
  have h := fun_sound (Γ := laws_eqSignal.cx) (cx_ok.same rfl rfl) (fun n C h => con_look (con_cons laws_eqAuthVector.sound con_nil) h) Tryz.checked.mixed Tryz.func152 (by kernel_rfl) (ps := laws_eqSignal.ps) (rs := laws_eqSignal.rs) (by kernel_rfl) (by kernel_rfl) (by kernel_rfl)
  rw [laws_eqSignal.eq] at h
  exact h
theorem laws_eqSignalS.sound : Sound Tryz.prog 65 laws_eqSignalS.con := by
  have h := fun_sound (Γ := laws_eqSignalS.cx) (cx_ok.same rfl rfl) (fun n C h => con_look (con_cons laws_eqSignal.sound con_nil) h) Tryz.checked.mixed Tryz.func65 (by kernel_rfl) (ps := laws_eqSignalS.ps) (rs := laws_eqSignalS.rs) (by kernel_rfl) (by kernel_rfl) (by kernel_rfl)
  rw [laws_eqSignalS.eq] at h
  exact h
theorem laws_eqSecuredMessage.sound : Sound Tryz.prog 80 laws_eqSecuredMessage.con := by
  have h := fun_sound (Γ := laws_eqSecuredMessage.cx) (cx_ok.same rfl rfl) (fun n C h => con_look (con_cons laws_eqByteS.sound con_nil) h) Tryz.checked.mixed Tryz.func80 (by kernel_rfl) (ps := laws_eqSecuredMessage.ps) (rs := laws_eqSecuredMessage.rs) (by kernel_rfl) (by kernel_rfl) (by kernel_rfl)
  rw [laws_eqSecuredMessage.eq] at h
  exact h
theorem laws_eqRadioPacket.sound : Sound Tryz.prog 22 laws_eqRadioPacket.con := by
  have h := fun_sound (Γ := laws_eqRadioPacket.cx) (cx_ok.same rfl rfl) (fun n C h => con_look (con_cons laws_eqSecuredMessage.sound con_nil) h) Tryz.checked.mixed Tryz.func22 (by kernel_rfl) (ps := laws_eqRadioPacket.ps) (rs := laws_eqRadioPacket.rs) (by kernel_rfl) (by kernel_rfl) (by kernel_rfl)
  rw [laws_eqRadioPacket.eq] at h
  exact h
theorem laws_eqRadioPacketS.sound : Sound Tryz.prog 136 laws_eqRadioPacketS.con := by
  have h := fun_sound (Γ := laws_eqRadioPacketS.cx) (cx_ok.same rfl rfl) (fun n C h => con_look (con_cons laws_eqRadioPacket.sound con_nil) h) Tryz.checked.mixed Tryz.func136 (by kernel_rfl) (ps := laws_eqRadioPacketS.ps) (rs := laws_eqRadioPacketS.rs) (by kernel_rfl) (by kernel_rfl) (by kernel_rfl)
  rw [laws_eqRadioPacketS.eq] at h
  exact h
theorem laws_eqTransmission.sound : Sound Tryz.prog 43 laws_eqTransmission.con := by
  have h := fun_sound (Γ := laws_eqTransmission.cx) (cx_ok.same rfl rfl) (fun n C h => con_look (con_cons laws_eqSession.sound (con_cons laws_eqAccount.sound (con_cons laws_eqSignalS.sound (con_cons laws_eqRadioPacketS.sound con_nil)))) h) Tryz.checked.mixed Tryz.func43 (by kernel_rfl) (ps := laws_eqTransmission.ps) (rs := laws_eqTransmission.rs) (by kernel_rfl) (by kernel_rfl) (by kernel_rfl)
  rw [laws_eqTransmission.eq] at h
  exact h
theorem laws_markSignalS.sound : Sound Tryz.prog 69 laws_markSignalS.con := by
  have h := fun_sound (Γ := laws_markSignalS.cx) (cx_ok.same rfl rfl) (fun n C h => con_look (con_nil) h) Tryz.checked.mixed Tryz.func69 (by kernel_rfl) (ps := laws_markSignalS.ps) (rs := laws_markSignalS.rs) (by kernel_rfl) (by kernel_rfl) (by kernel_rfl)
  rw [laws_markSignalS.eq] at h
  exact h
theorem laws_markRadioPacketS.sound : Sound Tryz.prog 137 laws_markRadioPacketS.con := by
  have h := fun_sound (Γ := laws_markRadioPacketS.cx) (cx_ok.same rfl rfl) (fun n C h => con_look (con_cons laws_markByteS.sound con_nil) h) Tryz.checked.mixed Tryz.func137 (by kernel_rfl) (ps := laws_markRadioPacketS.ps) (rs := laws_markRadioPacketS.rs) (by kernel_rfl) (by kernel_rfl) (by kernel_rfl)
  rw [laws_markRadioPacketS.eq] at h
  exact h
theorem laws_markTransmission.sound : Sound Tryz.prog 44 laws_markTransmission.con := by
  have h := fun_sound (Γ := laws_markTransmission.cx) (cx_ok.same rfl rfl) (fun n C h => con_look (con_cons laws_markSession.sound (con_cons laws_markAccount.sound (con_cons laws_markSignalS.sound (con_cons laws_markRadioPacketS.sound con_nil)))) h) Tryz.checked.mixed Tryz.func44 (by kernel_rfl) (ps := laws_markTransmission.ps) (rs := laws_markTransmission.rs) (by kernel_rfl) (by kernel_rfl) (by kernel_rfl)
  rw [laws_markTransmission.eq] at h
  exact h
theorem laws_heldIntS.sound : Sound Tryz.prog 198 laws_heldIntS.con := by
  have h := fun_sound (Γ := laws_heldIntS.cx) (cx_ok.same rfl rfl) (fun n C h => con_look (con_nil) h) Tryz.checked.mixed Tryz.func198 (by kernel_rfl) (ps := laws_heldIntS.ps) (rs := laws_heldIntS.rs) (by kernel_rfl) (by kernel_rfl) (by kernel_rfl)
  rw [laws_heldIntS.eq] at h
  exact h
theorem laws_heldSubscription.sound : Sound Tryz.prog 115 laws_heldSubscription.con := by
  have h := fun_sound (Γ := laws_heldSubscription.cx) (cx_ok.same rfl rfl) (fun n C h => con_look (con_cons laws_heldIntS.sound con_nil) h) Tryz.checked.mixed Tryz.func115 (by kernel_rfl) (ps := laws_heldSubscription.ps) (rs := laws_heldSubscription.rs) (by kernel_rfl) (by kernel_rfl) (by kernel_rfl)
  rw [laws_heldSubscription.eq] at h
  exact h
theorem laws_heldByteS.sound : Sound Tryz.prog 199 laws_heldByteS.con := by
  have h := fun_sound (Γ := laws_heldByteS.cx) (cx_ok.same rfl rfl) (fun n C h => con_look (con_nil) h) Tryz.checked.mixed Tryz.func199 (by kernel_rfl) (ps := laws_heldByteS.ps) (rs := laws_heldByteS.rs) (by kernel_rfl) (by kernel_rfl) (by kernel_rfl)
  rw [laws_heldByteS.eq] at h
  exact h
theorem laws_heldPayloadS.sound : Sound Tryz.prog 116 laws_heldPayloadS.con := by
  have h := fun_sound (Γ := laws_heldPayloadS.cx) (cx_ok.same rfl rfl) (fun n C h => con_look (con_cons laws_heldByteS.sound con_nil) h) Tryz.checked.mixed Tryz.func116 (by kernel_rfl) (ps := laws_heldPayloadS.ps) (rs := laws_heldPayloadS.rs) (by kernel_rfl) (by kernel_rfl) (by kernel_rfl)
  rw [laws_heldPayloadS.eq] at h
  exact h
theorem laws_heldNumberedPacketS.sound : Sound Tryz.prog 200 laws_heldNumberedPacketS.con := by
  have h := fun_sound (Γ := laws_heldNumberedPacketS.cx) (cx_ok.same rfl rfl) (fun n C h => con_look (con_cons laws_heldByteS.sound con_nil) h) Tryz.checked.mixed Tryz.func200 (by kernel_rfl) (ps := laws_heldNumberedPacketS.ps) (rs := laws_heldNumberedPacketS.rs) (by kernel_rfl) (by kernel_rfl) (by kernel_rfl)
  rw [laws_heldNumberedPacketS.eq] at h
  exact h
theorem laws_heldSendWindow.sound : Sound Tryz.prog 117 laws_heldSendWindow.con := by
  have h := fun_sound (Γ := laws_heldSendWindow.cx) (cx_ok.same rfl rfl) (fun n C h => con_look (con_cons laws_heldNumberedPacketS.sound con_nil) h) Tryz.checked.mixed Tryz.func117 (by kernel_rfl) (ps := laws_heldSendWindow.ps) (rs := laws_heldSendWindow.rs) (by kernel_rfl) (by kernel_rfl) (by kernel_rfl)
  rw [laws_heldSendWindow.eq] at h
  exact h
theorem laws_heldSession.sound : Sound Tryz.prog 34 laws_heldSession.con := by
  have h := fun_sound (Γ := laws_heldSession.cx) (cx_ok.same rfl rfl) (fun n C h => con_look (con_cons laws_heldSubscription.sound (con_cons laws_heldPayloadS.sound (con_cons laws_heldSendWindow.sound con_nil))) h) Tryz.checked.mixed Tryz.func34 (by kernel_rfl) (ps := laws_heldSession.ps) (rs := laws_heldSession.rs) (by kernel_rfl) (by kernel_rfl) (by kernel_rfl)
  rw [laws_heldSession.eq] at h
  exact h
theorem laws_heldReservationS.sound : Sound Tryz.prog 118 laws_heldReservationS.con := by
  have h := fun_sound (Γ := laws_heldReservationS.cx) (cx_ok.same rfl rfl) (fun n C h => con_look (con_nil) h) Tryz.checked.mixed Tryz.func118 (by kernel_rfl) (ps := laws_heldReservationS.ps) (rs := laws_heldReservationS.rs) (by kernel_rfl) (by kernel_rfl) (by kernel_rfl)
  rw [laws_heldReservationS.eq] at h
  exact h
theorem laws_heldAccount.sound : Sound Tryz.prog 35 laws_heldAccount.con := by
  have h := fun_sound (Γ := laws_heldAccount.cx) (cx_ok.same rfl rfl) (fun n C h => con_look (con_cons laws_heldReservationS.sound con_nil) h) Tryz.checked.mixed Tryz.func35 (by kernel_rfl) (ps := laws_heldAccount.ps) (rs := laws_heldAccount.rs) (by kernel_rfl) (by kernel_rfl) (by kernel_rfl)
  rw [laws_heldAccount.eq] at h
  exact h
theorem laws_heldSignalS.sound : Sound Tryz.prog 71 laws_heldSignalS.con := by
  have h := fun_sound (Γ := laws_heldSignalS.cx) (cx_ok.same rfl rfl) (fun n C h => con_look (con_nil) h) Tryz.checked.mixed Tryz.func71 (by kernel_rfl) (ps := laws_heldSignalS.ps) (rs := laws_heldSignalS.rs) (by kernel_rfl) (by kernel_rfl) (by kernel_rfl)
  rw [laws_heldSignalS.eq] at h
  exact h
theorem laws_heldRadioPacketS.sound : Sound Tryz.prog 138 laws_heldRadioPacketS.con := by
  have h := fun_sound (Γ := laws_heldRadioPacketS.cx) (cx_ok.same rfl rfl) (fun n C h => con_look (con_cons laws_heldByteS.sound con_nil) h) Tryz.checked.mixed Tryz.func138 (by kernel_rfl) (ps := laws_heldRadioPacketS.ps) (rs := laws_heldRadioPacketS.rs) (by kernel_rfl) (by kernel_rfl) (by kernel_rfl)
  rw [laws_heldRadioPacketS.eq] at h
  exact h
theorem laws_heldTransmission.sound : Sound Tryz.prog 45 laws_heldTransmission.con := by
  have h := fun_sound (Γ := laws_heldTransmission.cx) (cx_ok.same rfl rfl) (fun n C h => con_look (con_cons laws_heldSession.sound (con_cons laws_heldAccount.sound (con_cons laws_heldSignalS.sound (con_cons laws_heldRadioPacketS.sound con_nil)))) h) Tryz.checked.mixed Tryz.func45 (by kernel_rfl) (ps := laws_heldTransmission.ps) (rs := laws_heldTransmission.rs) (by kernel_rfl) (by kernel_rfl) (by kernel_rfl)
  rw [laws_heldTransmission.eq] at h
  exact h
theorem laws_FnExactSendNew.sound : Sound Tryz.prog 7 laws_FnExactSendNew.con := by
  have h := fun_sound (Γ := laws_FnExactSendNew.cx) (cx_ok.same rfl rfl) (fun n C h => con_look (con_cons laws_szSession.sound (con_cons laws_szAccount.sound (con_cons laws_toSession.sound (con_cons laws_toAccount.sound (con_cons laws_eqSession.sound (con_cons laws_eqAccount.sound (con_cons laws_markSession.sound (con_cons laws_markAccount.sound (con_cons spec_SendNew.sound (con_cons impl_SendNew.sound (con_cons laws_eqTransmission.sound (con_cons laws_markTransmission.sound (con_cons laws_heldTransmission.sound con_nil))))))))))))) h) Tryz.checked.mixed Tryz.func7 (by kernel_rfl) (ps := laws_FnExactSendNew.ps) (rs := laws_FnExactSendNew.rs) (by kernel_rfl) (by kernel_rfl) (by kernel_rfl)
  rw [laws_FnExactSendNew.eq] at h
  exact h
end Go.Proofs.YtbgkgnhlfmidhaaGreat.XS
