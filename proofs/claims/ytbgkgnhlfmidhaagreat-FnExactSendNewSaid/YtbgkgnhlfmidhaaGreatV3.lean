/- What the law rests on: part 4 of 6. -/
import Derived.Test.YtbgkgnhlfmidhaaGreatV2
set_option linter.unusedVariables false
set_option linter.unusedSimpArgs false
set_option linter.unusedSectionVars false
/- The program's functions, as plain Lean. -/
set_option linter.unusedVariables false
set_option maxRecDepth 100000
namespace Go.Proofs.XF
open Go Go.Proofs.XTv
def laws_szIntS.f (k : Nat) (x : List Int × Int) : Option Int :=
    bif ilt (isub IntKind.i64 x.snd (llen x.fst)) 0 then some (-1) else some (isub IntKind.i64 x.snd (llen x.fst))

def laws_szSubscription.f (k : Nat) (x : DSubscription × Int) : Option Int :=
    obind (laws_szIntS.f k (x.fst.snd.snd.snd, x.snd)) fun v0 => bif ilt v0 0 then some (-1) else some v0

def laws_szByteS.f (k : Nat) (x : List Int × Int) : Option Int :=
    bif ilt (isub IntKind.i64 x.snd (llen x.fst)) 0 then some (-1) else some (isub IntKind.i64 x.snd (llen x.fst))

def laws_szPayload.f (k : Nat) (x : List Int × Int) : Option Int :=
    obind (laws_szByteS.f k x) fun v0 => bif ilt v0 0 then some (-1) else some v0

def laws_szPayloadS.s0 (k : Nat) (d0 : List (List Int) × DSubscriberID) : Option (List (List Int) × DSubscriberID ⊕ Int ⊕ Int) :=
    bif ilt d0.snd.snd (llen d0.fst) then
    bif idxOk d0.snd.snd (llen d0.fst) then
      obind (laws_szPayload.f k (lget (Ty.sl (Ty.int IntKind.u8)) d0.fst d0.snd.snd, d0.snd.fst)) fun v1 =>
        bif ilt v1 0 then some (Sum.inr (Sum.inr (-1))) else some (Sum.inl (d0.fst, v1, iadd IntKind.i64 d0.snd.snd 1))
    else none
  else some (Sum.inr (Sum.inl d0.snd.fst))
def laws_szPayloadS.f (k : Nat) (x : List (List Int) × Int) : Option Int :=
    bif ilt (isub IntKind.i64 x.snd (llen x.fst)) 0 then some (-1)
  else
    obind (loopN (laws_szPayloadS.s0 k) k (x.fst, isub IntKind.i64 x.snd (llen x.fst), 0)) fun v2 =>
      selim (fun v3 => some v3) (fun v4 => some v4) v2

def laws_szNumberedPacket.f (k : Nat) (x : DNumberedPacket × Int) : Option Int :=
    obind (laws_szByteS.f k (x.fst.snd, x.snd)) fun v0 => bif ilt v0 0 then some (-1) else some v0

def laws_szNumberedPacketS.s0 (k : Nat) (d0 : List DNumberedPacket × DSubscriberID) : Option (List DNumberedPacket × DSubscriberID ⊕ Int ⊕ Int) :=
    bif ilt d0.snd.snd (llen d0.fst) then
    bif idxOk d0.snd.snd (llen d0.fst) then
      obind (laws_szNumberedPacket.f k (lget TNumberedPacket d0.fst d0.snd.snd, d0.snd.fst)) fun v1 =>
        bif ilt v1 0 then some (Sum.inr (Sum.inr (-1))) else some (Sum.inl (d0.fst, v1, iadd IntKind.i64 d0.snd.snd 1))
    else none
  else some (Sum.inr (Sum.inl d0.snd.fst))
def laws_szNumberedPacketS.f (k : Nat) (x : List DNumberedPacket × Int) : Option Int :=
    bif ilt (isub IntKind.i64 x.snd (llen x.fst)) 0 then some (-1)
  else
    obind (loopN (laws_szNumberedPacketS.s0 k) k (x.fst, isub IntKind.i64 x.snd (llen x.fst), 0)) fun v2 =>
      selim (fun v3 => some v3) (fun v4 => some v4) v2

def laws_szSendWindow.f (k : Nat) (x : DSendWindow × Int) : Option Int :=
    obind (laws_szNumberedPacketS.f k (x.fst.snd, x.snd)) fun v0 => bif ilt v0 0 then some (-1) else some v0

def laws_szSession.f (k : Nat) (x : DSession × Int) : Option Int :=
    obind (laws_szSubscription.f k (x.fst.snd.fst, x.snd)) fun v0 =>
    bif ilt v0 0 then some (-1)
    else
      obind (laws_szPayloadS.f k (x.fst.snd.snd.snd.snd.snd.snd.snd.snd.snd.snd.snd.fst, v0)) fun v1 =>
        bif ilt v1 0 then some (-1)
        else
          obind (laws_szSendWindow.f k (x.fst.snd.snd.snd.snd.snd.snd.snd.snd.snd.snd.snd.snd.fst, v1)) fun v2 =>
            bif ilt v2 0 then some (-1) else some v2

def laws_szReservationS.f (k : Nat) (x : List DSubscriberID × Int) : Option Int :=
    bif ilt (isub IntKind.i64 x.snd (llen x.fst)) 0 then some (-1) else some (isub IntKind.i64 x.snd (llen x.fst))

def laws_szAccount.f (k : Nat) (x : DAccount × Int) : Option Int :=
    obind (laws_szReservationS.f k (x.fst.snd.snd.snd, x.snd)) fun v0 => bif ilt v0 0 then some (-1) else some v0

def laws_toAuthVector.f (k : Nat) (x : DAuthVector) : Option DAuthVector :=
    some x

def laws_toSubscriberID.f (k : Nat) (x : DSubscriberID) : Option DSubscriberID :=
    some x

def laws_toSubscriberRecord.f (k : Nat) (x : DUSIM) : Option DUSIM :=
    obind (laws_toSubscriberID.f k x.fst) fun v0 => some (v0, x.snd)

def laws_toIntS.s0  (d0 : (List Int × Int) × List Int) : Option ((List Int × Int) × List Int ⊕ List Int) :=
    bif ilt d0.fst.snd (llen d0.fst.fst) then
    bif idxOk d0.fst.snd (llen d0.fst.fst) then
      bif idxOk d0.fst.snd (llen d0.snd) then
        some
          (Sum.inl
            ((d0.fst.fst, iadd IntKind.i64 d0.fst.snd 1),
              lset d0.snd d0.fst.snd (lget (Ty.int IntKind.i64) d0.fst.fst d0.fst.snd)))
      else none
    else none
  else some (Sum.inr d0.snd)
def laws_toIntS.f (k : Nat) (x : List Int) : Option (List Int) :=
    bif makeOk (llen x) (llen x) 8 then
    obind (loopN laws_toIntS.s0 k ((x, 0), lrep (Ty.int IntKind.i64) (llen x))) fun v1 => some v1
  else none

def laws_toSubscription.f (k : Nat) (x : DSubscription) : Option DSubscription :=
    obind (laws_toIntS.f k x.snd.snd.snd) fun v0 => some (x.fst, x.snd.fst, x.snd.snd.fst, v0)

def laws_toPagingState.f (k : Nat) (x : DQuota) : Option DQuota :=
    some x

def laws_toByteS.s0  (d0 : (List Int × Int) × List Int) : Option ((List Int × Int) × List Int ⊕ List Int) :=
    bif ilt d0.fst.snd (llen d0.fst.fst) then
    bif idxOk d0.fst.snd (llen d0.fst.fst) then
      bif idxOk d0.fst.snd (llen d0.snd) then
        some
          (Sum.inl
            ((d0.fst.fst, iadd IntKind.i64 d0.fst.snd 1),
              lset d0.snd d0.fst.snd (lget (Ty.int IntKind.u8) d0.fst.fst d0.fst.snd)))
      else none
    else none
  else some (Sum.inr d0.snd)
def laws_toByteS.f (k : Nat) (x : List Int) : Option (List Int) :=
    bif makeOk (llen x) (llen x) 1 then
    obind (loopN laws_toByteS.s0 k ((x, 0), lrep (Ty.int IntKind.u8) (llen x))) fun v1 => some v1
  else none

def laws_toPayload.f (k : Nat) (x : List Int) : Option (List Int) :=
    obind (laws_toByteS.f k x) fun v0 => some v0

def laws_toPayloadS.s0 (k : Nat) (d0 : (List (List Int) × Int) × List (List Int)) : Option ((List (List Int) × Int) × List (List Int) ⊕ List (List Int)) :=
    bif ilt d0.fst.snd (llen d0.fst.fst) then
    bif idxOk d0.fst.snd (llen d0.fst.fst) then
      obind (laws_toPayload.f k (lget (Ty.sl (Ty.int IntKind.u8)) d0.fst.fst d0.fst.snd)) fun v1 =>
        bif idxOk d0.fst.snd (llen d0.snd) then
          some (Sum.inl ((d0.fst.fst, iadd IntKind.i64 d0.fst.snd 1), lset d0.snd d0.fst.snd v1))
        else none
    else none
  else some (Sum.inr d0.snd)
def laws_toPayloadS.f (k : Nat) (x : List (List Int)) : Option (List (List Int)) :=
    bif makeOk (llen x) (llen x) 24 then
    obind (loopN (laws_toPayloadS.s0 k) k ((x, 0), lrep (Ty.sl (Ty.int IntKind.u8)) (llen x))) fun v2 => some v2
  else none

def laws_toNumberedPacket.f (k : Nat) (x : DNumberedPacket) : Option DNumberedPacket :=
    obind (laws_toByteS.f k x.snd) fun v0 => some (x.fst, v0)

def laws_toNumberedPacketS.s0 (k : Nat) (d0 : (List DNumberedPacket × Int) × List DNumberedPacket) : Option ((List DNumberedPacket × Int) × List DNumberedPacket ⊕ List DNumberedPacket) :=
    bif ilt d0.fst.snd (llen d0.fst.fst) then
    bif idxOk d0.fst.snd (llen d0.fst.fst) then
      obind (laws_toNumberedPacket.f k (lget TNumberedPacket d0.fst.fst d0.fst.snd)) fun v1 =>
        bif idxOk d0.fst.snd (llen d0.snd) then
          some (Sum.inl ((d0.fst.fst, iadd IntKind.i64 d0.fst.snd 1), lset d0.snd d0.fst.snd v1))
        else none
    else none
  else some (Sum.inr d0.snd)
def laws_toNumberedPacketS.f (k : Nat) (x : List DNumberedPacket) : Option (List DNumberedPacket) :=
    bif makeOk (llen x) (llen x) 32 then
    obind (loopN (laws_toNumberedPacketS.s0 k) k ((x, 0), lrep TNumberedPacket (llen x))) fun v2 => some v2
  else none

def laws_toSendWindow.f (k : Nat) (x : DSendWindow) : Option DSendWindow :=
    obind (laws_toNumberedPacketS.f k x.snd) fun v0 => some (x.fst, v0)

def laws_toQuota.f (k : Nat) (x : DQuota) : Option DQuota :=
    some x

def laws_toSession.f (k : Nat) (x : DSession) : Option DSession :=
    obind (laws_toSubscriberRecord.f k x.fst) fun v0 =>
    obind (laws_toSubscription.f k x.snd.fst) fun v1 =>
      obind (laws_toAuthVector.f k x.snd.snd.snd.fst) fun v2 =>
        obind (laws_toPagingState.f k x.snd.snd.snd.snd.snd.snd.snd.snd.snd.snd.fst) fun v3 =>
          obind (laws_toPayloadS.f k x.snd.snd.snd.snd.snd.snd.snd.snd.snd.snd.snd.fst) fun v4 =>
            obind (laws_toSendWindow.f k x.snd.snd.snd.snd.snd.snd.snd.snd.snd.snd.snd.snd.fst) fun v5 =>
              obind (laws_toQuota.f k x.snd.snd.snd.snd.snd.snd.snd.snd.snd.snd.snd.snd.snd.snd) fun v6 =>
                some
                  (v0, v1, x.snd.snd.fst, v2, x.snd.snd.snd.snd.fst, x.snd.snd.snd.snd.snd.fst,
                    x.snd.snd.snd.snd.snd.snd.fst, x.snd.snd.snd.snd.snd.snd.snd.fst,
                    x.snd.snd.snd.snd.snd.snd.snd.snd.fst, x.snd.snd.snd.snd.snd.snd.snd.snd.snd.fst, v3, v4, v5,
                    x.snd.snd.snd.snd.snd.snd.snd.snd.snd.snd.snd.snd.snd.fst, v6)

def laws_toReservation.f (k : Nat) (x : DSubscriberID) : Option DSubscriberID :=
    some x

def laws_toReservationS.s0 (k : Nat) (d0 : (List DSubscriberID × Int) × List DSubscriberID) : Option ((List DSubscriberID × Int) × List DSubscriberID ⊕ List DSubscriberID) :=
    bif ilt d0.fst.snd (llen d0.fst.fst) then
    bif idxOk d0.fst.snd (llen d0.fst.fst) then
      obind (laws_toReservation.f k (lget TSubscriberID d0.fst.fst d0.fst.snd)) fun v1 =>
        bif idxOk d0.fst.snd (llen d0.snd) then
          some (Sum.inl ((d0.fst.fst, iadd IntKind.i64 d0.fst.snd 1), lset d0.snd d0.fst.snd v1))
        else none
    else none
  else some (Sum.inr d0.snd)
def laws_toReservationS.f (k : Nat) (x : List DSubscriberID) : Option (List DSubscriberID) :=
    bif makeOk (llen x) (llen x) 16 then
    obind (loopN (laws_toReservationS.s0 k) k ((x, 0), lrep TSubscriberID (llen x))) fun v2 => some v2
  else none

def laws_toAccount.f (k : Nat) (x : DAccount) : Option DAccount :=
    obind (laws_toReservationS.f k x.snd.snd.snd) fun v0 => some (x.fst, x.snd.fst, x.snd.snd.fst, v0)

def laws_eqSubscriberID.f (k : Nat) (x : DUSIM) : Option Bool :=
    bif ine x.fst.fst x.snd.fst then some false else bif ine x.fst.snd x.snd.snd then some false else some true

def laws_eqSubscriberRecord.f (k : Nat) (x : DUSIM × DUSIM) : Option Bool :=
    obind (laws_eqSubscriberID.f k (x.fst.fst, x.snd.fst)) fun v0 =>
    bif dnot v0 then some false
    else
      bif ine x.fst.snd.fst x.snd.snd.fst then some false
      else bif ine x.fst.snd.snd x.snd.snd.snd then some false else some true

def laws_eqIntS.s0  (d0 : List Int × List Int × Int) : Option (List Int × List Int × Int ⊕ Unit ⊕ Bool) :=
    bif ilt d0.snd.snd (llen d0.fst) then
    bif idxOk d0.snd.snd (llen d0.fst) then
      bif idxOk d0.snd.snd (llen d0.snd.fst) then
        bif ine (lget (Ty.int IntKind.i64) d0.fst d0.snd.snd) (lget (Ty.int IntKind.i64) d0.snd.fst d0.snd.snd) then
          some (Sum.inr (Sum.inr false))
        else some (Sum.inl (d0.fst, d0.snd.fst, iadd IntKind.i64 d0.snd.snd 1))
      else none
    else none
  else some (Sum.inr (Sum.inl ()))
def laws_eqIntS.f (k : Nat) (x : List Int × List Int) : Option Bool :=
    bif ine (llen x.fst) (llen x.snd) then some false
  else obind (loopN laws_eqIntS.s0 k (x.fst, x.snd, 0)) fun v1 => selim (fun v2 => some true) (fun v3 => some v3) v1

def laws_eqSubscription.f (k : Nat) (x : DSubscription × DSubscription) : Option Bool :=
    bif ine x.fst.fst x.snd.fst then some false
  else
    bif ine x.fst.snd.fst x.snd.snd.fst then some false
    else
      bif ine x.fst.snd.snd.fst x.snd.snd.snd.fst then some false
      else
        obind (laws_eqIntS.f k (x.fst.snd.snd.snd, x.snd.snd.snd.snd)) fun v0 =>
          bif dnot v0 then some false else some true

def laws_eqAuthVector.f (k : Nat) (x : DAuthVector × DAuthVector) : Option Bool :=
    bif ine x.fst.fst x.snd.fst then some false
  else
    bif ine x.fst.snd.fst x.snd.snd.fst then some false
    else
      bif ine x.fst.snd.snd.fst x.snd.snd.snd.fst then some false
      else
        bif ine x.fst.snd.snd.snd.fst x.snd.snd.snd.snd.fst then some false
        else bif ine x.fst.snd.snd.snd.snd x.snd.snd.snd.snd.snd then some false else some true

def laws_eqPagingState.f (k : Nat) (x : DQuota × DQuota) : Option Bool :=
    bif ine x.fst.fst x.snd.fst then some false
  else
    bif ine x.fst.snd.fst x.snd.snd.fst then some false
    else bif ine x.fst.snd.snd x.snd.snd.snd then some false else some true

def laws_eqByteS.s0  (d0 : List Int × List Int × Int) : Option (List Int × List Int × Int ⊕ Unit ⊕ Bool) :=
    bif ilt d0.snd.snd (llen d0.fst) then
    bif idxOk d0.snd.snd (llen d0.fst) then
      bif idxOk d0.snd.snd (llen d0.snd.fst) then
        bif ine (lget (Ty.int IntKind.u8) d0.fst d0.snd.snd) (lget (Ty.int IntKind.u8) d0.snd.fst d0.snd.snd) then
          some (Sum.inr (Sum.inr false))
        else some (Sum.inl (d0.fst, d0.snd.fst, iadd IntKind.i64 d0.snd.snd 1))
      else none
    else none
  else some (Sum.inr (Sum.inl ()))
def laws_eqByteS.f (k : Nat) (x : List Int × List Int) : Option Bool :=
    bif ine (llen x.fst) (llen x.snd) then some false
  else obind (loopN laws_eqByteS.s0 k (x.fst, x.snd, 0)) fun v1 => selim (fun v2 => some true) (fun v3 => some v3) v1

def laws_eqPayload.f (k : Nat) (x : List Int × List Int) : Option Bool :=
    obind (laws_eqByteS.f k x) fun v0 => bif dnot v0 then some false else some true

def laws_eqPayloadS.s0 (k : Nat) (d0 : List (List Int) × List (List Int) × Int) : Option (List (List Int) × List (List Int) × Int ⊕ Unit ⊕ Bool) :=
    bif ilt d0.snd.snd (llen d0.fst) then
    bif idxOk d0.snd.snd (llen d0.fst) then
      bif idxOk d0.snd.snd (llen d0.snd.fst) then
        obind
          (laws_eqPayload.f k
            (lget (Ty.sl (Ty.int IntKind.u8)) d0.fst d0.snd.snd, lget (Ty.sl (Ty.int IntKind.u8)) d0.snd.fst d0.snd.snd))
          fun v1 =>
          bif dnot v1 then some (Sum.inr (Sum.inr false))
          else some (Sum.inl (d0.fst, d0.snd.fst, iadd IntKind.i64 d0.snd.snd 1))
      else none
    else none
  else some (Sum.inr (Sum.inl ()))
def laws_eqPayloadS.f (k : Nat) (x : List (List Int) × List (List Int)) : Option Bool :=
    bif ine (llen x.fst) (llen x.snd) then some false
  else
    obind (loopN (laws_eqPayloadS.s0 k) k (x.fst, x.snd, 0)) fun v2 => selim (fun v3 => some true) (fun v4 => some v4) v2

def laws_eqNumberedPacket.f (k : Nat) (x : DNumberedPacket × DNumberedPacket) : Option Bool :=
    bif ine x.fst.fst x.snd.fst then some false
  else obind (laws_eqByteS.f k (x.fst.snd, x.snd.snd)) fun v0 => bif dnot v0 then some false else some true

def laws_eqNumberedPacketS.s0 (k : Nat) (d0 : List DNumberedPacket × List DNumberedPacket × Int) : Option (List DNumberedPacket × List DNumberedPacket × Int ⊕ Unit ⊕ Bool) :=
    bif ilt d0.snd.snd (llen d0.fst) then
    bif idxOk d0.snd.snd (llen d0.fst) then
      bif idxOk d0.snd.snd (llen d0.snd.fst) then
        obind
          (laws_eqNumberedPacket.f k (lget TNumberedPacket d0.fst d0.snd.snd, lget TNumberedPacket d0.snd.fst d0.snd.snd))
          fun v1 =>
          bif dnot v1 then some (Sum.inr (Sum.inr false))
          else some (Sum.inl (d0.fst, d0.snd.fst, iadd IntKind.i64 d0.snd.snd 1))
      else none
    else none
  else some (Sum.inr (Sum.inl ()))
def laws_eqNumberedPacketS.f (k : Nat) (x : List DNumberedPacket × List DNumberedPacket) : Option Bool :=
    bif ine (llen x.fst) (llen x.snd) then some false
  else
    obind (loopN (laws_eqNumberedPacketS.s0 k) k (x.fst, x.snd, 0)) fun v2 =>
      selim (fun v3 => some true) (fun v4 => some v4) v2

def laws_eqSendWindow.f (k : Nat) (x : DSendWindow × DSendWindow) : Option Bool :=
    bif ine x.fst.fst x.snd.fst then some false
  else obind (laws_eqNumberedPacketS.f k (x.fst.snd, x.snd.snd)) fun v0 => bif dnot v0 then some false else some true

def laws_eqQuota.f (k : Nat) (x : DQuota × DQuota) : Option Bool :=
    bif ine x.fst.fst x.snd.fst then some false
  else
    bif ine x.fst.snd.fst x.snd.snd.fst then some false
    else bif ine x.fst.snd.snd x.snd.snd.snd then some false else some true

def laws_eqSession.f (k : Nat) (x : DSession × DSession) : Option Bool :=
    obind (laws_eqSubscriberRecord.f k (x.fst.fst, x.snd.fst)) fun v0 =>
    bif dnot v0 then some false
    else
      obind (laws_eqSubscription.f k (x.fst.snd.fst, x.snd.snd.fst)) fun v1 =>
        bif dnot v1 then some false
        else
          bif ine x.fst.snd.snd.fst x.snd.snd.snd.fst then some false
          else
            obind (laws_eqAuthVector.f k (x.fst.snd.snd.snd.fst, x.snd.snd.snd.snd.fst)) fun v2 =>
              bif dnot v2 then some false
              else
                bif ine x.fst.snd.snd.snd.snd.fst x.snd.snd.snd.snd.snd.fst then some false
                else
                  bif ine x.fst.snd.snd.snd.snd.snd.fst x.snd.snd.snd.snd.snd.snd.fst then some false
                  else
                    bif ine x.fst.snd.snd.snd.snd.snd.snd.fst x.snd.snd.snd.snd.snd.snd.snd.fst then some false
                    else
                      bif ine x.fst.snd.snd.snd.snd.snd.snd.snd.fst x.snd.snd.snd.snd.snd.snd.snd.snd.fst then some false
                      else
                        bif ine x.fst.snd.snd.snd.snd.snd.snd.snd.snd.fst x.snd.snd.snd.snd.snd.snd.snd.snd.snd.fst then
                          some false
                        else
                          bif
                              ine x.fst.snd.snd.snd.snd.snd.snd.snd.snd.snd.fst
                                x.snd.snd.snd.snd.snd.snd.snd.snd.snd.snd.fst then
                            some false
                          else
                            obind
                              (laws_eqPagingState.f k
                                (x.fst.snd.snd.snd.snd.snd.snd.snd.snd.snd.snd.fst,
                                  x.snd.snd.snd.snd.snd.snd.snd.snd.snd.snd.snd.fst))
                              fun v3 =>
                              bif dnot v3 then some false
                              else
                                obind
                                  (laws_eqPayloadS.f k
                                    (x.fst.snd.snd.snd.snd.snd.snd.snd.snd.snd.snd.snd.fst,
                                      x.snd.snd.snd.snd.snd.snd.snd.snd.snd.snd.snd.snd.fst))
                                  fun v4 =>
                                  bif dnot v4 then some false
                                  else
                                    obind
                                      (laws_eqSendWindow.f k
                                        (x.fst.snd.snd.snd.snd.snd.snd.snd.snd.snd.snd.snd.snd.fst,
                                          x.snd.snd.snd.snd.snd.snd.snd.snd.snd.snd.snd.snd.snd.fst))
                                      fun v5 =>
                                      bif dnot v5 then some false
                                      else
                                        bif
                                            ine x.fst.snd.snd.snd.snd.snd.snd.snd.snd.snd.snd.snd.snd.snd.fst
                                              x.snd.snd.snd.snd.snd.snd.snd.snd.snd.snd.snd.snd.snd.snd.fst then
                                          some false
                                        else
                                          obind
                                            (laws_eqQuota.f k
                                              (x.fst.snd.snd.snd.snd.snd.snd.snd.snd.snd.snd.snd.snd.snd.snd,
                                                x.snd.snd.snd.snd.snd.snd.snd.snd.snd.snd.snd.snd.snd.snd.snd))
                                            fun v6 => bif dnot v6 then some false else some true

def laws_eqReservation.f (k : Nat) (x : DUSIM) : Option Bool :=
    bif ine x.fst.fst x.snd.fst then some false else bif ine x.fst.snd x.snd.snd then some false else some true

def laws_eqReservationS.s0 (k : Nat) (d0 : List DSubscriberID × List DSubscriberID × Int) : Option (List DSubscriberID × List DSubscriberID × Int ⊕ Unit ⊕ Bool) :=
    bif ilt d0.snd.snd (llen d0.fst) then
    bif idxOk d0.snd.snd (llen d0.fst) then
      bif idxOk d0.snd.snd (llen d0.snd.fst) then
        obind (laws_eqReservation.f k (lget TSubscriberID d0.fst d0.snd.snd, lget TSubscriberID d0.snd.fst d0.snd.snd))
          fun v1 =>
          bif dnot v1 then some (Sum.inr (Sum.inr false))
          else some (Sum.inl (d0.fst, d0.snd.fst, iadd IntKind.i64 d0.snd.snd 1))
      else none
    else none
  else some (Sum.inr (Sum.inl ()))
def laws_eqReservationS.f (k : Nat) (x : List DSubscriberID × List DSubscriberID) : Option Bool :=
    bif ine (llen x.fst) (llen x.snd) then some false
  else
    obind (loopN (laws_eqReservationS.s0 k) k (x.fst, x.snd, 0)) fun v2 =>
      selim (fun v3 => some true) (fun v4 => some v4) v2

def laws_eqAccount.f (k : Nat) (x : DAccount × DAccount) : Option Bool :=
    bif ine x.fst.fst x.snd.fst then some false
  else
    bif ine x.fst.snd.fst x.snd.snd.fst then some false
    else
      bif ine x.fst.snd.snd.fst x.snd.snd.snd.fst then some false
      else
        obind (laws_eqReservationS.f k (x.fst.snd.snd.snd, x.snd.snd.snd.snd)) fun v0 =>
          bif dnot v0 then some false else some true

def laws_markIntS.s0  (d0 : DSubscriberID × List Int) : Option (DSubscriberID × List Int ⊕ DNumberedPacket) :=
    bif ilt d0.fst.snd (llen d0.snd) then
    bif idxOk d0.fst.snd (llen d0.snd) then
      some (Sum.inl ((iadd IntKind.i64 d0.fst.fst 1, iadd IntKind.i64 d0.fst.snd 1), lset d0.snd d0.fst.snd d0.fst.fst))
    else none
  else some (Sum.inr (d0.fst.fst, d0.snd))
def laws_markIntS.f (k : Nat) (x : List Int × Int) : Option DNumberedPacket :=
    obind (loopN laws_markIntS.s0 k ((x.snd, 0), x.fst)) fun v1 => some v1

def laws_markSubscription.f (k : Nat) (x : DSubscription × Int) : Option (Int × DSubscription) :=
    obind (laws_markIntS.f k (x.fst.snd.snd.snd, x.snd)) fun v0 =>
    some (v0.fst, x.fst.fst, x.fst.snd.fst, x.fst.snd.snd.fst, v0.snd)

def laws_markByteS.s0  (d0 : DSubscriberID × List Int) : Option (DSubscriberID × List Int ⊕ DNumberedPacket) :=
    bif ilt d0.fst.snd (llen d0.snd) then
    bif idxOk d0.fst.snd (llen d0.snd) then
      some
        (Sum.inl
          ((iadd IntKind.i64 d0.fst.fst 1, iadd IntKind.i64 d0.fst.snd 1),
            lset d0.snd d0.fst.snd (icast IntKind.u8 d0.fst.fst)))
    else none
  else some (Sum.inr (d0.fst.fst, d0.snd))
def laws_markByteS.f (k : Nat) (x : List Int × Int) : Option DNumberedPacket :=
    obind (loopN laws_markByteS.s0 k ((x.snd, 0), x.fst)) fun v1 => some v1

def laws_markPayloadS.s0 (k : Nat) (d0 : DSubscriberID × List (List Int)) : Option (DSubscriberID × List (List Int) ⊕ Int × List (List Int)) :=
    bif ilt d0.fst.snd (llen d0.snd) then
    bif idxOk d0.fst.snd (llen d0.snd) then
      obind (laws_markByteS.f k (lget (Ty.sl (Ty.int IntKind.u8)) d0.snd d0.fst.snd, d0.fst.fst)) fun v1 =>
        some (Sum.inl ((v1.fst, iadd IntKind.i64 d0.fst.snd 1), lset d0.snd d0.fst.snd v1.snd))
    else none
  else some (Sum.inr (d0.fst.fst, d0.snd))
def laws_markPayloadS.f (k : Nat) (x : List (List Int) × Int) : Option (Int × List (List Int)) :=
    obind (loopN (laws_markPayloadS.s0 k) k ((x.snd, 0), x.fst)) fun v2 => some v2

def laws_markNumberedPacketS.s0 (k : Nat) (d0 : DSubscriberID × List DNumberedPacket) : Option (DSubscriberID × List DNumberedPacket ⊕ DSendWindow) :=
    bif ilt d0.fst.snd (llen d0.snd) then
    bif idxOk d0.fst.snd (llen d0.snd) then
      bif idxOk d0.fst.snd (llen (lmod TNumberedPacket d0.snd d0.fst.snd fun v1 => (d0.fst.fst, v1.snd))) then
        obind
          (laws_markByteS.f k
            ((lget TNumberedPacket (lmod TNumberedPacket d0.snd d0.fst.snd fun v2 => (d0.fst.fst, v2.snd))
                  d0.fst.snd).snd,
              iadd IntKind.i64 d0.fst.fst 1))
          fun v3 =>
          some
            (Sum.inl
              ((v3.fst, iadd IntKind.i64 d0.fst.snd 1),
                lmod TNumberedPacket (lmod TNumberedPacket d0.snd d0.fst.snd fun v4 => (d0.fst.fst, v4.snd)) d0.fst.snd
                  fun v5 => (v5.fst, v3.snd)))
      else none
    else none
  else some (Sum.inr (d0.fst.fst, d0.snd))
def laws_markNumberedPacketS.f (k : Nat) (x : List DNumberedPacket × Int) : Option DSendWindow :=
    obind (loopN (laws_markNumberedPacketS.s0 k) k ((x.snd, 0), x.fst)) fun v6 => some v6

def laws_markSendWindow.f (k : Nat) (x : DSendWindow × Int) : Option (Int × DSendWindow) :=
    obind (laws_markNumberedPacketS.f k (x.fst.snd, x.snd)) fun v0 => some (v0.fst, x.fst.fst, v0.snd)

def laws_markSession.f (k : Nat) (x : DSession × Int) : Option (Int × DSession) :=
    obind (laws_markSubscription.f k (x.fst.snd.fst, x.snd)) fun v0 =>
    obind (laws_markPayloadS.f k (x.fst.snd.snd.snd.snd.snd.snd.snd.snd.snd.snd.snd.fst, v0.fst)) fun v1 =>
      obind (laws_markSendWindow.f k (x.fst.snd.snd.snd.snd.snd.snd.snd.snd.snd.snd.snd.snd.fst, v1.fst)) fun v2 =>
        some
          (v2.fst, x.fst.fst, (x.fst.snd.fst.fst, x.fst.snd.fst.snd.fst, x.fst.snd.fst.snd.snd.fst, v0.snd.snd.snd.snd),
            x.fst.snd.snd.fst, x.fst.snd.snd.snd.fst, x.fst.snd.snd.snd.snd.fst, x.fst.snd.snd.snd.snd.snd.fst,
            x.fst.snd.snd.snd.snd.snd.snd.fst, x.fst.snd.snd.snd.snd.snd.snd.snd.fst,
            x.fst.snd.snd.snd.snd.snd.snd.snd.snd.fst, x.fst.snd.snd.snd.snd.snd.snd.snd.snd.snd.fst,
            x.fst.snd.snd.snd.snd.snd.snd.snd.snd.snd.snd.fst, v1.snd,
            (x.fst.snd.snd.snd.snd.snd.snd.snd.snd.snd.snd.snd.snd.fst.fst, v2.snd.snd),
            x.fst.snd.snd.snd.snd.snd.snd.snd.snd.snd.snd.snd.snd.snd)

def laws_markReservationS.s0  (d0 : DSubscriberID × List DSubscriberID) : Option (DSubscriberID × List DSubscriberID ⊕ Int × List DSubscriberID) :=
    bif ilt d0.fst.snd (llen d0.snd) then
    bif idxOk d0.fst.snd (llen d0.snd) then
      bif idxOk d0.fst.snd (llen (lmod TSubscriberID d0.snd d0.fst.snd fun v1 => (d0.fst.fst, v1.snd))) then
        some
          (Sum.inl
            ((iadd IntKind.i64 (iadd IntKind.i64 d0.fst.fst 1) 1, iadd IntKind.i64 d0.fst.snd 1),
              lmod TSubscriberID (lmod TSubscriberID d0.snd d0.fst.snd fun v2 => (d0.fst.fst, v2.snd)) d0.fst.snd
                fun v3 => (v3.fst, iadd IntKind.i64 d0.fst.fst 1)))
      else none
    else none
  else some (Sum.inr (d0.fst.fst, d0.snd))
def laws_markReservationS.f (k : Nat) (x : List DSubscriberID × Int) : Option (Int × List DSubscriberID) :=
    obind (loopN laws_markReservationS.s0 k ((x.snd, 0), x.fst)) fun v4 => some v4

def laws_markAccount.f (k : Nat) (x : DAccount × Int) : Option (Int × DAccount) :=
    obind (laws_markReservationS.f k (x.fst.snd.snd.snd, x.snd)) fun v0 =>
    some (v0.fst, x.fst.fst, x.fst.snd.fst, x.fst.snd.snd.fst, v0.snd)

def spec_l30Plan.f (k : Nat) (x : DSubscription) : Option DSubscription :=
    bif appOk [] x.snd.snd.snd 8 then some (x.fst, x.snd.fst, x.snd.snd.fst, lcat [] x.snd.snd.snd) else none

def spec_l15Bodies.s0  (d0 : (List (List Int) × Int) × List (List Int)) : Option ((List (List Int) × Int) × List (List Int) ⊕ List (List Int)) :=
    bif ilt d0.fst.snd (llen d0.fst.fst) then
    bif idxOk d0.fst.snd (llen d0.fst.fst) then
      bif appOk [] (lget (Ty.sl (Ty.int IntKind.u8)) d0.fst.fst d0.fst.snd) 1 then
        bif appOk d0.snd [lcat [] (lget (Ty.sl (Ty.int IntKind.u8)) d0.fst.fst d0.fst.snd)] 24 then
          some
            (Sum.inl
              ((d0.fst.fst, iadd IntKind.i64 d0.fst.snd 1),
                lcat d0.snd [lcat [] (lget (Ty.sl (Ty.int IntKind.u8)) d0.fst.fst d0.fst.snd)]))
        else none
      else none
    else none
  else some (Sum.inr d0.snd)
def spec_l15Bodies.f (k : Nat) (x : List (List Int)) : Option (List (List Int)) :=
    obind (loopN spec_l15Bodies.s0 k ((x, 0), [])) fun v1 => some v1

def spec_l24Sents.s0  (d0 : (List DNumberedPacket × Int) × List DNumberedPacket) : Option ((List DNumberedPacket × Int) × List DNumberedPacket ⊕ List DNumberedPacket) :=
    bif ilt d0.fst.snd (llen d0.fst.fst) then
    bif idxOk d0.fst.snd (llen d0.fst.fst) then
      bif idxOk d0.fst.snd (llen d0.fst.fst) then
        bif appOk [] (lget TNumberedPacket d0.fst.fst d0.fst.snd).snd 1 then
          bif
              appOk d0.snd
                [((lget TNumberedPacket d0.fst.fst d0.fst.snd).fst,
                    lcat [] (lget TNumberedPacket d0.fst.fst d0.fst.snd).snd)]
                32 then
            some
              (Sum.inl
                ((d0.fst.fst, iadd IntKind.i64 d0.fst.snd 1),
                  lcat d0.snd
                    [((lget TNumberedPacket d0.fst.fst d0.fst.snd).fst,
                        lcat [] (lget TNumberedPacket d0.fst.fst d0.fst.snd).snd)]))
          else none
        else none
      else none
    else none
  else some (Sum.inr d0.snd)
def spec_l24Sents.f (k : Nat) (x : List DNumberedPacket) : Option (List DNumberedPacket) :=
    obind (loopN spec_l24Sents.s0 k ((x, 0), [])) fun v1 => some v1

def spec_l24Sender.f (k : Nat) (x : DSendWindow) : Option DSendWindow :=
    obind (spec_l24Sents.f k x.snd) fun v0 => some (x.fst, v0)

def spec_l30Copy.f (k : Nat) (x : DSession) : Option DSession :=
    obind (spec_l30Plan.f k x.snd.fst) fun v0 =>
    obind (spec_l15Bodies.f k x.snd.snd.snd.snd.snd.snd.snd.snd.snd.snd.snd.fst) fun v1 =>
      obind (spec_l24Sender.f k x.snd.snd.snd.snd.snd.snd.snd.snd.snd.snd.snd.snd.fst) fun v2 =>
        some
          (x.fst, v0, x.snd.snd.fst, x.snd.snd.snd.fst, x.snd.snd.snd.snd.fst, x.snd.snd.snd.snd.snd.fst,
            x.snd.snd.snd.snd.snd.snd.fst, x.snd.snd.snd.snd.snd.snd.snd.fst, x.snd.snd.snd.snd.snd.snd.snd.snd.fst,
            x.snd.snd.snd.snd.snd.snd.snd.snd.snd.fst, x.snd.snd.snd.snd.snd.snd.snd.snd.snd.snd.fst, v1, v2,
            x.snd.snd.snd.snd.snd.snd.snd.snd.snd.snd.snd.snd.snd)

def spec_Max.f (k : Nat) (x : DSubscriberID) : Option Int :=
    bif ilt x.fst x.snd then some x.snd else some x.fst

def spec_l30Bytes.s0  (d0 : List DNumberedPacket × DSubscriberID) : Option (List DNumberedPacket × DSubscriberID ⊕ Int) :=
    bif ilt d0.snd.snd (llen d0.fst) then
    bif idxOk d0.snd.snd (llen d0.fst) then
      some
        (Sum.inl
          (d0.fst, iadd IntKind.i64 d0.snd.fst (llen (lget TNumberedPacket d0.fst d0.snd.snd).snd),
            iadd IntKind.i64 d0.snd.snd 1))
    else none
  else some (Sum.inr d0.snd.fst)
def spec_l30Bytes.f (k : Nat) (x : List DNumberedPacket) : Option Int :=
    obind (loopN spec_l30Bytes.s0 k (x, 0, 0)) fun v1 => some v1

def spec_OutstandingBytes.f (k : Nat) (x : DSession) : Option Int :=
    obind (spec_l30Bytes.f k x.snd.snd.snd.snd.snd.snd.snd.snd.snd.snd.snd.snd.fst.snd) fun v0 => some v0

def spec_l1In.f (k : Nat) (x : DQuota) : Option Bool :=
    some (bif ile x.snd.fst x.fst then ile x.fst x.snd.snd else false)

def spec_IsValidQuota.f (k : Nat) (x : DQuota) : Option Bool :=
    obind (bif ile 0 x.fst then spec_l1In.f k (x.snd.fst, 0, 100000) else some false) fun v0 =>
    obind (bif bif ile 0 x.fst then v0 else false then spec_l1In.f k (x.snd.snd, 0, x.snd.fst) else some false) fun v1 =>
      some (bif bif ile 0 x.fst then v0 else false then v1 else false)

def spec_RemainingQuota.f (k : Nat) (x : DQuota) : Option Int :=
    obind (spec_IsValidQuota.f k x) fun v0 => bif dnot v0 then some 0 else some (isub IntKind.i64 x.snd.fst x.snd.snd)

def spec_QuotaNeeded.f (k : Nat) (x : DSession × Int) : Option Int :=
    obind (spec_OutstandingBytes.f k x.fst) fun v0 =>
    obind (spec_RemainingQuota.f k x.fst.snd.snd.snd.snd.snd.snd.snd.snd.snd.snd.snd.snd.snd.snd) fun v1 =>
      obind (spec_Max.f k (0, isub IntKind.i64 (iadd IntKind.i64 v0 x.snd) v1)) fun v2 => some v2

def spec_l16Copy.f (k : Nat) (x : DAccount) : Option DAccount :=
    bif appOk [] x.snd.snd.snd 16 then some (x.fst, x.snd.fst, x.snd.snd.fst, lcat [] x.snd.snd.snd) else none

def spec_TotalReserved.s0  (d0 : DSubscriberID × DAccount) : Option (DSubscriberID × DAccount ⊕ Int) :=
    bif ilt d0.fst.snd (llen d0.snd.snd.snd.snd) then
    bif idxOk d0.fst.snd (llen d0.snd.snd.snd.snd) then
      some
        (Sum.inl
          ((iadd IntKind.i64 d0.fst.fst (lget TSubscriberID d0.snd.snd.snd.snd d0.fst.snd).snd,
              iadd IntKind.i64 d0.fst.snd 1),
            d0.snd))
    else none
  else some (Sum.inr d0.fst.fst)
def spec_TotalReserved.f (k : Nat) (x : DAccount) : Option Int :=
    obind (loopN spec_TotalReserved.s0 k ((0, 0), x)) fun v1 => some v1

def spec_IsValidAccount.s0 (k : Nat) (d0 : Int × DAccount) : Option (Int × DAccount ⊕ DAccount ⊕ Bool) :=
    bif ilt d0.fst (llen d0.snd.snd.snd.snd) then
    bif idxOk d0.fst (llen d0.snd.snd.snd.snd) then
      bif
          bif idxOk d0.fst (llen d0.snd.snd.snd.snd) then true
          else dnot (dnot (ilt (lget TSubscriberID d0.snd.snd.snd.snd d0.fst).fst 0)) then
        obind
          (bif dnot (ilt (lget TSubscriberID d0.snd.snd.snd.snd d0.fst).fst 0) then
            spec_l1In.f k ((lget TSubscriberID d0.snd.snd.snd.snd d0.fst).snd, 1, 100000)
          else some false)
          fun v1 =>
          bif
              bif idxOk (isub IntKind.i64 d0.fst 1) (llen d0.snd.snd.snd.snd) then true
              else
                dnot
                  (dand (dnot (bif ilt (lget TSubscriberID d0.snd.snd.snd.snd d0.fst).fst 0 then true else dnot v1))
                    (ilt 0 d0.fst)) then
            bif
                bif idxOk d0.fst (llen d0.snd.snd.snd.snd) then true
                else
                  dnot
                    (dand (dnot (bif ilt (lget TSubscriberID d0.snd.snd.snd.snd d0.fst).fst 0 then true else dnot v1))
                      (ilt 0 d0.fst)) then
              bif
                  bif bif ilt (lget TSubscriberID d0.snd.snd.snd.snd d0.fst).fst 0 then true else dnot v1 then true
                  else
                    bif ilt 0 d0.fst then
                      ile (lget TSubscriberID d0.snd.snd.snd.snd d0.fst).fst
                        (lget TSubscriberID d0.snd.snd.snd.snd (isub IntKind.i64 d0.fst 1)).fst
                    else false then
                some (Sum.inr (Sum.inr false))
              else some (Sum.inl (iadd IntKind.i64 d0.fst 1, d0.snd))
            else none
          else none
      else none
    else none
  else some (Sum.inr (Sum.inl d0.snd))
def spec_IsValidAccount.f (k : Nat) (x : DAccount) : Option Bool :=
    obind (loopN (spec_IsValidAccount.s0 k) k (0, x)) fun v2 =>
    selim
      (fun v3 =>
        obind (spec_l1In.f k (v3.fst, 0, 100000)) fun v4 =>
          obind (bif v4 then spec_l1In.f k (v3.snd.fst, 0, v3.fst) else some false) fun v5 =>
            obind (bif bif v4 then v5 else false then spec_l1In.f k (v3.snd.snd.fst, 0, v3.fst) else some false) fun v6 =>
              obind
                (bif bif bif bif v4 then v5 else false then v6 else false then ile (llen v3.snd.snd.snd) 8 else false then
                  spec_TotalReserved.f k v3
                else some 0)
                fun v7 =>
                some
                  (bif
                      bif bif bif v4 then v5 else false then v6 else false then ile (llen v3.snd.snd.snd) 8
                      else false then
                    ieq (iadd IntKind.i64 (iadd IntKind.i64 v3.snd.fst v3.snd.snd.fst) v7) v3.fst
                  else false))
      (fun v8 => some v8) v2

def spec_l16Find.s0  (d0 : DSubscriberID × DAccount) : Option (DSubscriberID × DAccount ⊕ Unit ⊕ Int) :=
    bif ilt d0.fst.snd (llen d0.snd.snd.snd.snd) then
    bif idxOk d0.fst.snd (llen d0.snd.snd.snd.snd) then
      bif ieq (lget TSubscriberID d0.snd.snd.snd.snd d0.fst.snd).fst d0.fst.fst then some (Sum.inr (Sum.inr d0.fst.snd))
      else some (Sum.inl ((d0.fst.fst, iadd IntKind.i64 d0.fst.snd 1), d0.snd))
    else none
  else some (Sum.inr (Sum.inl ()))
def spec_l16Find.f (k : Nat) (x : DAccount × Int) : Option Int :=
    obind (loopN spec_l16Find.s0 k ((x.snd, 0), x.fst)) fun v1 => selim (fun v2 => some (-1)) (fun v3 => some v3) v1

def spec_Min.f (k : Nat) (x : DSubscriberID) : Option Int :=
    bif ilt x.snd x.fst then some x.snd else some x.fst

def spec_l16Add.s0  (d0 : List DSubscriberID × DQuota) : Option (List DSubscriberID × DQuota ⊕ List DSubscriberID × DQuota) :=
    bif bif idxOk d0.snd.snd.snd (llen d0.fst) then true else dnot (ilt d0.snd.snd.snd (llen d0.fst)) then
    bif
        bif ilt d0.snd.snd.snd (llen d0.fst) then ilt (lget TSubscriberID d0.fst d0.snd.snd.snd).fst d0.snd.fst
        else false then
      some (Sum.inl (d0.fst, d0.snd.fst, d0.snd.snd.fst, iadd IntKind.i64 d0.snd.snd.snd 1))
    else some (Sum.inr d0)
  else none
def spec_l16Add.f (k : Nat) (x : List DSubscriberID × DSubscriberID) : Option (List DSubscriberID) :=
    obind (loopN spec_l16Add.s0 k (x.fst, x.snd.fst, x.snd.snd, 0)) fun v1 =>
    bif bif idxOk v1.snd.snd.snd (llen v1.fst) then true else dnot (ilt v1.snd.snd.snd (llen v1.fst)) then
      bif
          bif ilt v1.snd.snd.snd (llen v1.fst) then ieq (lget TSubscriberID v1.fst v1.snd.snd.snd).fst v1.snd.fst
          else false then
        bif appOk [] v1.fst 16 then
          bif idxOk v1.snd.snd.snd (llen (lcat [] v1.fst)) then
            bif idxOk v1.snd.snd.snd (llen (lcat [] v1.fst)) then
              some
                (lmod TSubscriberID (lcat [] v1.fst) v1.snd.snd.snd fun v2 =>
                  (v2.fst, iadd IntKind.i64 (lget TSubscriberID (lcat [] v1.fst) v1.snd.snd.snd).snd v1.snd.snd.fst))
            else none
          else none
        else none
      else
        bif cutOk 0 v1.snd.snd.snd (llen v1.fst) then
          bif appOk [] (ltake v1.fst v1.snd.snd.snd) 16 then
            bif appOk (lcat [] (ltake v1.fst v1.snd.snd.snd)) [(v1.snd.fst, v1.snd.snd.fst)] 16 then
              bif cutOk v1.snd.snd.snd (llen v1.fst) (llen v1.fst) then
                bif
                    appOk (lcat (lcat [] (ltake v1.fst v1.snd.snd.snd)) [(v1.snd.fst, v1.snd.snd.fst)])
                      (ldrop v1.fst v1.snd.snd.snd) 16 then
                  some
                    (lcat (lcat (lcat [] (ltake v1.fst v1.snd.snd.snd)) [(v1.snd.fst, v1.snd.snd.fst)])
                      (ldrop v1.fst v1.snd.snd.snd))
                else none
              else none
            else none
          else none
        else none
    else none

def spec_Reserve.f (k : Nat) (x : DAccount × DSubscriberID) : Option (DAccount × Int) :=
    obind (spec_l16Copy.f k x.fst) fun v0 =>
    obind (spec_IsValidAccount.f k x.fst) fun v1 =>
      obind
        (bif dnot (bif dnot v1 then true else ilt x.snd.fst 0) then spec_l1In.f k (x.snd.snd, 1, 100000) else some false)
        fun v2 =>
        obind
          (bif
              dand
                (dnot
                  (bif bif bif dnot v1 then true else ilt x.snd.fst 0 then true else dnot v2 then true
                  else ieq x.fst.snd.fst 0))
                (ile 8 (llen x.fst.snd.snd.snd)) then
            spec_l16Find.f k (x.fst, x.snd.fst)
          else some 0)
          fun v3 =>
          bif
              bif
                  bif bif bif dnot v1 then true else ilt x.snd.fst 0 then true else dnot v2 then true
                  else ieq x.fst.snd.fst 0 then
                true
              else bif ile 8 (llen x.fst.snd.snd.snd) then ilt v3 0 else false then
            some (v0, 0)
          else
            obind (spec_Min.f k (x.snd.snd, x.fst.snd.fst)) fun v4 =>
              obind (spec_l16Add.f k (x.fst.snd.snd.snd, x.snd.fst, v4)) fun v5 =>
                some ((v0.fst, isub IntKind.i64 x.fst.snd.fst v4, v0.snd.snd.fst, v5), v4)

def spec_ReservedFor.f (k : Nat) (x : DAccount × Int) : Option Int :=
    obind (spec_l16Find.f k x) fun v0 =>
    bif ilt v0 0 then some 0
    else bif idxOk v0 (llen x.fst.snd.snd.snd) then some (lget TSubscriberID x.fst.snd.snd.snd v0).snd else none

def spec_QuotaMatchesAccount.f (k : Nat) (x : DAccount × DQuota) : Option Bool :=
    obind (spec_IsValidAccount.f k x.fst) fun v0 =>
    obind (bif v0 then spec_IsValidQuota.f k x.snd else some false) fun v1 =>
      obind (bif bif v0 then v1 else false then spec_ReservedFor.f k (x.fst, x.snd.fst) else some 0) fun v2 =>
        some (bif bif v0 then v1 else false then ieq v2 x.snd.snd.fst else false)

def spec_RequestQuota.f (k : Nat) (x : DAccount × DQuota × Int) : Option (DAccount × DQuota) :=
    obind (spec_Reserve.f k (x.fst, x.snd.fst.fst, x.snd.snd)) fun v0 =>
    obind (spec_QuotaMatchesAccount.f k (x.fst, x.snd.fst)) fun v1 =>
      obind
        (bif dnot (dnot v1) then
          spec_IsValidQuota.f k (x.snd.fst.fst, iadd IntKind.i64 x.snd.fst.snd.fst v0.snd, x.snd.fst.snd.snd)
        else some false)
        fun v2 =>
        bif bif dnot v1 then true else dnot v2 then obind (spec_l16Copy.f k x.fst) fun v3 => some (v3, x.snd.fst)
        else some (v0.fst, x.snd.fst.fst, iadd IntKind.i64 x.snd.fst.snd.fst v0.snd, x.snd.fst.snd.snd)

def spec_EnsureQuota.f (k : Nat) (x : DSession × DAccount × Int) : Option (DSession × DAccount) :=
    obind (spec_l30Copy.f k x.fst) fun v0 =>
    obind (spec_QuotaNeeded.f k (x.fst, x.snd.snd)) fun v1 =>
      bif ile v1 0 then obind (spec_l16Copy.f k x.snd.fst) fun v2 => some (v0, v2)
      else
        obind (spec_Max.f k (v1, x.fst.snd.fst.snd.snd.fst)) fun v3 =>
          obind (spec_RequestQuota.f k (x.snd.fst, x.fst.snd.snd.snd.snd.snd.snd.snd.snd.snd.snd.snd.snd.snd.snd, v3))
            fun v4 =>
            some
              ((v0.fst, v0.snd.fst, v0.snd.snd.fst, v0.snd.snd.snd.fst, v0.snd.snd.snd.snd.fst,
                  v0.snd.snd.snd.snd.snd.fst, v0.snd.snd.snd.snd.snd.snd.fst, v0.snd.snd.snd.snd.snd.snd.snd.fst,
                  v0.snd.snd.snd.snd.snd.snd.snd.snd.fst, v0.snd.snd.snd.snd.snd.snd.snd.snd.snd.fst,
                  v0.snd.snd.snd.snd.snd.snd.snd.snd.snd.snd.fst, v0.snd.snd.snd.snd.snd.snd.snd.snd.snd.snd.snd.fst,
                  v0.snd.snd.snd.snd.snd.snd.snd.snd.snd.snd.snd.snd.fst,
                  v0.snd.snd.snd.snd.snd.snd.snd.snd.snd.snd.snd.snd.snd.fst, v4.snd),
                v4.fst)

def spec_l31None.f (k : Nat) (x : DSession × DAccount) : Option DTransmission :=
    obind (spec_l30Copy.f k x.fst) fun v0 => obind (spec_l16Copy.f k x.snd) fun v1 => some (v0, v1, [], [])

def spec_IsValidKey.f (k : Nat) (x : Int) : Option Bool :=
    obind (spec_l1In.f k (x, 1, 2147483646)) fun v0 => some v0

def spec_IsValidSubscriberID.f (k : Nat) (x : DSubscriberID) : Option Bool :=
    obind (spec_l1In.f k (x.fst, 0, 3)) fun v0 =>
    obind (bif v0 then spec_l1In.f k (x.snd, 0, 99) else some false) fun v1 => some (bif v0 then v1 else false)

def spec_IsValidSubscriberRecord.f (k : Nat) (x : DUSIM) : Option Bool :=
    obind (spec_IsValidSubscriberID.f k x.fst) fun v0 =>
    obind (bif v0 then spec_IsValidKey.f k x.snd.fst else some false) fun v1 =>
      obind (bif bif v0 then v1 else false then spec_l1In.f k (x.snd.snd, 0, 999999) else some false) fun v2 =>
        some (bif bif v0 then v1 else false then v2 else false)

def spec_IsValidSubscription.s0 (k : Nat) (d0 : Int × DSubscription) : Option (Int × DSubscription ⊕ DSubscription ⊕ Bool) :=
    bif ilt d0.fst (llen d0.snd.snd.snd.snd) then
    bif idxOk d0.fst (llen d0.snd.snd.snd.snd) then
      obind (spec_l1In.f k (lget (Ty.int IntKind.i64) d0.snd.snd.snd.snd d0.fst, 0, 3)) fun v1 =>
        bif
            bif idxOk (isub IntKind.i64 d0.fst 1) (llen d0.snd.snd.snd.snd) then true
            else dnot (dand (dnot (dnot v1)) (ilt 0 d0.fst)) then
          bif bif idxOk d0.fst (llen d0.snd.snd.snd.snd) then true else dnot (dand (dnot (dnot v1)) (ilt 0 d0.fst)) then
            bif
                bif dnot v1 then true
                else
                  bif ilt 0 d0.fst then
                    ile (lget (Ty.int IntKind.i64) d0.snd.snd.snd.snd d0.fst)
                      (lget (Ty.int IntKind.i64) d0.snd.snd.snd.snd (isub IntKind.i64 d0.fst 1))
                  else false then
              some (Sum.inr (Sum.inr false))
            else some (Sum.inl (iadd IntKind.i64 d0.fst 1, d0.snd))
          else none
        else none
    else none
  else some (Sum.inr (Sum.inl d0.snd))
def spec_IsValidSubscription.f (k : Nat) (x : DSubscription) : Option Bool :=
    obind (loopN (spec_IsValidSubscription.s0 k) k (0, x)) fun v2 =>
    selim
      (fun v3 =>
        obind (spec_l1In.f k (v3.fst, 1, 1000)) fun v4 =>
          obind (bif v4 then spec_l1In.f k (v3.snd.fst, 1, 4) else some false) fun v5 =>
            obind (bif bif v4 then v5 else false then spec_l1In.f k (v3.snd.snd.fst, 1, 100000) else some false) fun v6 =>
              some (bif bif v4 then v5 else false then v6 else false))
      (fun v7 => some v7) v2

def spec_IsValidPaging.f (k : Nat) (x : DQuota) : Option Bool :=
    obind (spec_l1In.f k (x.fst, 0, 2)) fun v0 =>
    obind (bif v0 then spec_l1In.f k (x.snd.fst, 0, 4) else some false) fun v1 =>
      obind (bif bif v0 then v1 else false then spec_l1In.f k (x.snd.snd, 0, 3) else some false) fun v2 =>
        some (bif bif v0 then v1 else false then v2 else false)

def spec_IsValidSender.s0  (d0 : Int × DSendWindow) : Option (Int × DSendWindow ⊕ DSendWindow ⊕ Bool) :=
    bif ilt d0.fst (llen d0.snd.snd) then
    bif idxOk d0.fst (llen d0.snd.snd) then
      bif
          bif idxOk d0.fst (llen d0.snd.snd) then true
          else
            dnot
              (dnot
                (ine (lget TNumberedPacket d0.snd.snd d0.fst).fst
                  (iadd IntKind.i64 (isub IntKind.i64 d0.snd.fst (llen d0.snd.snd)) d0.fst))) then
        bif
            bif
                ine (lget TNumberedPacket d0.snd.snd d0.fst).fst
                  (iadd IntKind.i64 (isub IntKind.i64 d0.snd.fst (llen d0.snd.snd)) d0.fst) then
              true
            else ilt 60 (llen (lget TNumberedPacket d0.snd.snd d0.fst).snd) then
          some (Sum.inr (Sum.inr false))
        else some (Sum.inl (iadd IntKind.i64 d0.fst 1, d0.snd))
      else none
    else none
  else some (Sum.inr (Sum.inl d0.snd))
def spec_IsValidSender.f (k : Nat) (x : DSendWindow) : Option Bool :=
    obind (loopN spec_IsValidSender.s0 k (0, x)) fun v1 =>
    selim
      (fun v2 =>
        obind (spec_l1In.f k (v2.fst, 1, 100000)) fun v3 =>
          some
            (bif bif v3 then ile (llen v2.snd) 8 else false then ile 1 (isub IntKind.i64 v2.fst (llen v2.snd))
            else false))
      (fun v4 => some v4) v1

def spec_EqualBytes.f (k : Nat) (x : List Int × List Int) : Option Bool :=
    some (seq' (sofbytes x.fst) (sofbytes x.snd))

def spec_l30Stream.s0  (d0 : Int × DSession) : Option (Int × DSession ⊕ DSession ⊕ Bool) :=
    bif ilt d0.fst (llen d0.snd.snd.snd.snd.snd.snd.snd.snd.snd.snd.snd.snd.fst) then
    bif idxOk d0.fst (llen d0.snd.snd.snd.snd.snd.snd.snd.snd.snd.snd.snd.snd.fst) then
      bif
          ilt 60
            (llen (lget (Ty.sl (Ty.int IntKind.u8)) d0.snd.snd.snd.snd.snd.snd.snd.snd.snd.snd.snd.snd.fst d0.fst)) then
        some (Sum.inr (Sum.inr false))
      else some (Sum.inl (iadd IntKind.i64 d0.fst 1, d0.snd))
    else none
  else some (Sum.inr (Sum.inl d0.snd))
def spec_l30Stream.s1 (k : Nat) (d4 : Int × DSession) : Option (Int × DSession ⊕ DSession ⊕ Bool) :=
    bif ilt d4.fst (llen d4.snd.snd.snd.snd.snd.snd.snd.snd.snd.snd.snd.snd.snd.fst.snd) then
    bif idxOk d4.fst (llen d4.snd.snd.snd.snd.snd.snd.snd.snd.snd.snd.snd.snd.snd.fst.snd) then
      bif
          idxOk
            (isub IntKind.i64
              (lget TNumberedPacket d4.snd.snd.snd.snd.snd.snd.snd.snd.snd.snd.snd.snd.snd.fst.snd d4.fst).fst 1)
            (llen d4.snd.snd.snd.snd.snd.snd.snd.snd.snd.snd.snd.snd.fst) then
        obind
          (spec_EqualBytes.f k
            ((lget TNumberedPacket d4.snd.snd.snd.snd.snd.snd.snd.snd.snd.snd.snd.snd.snd.fst.snd d4.fst).snd,
              lget (Ty.sl (Ty.int IntKind.u8)) d4.snd.snd.snd.snd.snd.snd.snd.snd.snd.snd.snd.snd.fst
                (isub IntKind.i64
                  (lget TNumberedPacket d4.snd.snd.snd.snd.snd.snd.snd.snd.snd.snd.snd.snd.snd.fst.snd d4.fst).fst 1)))
          fun v5 =>
          bif dnot v5 then some (Sum.inr (Sum.inr false)) else some (Sum.inl (iadd IntKind.i64 d4.fst 1, d4.snd))
      else none
    else none
  else some (Sum.inr (Sum.inl d4.snd))
def spec_l30Stream.f (k : Nat) (x : DSession) : Option Bool :=
    obind (loopN spec_l30Stream.s0 k (0, x)) fun v1 =>
    selim
      (fun v2 =>
        obind
          (bif dnot (ilt 24 (llen v2.snd.snd.snd.snd.snd.snd.snd.snd.snd.snd.snd.fst)) then
            spec_IsValidSender.f k v2.snd.snd.snd.snd.snd.snd.snd.snd.snd.snd.snd.snd.fst
          else some false)
          fun v3 =>
          bif
              bif bif ilt 24 (llen v2.snd.snd.snd.snd.snd.snd.snd.snd.snd.snd.snd.fst) then true else dnot v3 then true
              else
                ilt (iadd IntKind.i64 (llen v2.snd.snd.snd.snd.snd.snd.snd.snd.snd.snd.snd.fst) 1)
                  v2.snd.snd.snd.snd.snd.snd.snd.snd.snd.snd.snd.snd.fst.fst then
            some false
          else
            obind (loopN (spec_l30Stream.s1 k) k (0, v2)) fun v6 =>
              selim
                (fun v7 =>
                  obind (spec_l30Bytes.f k v7.snd.snd.snd.snd.snd.snd.snd.snd.snd.snd.snd.snd.fst.snd) fun v8 =>
                    obind (spec_RemainingQuota.f k v7.snd.snd.snd.snd.snd.snd.snd.snd.snd.snd.snd.snd.snd.snd) fun v9 =>
                      some (ile v8 v9))
                (fun v10 => some v10) v6)
      (fun v11 => some v11) v1

def spec_IsValidSession.f (k : Nat) (x : DSession) : Option Bool :=
    obind (bif ieq x.snd.snd.fst 1 then spec_IsValidKey.f k x.snd.snd.snd.snd.snd.snd.fst else some false) fun v0 =>
    obind
      (bif dand (dnot (bif ieq x.snd.snd.fst 1 then dnot v0 else false)) (ilt 0 x.snd.snd.snd.snd.fst) then
        spec_IsValidKey.f k x.snd.snd.snd.fst.snd.snd.snd.snd
      else some false)
      fun v1 =>
      obind
        (bif
            dnot
              (bif bif ieq x.snd.snd.fst 1 then dnot v0 else false then true
              else bif ilt 0 x.snd.snd.snd.snd.fst then dnot v1 else false) then
          spec_l1In.f k (x.snd.snd.fst, 0, 1)
        else some false)
        fun v2 =>
        bif
            bif
                bif bif ieq x.snd.snd.fst 1 then dnot v0 else false then true
                else bif ilt 0 x.snd.snd.snd.snd.fst then dnot v1 else false then
              true
            else dnot v2 then
          some false
        else
          obind (spec_IsValidSubscriberRecord.f k x.fst) fun v3 =>
            obind (bif dnot (dnot v3) then spec_IsValidSubscription.f k x.snd.fst else some false) fun v4 =>
              obind
                (bif dnot (bif dnot v3 then true else dnot v4) then
                  spec_IsValidPaging.f k x.snd.snd.snd.snd.snd.snd.snd.snd.snd.snd.fst
                else some false)
                fun v5 =>
                obind
                  (bif dnot (bif bif dnot v3 then true else dnot v4 then true else dnot v5) then
                    spec_IsValidQuota.f k x.snd.snd.snd.snd.snd.snd.snd.snd.snd.snd.snd.snd.snd.snd
                  else some false)
                  fun v6 =>
                  obind
                    (bif
                        dnot
                          (bif bif bif dnot v3 then true else dnot v4 then true else dnot v5 then true else dnot v6) then
                      spec_l30Stream.f k x
                    else some false)
                    fun v7 =>
                    bif
                        bif bif bif bif dnot v3 then true else dnot v4 then true else dnot v5 then true else dnot v6 then
                          true
                        else dnot v7 then
                      some false
                    else
                      obind (spec_l1In.f k (x.snd.snd.snd.snd.fst, 0, 999999)) fun v8 =>
                        obind
                          (bif dnot (dnot v8) then spec_l1In.f k (x.snd.snd.snd.snd.snd.fst, 0, 999999) else some false)
                          fun v9 =>
                          obind
                            (bif dnot (bif dnot v8 then true else dnot v9) then
                              spec_l1In.f k (x.snd.snd.snd.snd.snd.snd.snd.fst, 0, 999999)
                            else some false)
                            fun v10 =>
                            obind
                              (bif dnot (bif bif dnot v8 then true else dnot v9 then true else dnot v10) then
                                spec_l1In.f k (x.snd.snd.snd.snd.snd.snd.fst, 0, 2147483646)
                              else some false)
                              fun v11 =>
                              bif
                                  bif bif bif dnot v8 then true else dnot v9 then true else dnot v10 then true
                                  else dnot v11 then
                                some false
                              else
                                obind (spec_l1In.f k (x.snd.snd.snd.snd.snd.snd.snd.snd.fst, 0, 5)) fun v12 =>
                                  obind
                                    (bif v12 then spec_l1In.f k (x.snd.snd.snd.snd.snd.snd.snd.snd.snd.fst, 0, 5)
                                    else some false)
                                    fun v13 =>
                                    obind
                                      (bif bif v12 then v13 else false then
                                        spec_l1In.f k (x.snd.snd.snd.snd.snd.snd.snd.snd.snd.snd.snd.snd.snd.fst, 0, 3)
                                      else some false)
                                      fun v14 => some (bif bif v12 then v13 else false then v14 else false)

def spec_l31Idle.f (k : Nat) (x : DSession) : Option Bool :=
    obind (bif dnot (ine x.snd.snd.fst 1) then spec_IsValidSession.f k x else some false) fun v0 =>
    some (bif ine x.snd.snd.fst 1 then true else dnot v0)

def spec_SendPacket.f (k : Nat) (x : DSendWindow × List Int) : Option (DSendWindow × DNumberedPacket × Bool) :=
    obind (spec_l24Sender.f k x.fst) fun v0 =>
    bif appOk [] x.snd 1 then
      bif appOk [] x.snd 1 then
        bif appOk v0.snd [(x.fst.fst, lcat [] x.snd)] 32 then
          obind (spec_IsValidSender.f k (iadd IntKind.i64 x.fst.fst 1, lcat v0.snd [(x.fst.fst, lcat [] x.snd)]))
            fun v1 =>
            bif dnot v1 then obind (spec_l24Sender.f k x.fst) fun v2 => some (v2, (0, []), false)
            else
              some
                ((iadd IntKind.i64 x.fst.fst 1, lcat v0.snd [(x.fst.fst, lcat [] x.snd)]), (x.fst.fst, lcat [] x.snd),
                  true)
        else none
      else none
    else none

def spec_Mod.f (k : Nat) (x : DSubscriberID) : Option Int :=
    obind (spec_l1In.f k (x.snd, 1, 1000000000000)) fun v0 =>
    bif dnot v0 then some 0
    else
      bif ine x.snd 0 then
        bif ine x.snd 0 then some (irem IntKind.i64 (iadd IntKind.i64 (irem IntKind.i64 x.fst x.snd) x.snd) x.snd)
        else none
      else none

def spec_Hash.s0 (k : Nat) (d0 : Dl1Cur) : Option (Dl1Cur ⊕ Int) :=
    bif ilt d0.snd.snd (llen d0.fst) then
    bif idxOk d0.snd.snd (llen d0.fst) then
      obind (spec_Mod.f k (lget (Ty.int IntKind.i64) d0.fst d0.snd.snd, 2147483647)) fun v1 =>
        bif ine 2147483647 0 then
          some
            (Sum.inl
              (d0.fst,
                irem IntKind.i64 (iadd IntKind.i64 (iadd IntKind.i64 (imul IntKind.i64 d0.snd.fst 1000003) v1) 13)
                  2147483647,
                iadd IntKind.i64 d0.snd.snd 1))
        else none
    else none
  else some (Sum.inr d0.snd.fst)
def spec_Hash.f (k : Nat) (x : List Int) : Option Int :=
    obind (loopN (spec_Hash.s0 k) k (x, 11, 0)) fun v2 => some v2

def spec_KeyedHash.f (k : Nat) (x : DNumberedPacket) : Option Int :=
    bif appOk [x.fst] x.snd 8 then
    bif appOk (lcat [x.fst] x.snd) [x.fst] 8 then
      obind (spec_Hash.f k (lcat (lcat [x.fst] x.snd) [x.fst])) fun v0 => some v0
    else none
  else none

def spec_DeriveKey.f (k : Nat) (x : DSubscriberID) : Option Int :=
    obind (spec_KeyedHash.f k (x.fst, [9, x.snd])) fun v0 => obind (spec_Max.f k (1, v0)) fun v1 => some v1

def spec_KeyForPath.s0 (k : Nat) (d0 : DSubscriberID × List Int) : Option (DSubscriberID × List Int ⊕ Int) :=
    bif ilt d0.fst.snd (llen d0.snd) then
    bif idxOk d0.fst.snd (llen d0.snd) then
      obind (spec_DeriveKey.f k (d0.fst.fst, lget (Ty.int IntKind.i64) d0.snd d0.fst.snd)) fun v1 =>
        some (Sum.inl ((v1, iadd IntKind.i64 d0.fst.snd 1), d0.snd))
    else none
  else some (Sum.inr d0.fst.fst)
def spec_KeyForPath.f (k : Nat) (x : DNumberedPacket) : Option Int :=
    obind (loopN (spec_KeyForPath.s0 k) k ((x.fst, 0), x.snd)) fun v2 => some v2

def spec_RadioKeyPath.f (k : Nat) (x : Int) : Option (List Int) :=
    some [1, 3, x]

def spec_RadioKey.f (k : Nat) (x : DSubscriberID) : Option Int :=
    obind (spec_RadioKeyPath.f k x.snd) fun v0 => obind (spec_KeyForPath.f k (x.fst, v0)) fun v1 => some v1

def spec_BytesToInts.s0  (d0 : (List Int × Int) × List Int) : Option ((List Int × Int) × List Int ⊕ List Int) :=
    bif ilt d0.fst.snd (llen d0.fst.fst) then
    bif idxOk d0.fst.snd (llen d0.fst.fst) then
      bif appOk d0.snd [icast IntKind.i64 (lget (Ty.int IntKind.u8) d0.fst.fst d0.fst.snd)] 8 then
        some
          (Sum.inl
            ((d0.fst.fst, iadd IntKind.i64 d0.fst.snd 1),
              lcat d0.snd [icast IntKind.i64 (lget (Ty.int IntKind.u8) d0.fst.fst d0.fst.snd)]))
      else none
    else none
  else some (Sum.inr d0.snd)
def spec_BytesToInts.f (k : Nat) (x : List Int) : Option (List Int) :=
    obind (loopN spec_BytesToInts.s0 k ((x, 0), [llen x])) fun v1 => some v1

def spec_l8Mac.f (k : Nat) (x : Int × DSecuredMessage) : Option Int :=
    obind (spec_BytesToInts.f k x.snd.snd.snd.fst) fun v0 =>
    bif appOk [x.snd.fst, x.snd.snd.fst] v0 8 then
      obind (spec_KeyedHash.f k (x.fst, lcat [x.snd.fst, x.snd.snd.fst] v0)) fun v1 => some v1
    else none

def spec_Encrypt.s0 (k : Nat) (d0 : (Int × List Int × Int) × List Int) : Option ((Int × List Int × Int) × List Int ⊕ List Int) :=
    bif ilt d0.fst.snd.snd (llen d0.fst.snd.fst) then
    bif idxOk d0.fst.snd.snd (llen d0.fst.snd.fst) then
      obind (spec_KeyedHash.f k (d0.fst.fst, [d0.fst.snd.snd])) fun v1 =>
        bif ine 256 0 then
          bif ine 256 0 then
            bif
                appOk d0.snd
                  [icast IntKind.u8
                      (irem IntKind.i64
                        (iadd IntKind.i64 (icast IntKind.i64 (lget (Ty.int IntKind.u8) d0.fst.snd.fst d0.fst.snd.snd))
                          (irem IntKind.i64 v1 256))
                        256)]
                  1 then
              some
                (Sum.inl
                  ((d0.fst.fst, d0.fst.snd.fst, iadd IntKind.i64 d0.fst.snd.snd 1),
                    lcat d0.snd
                      [icast IntKind.u8
                          (irem IntKind.i64
                            (iadd IntKind.i64 (icast IntKind.i64 (lget (Ty.int IntKind.u8) d0.fst.snd.fst d0.fst.snd.snd))
                              (irem IntKind.i64 v1 256))
                            256)]))
            else none
          else none
        else none
    else none
  else some (Sum.inr d0.snd)
def spec_Encrypt.f (k : Nat) (x : DNumberedPacket) : Option (List Int) :=
    obind (loopN (spec_Encrypt.s0 k) k ((x.fst, x.snd, 0), [])) fun v2 => some v2

def spec_Protect.f (k : Nat) (x : DSubscription) : Option DSecuredMessage :=
    obind (spec_DeriveKey.f k (x.fst, iadd IntKind.i64 (imul IntKind.i64 2 x.snd.snd.fst) x.snd.fst)) fun v0 =>
    obind (spec_Encrypt.f k (v0, x.snd.snd.snd)) fun v1 =>
      obind (spec_l8Mac.f k (x.fst, x.snd.fst, x.snd.snd.fst, v1, 0)) fun v2 => some (x.snd.fst, x.snd.snd.fst, v1, v2)

def spec_SealRadio.f (k : Nat) (x : Int × DSubscription) : Option DRadioPacket :=
    obind (spec_RadioKey.f k (x.fst, x.snd.snd.fst)) fun v0 =>
    obind (spec_Protect.f k (v0, 1, x.snd.snd.snd)) fun v1 => some (x.snd.fst, x.snd.snd.fst, v1)

def spec_l31Seal.f (k : Nat) (x : DSession × DNumberedPacket) : Option DRadioPacket :=
    obind
    (spec_SealRadio.f k
      (x.fst.snd.snd.snd.snd.snd.snd.fst, x.fst.snd.snd.snd.snd.snd.fst, x.fst.snd.snd.snd.snd.snd.snd.snd.fst, x.snd))
    fun v0 => some v0

def spec_SendNew.s0 (k : Nat) (d2 : Int ×
    DSession ×
      DTransmission ×
        (DUSIM ×
            Int ×
              Int × Int × Int × DAuthVector × Int × Int × Int × Int × Int × Int × DQuota × Int × DAuthResponse × DQuota) ×
          List Int × List (List Int) × List DNumberedPacket × List DSubscriberID × List DSignal × List DRadioPacket) : Option
    (Int ×
        DSession ×
          DTransmission ×
            (DUSIM ×
                Int ×
                  Int ×
                    Int × Int × DAuthVector × Int × Int × Int × Int × Int × Int × DQuota × Int × DAuthResponse × DQuota) ×
              List Int × List (List Int) × List DNumberedPacket × List DSubscriberID × List DSignal × List DRadioPacket ⊕
      DTransmission ×
          (DUSIM ×
              Int ×
                Int ×
                  Int × Int × DAuthVector × Int × Int × Int × Int × Int × Int × DQuota × Int × DAuthResponse × DQuota) ×
            List Int × List (List Int) × List DNumberedPacket × List DSubscriberID × List DSignal × List DRadioPacket ⊕
        (DUSIM ×
            Int ×
              Int × Int × Int × DAuthVector × Int × Int × Int × Int × Int × Int × DQuota × Int × DAuthResponse × DQuota) ×
          List Int × List (List Int) × List DNumberedPacket × List DSubscriberID × List DSignal × List DRadioPacket) :=
    bif
      bif
          bif ilt d2.fst 2 then
            ile d2.snd.snd.snd.fst.snd.snd.snd.snd.snd.snd.snd.snd.snd.snd.snd.snd.snd.fst
              (llen d2.snd.fst.snd.snd.snd.snd.snd.snd.snd.snd.snd.snd.snd.fst)
          else false then
        ilt (llen d2.snd.snd.snd.snd.snd.snd.fst) 8
      else false then
    bif
        idxOk (isub IntKind.i64 d2.snd.snd.snd.fst.snd.snd.snd.snd.snd.snd.snd.snd.snd.snd.snd.snd.snd.fst 1)
          (llen d2.snd.fst.snd.snd.snd.snd.snd.snd.snd.snd.snd.snd.snd.fst) then
      obind
        (spec_EnsureQuota.f k
          ((d2.snd.snd.snd.fst.fst,
              (d2.snd.snd.snd.fst.snd.fst, d2.snd.snd.snd.fst.snd.snd.fst, d2.snd.snd.snd.fst.snd.snd.snd.fst,
                d2.snd.snd.snd.snd.fst),
              d2.snd.snd.snd.fst.snd.snd.snd.snd.fst, d2.snd.snd.snd.fst.snd.snd.snd.snd.snd.fst,
              d2.snd.snd.snd.fst.snd.snd.snd.snd.snd.snd.fst, d2.snd.snd.snd.fst.snd.snd.snd.snd.snd.snd.snd.fst,
              d2.snd.snd.snd.fst.snd.snd.snd.snd.snd.snd.snd.snd.fst,
              d2.snd.snd.snd.fst.snd.snd.snd.snd.snd.snd.snd.snd.snd.fst,
              d2.snd.snd.snd.fst.snd.snd.snd.snd.snd.snd.snd.snd.snd.snd.fst,
              d2.snd.snd.snd.fst.snd.snd.snd.snd.snd.snd.snd.snd.snd.snd.snd.fst,
              d2.snd.snd.snd.fst.snd.snd.snd.snd.snd.snd.snd.snd.snd.snd.snd.snd.fst, d2.snd.snd.snd.snd.snd.fst,
              (d2.snd.snd.snd.fst.snd.snd.snd.snd.snd.snd.snd.snd.snd.snd.snd.snd.snd.fst,
                d2.snd.snd.snd.snd.snd.snd.fst),
              d2.snd.snd.snd.fst.snd.snd.snd.snd.snd.snd.snd.snd.snd.snd.snd.snd.snd.snd.fst),
            (d2.snd.snd.snd.fst.snd.snd.snd.snd.snd.snd.snd.snd.snd.snd.snd.snd.snd.snd.snd.fst,
              d2.snd.snd.snd.fst.snd.snd.snd.snd.snd.snd.snd.snd.snd.snd.snd.snd.snd.snd.snd.snd.fst,
              d2.snd.snd.snd.fst.snd.snd.snd.snd.snd.snd.snd.snd.snd.snd.snd.snd.snd.snd.snd.snd.snd,
              d2.snd.snd.snd.snd.snd.snd.snd.fst),
            llen
              (lget (Ty.sl (Ty.int IntKind.u8)) d2.snd.fst.snd.snd.snd.snd.snd.snd.snd.snd.snd.snd.snd.fst
                (isub IntKind.i64 d2.snd.snd.snd.fst.snd.snd.snd.snd.snd.snd.snd.snd.snd.snd.snd.snd.snd.fst 1))))
        fun v3 =>
        obind
          (spec_QuotaNeeded.f k
            (v3.fst,
              llen
                (lget (Ty.sl (Ty.int IntKind.u8)) d2.snd.fst.snd.snd.snd.snd.snd.snd.snd.snd.snd.snd.snd.fst
                  (isub IntKind.i64 d2.snd.snd.snd.fst.snd.snd.snd.snd.snd.snd.snd.snd.snd.snd.snd.snd.snd.fst 1))))
          fun v4 =>
          bif ilt 0 v4 then
            some
              (Sum.inr
                (Sum.inr
                  ((v3.fst.fst, v3.fst.snd.fst.fst, v3.fst.snd.fst.snd.fst, v3.fst.snd.fst.snd.snd.fst,
                      v3.fst.snd.snd.fst, v3.fst.snd.snd.snd.fst, v3.fst.snd.snd.snd.snd.fst,
                      v3.fst.snd.snd.snd.snd.snd.fst, v3.fst.snd.snd.snd.snd.snd.snd.fst,
                      v3.fst.snd.snd.snd.snd.snd.snd.snd.fst, v3.fst.snd.snd.snd.snd.snd.snd.snd.snd.fst,
                      v3.fst.snd.snd.snd.snd.snd.snd.snd.snd.snd.fst, v3.fst.snd.snd.snd.snd.snd.snd.snd.snd.snd.snd.fst,
                      v3.fst.snd.snd.snd.snd.snd.snd.snd.snd.snd.snd.snd.snd.fst.fst,
                      v3.fst.snd.snd.snd.snd.snd.snd.snd.snd.snd.snd.snd.snd.snd, v3.snd.fst, v3.snd.snd.fst,
                      v3.snd.snd.snd.fst),
                    v3.fst.snd.fst.snd.snd.snd, v3.fst.snd.snd.snd.snd.snd.snd.snd.snd.snd.snd.snd.fst,
                    v3.fst.snd.snd.snd.snd.snd.snd.snd.snd.snd.snd.snd.snd.fst.snd, v3.snd.snd.snd.snd,
                    d2.snd.snd.snd.snd.snd.snd.snd.snd)))
          else
            obind
              (spec_SendPacket.f k
                (v3.fst.snd.snd.snd.snd.snd.snd.snd.snd.snd.snd.snd.snd.fst,
                  lget (Ty.sl (Ty.int IntKind.u8)) d2.snd.fst.snd.snd.snd.snd.snd.snd.snd.snd.snd.snd.snd.fst
                    (isub IntKind.i64 d2.snd.snd.snd.fst.snd.snd.snd.snd.snd.snd.snd.snd.snd.snd.snd.snd.snd.fst 1)))
              fun v5 =>
              bif dnot v5.snd.snd then
                some
                  (Sum.inr
                    (Sum.inr
                      ((v3.fst.fst, v3.fst.snd.fst.fst, v3.fst.snd.fst.snd.fst, v3.fst.snd.fst.snd.snd.fst,
                          v3.fst.snd.snd.fst, v3.fst.snd.snd.snd.fst, v3.fst.snd.snd.snd.snd.fst,
                          v3.fst.snd.snd.snd.snd.snd.fst, v3.fst.snd.snd.snd.snd.snd.snd.fst,
                          v3.fst.snd.snd.snd.snd.snd.snd.snd.fst, v3.fst.snd.snd.snd.snd.snd.snd.snd.snd.fst,
                          v3.fst.snd.snd.snd.snd.snd.snd.snd.snd.snd.fst,
                          v3.fst.snd.snd.snd.snd.snd.snd.snd.snd.snd.snd.fst,
                          v3.fst.snd.snd.snd.snd.snd.snd.snd.snd.snd.snd.snd.snd.fst.fst,
                          v3.fst.snd.snd.snd.snd.snd.snd.snd.snd.snd.snd.snd.snd.snd, v3.snd.fst, v3.snd.snd.fst,
                          v3.snd.snd.snd.fst),
                        v3.fst.snd.fst.snd.snd.snd, v3.fst.snd.snd.snd.snd.snd.snd.snd.snd.snd.snd.snd.fst,
                        v3.fst.snd.snd.snd.snd.snd.snd.snd.snd.snd.snd.snd.snd.fst.snd, v3.snd.snd.snd.snd,
                        d2.snd.snd.snd.snd.snd.snd.snd.snd)))
              else
                obind (spec_l31Seal.f k (d2.snd.fst, v5.snd.fst)) fun v6 =>
                  bif appOk d2.snd.snd.snd.snd.snd.snd.snd.snd.snd [v6] 64 then
                    some
                      (Sum.inl
                        (iadd IntKind.i64 d2.fst 1, d2.snd.fst, d2.snd.snd.fst,
                          (v3.fst.fst, v3.fst.snd.fst.fst, v3.fst.snd.fst.snd.fst, v3.fst.snd.fst.snd.snd.fst,
                            v3.fst.snd.snd.fst, v3.fst.snd.snd.snd.fst, v3.fst.snd.snd.snd.snd.fst,
                            v3.fst.snd.snd.snd.snd.snd.fst, v3.fst.snd.snd.snd.snd.snd.snd.fst,
                            v3.fst.snd.snd.snd.snd.snd.snd.snd.fst, v3.fst.snd.snd.snd.snd.snd.snd.snd.snd.fst,
                            v3.fst.snd.snd.snd.snd.snd.snd.snd.snd.snd.fst,
                            v3.fst.snd.snd.snd.snd.snd.snd.snd.snd.snd.snd.fst, v5.fst.fst,
                            v3.fst.snd.snd.snd.snd.snd.snd.snd.snd.snd.snd.snd.snd.snd, v3.snd.fst, v3.snd.snd.fst,
                            v3.snd.snd.snd.fst),
                          v3.fst.snd.fst.snd.snd.snd, v3.fst.snd.snd.snd.snd.snd.snd.snd.snd.snd.snd.snd.fst, v5.fst.snd,
                          v3.snd.snd.snd.snd, d2.snd.snd.snd.snd.snd.snd.snd.snd.fst,
                          lcat d2.snd.snd.snd.snd.snd.snd.snd.snd.snd [v6]))
                  else none
    else none
  else some (Sum.inr (Sum.inl d2.snd.snd))
def spec_SendNew.f (k : Nat) (x : DSession × DAccount) : Option DTransmission :=
    obind (spec_l31None.f k x) fun v0 =>
    obind (spec_l31Idle.f k x.fst) fun v1 =>
      bif v1 then some v0
      else
        obind
          (loopN (spec_SendNew.s0 k) k
            (0, x.fst,
              ((((0, 0), 0, 0), (0, 0, 0, []), 0, (0, 0, 0, 0, 0), 0, 0, 0, 0, 0, 0, (0, 0, 0), [], (0, []), 0, 0, 0, 0),
                (0, 0, 0, []), [], []),
              (v0.fst.fst, v0.fst.snd.fst.fst, v0.fst.snd.fst.snd.fst, v0.fst.snd.fst.snd.snd.fst, v0.fst.snd.snd.fst,
                v0.fst.snd.snd.snd.fst, v0.fst.snd.snd.snd.snd.fst, v0.fst.snd.snd.snd.snd.snd.fst,
                v0.fst.snd.snd.snd.snd.snd.snd.fst, v0.fst.snd.snd.snd.snd.snd.snd.snd.fst,
                v0.fst.snd.snd.snd.snd.snd.snd.snd.snd.fst, v0.fst.snd.snd.snd.snd.snd.snd.snd.snd.snd.fst,
                v0.fst.snd.snd.snd.snd.snd.snd.snd.snd.snd.snd.fst,
                v0.fst.snd.snd.snd.snd.snd.snd.snd.snd.snd.snd.snd.snd.fst.fst,
                v0.fst.snd.snd.snd.snd.snd.snd.snd.snd.snd.snd.snd.snd.snd, v0.snd.fst.fst, v0.snd.fst.snd.fst,
                v0.snd.fst.snd.snd.fst),
              v0.fst.snd.fst.snd.snd.snd, v0.fst.snd.snd.snd.snd.snd.snd.snd.snd.snd.snd.snd.fst,
              v0.fst.snd.snd.snd.snd.snd.snd.snd.snd.snd.snd.snd.snd.fst.snd, v0.snd.fst.snd.snd.snd, v0.snd.snd))
          fun v7 =>
          selim
            (fun v8 =>
              some
                ((v8.snd.fst.fst,
                    (v8.snd.fst.snd.fst, v8.snd.fst.snd.snd.fst, v8.snd.fst.snd.snd.snd.fst, v8.snd.snd.fst),
                    v8.snd.fst.snd.snd.snd.snd.fst, v8.snd.fst.snd.snd.snd.snd.snd.fst,
                    v8.snd.fst.snd.snd.snd.snd.snd.snd.fst, v8.snd.fst.snd.snd.snd.snd.snd.snd.snd.fst,
                    v8.snd.fst.snd.snd.snd.snd.snd.snd.snd.snd.fst, v8.snd.fst.snd.snd.snd.snd.snd.snd.snd.snd.snd.fst,
                    v8.snd.fst.snd.snd.snd.snd.snd.snd.snd.snd.snd.snd.fst,
                    v8.snd.fst.snd.snd.snd.snd.snd.snd.snd.snd.snd.snd.snd.fst,
                    v8.snd.fst.snd.snd.snd.snd.snd.snd.snd.snd.snd.snd.snd.snd.fst, v8.snd.snd.snd.fst,
                    (v8.snd.fst.snd.snd.snd.snd.snd.snd.snd.snd.snd.snd.snd.snd.snd.fst, v8.snd.snd.snd.snd.fst),
                    v8.snd.fst.snd.snd.snd.snd.snd.snd.snd.snd.snd.snd.snd.snd.snd.snd.fst),
                  (v8.snd.fst.snd.snd.snd.snd.snd.snd.snd.snd.snd.snd.snd.snd.snd.snd.snd.fst,
                    v8.snd.fst.snd.snd.snd.snd.snd.snd.snd.snd.snd.snd.snd.snd.snd.snd.snd.snd.fst,
                    v8.snd.fst.snd.snd.snd.snd.snd.snd.snd.snd.snd.snd.snd.snd.snd.snd.snd.snd.snd,
                    v8.snd.snd.snd.snd.snd.fst),
                  v8.snd.snd.snd.snd.snd.snd))
            (fun v9 =>
              some
                ((v9.fst.fst, (v9.fst.snd.fst, v9.fst.snd.snd.fst, v9.fst.snd.snd.snd.fst, v9.snd.fst),
                    v9.fst.snd.snd.snd.snd.fst, v9.fst.snd.snd.snd.snd.snd.fst, v9.fst.snd.snd.snd.snd.snd.snd.fst,
                    v9.fst.snd.snd.snd.snd.snd.snd.snd.fst, v9.fst.snd.snd.snd.snd.snd.snd.snd.snd.fst,
                    v9.fst.snd.snd.snd.snd.snd.snd.snd.snd.snd.fst, v9.fst.snd.snd.snd.snd.snd.snd.snd.snd.snd.snd.fst,
                    v9.fst.snd.snd.snd.snd.snd.snd.snd.snd.snd.snd.snd.fst,
                    v9.fst.snd.snd.snd.snd.snd.snd.snd.snd.snd.snd.snd.snd.fst, v9.snd.snd.fst,
                    (v9.fst.snd.snd.snd.snd.snd.snd.snd.snd.snd.snd.snd.snd.snd.fst, v9.snd.snd.snd.fst),
                    v9.fst.snd.snd.snd.snd.snd.snd.snd.snd.snd.snd.snd.snd.snd.snd.fst),
                  (v9.fst.snd.snd.snd.snd.snd.snd.snd.snd.snd.snd.snd.snd.snd.snd.snd.fst,
                    v9.fst.snd.snd.snd.snd.snd.snd.snd.snd.snd.snd.snd.snd.snd.snd.snd.snd.fst,
                    v9.fst.snd.snd.snd.snd.snd.snd.snd.snd.snd.snd.snd.snd.snd.snd.snd.snd.snd, v9.snd.snd.snd.snd.fst),
                  v9.snd.snd.snd.snd.snd))
            v7

def impl_copyInts.f (k : Nat) (x : List Int) : Option (List Int) :=
    bif makeOk (llen x) (llen x) 8 then
    some (lcopy (lrep (Ty.int IntKind.i64) (llen x)) 0 (llen (lrep (Ty.int IntKind.i64) (llen x))) x)
  else none

def impl_copySubscription.f (k : Nat) (x : DSubscription) : Option DSubscription :=
    obind (impl_copyInts.f k x.snd.snd.snd) fun v0 => some (x.fst, x.snd.fst, x.snd.snd.fst, v0)

def impl_copyBytes.f (k : Nat) (x : List Int) : Option (List Int) :=
    bif makeOk (llen x) (llen x) 1 then
    some (lcopy (lrep (Ty.int IntKind.u8) (llen x)) 0 (llen (lrep (Ty.int IntKind.u8) (llen x))) x)
  else none

def impl_copyPayloads.s0 (k : Nat) (d0 : (List (List Int) × DSubscriberID) × List (List Int)) : Option ((List (List Int) × DSubscriberID) × List (List Int) ⊕ List (List Int)) :=
    bif ilt d0.fst.snd.snd d0.fst.snd.fst then
    bif idxOk d0.fst.snd.snd (llen d0.fst.fst) then
      obind (impl_copyBytes.f k (lget (Ty.sl (Ty.int IntKind.u8)) d0.fst.fst d0.fst.snd.snd)) fun v1 =>
        bif idxOk d0.fst.snd.snd (llen d0.snd) then
          some (Sum.inl ((d0.fst.fst, d0.fst.snd.fst, iadd IntKind.i64 d0.fst.snd.snd 1), lset d0.snd d0.fst.snd.snd v1))
        else none
    else none
  else some (Sum.inr d0.snd)
def impl_copyPayloads.f (k : Nat) (x : List (List Int)) : Option (List (List Int)) :=
    bif makeOk (llen x) (llen x) 24 then
    obind (loopN (impl_copyPayloads.s0 k) k ((x, llen x, 0), lrep (Ty.sl (Ty.int IntKind.u8)) (llen x))) fun v2 => some v2
  else none

def impl_copyNumbered.s0 (k : Nat) (d0 : (List DNumberedPacket × DSubscriberID) × List DNumberedPacket) : Option ((List DNumberedPacket × DSubscriberID) × List DNumberedPacket ⊕ List DNumberedPacket) :=
    bif ilt d0.fst.snd.snd d0.fst.snd.fst then
    bif idxOk d0.fst.snd.snd (llen d0.fst.fst) then
      obind (impl_copyBytes.f k (lget TNumberedPacket d0.fst.fst d0.fst.snd.snd).snd) fun v1 =>
        bif idxOk d0.fst.snd.snd (llen d0.snd) then
          some
            (Sum.inl
              ((d0.fst.fst, d0.fst.snd.fst, iadd IntKind.i64 d0.fst.snd.snd 1),
                lset d0.snd d0.fst.snd.snd ((lget TNumberedPacket d0.fst.fst d0.fst.snd.snd).fst, v1)))
        else none
    else none
  else some (Sum.inr d0.snd)
def impl_copyNumbered.f (k : Nat) (x : List DNumberedPacket) : Option (List DNumberedPacket) :=
    bif makeOk (llen x) (llen x) 32 then
    obind (loopN (impl_copyNumbered.s0 k) k ((x, llen x, 0), lrep TNumberedPacket (llen x))) fun v2 => some v2
  else none

def impl_copySender.f (k : Nat) (x : DSendWindow) : Option DSendWindow :=
    obind (impl_copyNumbered.f k x.snd) fun v0 => some (x.fst, v0)

def impl_copySession.f (k : Nat) (x : DSession) : Option DSession :=
    obind (impl_copySubscription.f k x.snd.fst) fun v0 =>
    obind (impl_copyPayloads.f k x.snd.snd.snd.snd.snd.snd.snd.snd.snd.snd.snd.fst) fun v1 =>
      obind (impl_copySender.f k x.snd.snd.snd.snd.snd.snd.snd.snd.snd.snd.snd.snd.fst) fun v2 =>
        some
          (x.fst, v0, x.snd.snd.fst, x.snd.snd.snd.fst, x.snd.snd.snd.snd.fst, x.snd.snd.snd.snd.snd.fst,
            x.snd.snd.snd.snd.snd.snd.fst, x.snd.snd.snd.snd.snd.snd.snd.fst, x.snd.snd.snd.snd.snd.snd.snd.snd.fst,
            x.snd.snd.snd.snd.snd.snd.snd.snd.snd.fst, x.snd.snd.snd.snd.snd.snd.snd.snd.snd.snd.fst, v1, v2,
            x.snd.snd.snd.snd.snd.snd.snd.snd.snd.snd.snd.snd.snd)

def impl_Max.f (k : Nat) (x : DSubscriberID) : Option Int :=
    bif ilt x.fst x.snd then some x.snd else some x.fst

def impl_numberedBytes.s0  (d0 : Int × List DNumberedPacket × DSubscriberID) : Option (Int × List DNumberedPacket × DSubscriberID ⊕ Int) :=
    bif ilt d0.snd.snd.snd d0.snd.snd.fst then
    bif idxOk d0.snd.snd.snd (llen d0.snd.fst) then
      some
        (Sum.inl
          (iadd IntKind.i64 d0.fst (llen (lget TNumberedPacket d0.snd.fst d0.snd.snd.snd).snd), d0.snd.fst,
            d0.snd.snd.fst, iadd IntKind.i64 d0.snd.snd.snd 1))
    else none
  else some (Sum.inr d0.fst)
def impl_numberedBytes.f (k : Nat) (x : List DNumberedPacket) : Option Int :=
    obind (loopN impl_numberedBytes.s0 k (0, x, llen x, 0)) fun v1 => some v1

def impl_OutstandingBytes.f (k : Nat) (x : DSession) : Option Int :=
    obind (impl_numberedBytes.f k x.snd.snd.snd.snd.snd.snd.snd.snd.snd.snd.snd.snd.fst.snd) fun v0 => some v0

def impl_IsValidQuota.f (k : Nat) (x : DQuota) : Option Bool :=
    some
    (bif bif bif ile 0 x.fst then ile 0 x.snd.snd else false then ile x.snd.snd x.snd.fst else false then
      ile x.snd.fst 100000
    else false)

def impl_RemainingQuota.f (k : Nat) (x : DQuota) : Option Int :=
    obind (impl_IsValidQuota.f k x) fun v0 => bif dnot v0 then some 0 else some (isub IntKind.i64 x.snd.fst x.snd.snd)

def impl_QuotaNeeded.f (k : Nat) (x : DSession × Int) : Option Int :=
    obind (impl_OutstandingBytes.f k x.fst) fun v0 =>
    obind (impl_RemainingQuota.f k x.fst.snd.snd.snd.snd.snd.snd.snd.snd.snd.snd.snd.snd.snd.snd) fun v1 =>
      obind (impl_Max.f k (0, isub IntKind.i64 (iadd IntKind.i64 v0 x.snd) v1)) fun v2 => some v2

def impl_copyItems_impl_Reservation.f (k : Nat) (x : List DSubscriberID) : Option (List DSubscriberID) :=
    bif makeOk (llen x) (llen x) 16 then some (lcopy (lrep TSubscriberID (llen x)) 0 (llen (lrep TSubscriberID (llen x))) x)
  else none

def impl_copyAccount.f (k : Nat) (x : DAccount) : Option DAccount :=
    obind (impl_copyItems_impl_Reservation.f k x.snd.snd.snd) fun v0 => some (x.fst, x.snd.fst, x.snd.snd.fst, v0)

def impl_InRange.f (k : Nat) (x : DQuota) : Option Bool :=
    some (bif ile x.snd.fst x.fst then ile x.fst x.snd.snd else false)

def impl_TotalReserved.s0  (d0 : Int × List DSubscriberID × DSubscriberID) : Option (Int × List DSubscriberID × DSubscriberID ⊕ Int) :=
    bif ilt d0.snd.snd.snd d0.snd.snd.fst then
    bif idxOk d0.snd.snd.snd (llen d0.snd.fst) then
      some
        (Sum.inl
          (iadd IntKind.i64 d0.fst (lget TSubscriberID d0.snd.fst d0.snd.snd.snd).snd, d0.snd.fst, d0.snd.snd.fst,
            iadd IntKind.i64 d0.snd.snd.snd 1))
    else none
  else some (Sum.inr d0.fst)
def impl_TotalReserved.f (k : Nat) (x : DAccount) : Option Int :=
    obind (loopN impl_TotalReserved.s0 k (0, x.snd.snd.snd, llen x.snd.snd.snd, 0)) fun v1 => some v1

def impl_IsValidAccount.s0 (k : Nat) (d3 : (List DSubscriberID × DSubscriberID) × DAccount) : Option ((List DSubscriberID × DSubscriberID) × DAccount ⊕ DAccount ⊕ Bool) :=
    bif ilt d3.fst.snd.snd d3.fst.snd.fst then
    bif idxOk d3.fst.snd.snd (llen d3.fst.fst) then
      obind
        (bif dnot (ilt (lget TSubscriberID d3.fst.fst d3.fst.snd.snd).fst 0) then
          impl_InRange.f k ((lget TSubscriberID d3.fst.fst d3.fst.snd.snd).snd, 1, 100000)
        else some false)
        fun v4 =>
        bif bif ilt (lget TSubscriberID d3.fst.fst d3.fst.snd.snd).fst 0 then true else dnot v4 then
          some (Sum.inr (Sum.inr false))
        else
          bif
              bif idxOk (isub IntKind.i64 d3.fst.snd.snd 1) (llen d3.snd.snd.snd.snd) then true
              else dnot (ilt 0 d3.fst.snd.snd) then
            bif
                bif ilt 0 d3.fst.snd.snd then
                  ile (lget TSubscriberID d3.fst.fst d3.fst.snd.snd).fst
                    (lget TSubscriberID d3.snd.snd.snd.snd (isub IntKind.i64 d3.fst.snd.snd 1)).fst
                else false then
              some (Sum.inr (Sum.inr false))
            else some (Sum.inl ((d3.fst.fst, d3.fst.snd.fst, iadd IntKind.i64 d3.fst.snd.snd 1), d3.snd))
          else none
    else none
  else some (Sum.inr (Sum.inl d3.snd))
def impl_IsValidAccount.f (k : Nat) (x : DAccount) : Option Bool :=
    obind (impl_InRange.f k (x.fst, 0, 100000)) fun v0 =>
    obind (bif dnot (dnot v0) then impl_InRange.f k (x.snd.fst, 0, x.fst) else some false) fun v1 =>
      obind
        (bif dnot (bif dnot v0 then true else dnot v1) then impl_InRange.f k (x.snd.snd.fst, 0, x.fst) else some false)
        fun v2 =>
        bif bif bif dnot v0 then true else dnot v1 then true else dnot v2 then some false
        else
          bif ilt 8 (llen x.snd.snd.snd) then some false
          else
            obind (loopN (impl_IsValidAccount.s0 k) k ((x.snd.snd.snd, llen x.snd.snd.snd, 0), x)) fun v5 =>
              selim
                (fun v6 =>
                  obind (impl_TotalReserved.f k v6) fun v7 =>
                    some (ieq (iadd IntKind.i64 (iadd IntKind.i64 v6.snd.fst v6.snd.snd.fst) v7) v6.fst))
                (fun v8 => some v8) v5

def impl_reservationIndex.s0  (d0 : Int × List DSubscriberID × DSubscriberID) : Option (Int × List DSubscriberID × DSubscriberID ⊕ Unit ⊕ Int) :=
    bif ilt d0.snd.snd.snd d0.snd.snd.fst then
    bif idxOk d0.snd.snd.snd (llen d0.snd.fst) then
      bif ieq (lget TSubscriberID d0.snd.fst d0.snd.snd.snd).fst d0.fst then some (Sum.inr (Sum.inr d0.snd.snd.snd))
      else some (Sum.inl (d0.fst, d0.snd.fst, d0.snd.snd.fst, iadd IntKind.i64 d0.snd.snd.snd 1))
    else none
  else some (Sum.inr (Sum.inl ()))
def impl_reservationIndex.f (k : Nat) (x : DAccount × Int) : Option Int :=
    obind (loopN impl_reservationIndex.s0 k (x.snd, x.fst.snd.snd.snd, llen x.fst.snd.snd.snd, 0)) fun v1 =>
    selim (fun v2 => some (-1)) (fun v3 => some v3) v1

def impl_ReservedFor.f (k : Nat) (x : DAccount × Int) : Option Int :=
    obind (impl_reservationIndex.f k x) fun v0 =>
    bif ilt v0 0 then some 0
    else bif idxOk v0 (llen x.fst.snd.snd.snd) then some (lget TSubscriberID x.fst.snd.snd.snd v0).snd else none

def impl_QuotaMatchesAccount.f (k : Nat) (x : DAccount × DQuota) : Option Bool :=
    obind (impl_IsValidAccount.f k x.fst) fun v0 =>
    obind (bif v0 then impl_IsValidQuota.f k x.snd else some false) fun v1 =>
      obind (bif bif v0 then v1 else false then impl_ReservedFor.f k (x.fst, x.snd.fst) else some 0) fun v2 =>
        some (bif bif v0 then v1 else false then ieq v2 x.snd.snd.fst else false)

def impl_Min.f (k : Nat) (x : DSubscriberID) : Option Int :=
    bif ilt x.snd x.fst then some x.snd else some x.fst

def impl_Reserve.s0  (d6 : DQuota × DAccount × DQuota × List DSubscriberID) : Option (DQuota × DAccount × DQuota × List DSubscriberID ⊕ DQuota × DAccount × DQuota × List DSubscriberID) :=
    bif bif idxOk d6.fst.snd.snd (llen d6.snd.snd.snd) then true else dnot (ilt d6.fst.snd.snd (llen d6.snd.snd.snd)) then
    bif
        bif ilt d6.fst.snd.snd (llen d6.snd.snd.snd) then
          ilt (lget TSubscriberID d6.snd.snd.snd d6.fst.snd.snd).fst d6.fst.fst
        else false then
      some (Sum.inl ((d6.fst.fst, d6.fst.snd.fst, iadd IntKind.i64 d6.fst.snd.snd 1), d6.snd))
    else some (Sum.inr d6)
  else none
def impl_Reserve.f (k : Nat) (x : DAccount × DSubscriberID) : Option (DAccount × Int) :=
    obind (impl_copyAccount.f k x.fst) fun v0 =>
    obind (impl_IsValidAccount.f k x.fst) fun v1 =>
      obind
        (bif dnot (bif dnot v1 then true else ilt x.snd.fst 0) then impl_InRange.f k (x.snd.snd, 1, 100000)
        else some false)
        fun v2 =>
        bif
            bif bif bif dnot v1 then true else ilt x.snd.fst 0 then true else dnot v2 then true
            else ieq x.fst.snd.fst 0 then
          some (v0, 0)
        else
          obind (impl_Min.f k (x.snd.snd, x.fst.snd.fst)) fun v3 =>
            obind (impl_reservationIndex.f k (x.fst, x.snd.fst)) fun v4 =>
              bif ile 0 v4 then
                bif idxOk v4 (llen v0.snd.snd.snd) then
                  bif idxOk v4 (llen v0.snd.snd.snd) then
                    some
                      ((v0.fst, isub IntKind.i64 v0.snd.fst v3, v0.snd.snd.fst,
                          lmod TSubscriberID v0.snd.snd.snd v4 fun v5 =>
                            (v5.fst, iadd IntKind.i64 (lget TSubscriberID v0.snd.snd.snd v4).snd v3)),
                        v3)
                  else none
                else none
              else
                bif ile 8 (llen x.fst.snd.snd.snd) then some (v0, 0)
                else
                  obind
                    (loopN impl_Reserve.s0 k
                      ((x.snd.fst, v3, 0), (0, 0, 0, []), (v0.fst, v0.snd.fst, v0.snd.snd.fst), v0.snd.snd.snd))
                    fun v7 =>
                    bif appOk v7.snd.snd.snd [(0, 0)] 16 then
                      bif
                          cutOk (iadd IntKind.i64 v7.fst.snd.snd 1) (llen (lcat v7.snd.snd.snd [(0, 0)]))
                            (llen (lcat v7.snd.snd.snd [(0, 0)])) then
                        bif
                            cutOk v7.fst.snd.snd (llen (lcat v7.snd.snd.snd [(0, 0)]))
                              (llen (lcat v7.snd.snd.snd [(0, 0)])) then
                          bif
                              idxOk v7.fst.snd.snd
                                (llen
                                  (lcopy (lcat v7.snd.snd.snd [(0, 0)]) (iadd IntKind.i64 v7.fst.snd.snd 1)
                                    (idiff (llen (lcat v7.snd.snd.snd [(0, 0)])) (iadd IntKind.i64 v7.fst.snd.snd 1))
                                    (ltake (ldrop (lcat v7.snd.snd.snd [(0, 0)]) v7.fst.snd.snd)
                                      (idiff (llen (lcat v7.snd.snd.snd [(0, 0)])) v7.fst.snd.snd)))) then
                            some
                              ((v7.snd.snd.fst.fst, isub IntKind.i64 v7.snd.snd.fst.snd.fst v7.fst.snd.fst,
                                  v7.snd.snd.fst.snd.snd,
                                  lset
                                    (lcopy (lcat v7.snd.snd.snd [(0, 0)]) (iadd IntKind.i64 v7.fst.snd.snd 1)
                                      (idiff (llen (lcat v7.snd.snd.snd [(0, 0)])) (iadd IntKind.i64 v7.fst.snd.snd 1))
                                      (ltake (ldrop (lcat v7.snd.snd.snd [(0, 0)]) v7.fst.snd.snd)
                                        (idiff (llen (lcat v7.snd.snd.snd [(0, 0)])) v7.fst.snd.snd)))
                                    v7.fst.snd.snd (v7.fst.fst, v7.fst.snd.fst)),
                                v7.fst.snd.fst)
                          else none
                        else none
                      else none
                    else none

def impl_RequestQuota.f (k : Nat) (x : DAccount × DQuota × Int) : Option (DAccount × DQuota) :=
    obind (impl_QuotaMatchesAccount.f k (x.fst, x.snd.fst)) fun v0 =>
    bif dnot v0 then obind (impl_copyAccount.f k x.fst) fun v1 => some (v1, x.snd.fst)
    else
      obind (impl_Reserve.f k (x.fst, x.snd.fst.fst, x.snd.snd)) fun v2 =>
        bif ilt 100000 (iadd IntKind.i64 x.snd.fst.snd.fst v2.snd) then
          obind (impl_copyAccount.f k x.fst) fun v3 => some (v3, x.snd.fst)
        else some (v2.fst, x.snd.fst.fst, iadd IntKind.i64 x.snd.fst.snd.fst v2.snd, x.snd.fst.snd.snd)

def impl_EnsureQuota.f (k : Nat) (x : DSession × DAccount × Int) : Option (DSession × DAccount) :=
    obind (impl_copySession.f k x.fst) fun v0 =>
    obind (impl_QuotaNeeded.f k (v0, x.snd.snd)) fun v1 =>
      bif ile v1 0 then obind (impl_copyAccount.f k x.snd.fst) fun v2 => some (v0, v2)
      else
        obind (impl_Max.f k (v1, v0.snd.fst.snd.snd.fst)) fun v3 =>
          obind (impl_RequestQuota.f k (x.snd.fst, v0.snd.snd.snd.snd.snd.snd.snd.snd.snd.snd.snd.snd.snd.snd, v3))
            fun v4 =>
            some
              ((v0.fst, v0.snd.fst, v0.snd.snd.fst, v0.snd.snd.snd.fst, v0.snd.snd.snd.snd.fst,
                  v0.snd.snd.snd.snd.snd.fst, v0.snd.snd.snd.snd.snd.snd.fst, v0.snd.snd.snd.snd.snd.snd.snd.fst,
                  v0.snd.snd.snd.snd.snd.snd.snd.snd.fst, v0.snd.snd.snd.snd.snd.snd.snd.snd.snd.fst,
                  v0.snd.snd.snd.snd.snd.snd.snd.snd.snd.snd.fst, v0.snd.snd.snd.snd.snd.snd.snd.snd.snd.snd.snd.fst,
                  v0.snd.snd.snd.snd.snd.snd.snd.snd.snd.snd.snd.snd.fst,
                  v0.snd.snd.snd.snd.snd.snd.snd.snd.snd.snd.snd.snd.snd.fst, v4.snd),
                v4.fst)

def impl_IsValidKey.f (k : Nat) (x : Int) : Option Bool :=
    obind (impl_InRange.f k (x, 1, 2147483646)) fun v0 => some v0

def impl_IsValidSubscriberID.f (k : Nat) (x : DSubscriberID) : Option Bool :=
    obind (impl_InRange.f k (x.fst, 0, 3)) fun v0 =>
    obind (bif v0 then impl_InRange.f k (x.snd, 0, 99) else some false) fun v1 => some (bif v0 then v1 else false)

def impl_IsValidSubscriberRecord.f (k : Nat) (x : DUSIM) : Option Bool :=
    obind (impl_IsValidSubscriberID.f k x.fst) fun v0 =>
    obind (bif v0 then impl_IsValidKey.f k x.snd.fst else some false) fun v1 =>
      obind (bif bif v0 then v1 else false then impl_InRange.f k (x.snd.snd, 0, 999999) else some false) fun v2 =>
        some (bif bif v0 then v1 else false then v2 else false)

def impl_isAscending.s0  (d0 : List Int × Int) : Option (List Int × Int ⊕ Unit ⊕ Bool) :=
    bif ilt d0.snd (llen d0.fst) then
    bif idxOk (isub IntKind.i64 d0.snd 1) (llen d0.fst) then
      bif idxOk d0.snd (llen d0.fst) then
        bif
            ile (lget (Ty.int IntKind.i64) d0.fst d0.snd)
              (lget (Ty.int IntKind.i64) d0.fst (isub IntKind.i64 d0.snd 1)) then
          some (Sum.inr (Sum.inr false))
        else some (Sum.inl (d0.fst, iadd IntKind.i64 d0.snd 1))
      else none
    else none
  else some (Sum.inr (Sum.inl ()))
def impl_isAscending.f (k : Nat) (x : List Int) : Option Bool :=
    obind (loopN impl_isAscending.s0 k (x, 1)) fun v1 => selim (fun v2 => some true) (fun v3 => some v3) v1

def impl_IsValidSubscription.s0 (k : Nat) (d3 : Dl1Cur × DSubscription) : Option (Dl1Cur × DSubscription ⊕ DSubscription ⊕ Bool) :=
    bif ilt d3.fst.snd.snd d3.fst.snd.fst then
    bif idxOk d3.fst.snd.snd (llen d3.fst.fst) then
      obind (impl_InRange.f k (lget (Ty.int IntKind.i64) d3.fst.fst d3.fst.snd.snd, 0, 3)) fun v4 =>
        bif dnot v4 then some (Sum.inr (Sum.inr false))
        else some (Sum.inl ((d3.fst.fst, d3.fst.snd.fst, iadd IntKind.i64 d3.fst.snd.snd 1), d3.snd))
    else none
  else some (Sum.inr (Sum.inl d3.snd))
def impl_IsValidSubscription.f (k : Nat) (x : DSubscription) : Option Bool :=
    obind (impl_InRange.f k (x.fst, 1, 1000)) fun v0 =>
    obind (bif dnot (dnot v0) then impl_InRange.f k (x.snd.fst, 1, 4) else some false) fun v1 =>
      obind
        (bif dnot (bif dnot v0 then true else dnot v1) then impl_InRange.f k (x.snd.snd.fst, 1, 100000) else some false)
        fun v2 =>
        bif bif bif dnot v0 then true else dnot v1 then true else dnot v2 then some false
        else
          obind (loopN (impl_IsValidSubscription.s0 k) k ((x.snd.snd.snd, llen x.snd.snd.snd, 0), x)) fun v5 =>
            selim (fun v6 => obind (impl_isAscending.f k v6.snd.snd.snd) fun v7 => some v7) (fun v8 => some v8) v5

def impl_IsValidPaging.f (k : Nat) (x : DQuota) : Option Bool :=
    obind (impl_InRange.f k (x.fst, 0, 2)) fun v0 =>
    obind (bif v0 then impl_InRange.f k (x.snd.fst, 0, 4) else some false) fun v1 =>
      obind (bif bif v0 then v1 else false then impl_InRange.f k (x.snd.snd, 0, 3) else some false) fun v2 =>
        some (bif bif v0 then v1 else false then v2 else false)

def impl_IsValidSender.s0  (d1 : Int × List DNumberedPacket × DSubscriberID) : Option (Int × List DNumberedPacket × DSubscriberID ⊕ Unit ⊕ Bool) :=
    bif ilt d1.snd.snd.snd d1.snd.snd.fst then
    bif idxOk d1.snd.snd.snd (llen d1.snd.fst) then
      bif
          bif ine (lget TNumberedPacket d1.snd.fst d1.snd.snd.snd).fst (iadd IntKind.i64 d1.fst d1.snd.snd.snd) then true
          else ilt 60 (llen (lget TNumberedPacket d1.snd.fst d1.snd.snd.snd).snd) then
        some (Sum.inr (Sum.inr false))
      else some (Sum.inl (d1.fst, d1.snd.fst, d1.snd.snd.fst, iadd IntKind.i64 d1.snd.snd.snd 1))
    else none
  else some (Sum.inr (Sum.inl ()))
def impl_IsValidSender.f (k : Nat) (x : DSendWindow) : Option Bool :=
    obind (impl_InRange.f k (x.fst, 1, 100000)) fun v0 =>
    bif bif dnot v0 then true else ilt 8 (llen x.snd) then some false
    else
      bif ilt (isub IntKind.i64 x.fst (llen x.snd)) 1 then some false
      else
        obind (loopN impl_IsValidSender.s0 k (isub IntKind.i64 x.fst (llen x.snd), x.snd, llen x.snd, 0)) fun v2 =>
          selim (fun v3 => some true) (fun v4 => some v4) v2

def impl_fitPayload.s0  (d0 : List (List Int) × DSubscriberID) : Option (List (List Int) × DSubscriberID ⊕ Unit ⊕ Bool) :=
    bif ilt d0.snd.snd d0.snd.fst then
    bif idxOk d0.snd.snd (llen d0.fst) then
      bif ilt 60 (llen (lget (Ty.sl (Ty.int IntKind.u8)) d0.fst d0.snd.snd)) then some (Sum.inr (Sum.inr false))
      else some (Sum.inl (d0.fst, d0.snd.fst, iadd IntKind.i64 d0.snd.snd 1))
    else none
  else some (Sum.inr (Sum.inl ()))
def impl_fitPayload.f (k : Nat) (x : List (List Int)) : Option Bool :=
    obind (loopN impl_fitPayload.s0 k (x, llen x, 0)) fun v1 => selim (fun v2 => some true) (fun v3 => some v3) v1

def bytes_Equal.f (k : Nat) (x : List Int × List Int) : Option Bool :=
    some (seq' (sofbytes x.fst) (sofbytes x.snd))

def impl_EqualBytes.f (k : Nat) (x : List Int × List Int) : Option Bool :=
    obind (bytes_Equal.f k x) fun v0 => some v0

def impl_IsValidSession.s0 (k : Nat) (d15 : (List DNumberedPacket × DSubscriberID) × DSession) : Option ((List DNumberedPacket × DSubscriberID) × DSession ⊕ DSession ⊕ Bool) :=
    bif ilt d15.fst.snd.snd d15.fst.snd.fst then
    bif idxOk d15.fst.snd.snd (llen d15.fst.fst) then
      bif
          idxOk (isub IntKind.i64 (lget TNumberedPacket d15.fst.fst d15.fst.snd.snd).fst 1)
            (llen d15.snd.snd.snd.snd.snd.snd.snd.snd.snd.snd.snd.snd.fst) then
        obind
          (impl_EqualBytes.f k
            ((lget TNumberedPacket d15.fst.fst d15.fst.snd.snd).snd,
              lget (Ty.sl (Ty.int IntKind.u8)) d15.snd.snd.snd.snd.snd.snd.snd.snd.snd.snd.snd.snd.fst
                (isub IntKind.i64 (lget TNumberedPacket d15.fst.fst d15.fst.snd.snd).fst 1)))
          fun v16 =>
          bif dnot v16 then some (Sum.inr (Sum.inr false))
          else some (Sum.inl ((d15.fst.fst, d15.fst.snd.fst, iadd IntKind.i64 d15.fst.snd.snd 1), d15.snd))
      else none
    else none
  else some (Sum.inr (Sum.inl d15.snd))
def impl_IsValidSession.f (k : Nat) (x : DSession) : Option Bool :=
    obind (impl_IsValidSubscriberRecord.f k x.fst) fun v0 =>
    obind (bif dnot (dnot v0) then impl_IsValidSubscription.f k x.snd.fst else some false) fun v1 =>
      obind
        (bif dnot (bif dnot v0 then true else dnot v1) then
          impl_IsValidPaging.f k x.snd.snd.snd.snd.snd.snd.snd.snd.snd.snd.fst
        else some false)
        fun v2 =>
        obind
          (bif dnot (bif bif dnot v0 then true else dnot v1 then true else dnot v2) then
            impl_IsValidSender.f k x.snd.snd.snd.snd.snd.snd.snd.snd.snd.snd.snd.snd.fst
          else some false)
          fun v3 =>
          obind
            (bif dnot (bif bif bif dnot v0 then true else dnot v1 then true else dnot v2 then true else dnot v3) then
              impl_IsValidQuota.f k x.snd.snd.snd.snd.snd.snd.snd.snd.snd.snd.snd.snd.snd.snd
            else some false)
            fun v4 =>
            bif
                bif bif bif bif dnot v0 then true else dnot v1 then true else dnot v2 then true else dnot v3 then true
                else dnot v4 then
              some false
            else
              bif bif ine x.snd.snd.fst 0 then ine x.snd.snd.fst 1 else false then some false
              else
                obind (bif ieq x.snd.snd.fst 1 then impl_IsValidKey.f k x.snd.snd.snd.snd.snd.snd.fst else some false)
                  fun v5 =>
                  obind
                    (bif dand (dnot (bif ieq x.snd.snd.fst 1 then dnot v5 else false)) (ilt 0 x.snd.snd.snd.snd.fst) then
                      impl_IsValidKey.f k x.snd.snd.snd.fst.snd.snd.snd.snd
                    else some false)
                    fun v6 =>
                    bif
                        bif bif ieq x.snd.snd.fst 1 then dnot v5 else false then true
                        else bif ilt 0 x.snd.snd.snd.snd.fst then dnot v6 else false then
                      some false
                    else
                      obind (impl_InRange.f k (x.snd.snd.snd.snd.fst, 0, 999999)) fun v7 =>
                        obind
                          (bif dnot (dnot v7) then impl_InRange.f k (x.snd.snd.snd.snd.snd.fst, 0, 999999)
                          else some false)
                          fun v8 =>
                          obind
                            (bif dnot (bif dnot v7 then true else dnot v8) then
                              impl_InRange.f k (x.snd.snd.snd.snd.snd.snd.snd.fst, 0, 999999)
                            else some false)
                            fun v9 =>
                            obind
                              (bif dnot (bif bif dnot v7 then true else dnot v8 then true else dnot v9) then
                                impl_InRange.f k (x.snd.snd.snd.snd.snd.snd.fst, 0, 2147483646)
                              else some false)
                              fun v10 =>
                              bif
                                  bif bif bif dnot v7 then true else dnot v8 then true else dnot v9 then true
                                  else dnot v10 then
                                some false
                              else
                                obind (impl_InRange.f k (x.snd.snd.snd.snd.snd.snd.snd.snd.fst, 0, 5)) fun v11 =>
                                  obind
                                    (bif dnot (dnot v11) then
                                      impl_InRange.f k (x.snd.snd.snd.snd.snd.snd.snd.snd.snd.fst, 0, 5)
                                    else some false)
                                    fun v12 =>
                                    obind
                                      (bif dnot (bif dnot v11 then true else dnot v12) then
                                        impl_InRange.f k (x.snd.snd.snd.snd.snd.snd.snd.snd.snd.snd.snd.snd.snd.fst, 0, 3)
                                      else some false)
                                      fun v13 =>
                                      bif bif bif dnot v11 then true else dnot v12 then true else dnot v13 then some false
                                      else
                                        obind
                                          (bif dnot (ilt 24 (llen x.snd.snd.snd.snd.snd.snd.snd.snd.snd.snd.snd.fst)) then
                                            impl_fitPayload.f k x.snd.snd.snd.snd.snd.snd.snd.snd.snd.snd.snd.fst
                                          else some false)
                                          fun v14 =>
                                          bif
                                              bif
                                                  bif ilt 24 (llen x.snd.snd.snd.snd.snd.snd.snd.snd.snd.snd.snd.fst) then
                                                    true
                                                  else dnot v14 then
                                                true
                                              else
                                                ilt
                                                  (iadd IntKind.i64
                                                    (llen x.snd.snd.snd.snd.snd.snd.snd.snd.snd.snd.snd.fst) 1)
                                                  x.snd.snd.snd.snd.snd.snd.snd.snd.snd.snd.snd.snd.fst.fst then
                                            some false
                                          else
                                            obind
                                              (loopN (impl_IsValidSession.s0 k) k
                                                ((x.snd.snd.snd.snd.snd.snd.snd.snd.snd.snd.snd.snd.fst.snd,
                                                    llen x.snd.snd.snd.snd.snd.snd.snd.snd.snd.snd.snd.snd.fst.snd, 0),
                                                  x))
                                              fun v17 =>
                                              selim
                                                (fun v18 =>
                                                  obind (impl_OutstandingBytes.f k v18) fun v19 =>
                                                    obind
                                                      (impl_RemainingQuota.f k
                                                        v18.snd.snd.snd.snd.snd.snd.snd.snd.snd.snd.snd.snd.snd.snd)
                                                      fun v20 => some (ile v19 v20))
                                                (fun v21 => some v21) v17

def impl_SendPacket.f (k : Nat) (x : DSendWindow × List Int) : Option (DSendWindow × DNumberedPacket × Bool) :=
    obind (impl_copySender.f k x.fst) fun v0 =>
    obind (impl_copyBytes.f k x.snd) fun v1 =>
      bif appOk v0.snd [(x.fst.fst, v1)] 32 then
        obind (impl_IsValidSender.f k (iadd IntKind.i64 v0.fst 1, lcat v0.snd [(x.fst.fst, v1)])) fun v2 =>
          bif dnot v2 then obind (impl_copySender.f k x.fst) fun v3 => some (v3, (0, []), false)
          else
            obind (impl_copyBytes.f k x.snd) fun v4 =>
              some ((iadd IntKind.i64 v0.fst 1, lcat v0.snd [(x.fst.fst, v1)]), (x.fst.fst, v4), true)
      else none

def impl_Mod.f (k : Nat) (x : DSubscriberID) : Option Int :=
    obind (impl_InRange.f k (x.snd, 1, 1000000000000)) fun v0 =>
    bif dnot v0 then some 0
    else
      bif ine x.snd 0 then
        bif ilt (irem IntKind.i64 x.fst x.snd) 0 then some (iadd IntKind.i64 (irem IntKind.i64 x.fst x.snd) x.snd)
        else some (irem IntKind.i64 x.fst x.snd)
      else none

def impl_hashStep.f (k : Nat) (x : DSubscriberID) : Option Int :=
    obind (impl_Mod.f k (x.snd, 2147483647)) fun v0 =>
    bif ine 2147483647 0 then
      some (irem IntKind.i64 (iadd IntKind.i64 (iadd IntKind.i64 (imul IntKind.i64 x.fst 1000003) v0) 13) 2147483647)
    else none

def impl_KeyedHash.s0 (k : Nat) (d1 : Int × Int × Dl1Cur) : Option (Int × Int × Dl1Cur ⊕ DSubscriberID) :=
    bif ilt d1.snd.snd.snd.snd d1.snd.snd.snd.fst then
    bif idxOk d1.snd.snd.snd.snd (llen d1.snd.snd.fst) then
      obind (impl_hashStep.f k (d1.snd.fst, lget (Ty.int IntKind.i64) d1.snd.snd.fst d1.snd.snd.snd.snd)) fun v2 =>
        some (Sum.inl (d1.fst, v2, d1.snd.snd.fst, d1.snd.snd.snd.fst, iadd IntKind.i64 d1.snd.snd.snd.snd 1))
    else none
  else some (Sum.inr (d1.fst, d1.snd.fst))
def impl_KeyedHash.f (k : Nat) (x : DNumberedPacket) : Option Int :=
    obind (impl_hashStep.f k (11, x.fst)) fun v0 =>
    obind (loopN (impl_KeyedHash.s0 k) k (x.fst, v0, x.snd, llen x.snd, 0)) fun v3 =>
      obind (impl_hashStep.f k (v3.snd, v3.fst)) fun v4 => some v4

def impl_DeriveKey.f (k : Nat) (x : DSubscriberID) : Option Int :=
    obind (impl_KeyedHash.f k (x.fst, [9, x.snd])) fun v0 => bif ieq v0 0 then some 1 else some v0

def impl_deriveSteps.s0 (k : Nat) (d0 : Int × Dl1Cur) : Option (Int × Dl1Cur ⊕ Int) :=
    bif ilt d0.snd.snd.snd d0.snd.snd.fst then
    bif idxOk d0.snd.snd.snd (llen d0.snd.fst) then
      obind (impl_DeriveKey.f k (d0.fst, lget (Ty.int IntKind.i64) d0.snd.fst d0.snd.snd.snd)) fun v1 =>
        some (Sum.inl (v1, d0.snd.fst, d0.snd.snd.fst, iadd IntKind.i64 d0.snd.snd.snd 1))
    else none
  else some (Sum.inr d0.fst)
def impl_deriveSteps.f (k : Nat) (x : DNumberedPacket) : Option Int :=
    obind (loopN (impl_deriveSteps.s0 k) k (x.fst, x.snd, llen x.snd, 0)) fun v2 => some v2

def impl_KeyForPath.f (k : Nat) (x : DNumberedPacket) : Option Int :=
    obind (impl_deriveSteps.f k x) fun v0 => some v0

def impl_RadioKeyPath.f (k : Nat) (x : Int) : Option (List Int) :=
    some [1, 3, x]

def impl_RadioKey.f (k : Nat) (x : DSubscriberID) : Option Int :=
    obind (impl_RadioKeyPath.f k x.snd) fun v0 => obind (impl_KeyForPath.f k (x.fst, v0)) fun v1 => some v1

def impl_Encrypt.s0 (k : Nat) (d1 : DQuota × List Int) : Option (DQuota × List Int ⊕ List Int) :=
    bif ilt d1.fst.snd.snd d1.fst.snd.fst then
    bif idxOk d1.fst.snd.snd (llen d1.snd) then
      obind (impl_KeyedHash.f k (d1.fst.fst, [d1.fst.snd.snd])) fun v2 =>
        bif ine 256 0 then
          bif idxOk d1.fst.snd.snd (llen d1.snd) then
            some
              (Sum.inl
                ((d1.fst.fst, d1.fst.snd.fst, iadd IntKind.i64 d1.fst.snd.snd 1),
                  lset d1.snd d1.fst.snd.snd
                    (iadd IntKind.u8 (lget (Ty.int IntKind.u8) d1.snd d1.fst.snd.snd)
                      (icast IntKind.u8 (irem IntKind.i64 v2 256)))))
          else none
        else none
    else none
  else some (Sum.inr d1.snd)
def impl_Encrypt.f (k : Nat) (x : DNumberedPacket) : Option (List Int) :=
    obind (impl_copyBytes.f k x.snd) fun v0 =>
    obind (loopN (impl_Encrypt.s0 k) k ((x.fst, llen v0, 0), v0)) fun v3 => some v3

def impl_BytesToInts.s0  (d0 : Dl1Cur × List Int) : Option (Dl1Cur × List Int ⊕ List Int) :=
    bif ilt d0.fst.snd.snd d0.fst.snd.fst then
    bif idxOk d0.fst.snd.snd (llen d0.fst.fst) then
      bif appOk d0.snd [icast IntKind.i64 (lget (Ty.int IntKind.u8) d0.fst.fst d0.fst.snd.snd)] 8 then
        some
          (Sum.inl
            ((d0.fst.fst, d0.fst.snd.fst, iadd IntKind.i64 d0.fst.snd.snd 1),
              lcat d0.snd [icast IntKind.i64 (lget (Ty.int IntKind.u8) d0.fst.fst d0.fst.snd.snd)]))
      else none
    else none
  else some (Sum.inr d0.snd)
def impl_BytesToInts.f (k : Nat) (x : List Int) : Option (List Int) :=
    bif makeOk 0 (iadd IntKind.i64 (llen x) 1) 8 then
    bif appOk (lrep (Ty.int IntKind.i64) 0) [llen x] 8 then
      obind (loopN impl_BytesToInts.s0 k ((x, llen x, 0), lcat (lrep (Ty.int IntKind.i64) 0) [llen x])) fun v1 => some v1
    else none
  else none

def impl_securedMAC.f (k : Nat) (x : DSubscription) : Option Int :=
    obind (impl_BytesToInts.f k x.snd.snd.snd) fun v0 =>
    bif appOk [x.snd.fst, x.snd.snd.fst] v0 8 then
      obind (impl_KeyedHash.f k (x.fst, lcat [x.snd.fst, x.snd.snd.fst] v0)) fun v1 => some v1
    else none

def impl_Protect.f (k : Nat) (x : DSubscription) : Option DSecuredMessage :=
    obind (impl_DeriveKey.f k (x.fst, iadd IntKind.i64 (imul IntKind.i64 2 x.snd.snd.fst) x.snd.fst)) fun v0 =>
    obind (impl_Encrypt.f k (v0, x.snd.snd.snd)) fun v1 =>
      obind (impl_securedMAC.f k (x.fst, x.snd.fst, x.snd.snd.fst, v1)) fun v2 => some (x.snd.fst, x.snd.snd.fst, v1, v2)

def impl_SealRadio.f (k : Nat) (x : Int × DSubscription) : Option DRadioPacket :=
    obind (impl_RadioKey.f k (x.fst, x.snd.snd.fst)) fun v0 =>
    obind (impl_Protect.f k (v0, 1, x.snd.snd.snd)) fun v1 => some (x.snd.fst, x.snd.snd.fst, v1)

def impl_SendNew.s0 (k : Nat) (d3 : Int ×
    (DUSIM ×
        Int × Int × Int × Int × DAuthVector × Int × Int × Int × Int × Int × Int × DQuota × Int × DAuthResponse × DQuota) ×
      (DUSIM ×
          Int ×
            Int × Int × Int × DAuthVector × Int × Int × Int × Int × Int × Int × DQuota × Int × DAuthResponse × DQuota) ×
        List Int ×
          List (List Int) ×
            List DNumberedPacket ×
              List DSubscriberID ×
                List DSignal ×
                  List DRadioPacket ×
                    List Int ×
                      List (List Int) × List DNumberedPacket × List DSubscriberID × List DSignal × List DRadioPacket) : Option
    (Int ×
        (DUSIM ×
            Int ×
              Int × Int × Int × DAuthVector × Int × Int × Int × Int × Int × Int × DQuota × Int × DAuthResponse × DQuota) ×
          (DUSIM ×
              Int ×
                Int ×
                  Int × Int × DAuthVector × Int × Int × Int × Int × Int × Int × DQuota × Int × DAuthResponse × DQuota) ×
            List Int ×
              List (List Int) ×
                List DNumberedPacket ×
                  List DSubscriberID ×
                    List DSignal ×
                      List DRadioPacket ×
                        List Int ×
                          List (List Int) × List DNumberedPacket × List DSubscriberID × List DSignal × List DRadioPacket ⊕
      (DUSIM ×
          Int ×
            Int × Int × Int × DAuthVector × Int × Int × Int × Int × Int × Int × DQuota × Int × DAuthResponse × DQuota) ×
        (DUSIM ×
            Int ×
              Int × Int × Int × DAuthVector × Int × Int × Int × Int × Int × Int × DQuota × Int × DAuthResponse × DQuota) ×
          List Int ×
            List (List Int) ×
              List DNumberedPacket ×
                List DSubscriberID ×
                  List DSignal ×
                    List DRadioPacket ×
                      List Int ×
                        List (List Int) × List DNumberedPacket × List DSubscriberID × List DSignal × List DRadioPacket) :=
    bif ilt d3.fst 2 then
    bif
        bif
            ilt (llen d3.snd.snd.snd.snd.snd.snd.snd.snd.snd.snd.fst)
              d3.snd.snd.fst.snd.snd.snd.snd.snd.snd.snd.snd.snd.snd.snd.snd.snd.fst then
          true
        else ile 8 (llen d3.snd.snd.snd.snd.snd.snd.snd.snd.snd.snd.snd.fst) then
      some (Sum.inr d3.snd)
    else
      bif
          idxOk (isub IntKind.i64 d3.snd.snd.fst.snd.snd.snd.snd.snd.snd.snd.snd.snd.snd.snd.snd.snd.fst 1)
            (llen d3.snd.snd.snd.snd.snd.snd.snd.snd.snd.snd.fst) then
        obind
          (impl_EnsureQuota.f k
            ((d3.snd.snd.fst.fst,
                (d3.snd.snd.fst.snd.fst, d3.snd.snd.fst.snd.snd.fst, d3.snd.snd.fst.snd.snd.snd.fst,
                  d3.snd.snd.snd.snd.snd.snd.snd.snd.snd.fst),
                d3.snd.snd.fst.snd.snd.snd.snd.fst, d3.snd.snd.fst.snd.snd.snd.snd.snd.fst,
                d3.snd.snd.fst.snd.snd.snd.snd.snd.snd.fst, d3.snd.snd.fst.snd.snd.snd.snd.snd.snd.snd.fst,
                d3.snd.snd.fst.snd.snd.snd.snd.snd.snd.snd.snd.fst,
                d3.snd.snd.fst.snd.snd.snd.snd.snd.snd.snd.snd.snd.fst,
                d3.snd.snd.fst.snd.snd.snd.snd.snd.snd.snd.snd.snd.snd.fst,
                d3.snd.snd.fst.snd.snd.snd.snd.snd.snd.snd.snd.snd.snd.snd.fst,
                d3.snd.snd.fst.snd.snd.snd.snd.snd.snd.snd.snd.snd.snd.snd.snd.fst,
                d3.snd.snd.snd.snd.snd.snd.snd.snd.snd.snd.fst,
                (d3.snd.snd.fst.snd.snd.snd.snd.snd.snd.snd.snd.snd.snd.snd.snd.snd.fst,
                  d3.snd.snd.snd.snd.snd.snd.snd.snd.snd.snd.snd.fst),
                d3.snd.snd.fst.snd.snd.snd.snd.snd.snd.snd.snd.snd.snd.snd.snd.snd.snd.fst),
              (d3.snd.snd.fst.snd.snd.snd.snd.snd.snd.snd.snd.snd.snd.snd.snd.snd.snd.snd.fst,
                d3.snd.snd.fst.snd.snd.snd.snd.snd.snd.snd.snd.snd.snd.snd.snd.snd.snd.snd.snd.fst,
                d3.snd.snd.fst.snd.snd.snd.snd.snd.snd.snd.snd.snd.snd.snd.snd.snd.snd.snd.snd.snd,
                d3.snd.snd.snd.snd.snd.snd.snd.snd.snd.snd.snd.snd.fst),
              llen
                (lget (Ty.sl (Ty.int IntKind.u8)) d3.snd.snd.snd.snd.snd.snd.snd.snd.snd.snd.fst
                  (isub IntKind.i64 d3.snd.snd.fst.snd.snd.snd.snd.snd.snd.snd.snd.snd.snd.snd.snd.snd.fst 1))))
          fun v4 =>
          obind
            (impl_QuotaNeeded.f k
              (v4.fst,
                llen
                  (lget (Ty.sl (Ty.int IntKind.u8)) d3.snd.snd.snd.snd.snd.snd.snd.snd.snd.snd.fst
                    (isub IntKind.i64 d3.snd.snd.fst.snd.snd.snd.snd.snd.snd.snd.snd.snd.snd.snd.snd.snd.fst 1))))
            fun v5 =>
            bif ilt 0 v5 then
              some
                (Sum.inr
                  (d3.snd.fst,
                    (v4.fst.fst, v4.fst.snd.fst.fst, v4.fst.snd.fst.snd.fst, v4.fst.snd.fst.snd.snd.fst,
                      v4.fst.snd.snd.fst, v4.fst.snd.snd.snd.fst, v4.fst.snd.snd.snd.snd.fst,
                      v4.fst.snd.snd.snd.snd.snd.fst, v4.fst.snd.snd.snd.snd.snd.snd.fst,
                      v4.fst.snd.snd.snd.snd.snd.snd.snd.fst, v4.fst.snd.snd.snd.snd.snd.snd.snd.snd.fst,
                      v4.fst.snd.snd.snd.snd.snd.snd.snd.snd.snd.fst, v4.fst.snd.snd.snd.snd.snd.snd.snd.snd.snd.snd.fst,
                      v4.fst.snd.snd.snd.snd.snd.snd.snd.snd.snd.snd.snd.snd.fst.fst,
                      v4.fst.snd.snd.snd.snd.snd.snd.snd.snd.snd.snd.snd.snd.snd, v4.snd.fst, v4.snd.snd.fst,
                      v4.snd.snd.snd.fst),
                    d3.snd.snd.snd.fst, d3.snd.snd.snd.snd.fst, d3.snd.snd.snd.snd.snd.fst,
                    d3.snd.snd.snd.snd.snd.snd.fst, d3.snd.snd.snd.snd.snd.snd.snd.fst,
                    d3.snd.snd.snd.snd.snd.snd.snd.snd.fst, v4.fst.snd.fst.snd.snd.snd,
                    v4.fst.snd.snd.snd.snd.snd.snd.snd.snd.snd.snd.snd.fst,
                    v4.fst.snd.snd.snd.snd.snd.snd.snd.snd.snd.snd.snd.snd.fst.snd, v4.snd.snd.snd.snd,
                    d3.snd.snd.snd.snd.snd.snd.snd.snd.snd.snd.snd.snd.snd))
            else
              obind
                (impl_SendPacket.f k
                  (v4.fst.snd.snd.snd.snd.snd.snd.snd.snd.snd.snd.snd.snd.fst,
                    lget (Ty.sl (Ty.int IntKind.u8)) d3.snd.snd.snd.snd.snd.snd.snd.snd.snd.snd.fst
                      (isub IntKind.i64 d3.snd.snd.fst.snd.snd.snd.snd.snd.snd.snd.snd.snd.snd.snd.snd.snd.fst 1)))
                fun v6 =>
                bif dnot v6.snd.snd then
                  some
                    (Sum.inr
                      (d3.snd.fst,
                        (v4.fst.fst, v4.fst.snd.fst.fst, v4.fst.snd.fst.snd.fst, v4.fst.snd.fst.snd.snd.fst,
                          v4.fst.snd.snd.fst, v4.fst.snd.snd.snd.fst, v4.fst.snd.snd.snd.snd.fst,
                          v4.fst.snd.snd.snd.snd.snd.fst, v4.fst.snd.snd.snd.snd.snd.snd.fst,
                          v4.fst.snd.snd.snd.snd.snd.snd.snd.fst, v4.fst.snd.snd.snd.snd.snd.snd.snd.snd.fst,
                          v4.fst.snd.snd.snd.snd.snd.snd.snd.snd.snd.fst,
                          v4.fst.snd.snd.snd.snd.snd.snd.snd.snd.snd.snd.fst,
                          v4.fst.snd.snd.snd.snd.snd.snd.snd.snd.snd.snd.snd.snd.fst.fst,
                          v4.fst.snd.snd.snd.snd.snd.snd.snd.snd.snd.snd.snd.snd.snd, v4.snd.fst, v4.snd.snd.fst,
                          v4.snd.snd.snd.fst),
                        d3.snd.snd.snd.fst, d3.snd.snd.snd.snd.fst, d3.snd.snd.snd.snd.snd.fst,
                        d3.snd.snd.snd.snd.snd.snd.fst, d3.snd.snd.snd.snd.snd.snd.snd.fst,
                        d3.snd.snd.snd.snd.snd.snd.snd.snd.fst, v4.fst.snd.fst.snd.snd.snd,
                        v4.fst.snd.snd.snd.snd.snd.snd.snd.snd.snd.snd.snd.fst,
                        v4.fst.snd.snd.snd.snd.snd.snd.snd.snd.snd.snd.snd.snd.fst.snd, v4.snd.snd.snd.snd,
                        d3.snd.snd.snd.snd.snd.snd.snd.snd.snd.snd.snd.snd.snd))
                else
                  obind
                    (impl_SealRadio.f k
                      (v4.fst.snd.snd.snd.snd.snd.snd.fst, v4.fst.snd.snd.snd.snd.snd.fst,
                        v4.fst.snd.snd.snd.snd.snd.snd.snd.fst, v6.snd.fst))
                    fun v7 =>
                    bif appOk d3.snd.snd.snd.snd.snd.snd.snd.snd.snd.snd.snd.snd.snd.snd [v7] 64 then
                      some
                        (Sum.inl
                          (iadd IntKind.i64 d3.fst 1, d3.snd.fst,
                            (v4.fst.fst, v4.fst.snd.fst.fst, v4.fst.snd.fst.snd.fst, v4.fst.snd.fst.snd.snd.fst,
                              v4.fst.snd.snd.fst, v4.fst.snd.snd.snd.fst, v4.fst.snd.snd.snd.snd.fst,
                              v4.fst.snd.snd.snd.snd.snd.fst, v4.fst.snd.snd.snd.snd.snd.snd.fst,
                              v4.fst.snd.snd.snd.snd.snd.snd.snd.fst, v4.fst.snd.snd.snd.snd.snd.snd.snd.snd.fst,
                              v4.fst.snd.snd.snd.snd.snd.snd.snd.snd.snd.fst,
                              v4.fst.snd.snd.snd.snd.snd.snd.snd.snd.snd.snd.fst, v6.fst.fst,
                              v4.fst.snd.snd.snd.snd.snd.snd.snd.snd.snd.snd.snd.snd.snd, v4.snd.fst, v4.snd.snd.fst,
                              v4.snd.snd.snd.fst),
                            d3.snd.snd.snd.fst, d3.snd.snd.snd.snd.fst, d3.snd.snd.snd.snd.snd.fst,
                            d3.snd.snd.snd.snd.snd.snd.fst, d3.snd.snd.snd.snd.snd.snd.snd.fst,
                            d3.snd.snd.snd.snd.snd.snd.snd.snd.fst, v4.fst.snd.fst.snd.snd.snd,
                            v4.fst.snd.snd.snd.snd.snd.snd.snd.snd.snd.snd.snd.fst, v6.fst.snd, v4.snd.snd.snd.snd,
                            d3.snd.snd.snd.snd.snd.snd.snd.snd.snd.snd.snd.snd.snd.fst,
                            lcat d3.snd.snd.snd.snd.snd.snd.snd.snd.snd.snd.snd.snd.snd.snd [v7]))
                    else none
      else none
  else some (Sum.inr d3.snd)
def impl_SendNew.f (k : Nat) (x : DSession × DAccount) : Option DTransmission :=
    obind (impl_copySession.f k x.fst) fun v0 =>
    obind (impl_copyAccount.f k x.snd) fun v1 =>
      obind (impl_IsValidSession.f k x.fst) fun v2 =>
        bif bif dnot v2 then true else ine x.fst.snd.snd.fst 1 then some (v0, v1, [], [])
        else
          obind
            (loopN (impl_SendNew.s0 k) k
              (0, (((0, 0), 0, 0), 0, 0, 0, 0, (0, 0, 0, 0, 0), 0, 0, 0, 0, 0, 0, (0, 0, 0), 0, (0, 0, 0, 0), 0, 0, 0),
                (v0.fst, v0.snd.fst.fst, v0.snd.fst.snd.fst, v0.snd.fst.snd.snd.fst, v0.snd.snd.fst, v0.snd.snd.snd.fst,
                  v0.snd.snd.snd.snd.fst, v0.snd.snd.snd.snd.snd.fst, v0.snd.snd.snd.snd.snd.snd.fst,
                  v0.snd.snd.snd.snd.snd.snd.snd.fst, v0.snd.snd.snd.snd.snd.snd.snd.snd.fst,
                  v0.snd.snd.snd.snd.snd.snd.snd.snd.snd.fst, v0.snd.snd.snd.snd.snd.snd.snd.snd.snd.snd.fst,
                  v0.snd.snd.snd.snd.snd.snd.snd.snd.snd.snd.snd.snd.fst.fst,
                  v0.snd.snd.snd.snd.snd.snd.snd.snd.snd.snd.snd.snd.snd, v1.fst, v1.snd.fst, v1.snd.snd.fst),
                [], [], [], [], [], [], v0.snd.fst.snd.snd.snd, v0.snd.snd.snd.snd.snd.snd.snd.snd.snd.snd.snd.fst,
                v0.snd.snd.snd.snd.snd.snd.snd.snd.snd.snd.snd.snd.fst.snd, v1.snd.snd.snd, [], []))
            fun v8 =>
            some
              ((v8.snd.fst.fst,
                  (v8.snd.fst.snd.fst, v8.snd.fst.snd.snd.fst, v8.snd.fst.snd.snd.snd.fst,
                    v8.snd.snd.snd.snd.snd.snd.snd.snd.fst),
                  v8.snd.fst.snd.snd.snd.snd.fst, v8.snd.fst.snd.snd.snd.snd.snd.fst,
                  v8.snd.fst.snd.snd.snd.snd.snd.snd.fst, v8.snd.fst.snd.snd.snd.snd.snd.snd.snd.fst,
                  v8.snd.fst.snd.snd.snd.snd.snd.snd.snd.snd.fst, v8.snd.fst.snd.snd.snd.snd.snd.snd.snd.snd.snd.fst,
                  v8.snd.fst.snd.snd.snd.snd.snd.snd.snd.snd.snd.snd.fst,
                  v8.snd.fst.snd.snd.snd.snd.snd.snd.snd.snd.snd.snd.snd.fst,
                  v8.snd.fst.snd.snd.snd.snd.snd.snd.snd.snd.snd.snd.snd.snd.fst,
                  v8.snd.snd.snd.snd.snd.snd.snd.snd.snd.fst,
                  (v8.snd.fst.snd.snd.snd.snd.snd.snd.snd.snd.snd.snd.snd.snd.snd.fst,
                    v8.snd.snd.snd.snd.snd.snd.snd.snd.snd.snd.fst),
                  v8.snd.fst.snd.snd.snd.snd.snd.snd.snd.snd.snd.snd.snd.snd.snd.snd.fst),
                (v8.snd.fst.snd.snd.snd.snd.snd.snd.snd.snd.snd.snd.snd.snd.snd.snd.snd.fst,
                  v8.snd.fst.snd.snd.snd.snd.snd.snd.snd.snd.snd.snd.snd.snd.snd.snd.snd.snd.fst,
                  v8.snd.fst.snd.snd.snd.snd.snd.snd.snd.snd.snd.snd.snd.snd.snd.snd.snd.snd.snd,
                  v8.snd.snd.snd.snd.snd.snd.snd.snd.snd.snd.snd.fst),
                v8.snd.snd.snd.snd.snd.snd.snd.snd.snd.snd.snd.snd)

def laws_eqSignal.f (k : Nat) (x : DSignal × DSignal) : Option Bool :=
    bif ine x.fst.fst x.snd.fst then some false
  else
    bif ine x.fst.snd.fst x.snd.snd.fst then some false
    else
      bif ine x.fst.snd.snd.fst x.snd.snd.snd.fst then some false
      else
        bif ine x.fst.snd.snd.snd.fst x.snd.snd.snd.snd.fst then some false
        else
          bif ine x.fst.snd.snd.snd.snd.fst x.snd.snd.snd.snd.snd.fst then some false
          else
            obind (laws_eqAuthVector.f k (x.fst.snd.snd.snd.snd.snd.fst, x.snd.snd.snd.snd.snd.snd.fst)) fun v0 =>
              bif dnot v0 then some false
              else bif ine x.fst.snd.snd.snd.snd.snd.snd x.snd.snd.snd.snd.snd.snd.snd then some false else some true

def laws_eqSignalS.s0 (k : Nat) (d0 : List DSignal × List DSignal × Int) : Option (List DSignal × List DSignal × Int ⊕ Unit ⊕ Bool) :=
    bif ilt d0.snd.snd (llen d0.fst) then
    bif idxOk d0.snd.snd (llen d0.fst) then
      bif idxOk d0.snd.snd (llen d0.snd.fst) then
        obind (laws_eqSignal.f k (lget TSignal d0.fst d0.snd.snd, lget TSignal d0.snd.fst d0.snd.snd)) fun v1 =>
          bif dnot v1 then some (Sum.inr (Sum.inr false))
          else some (Sum.inl (d0.fst, d0.snd.fst, iadd IntKind.i64 d0.snd.snd 1))
      else none
    else none
  else some (Sum.inr (Sum.inl ()))
def laws_eqSignalS.f (k : Nat) (x : List DSignal × List DSignal) : Option Bool :=
    bif ine (llen x.fst) (llen x.snd) then some false
  else
    obind (loopN (laws_eqSignalS.s0 k) k (x.fst, x.snd, 0)) fun v2 => selim (fun v3 => some true) (fun v4 => some v4) v2

def laws_eqSecuredMessage.f (k : Nat) (x : DSecuredMessage × DSecuredMessage) : Option Bool :=
    bif ine x.fst.fst x.snd.fst then some false
  else
    bif ine x.fst.snd.fst x.snd.snd.fst then some false
    else
      obind (laws_eqByteS.f k (x.fst.snd.snd.fst, x.snd.snd.snd.fst)) fun v0 =>
        bif dnot v0 then some false else bif ine x.fst.snd.snd.snd x.snd.snd.snd.snd then some false else some true

def laws_eqRadioPacket.f (k : Nat) (x : DRadioPacket × DRadioPacket) : Option Bool :=
    bif ine x.fst.fst x.snd.fst then some false
  else
    bif ine x.fst.snd.fst x.snd.snd.fst then some false
    else
      obind (laws_eqSecuredMessage.f k (x.fst.snd.snd, x.snd.snd.snd)) fun v0 =>
        bif dnot v0 then some false else some true

def laws_eqRadioPacketS.s0 (k : Nat) (d0 : List DRadioPacket × List DRadioPacket × Int) : Option (List DRadioPacket × List DRadioPacket × Int ⊕ Unit ⊕ Bool) :=
    bif ilt d0.snd.snd (llen d0.fst) then
    bif idxOk d0.snd.snd (llen d0.fst) then
      bif idxOk d0.snd.snd (llen d0.snd.fst) then
        obind (laws_eqRadioPacket.f k (lget TRadioPacket d0.fst d0.snd.snd, lget TRadioPacket d0.snd.fst d0.snd.snd))
          fun v1 =>
          bif dnot v1 then some (Sum.inr (Sum.inr false))
          else some (Sum.inl (d0.fst, d0.snd.fst, iadd IntKind.i64 d0.snd.snd 1))
      else none
    else none
  else some (Sum.inr (Sum.inl ()))
def laws_eqRadioPacketS.f (k : Nat) (x : List DRadioPacket × List DRadioPacket) : Option Bool :=
    bif ine (llen x.fst) (llen x.snd) then some false
  else
    obind (loopN (laws_eqRadioPacketS.s0 k) k (x.fst, x.snd, 0)) fun v2 =>
      selim (fun v3 => some true) (fun v4 => some v4) v2

def laws_eqTransmission.f (k : Nat) (x : DTransmission × DTransmission) : Option Bool :=
    obind (laws_eqSession.f k (x.fst.fst, x.snd.fst)) fun v0 =>
    bif dnot v0 then some false
    else
      obind (laws_eqAccount.f k (x.fst.snd.fst, x.snd.snd.fst)) fun v1 =>
        bif dnot v1 then some false
        else
          obind (laws_eqSignalS.f k (x.fst.snd.snd.fst, x.snd.snd.snd.fst)) fun v2 =>
            bif dnot v2 then some false
            else
              obind (laws_eqRadioPacketS.f k (x.fst.snd.snd.snd, x.snd.snd.snd.snd)) fun v3 =>
                bif dnot v3 then some false else some true

def laws_markSignalS.s0  (d0 : DSubscriberID × List DSignal) : Option (DSubscriberID × List DSignal ⊕ Int × List DSignal) :=
    bif ilt d0.fst.snd (llen d0.snd) then
    bif idxOk d0.fst.snd (llen d0.snd) then
      bif idxOk d0.fst.snd (llen (lmod TSignal d0.snd d0.fst.snd fun v1 => (d0.fst.fst, v1.snd))) then
        bif
            idxOk d0.fst.snd
              (llen
                (lmod TSignal (lmod TSignal d0.snd d0.fst.snd fun v2 => (d0.fst.fst, v2.snd)) d0.fst.snd fun v3 =>
                  (v3.fst, iadd IntKind.i64 d0.fst.fst 1, v3.snd.snd))) then
          bif
              idxOk d0.fst.snd
                (llen
                  (lmod TSignal
                    (lmod TSignal (lmod TSignal d0.snd d0.fst.snd fun v4 => (d0.fst.fst, v4.snd)) d0.fst.snd fun v5 =>
                      (v5.fst, iadd IntKind.i64 d0.fst.fst 1, v5.snd.snd))
                    d0.fst.snd fun v6 =>
                    (v6.fst, v6.snd.fst, iadd IntKind.i64 (iadd IntKind.i64 d0.fst.fst 1) 1, v6.snd.snd.snd))) then
            bif
                idxOk d0.fst.snd
                  (llen
                    (lmod TSignal
                      (lmod TSignal
                        (lmod TSignal (lmod TSignal d0.snd d0.fst.snd fun v7 => (d0.fst.fst, v7.snd)) d0.fst.snd fun v8 =>
                          (v8.fst, iadd IntKind.i64 d0.fst.fst 1, v8.snd.snd))
                        d0.fst.snd fun v9 =>
                        (v9.fst, v9.snd.fst, iadd IntKind.i64 (iadd IntKind.i64 d0.fst.fst 1) 1, v9.snd.snd.snd))
                      d0.fst.snd fun v10 =>
                      (v10.fst, v10.snd.fst, v10.snd.snd.fst,
                        iadd IntKind.i64 (iadd IntKind.i64 (iadd IntKind.i64 d0.fst.fst 1) 1) 1,
                        v10.snd.snd.snd.snd))) then
              bif
                  idxOk d0.fst.snd
                    (llen
                      (lmod TSignal
                        (lmod TSignal
                          (lmod TSignal
                            (lmod TSignal (lmod TSignal d0.snd d0.fst.snd fun v11 => (d0.fst.fst, v11.snd)) d0.fst.snd
                              fun v12 => (v12.fst, iadd IntKind.i64 d0.fst.fst 1, v12.snd.snd))
                            d0.fst.snd fun v13 =>
                            (v13.fst, v13.snd.fst, iadd IntKind.i64 (iadd IntKind.i64 d0.fst.fst 1) 1, v13.snd.snd.snd))
                          d0.fst.snd fun v14 =>
                          (v14.fst, v14.snd.fst, v14.snd.snd.fst,
                            iadd IntKind.i64 (iadd IntKind.i64 (iadd IntKind.i64 d0.fst.fst 1) 1) 1, v14.snd.snd.snd.snd))
                        d0.fst.snd fun v15 =>
                        (v15.fst, v15.snd.fst, v15.snd.snd.fst, v15.snd.snd.snd.fst,
                          iadd IntKind.i64 (iadd IntKind.i64 (iadd IntKind.i64 (iadd IntKind.i64 d0.fst.fst 1) 1) 1) 1,
                          v15.snd.snd.snd.snd.snd))) then
                bif
                    idxOk d0.fst.snd
                      (llen
                        (lmod TSignal
                          (lmod TSignal
                            (lmod TSignal
                              (lmod TSignal
                                (lmod TSignal (lmod TSignal d0.snd d0.fst.snd fun v16 => (d0.fst.fst, v16.snd)) d0.fst.snd
                                  fun v17 => (v17.fst, iadd IntKind.i64 d0.fst.fst 1, v17.snd.snd))
                                d0.fst.snd fun v18 =>
                                (v18.fst, v18.snd.fst, iadd IntKind.i64 (iadd IntKind.i64 d0.fst.fst 1) 1,
                                  v18.snd.snd.snd))
                              d0.fst.snd fun v19 =>
                              (v19.fst, v19.snd.fst, v19.snd.snd.fst,
                                iadd IntKind.i64 (iadd IntKind.i64 (iadd IntKind.i64 d0.fst.fst 1) 1) 1,
                                v19.snd.snd.snd.snd))
                            d0.fst.snd fun v20 =>
                            (v20.fst, v20.snd.fst, v20.snd.snd.fst, v20.snd.snd.snd.fst,
                              iadd IntKind.i64 (iadd IntKind.i64 (iadd IntKind.i64 (iadd IntKind.i64 d0.fst.fst 1) 1) 1)
                                1,
                              v20.snd.snd.snd.snd.snd))
                          d0.fst.snd fun v21 =>
                          (v21.fst, v21.snd.fst, v21.snd.snd.fst, v21.snd.snd.snd.fst, v21.snd.snd.snd.snd.fst,
                            (iadd IntKind.i64
                                (iadd IntKind.i64
                                  (iadd IntKind.i64 (iadd IntKind.i64 (iadd IntKind.i64 d0.fst.fst 1) 1) 1) 1)
                                1,
                              v21.snd.snd.snd.snd.snd.fst.snd),
                            v21.snd.snd.snd.snd.snd.snd))) then
                  bif
                      idxOk d0.fst.snd
                        (llen
                          (lmod TSignal
                            (lmod TSignal
                              (lmod TSignal
                                (lmod TSignal
                                  (lmod TSignal
                                    (lmod TSignal (lmod TSignal d0.snd d0.fst.snd fun v22 => (d0.fst.fst, v22.snd))
                                      d0.fst.snd fun v23 => (v23.fst, iadd IntKind.i64 d0.fst.fst 1, v23.snd.snd))
                                    d0.fst.snd fun v24 =>
                                    (v24.fst, v24.snd.fst, iadd IntKind.i64 (iadd IntKind.i64 d0.fst.fst 1) 1,
                                      v24.snd.snd.snd))
                                  d0.fst.snd fun v25 =>
                                  (v25.fst, v25.snd.fst, v25.snd.snd.fst,
                                    iadd IntKind.i64 (iadd IntKind.i64 (iadd IntKind.i64 d0.fst.fst 1) 1) 1,
                                    v25.snd.snd.snd.snd))
                                d0.fst.snd fun v26 =>
                                (v26.fst, v26.snd.fst, v26.snd.snd.fst, v26.snd.snd.snd.fst,
                                  iadd IntKind.i64
                                    (iadd IntKind.i64 (iadd IntKind.i64 (iadd IntKind.i64 d0.fst.fst 1) 1) 1) 1,
                                  v26.snd.snd.snd.snd.snd))
                              d0.fst.snd fun v27 =>
                              (v27.fst, v27.snd.fst, v27.snd.snd.fst, v27.snd.snd.snd.fst, v27.snd.snd.snd.snd.fst,
                                (iadd IntKind.i64
                                    (iadd IntKind.i64
                                      (iadd IntKind.i64 (iadd IntKind.i64 (iadd IntKind.i64 d0.fst.fst 1) 1) 1) 1)
                                    1,
                                  v27.snd.snd.snd.snd.snd.fst.snd),
                                v27.snd.snd.snd.snd.snd.snd))
                            d0.fst.snd fun v28 =>
                            (v28.fst, v28.snd.fst, v28.snd.snd.fst, v28.snd.snd.snd.fst, v28.snd.snd.snd.snd.fst,
                              (v28.snd.snd.snd.snd.snd.fst.fst,
                                iadd IntKind.i64
                                  (iadd IntKind.i64
                                    (iadd IntKind.i64
                                      (iadd IntKind.i64 (iadd IntKind.i64 (iadd IntKind.i64 d0.fst.fst 1) 1) 1) 1)
                                    1)
                                  1,
                                v28.snd.snd.snd.snd.snd.fst.snd.snd),
                              v28.snd.snd.snd.snd.snd.snd))) then
                    bif
                        idxOk d0.fst.snd
                          (llen
                            (lmod TSignal
                              (lmod TSignal
                                (lmod TSignal
                                  (lmod TSignal
                                    (lmod TSignal
                                      (lmod TSignal
                                        (lmod TSignal (lmod TSignal d0.snd d0.fst.snd fun v29 => (d0.fst.fst, v29.snd))
                                          d0.fst.snd fun v30 => (v30.fst, iadd IntKind.i64 d0.fst.fst 1, v30.snd.snd))
                                        d0.fst.snd fun v31 =>
                                        (v31.fst, v31.snd.fst, iadd IntKind.i64 (iadd IntKind.i64 d0.fst.fst 1) 1,
                                          v31.snd.snd.snd))
                                      d0.fst.snd fun v32 =>
                                      (v32.fst, v32.snd.fst, v32.snd.snd.fst,
                                        iadd IntKind.i64 (iadd IntKind.i64 (iadd IntKind.i64 d0.fst.fst 1) 1) 1,
                                        v32.snd.snd.snd.snd))
                                    d0.fst.snd fun v33 =>
                                    (v33.fst, v33.snd.fst, v33.snd.snd.fst, v33.snd.snd.snd.fst,
                                      iadd IntKind.i64
                                        (iadd IntKind.i64 (iadd IntKind.i64 (iadd IntKind.i64 d0.fst.fst 1) 1) 1) 1,
                                      v33.snd.snd.snd.snd.snd))
                                  d0.fst.snd fun v34 =>
                                  (v34.fst, v34.snd.fst, v34.snd.snd.fst, v34.snd.snd.snd.fst, v34.snd.snd.snd.snd.fst,
                                    (iadd IntKind.i64
                                        (iadd IntKind.i64
                                          (iadd IntKind.i64 (iadd IntKind.i64 (iadd IntKind.i64 d0.fst.fst 1) 1) 1) 1)
                                        1,
                                      v34.snd.snd.snd.snd.snd.fst.snd),
                                    v34.snd.snd.snd.snd.snd.snd))
                                d0.fst.snd fun v35 =>
                                (v35.fst, v35.snd.fst, v35.snd.snd.fst, v35.snd.snd.snd.fst, v35.snd.snd.snd.snd.fst,
                                  (v35.snd.snd.snd.snd.snd.fst.fst,
                                    iadd IntKind.i64
                                      (iadd IntKind.i64
                                        (iadd IntKind.i64
                                          (iadd IntKind.i64 (iadd IntKind.i64 (iadd IntKind.i64 d0.fst.fst 1) 1) 1) 1)
                                        1)
                                      1,
                                    v35.snd.snd.snd.snd.snd.fst.snd.snd),
                                  v35.snd.snd.snd.snd.snd.snd))
                              d0.fst.snd fun v36 =>
                              (v36.fst, v36.snd.fst, v36.snd.snd.fst, v36.snd.snd.snd.fst, v36.snd.snd.snd.snd.fst,
                                (v36.snd.snd.snd.snd.snd.fst.fst, v36.snd.snd.snd.snd.snd.fst.snd.fst,
                                  iadd IntKind.i64
                                    (iadd IntKind.i64
                                      (iadd IntKind.i64
                                        (iadd IntKind.i64
                                          (iadd IntKind.i64 (iadd IntKind.i64 (iadd IntKind.i64 d0.fst.fst 1) 1) 1) 1)
                                        1)
                                      1)
                                    1,
                                  v36.snd.snd.snd.snd.snd.fst.snd.snd.snd),
                                v36.snd.snd.snd.snd.snd.snd))) then
                      bif
                          idxOk d0.fst.snd
                            (llen
                              (lmod TSignal
                                (lmod TSignal
                                  (lmod TSignal
                                    (lmod TSignal
                                      (lmod TSignal
                                        (lmod TSignal
                                          (lmod TSignal
                                            (lmod TSignal
                                              (lmod TSignal d0.snd d0.fst.snd fun v37 => (d0.fst.fst, v37.snd)) d0.fst.snd
                                              fun v38 => (v38.fst, iadd IntKind.i64 d0.fst.fst 1, v38.snd.snd))
                                            d0.fst.snd fun v39 =>
                                            (v39.fst, v39.snd.fst, iadd IntKind.i64 (iadd IntKind.i64 d0.fst.fst 1) 1,
                                              v39.snd.snd.snd))
                                          d0.fst.snd fun v40 =>
                                          (v40.fst, v40.snd.fst, v40.snd.snd.fst,
                                            iadd IntKind.i64 (iadd IntKind.i64 (iadd IntKind.i64 d0.fst.fst 1) 1) 1,
                                            v40.snd.snd.snd.snd))
                                        d0.fst.snd fun v41 =>
                                        (v41.fst, v41.snd.fst, v41.snd.snd.fst, v41.snd.snd.snd.fst,
                                          iadd IntKind.i64
                                            (iadd IntKind.i64 (iadd IntKind.i64 (iadd IntKind.i64 d0.fst.fst 1) 1) 1) 1,
                                          v41.snd.snd.snd.snd.snd))
                                      d0.fst.snd fun v42 =>
                                      (v42.fst, v42.snd.fst, v42.snd.snd.fst, v42.snd.snd.snd.fst,
                                        v42.snd.snd.snd.snd.fst,
                                        (iadd IntKind.i64
                                            (iadd IntKind.i64
                                              (iadd IntKind.i64 (iadd IntKind.i64 (iadd IntKind.i64 d0.fst.fst 1) 1) 1) 1)
                                            1,
                                          v42.snd.snd.snd.snd.snd.fst.snd),
                                        v42.snd.snd.snd.snd.snd.snd))
                                    d0.fst.snd fun v43 =>
                                    (v43.fst, v43.snd.fst, v43.snd.snd.fst, v43.snd.snd.snd.fst, v43.snd.snd.snd.snd.fst,
                                      (v43.snd.snd.snd.snd.snd.fst.fst,
                                        iadd IntKind.i64
                                          (iadd IntKind.i64
                                            (iadd IntKind.i64
                                              (iadd IntKind.i64 (iadd IntKind.i64 (iadd IntKind.i64 d0.fst.fst 1) 1) 1) 1)
                                            1)
                                          1,
                                        v43.snd.snd.snd.snd.snd.fst.snd.snd),
                                      v43.snd.snd.snd.snd.snd.snd))
                                  d0.fst.snd fun v44 =>
                                  (v44.fst, v44.snd.fst, v44.snd.snd.fst, v44.snd.snd.snd.fst, v44.snd.snd.snd.snd.fst,
                                    (v44.snd.snd.snd.snd.snd.fst.fst, v44.snd.snd.snd.snd.snd.fst.snd.fst,
                                      iadd IntKind.i64
                                        (iadd IntKind.i64
                                          (iadd IntKind.i64
                                            (iadd IntKind.i64
                                              (iadd IntKind.i64 (iadd IntKind.i64 (iadd IntKind.i64 d0.fst.fst 1) 1) 1) 1)
                                            1)
                                          1)
                                        1,
                                      v44.snd.snd.snd.snd.snd.fst.snd.snd.snd),
                                    v44.snd.snd.snd.snd.snd.snd))
                                d0.fst.snd fun v45 =>
                                (v45.fst, v45.snd.fst, v45.snd.snd.fst, v45.snd.snd.snd.fst, v45.snd.snd.snd.snd.fst,
                                  (v45.snd.snd.snd.snd.snd.fst.fst, v45.snd.snd.snd.snd.snd.fst.snd.fst,
                                    v45.snd.snd.snd.snd.snd.fst.snd.snd.fst,
                                    iadd IntKind.i64
                                      (iadd IntKind.i64
                                        (iadd IntKind.i64
                                          (iadd IntKind.i64
                                            (iadd IntKind.i64
                                              (iadd IntKind.i64 (iadd IntKind.i64 (iadd IntKind.i64 d0.fst.fst 1) 1) 1) 1)
                                            1)
                                          1)
                                        1)
                                      1,
                                    v45.snd.snd.snd.snd.snd.fst.snd.snd.snd.snd),
                                  v45.snd.snd.snd.snd.snd.snd))) then
                        bif
                            idxOk d0.fst.snd
                              (llen
                                (lmod TSignal
                                  (lmod TSignal
                                    (lmod TSignal
                                      (lmod TSignal
                                        (lmod TSignal
                                          (lmod TSignal
                                            (lmod TSignal
                                              (lmod TSignal
                                                (lmod TSignal
                                                  (lmod TSignal d0.snd d0.fst.snd fun v46 => (d0.fst.fst, v46.snd))
                                                  d0.fst.snd fun v47 =>
                                                  (v47.fst, iadd IntKind.i64 d0.fst.fst 1, v47.snd.snd))
                                                d0.fst.snd fun v48 =>
                                                (v48.fst, v48.snd.fst, iadd IntKind.i64 (iadd IntKind.i64 d0.fst.fst 1) 1,
                                                  v48.snd.snd.snd))
                                              d0.fst.snd fun v49 =>
                                              (v49.fst, v49.snd.fst, v49.snd.snd.fst,
                                                iadd IntKind.i64 (iadd IntKind.i64 (iadd IntKind.i64 d0.fst.fst 1) 1) 1,
                                                v49.snd.snd.snd.snd))
                                            d0.fst.snd fun v50 =>
                                            (v50.fst, v50.snd.fst, v50.snd.snd.fst, v50.snd.snd.snd.fst,
                                              iadd IntKind.i64
                                                (iadd IntKind.i64 (iadd IntKind.i64 (iadd IntKind.i64 d0.fst.fst 1) 1) 1)
                                                1,
                                              v50.snd.snd.snd.snd.snd))
                                          d0.fst.snd fun v51 =>
                                          (v51.fst, v51.snd.fst, v51.snd.snd.fst, v51.snd.snd.snd.fst,
                                            v51.snd.snd.snd.snd.fst,
                                            (iadd IntKind.i64
                                                (iadd IntKind.i64
                                                  (iadd IntKind.i64 (iadd IntKind.i64 (iadd IntKind.i64 d0.fst.fst 1) 1)
                                                    1)
                                                  1)
                                                1,
                                              v51.snd.snd.snd.snd.snd.fst.snd),
                                            v51.snd.snd.snd.snd.snd.snd))
                                        d0.fst.snd fun v52 =>
                                        (v52.fst, v52.snd.fst, v52.snd.snd.fst, v52.snd.snd.snd.fst,
                                          v52.snd.snd.snd.snd.fst,
                                          (v52.snd.snd.snd.snd.snd.fst.fst,
                                            iadd IntKind.i64
                                              (iadd IntKind.i64
                                                (iadd IntKind.i64
                                                  (iadd IntKind.i64 (iadd IntKind.i64 (iadd IntKind.i64 d0.fst.fst 1) 1)
                                                    1)
                                                  1)
                                                1)
                                              1,
                                            v52.snd.snd.snd.snd.snd.fst.snd.snd),
                                          v52.snd.snd.snd.snd.snd.snd))
                                      d0.fst.snd fun v53 =>
                                      (v53.fst, v53.snd.fst, v53.snd.snd.fst, v53.snd.snd.snd.fst,
                                        v53.snd.snd.snd.snd.fst,
                                        (v53.snd.snd.snd.snd.snd.fst.fst, v53.snd.snd.snd.snd.snd.fst.snd.fst,
                                          iadd IntKind.i64
                                            (iadd IntKind.i64
                                              (iadd IntKind.i64
                                                (iadd IntKind.i64
                                                  (iadd IntKind.i64 (iadd IntKind.i64 (iadd IntKind.i64 d0.fst.fst 1) 1)
                                                    1)
                                                  1)
                                                1)
                                              1)
                                            1,
                                          v53.snd.snd.snd.snd.snd.fst.snd.snd.snd),
                                        v53.snd.snd.snd.snd.snd.snd))
                                    d0.fst.snd fun v54 =>
                                    (v54.fst, v54.snd.fst, v54.snd.snd.fst, v54.snd.snd.snd.fst, v54.snd.snd.snd.snd.fst,
                                      (v54.snd.snd.snd.snd.snd.fst.fst, v54.snd.snd.snd.snd.snd.fst.snd.fst,
                                        v54.snd.snd.snd.snd.snd.fst.snd.snd.fst,
                                        iadd IntKind.i64
                                          (iadd IntKind.i64
                                            (iadd IntKind.i64
                                              (iadd IntKind.i64
                                                (iadd IntKind.i64
                                                  (iadd IntKind.i64 (iadd IntKind.i64 (iadd IntKind.i64 d0.fst.fst 1) 1)
                                                    1)
                                                  1)
                                                1)
                                              1)
                                            1)
                                          1,
                                        v54.snd.snd.snd.snd.snd.fst.snd.snd.snd.snd),
                                      v54.snd.snd.snd.snd.snd.snd))
                                  d0.fst.snd fun v55 =>
                                  (v55.fst, v55.snd.fst, v55.snd.snd.fst, v55.snd.snd.snd.fst, v55.snd.snd.snd.snd.fst,
                                    (v55.snd.snd.snd.snd.snd.fst.fst, v55.snd.snd.snd.snd.snd.fst.snd.fst,
                                      v55.snd.snd.snd.snd.snd.fst.snd.snd.fst,
                                      v55.snd.snd.snd.snd.snd.fst.snd.snd.snd.fst,
                                      iadd IntKind.i64
                                        (iadd IntKind.i64
                                          (iadd IntKind.i64
                                            (iadd IntKind.i64
                                              (iadd IntKind.i64
                                                (iadd IntKind.i64
                                                  (iadd IntKind.i64 (iadd IntKind.i64 (iadd IntKind.i64 d0.fst.fst 1) 1)
                                                    1)
                                                  1)
                                                1)
                                              1)
                                            1)
                                          1)
                                        1),
                                    v55.snd.snd.snd.snd.snd.snd))) then
                          some
                            (Sum.inl
                              ((iadd IntKind.i64
                                    (iadd IntKind.i64
                                      (iadd IntKind.i64
                                        (iadd IntKind.i64
                                          (iadd IntKind.i64
                                            (iadd IntKind.i64
                                              (iadd IntKind.i64
                                                (iadd IntKind.i64
                                                  (iadd IntKind.i64 (iadd IntKind.i64 (iadd IntKind.i64 d0.fst.fst 1) 1)
                                                    1)
                                                  1)
                                                1)
                                              1)
                                            1)
                                          1)
                                        1)
                                      1)
                                    1,
                                  iadd IntKind.i64 d0.fst.snd 1),
                                lmod TSignal
                                  (lmod TSignal
                                    (lmod TSignal
                                      (lmod TSignal
                                        (lmod TSignal
                                          (lmod TSignal
                                            (lmod TSignal
                                              (lmod TSignal
                                                (lmod TSignal
                                                  (lmod TSignal
                                                    (lmod TSignal d0.snd d0.fst.snd fun v56 => (d0.fst.fst, v56.snd))
                                                    d0.fst.snd fun v57 =>
                                                    (v57.fst, iadd IntKind.i64 d0.fst.fst 1, v57.snd.snd))
                                                  d0.fst.snd fun v58 =>
                                                  (v58.fst, v58.snd.fst,
                                                    iadd IntKind.i64 (iadd IntKind.i64 d0.fst.fst 1) 1, v58.snd.snd.snd))
                                                d0.fst.snd fun v59 =>
                                                (v59.fst, v59.snd.fst, v59.snd.snd.fst,
                                                  iadd IntKind.i64 (iadd IntKind.i64 (iadd IntKind.i64 d0.fst.fst 1) 1) 1,
                                                  v59.snd.snd.snd.snd))
                                              d0.fst.snd fun v60 =>
                                              (v60.fst, v60.snd.fst, v60.snd.snd.fst, v60.snd.snd.snd.fst,
                                                iadd IntKind.i64
                                                  (iadd IntKind.i64 (iadd IntKind.i64 (iadd IntKind.i64 d0.fst.fst 1) 1)
                                                    1)
                                                  1,
                                                v60.snd.snd.snd.snd.snd))
                                            d0.fst.snd fun v61 =>
                                            (v61.fst, v61.snd.fst, v61.snd.snd.fst, v61.snd.snd.snd.fst,
                                              v61.snd.snd.snd.snd.fst,
                                              (iadd IntKind.i64
                                                  (iadd IntKind.i64
                                                    (iadd IntKind.i64 (iadd IntKind.i64 (iadd IntKind.i64 d0.fst.fst 1) 1)
                                                      1)
                                                    1)
                                                  1,
                                                v61.snd.snd.snd.snd.snd.fst.snd),
                                              v61.snd.snd.snd.snd.snd.snd))
                                          d0.fst.snd fun v62 =>
                                          (v62.fst, v62.snd.fst, v62.snd.snd.fst, v62.snd.snd.snd.fst,
                                            v62.snd.snd.snd.snd.fst,
                                            (v62.snd.snd.snd.snd.snd.fst.fst,
                                              iadd IntKind.i64
                                                (iadd IntKind.i64
                                                  (iadd IntKind.i64
                                                    (iadd IntKind.i64 (iadd IntKind.i64 (iadd IntKind.i64 d0.fst.fst 1) 1)
                                                      1)
                                                    1)
                                                  1)
                                                1,
                                              v62.snd.snd.snd.snd.snd.fst.snd.snd),
                                            v62.snd.snd.snd.snd.snd.snd))
                                        d0.fst.snd fun v63 =>
                                        (v63.fst, v63.snd.fst, v63.snd.snd.fst, v63.snd.snd.snd.fst,
                                          v63.snd.snd.snd.snd.fst,
                                          (v63.snd.snd.snd.snd.snd.fst.fst, v63.snd.snd.snd.snd.snd.fst.snd.fst,
                                            iadd IntKind.i64
                                              (iadd IntKind.i64
                                                (iadd IntKind.i64
                                                  (iadd IntKind.i64
                                                    (iadd IntKind.i64 (iadd IntKind.i64 (iadd IntKind.i64 d0.fst.fst 1) 1)
                                                      1)
                                                    1)
                                                  1)
                                                1)
                                              1,
                                            v63.snd.snd.snd.snd.snd.fst.snd.snd.snd),
                                          v63.snd.snd.snd.snd.snd.snd))
                                      d0.fst.snd fun v64 =>
                                      (v64.fst, v64.snd.fst, v64.snd.snd.fst, v64.snd.snd.snd.fst,
                                        v64.snd.snd.snd.snd.fst,
                                        (v64.snd.snd.snd.snd.snd.fst.fst, v64.snd.snd.snd.snd.snd.fst.snd.fst,
                                          v64.snd.snd.snd.snd.snd.fst.snd.snd.fst,
                                          iadd IntKind.i64
                                            (iadd IntKind.i64
                                              (iadd IntKind.i64
                                                (iadd IntKind.i64
                                                  (iadd IntKind.i64
                                                    (iadd IntKind.i64 (iadd IntKind.i64 (iadd IntKind.i64 d0.fst.fst 1) 1)
                                                      1)
                                                    1)
                                                  1)
                                                1)
                                              1)
                                            1,
                                          v64.snd.snd.snd.snd.snd.fst.snd.snd.snd.snd),
                                        v64.snd.snd.snd.snd.snd.snd))
                                    d0.fst.snd fun v65 =>
                                    (v65.fst, v65.snd.fst, v65.snd.snd.fst, v65.snd.snd.snd.fst, v65.snd.snd.snd.snd.fst,
                                      (v65.snd.snd.snd.snd.snd.fst.fst, v65.snd.snd.snd.snd.snd.fst.snd.fst,
                                        v65.snd.snd.snd.snd.snd.fst.snd.snd.fst,
                                        v65.snd.snd.snd.snd.snd.fst.snd.snd.snd.fst,
                                        iadd IntKind.i64
                                          (iadd IntKind.i64
                                            (iadd IntKind.i64
                                              (iadd IntKind.i64
                                                (iadd IntKind.i64
                                                  (iadd IntKind.i64
                                                    (iadd IntKind.i64 (iadd IntKind.i64 (iadd IntKind.i64 d0.fst.fst 1) 1)
                                                      1)
                                                    1)
                                                  1)
                                                1)
                                              1)
                                            1)
                                          1),
                                      v65.snd.snd.snd.snd.snd.snd))
                                  d0.fst.snd fun v66 =>
                                  (v66.fst, v66.snd.fst, v66.snd.snd.fst, v66.snd.snd.snd.fst, v66.snd.snd.snd.snd.fst,
                                    v66.snd.snd.snd.snd.snd.fst,
                                    iadd IntKind.i64
                                      (iadd IntKind.i64
                                        (iadd IntKind.i64
                                          (iadd IntKind.i64
                                            (iadd IntKind.i64
                                              (iadd IntKind.i64
                                                (iadd IntKind.i64
                                                  (iadd IntKind.i64 (iadd IntKind.i64 (iadd IntKind.i64 d0.fst.fst 1) 1)
                                                    1)
                                                  1)
                                                1)
                                              1)
                                            1)
                                          1)
                                        1)
                                      1)))
                        else none
                      else none
                    else none
                  else none
                else none
              else none
            else none
          else none
        else none
      else none
    else none
  else some (Sum.inr (d0.fst.fst, d0.snd))
def laws_markSignalS.f (k : Nat) (x : List DSignal × Int) : Option (Int × List DSignal) :=
    obind (loopN laws_markSignalS.s0 k ((x.snd, 0), x.fst)) fun v67 => some v67

def laws_markRadioPacketS.s0 (k : Nat) (d0 : DSubscriberID × List DRadioPacket) : Option (DSubscriberID × List DRadioPacket ⊕ Int × List DRadioPacket) :=
    bif ilt d0.fst.snd (llen d0.snd) then
    bif idxOk d0.fst.snd (llen d0.snd) then
      bif idxOk d0.fst.snd (llen (lmod TRadioPacket d0.snd d0.fst.snd fun v1 => (d0.fst.fst, v1.snd))) then
        bif
            idxOk d0.fst.snd
              (llen
                (lmod TRadioPacket (lmod TRadioPacket d0.snd d0.fst.snd fun v2 => (d0.fst.fst, v2.snd)) d0.fst.snd
                  fun v3 => (v3.fst, iadd IntKind.i64 d0.fst.fst 1, v3.snd.snd))) then
          bif
              idxOk d0.fst.snd
                (llen
                  (lmod TRadioPacket
                    (lmod TRadioPacket (lmod TRadioPacket d0.snd d0.fst.snd fun v4 => (d0.fst.fst, v4.snd)) d0.fst.snd
                      fun v5 => (v5.fst, iadd IntKind.i64 d0.fst.fst 1, v5.snd.snd))
                    d0.fst.snd fun v6 =>
                    (v6.fst, v6.snd.fst, iadd IntKind.i64 (iadd IntKind.i64 d0.fst.fst 1) 1, v6.snd.snd.snd))) then
            bif
                idxOk d0.fst.snd
                  (llen
                    (lmod TRadioPacket
                      (lmod TRadioPacket
                        (lmod TRadioPacket (lmod TRadioPacket d0.snd d0.fst.snd fun v7 => (d0.fst.fst, v7.snd)) d0.fst.snd
                          fun v8 => (v8.fst, iadd IntKind.i64 d0.fst.fst 1, v8.snd.snd))
                        d0.fst.snd fun v9 =>
                        (v9.fst, v9.snd.fst, iadd IntKind.i64 (iadd IntKind.i64 d0.fst.fst 1) 1, v9.snd.snd.snd))
                      d0.fst.snd fun v10 =>
                      (v10.fst, v10.snd.fst, v10.snd.snd.fst,
                        iadd IntKind.i64 (iadd IntKind.i64 (iadd IntKind.i64 d0.fst.fst 1) 1) 1,
                        v10.snd.snd.snd.snd))) then
              obind
                (laws_markByteS.f k
                  ((lget TRadioPacket
                                (lmod TRadioPacket
                                  (lmod TRadioPacket
                                    (lmod TRadioPacket
                                      (lmod TRadioPacket d0.snd d0.fst.snd fun v11 => (d0.fst.fst, v11.snd)) d0.fst.snd
                                      fun v12 => (v12.fst, iadd IntKind.i64 d0.fst.fst 1, v12.snd.snd))
                                    d0.fst.snd fun v13 =>
                                    (v13.fst, v13.snd.fst, iadd IntKind.i64 (iadd IntKind.i64 d0.fst.fst 1) 1,
                                      v13.snd.snd.snd))
                                  d0.fst.snd fun v14 =>
                                  (v14.fst, v14.snd.fst, v14.snd.snd.fst,
                                    iadd IntKind.i64 (iadd IntKind.i64 (iadd IntKind.i64 d0.fst.fst 1) 1) 1,
                                    v14.snd.snd.snd.snd))
                                d0.fst.snd).snd.snd.snd.snd.fst,
                    iadd IntKind.i64 (iadd IntKind.i64 (iadd IntKind.i64 (iadd IntKind.i64 d0.fst.fst 1) 1) 1) 1))
                fun v15 =>
                bif
                    idxOk d0.fst.snd
                      (llen
                        (lmod TRadioPacket
                          (lmod TRadioPacket
                            (lmod TRadioPacket
                              (lmod TRadioPacket (lmod TRadioPacket d0.snd d0.fst.snd fun v16 => (d0.fst.fst, v16.snd))
                                d0.fst.snd fun v17 => (v17.fst, iadd IntKind.i64 d0.fst.fst 1, v17.snd.snd))
                              d0.fst.snd fun v18 =>
                              (v18.fst, v18.snd.fst, iadd IntKind.i64 (iadd IntKind.i64 d0.fst.fst 1) 1, v18.snd.snd.snd))
                            d0.fst.snd fun v19 =>
                            (v19.fst, v19.snd.fst, v19.snd.snd.fst,
                              iadd IntKind.i64 (iadd IntKind.i64 (iadd IntKind.i64 d0.fst.fst 1) 1) 1,
                              v19.snd.snd.snd.snd))
                          d0.fst.snd fun v20 =>
                          (v20.fst, v20.snd.fst, v20.snd.snd.fst, v20.snd.snd.snd.fst, v15.snd,
                            v20.snd.snd.snd.snd.snd))) then
                  some
                    (Sum.inl
                      ((iadd IntKind.i64 v15.fst 1, iadd IntKind.i64 d0.fst.snd 1),
                        lmod TRadioPacket
                          (lmod TRadioPacket
                            (lmod TRadioPacket
                              (lmod TRadioPacket
                                (lmod TRadioPacket (lmod TRadioPacket d0.snd d0.fst.snd fun v21 => (d0.fst.fst, v21.snd))
                                  d0.fst.snd fun v22 => (v22.fst, iadd IntKind.i64 d0.fst.fst 1, v22.snd.snd))
                                d0.fst.snd fun v23 =>
                                (v23.fst, v23.snd.fst, iadd IntKind.i64 (iadd IntKind.i64 d0.fst.fst 1) 1,
                                  v23.snd.snd.snd))
                              d0.fst.snd fun v24 =>
                              (v24.fst, v24.snd.fst, v24.snd.snd.fst,
                                iadd IntKind.i64 (iadd IntKind.i64 (iadd IntKind.i64 d0.fst.fst 1) 1) 1,
                                v24.snd.snd.snd.snd))
                            d0.fst.snd fun v25 =>
                            (v25.fst, v25.snd.fst, v25.snd.snd.fst, v25.snd.snd.snd.fst, v15.snd,
                              v25.snd.snd.snd.snd.snd))
                          d0.fst.snd fun v26 =>
                          (v26.fst, v26.snd.fst, v26.snd.snd.fst, v26.snd.snd.snd.fst, v26.snd.snd.snd.snd.fst, v15.fst)))
                else none
            else none
          else none
        else none
      else none
    else none
  else some (Sum.inr (d0.fst.fst, d0.snd))
def laws_markRadioPacketS.f (k : Nat) (x : List DRadioPacket × Int) : Option (Int × List DRadioPacket) :=
    obind (loopN (laws_markRadioPacketS.s0 k) k ((x.snd, 0), x.fst)) fun v27 => some v27

def laws_markTransmission.f (k : Nat) (x : DTransmission × Int) : Option (Int × DTransmission) :=
    obind (laws_markSession.f k (x.fst.fst, x.snd)) fun v0 =>
    obind (laws_markAccount.f k (x.fst.snd.fst, v0.fst)) fun v1 =>
      obind (laws_markSignalS.f k (x.fst.snd.snd.fst, v1.fst)) fun v2 =>
        obind (laws_markRadioPacketS.f k (x.fst.snd.snd.snd, v2.fst)) fun v3 =>
          some
            (v3.fst,
              (x.fst.fst.fst,
                (x.fst.fst.snd.fst.fst, x.fst.fst.snd.fst.snd.fst, x.fst.fst.snd.fst.snd.snd.fst,
                  v0.snd.snd.fst.snd.snd.snd),
                x.fst.fst.snd.snd.fst, x.fst.fst.snd.snd.snd.fst, x.fst.fst.snd.snd.snd.snd.fst,
                x.fst.fst.snd.snd.snd.snd.snd.fst, x.fst.fst.snd.snd.snd.snd.snd.snd.fst,
                x.fst.fst.snd.snd.snd.snd.snd.snd.snd.fst, x.fst.fst.snd.snd.snd.snd.snd.snd.snd.snd.fst,
                x.fst.fst.snd.snd.snd.snd.snd.snd.snd.snd.snd.fst, x.fst.fst.snd.snd.snd.snd.snd.snd.snd.snd.snd.snd.fst,
                v0.snd.snd.snd.snd.snd.snd.snd.snd.snd.snd.snd.snd.fst,
                (x.fst.fst.snd.snd.snd.snd.snd.snd.snd.snd.snd.snd.snd.snd.fst.fst,
                  v0.snd.snd.snd.snd.snd.snd.snd.snd.snd.snd.snd.snd.snd.fst.snd),
                x.fst.fst.snd.snd.snd.snd.snd.snd.snd.snd.snd.snd.snd.snd.snd),
              (x.fst.snd.fst.fst, x.fst.snd.fst.snd.fst, x.fst.snd.fst.snd.snd.fst, v1.snd.snd.snd.snd), v2.snd, v3.snd)

def laws_heldIntS.s0  (d0 : Dl1Cur) : Option (Dl1Cur ⊕ Int ⊕ Int) :=
    bif ilt d0.snd.snd (llen d0.fst) then
    bif idxOk d0.snd.snd (llen d0.fst) then
      bif ine (lget (Ty.int IntKind.i64) d0.fst d0.snd.snd) d0.snd.fst then some (Sum.inr (Sum.inr (-1)))
      else some (Sum.inl (d0.fst, iadd IntKind.i64 d0.snd.fst 1, iadd IntKind.i64 d0.snd.snd 1))
    else none
  else some (Sum.inr (Sum.inl d0.snd.fst))
def laws_heldIntS.f (k : Nat) (x : List Int × Int) : Option Int :=
    obind (loopN laws_heldIntS.s0 k (x.fst, x.snd, 0)) fun v1 => selim (fun v2 => some v2) (fun v3 => some v3) v1

def laws_heldSubscription.f (k : Nat) (x : DSubscription × Int) : Option Int :=
    obind (laws_heldIntS.f k (x.fst.snd.snd.snd, x.snd)) fun v0 => bif ilt v0 0 then some (-1) else some v0

def laws_heldByteS.s0  (d0 : Dl1Cur) : Option (Dl1Cur ⊕ Int ⊕ Int) :=
    bif ilt d0.snd.snd (llen d0.fst) then
    bif idxOk d0.snd.snd (llen d0.fst) then
      bif ine (lget (Ty.int IntKind.u8) d0.fst d0.snd.snd) (icast IntKind.u8 d0.snd.fst) then
        some (Sum.inr (Sum.inr (-1)))
      else some (Sum.inl (d0.fst, iadd IntKind.i64 d0.snd.fst 1, iadd IntKind.i64 d0.snd.snd 1))
    else none
  else some (Sum.inr (Sum.inl d0.snd.fst))
def laws_heldByteS.f (k : Nat) (x : List Int × Int) : Option Int :=
    obind (loopN laws_heldByteS.s0 k (x.fst, x.snd, 0)) fun v1 => selim (fun v2 => some v2) (fun v3 => some v3) v1

def laws_heldPayloadS.s0 (k : Nat) (d0 : List (List Int) × DSubscriberID) : Option (List (List Int) × DSubscriberID ⊕ Int ⊕ Int) :=
    bif ilt d0.snd.snd (llen d0.fst) then
    bif idxOk d0.snd.snd (llen d0.fst) then
      obind (laws_heldByteS.f k (lget (Ty.sl (Ty.int IntKind.u8)) d0.fst d0.snd.snd, d0.snd.fst)) fun v1 =>
        bif ilt v1 0 then some (Sum.inr (Sum.inr (-1))) else some (Sum.inl (d0.fst, v1, iadd IntKind.i64 d0.snd.snd 1))
    else none
  else some (Sum.inr (Sum.inl d0.snd.fst))
def laws_heldPayloadS.f (k : Nat) (x : List (List Int) × Int) : Option Int :=
    obind (loopN (laws_heldPayloadS.s0 k) k (x.fst, x.snd, 0)) fun v2 => selim (fun v3 => some v3) (fun v4 => some v4) v2

def laws_heldNumberedPacketS.s0 (k : Nat) (d0 : List DNumberedPacket × DSubscriberID) : Option (List DNumberedPacket × DSubscriberID ⊕ Int ⊕ Int) :=
    bif ilt d0.snd.snd (llen d0.fst) then
    bif idxOk d0.snd.snd (llen d0.fst) then
      bif ine (lget TNumberedPacket d0.fst d0.snd.snd).fst d0.snd.fst then some (Sum.inr (Sum.inr (-1)))
      else
        bif idxOk d0.snd.snd (llen d0.fst) then
          obind (laws_heldByteS.f k ((lget TNumberedPacket d0.fst d0.snd.snd).snd, iadd IntKind.i64 d0.snd.fst 1))
            fun v1 =>
            bif ilt v1 0 then some (Sum.inr (Sum.inr (-1)))
            else some (Sum.inl (d0.fst, v1, iadd IntKind.i64 d0.snd.snd 1))
        else none
    else none
  else some (Sum.inr (Sum.inl d0.snd.fst))
def laws_heldNumberedPacketS.f (k : Nat) (x : List DNumberedPacket × Int) : Option Int :=
    obind (loopN (laws_heldNumberedPacketS.s0 k) k (x.fst, x.snd, 0)) fun v2 =>
    selim (fun v3 => some v3) (fun v4 => some v4) v2

def laws_heldSendWindow.f (k : Nat) (x : DSendWindow × Int) : Option Int :=
    obind (laws_heldNumberedPacketS.f k (x.fst.snd, x.snd)) fun v0 => bif ilt v0 0 then some (-1) else some v0

def laws_heldSession.f (k : Nat) (x : DSession × Int) : Option Int :=
    obind (laws_heldSubscription.f k (x.fst.snd.fst, x.snd)) fun v0 =>
    bif ilt v0 0 then some (-1)
    else
      obind (laws_heldPayloadS.f k (x.fst.snd.snd.snd.snd.snd.snd.snd.snd.snd.snd.snd.fst, v0)) fun v1 =>
        bif ilt v1 0 then some (-1)
        else
          obind (laws_heldSendWindow.f k (x.fst.snd.snd.snd.snd.snd.snd.snd.snd.snd.snd.snd.snd.fst, v1)) fun v2 =>
            bif ilt v2 0 then some (-1) else some v2

def laws_heldReservationS.s0  (d0 : List DSubscriberID × DSubscriberID) : Option (List DSubscriberID × DSubscriberID ⊕ Int ⊕ Int) :=
    bif ilt d0.snd.snd (llen d0.fst) then
    bif idxOk d0.snd.snd (llen d0.fst) then
      bif ine (lget TSubscriberID d0.fst d0.snd.snd).fst d0.snd.fst then some (Sum.inr (Sum.inr (-1)))
      else
        bif idxOk d0.snd.snd (llen d0.fst) then
          bif ine (lget TSubscriberID d0.fst d0.snd.snd).snd (iadd IntKind.i64 d0.snd.fst 1) then
            some (Sum.inr (Sum.inr (-1)))
          else some (Sum.inl (d0.fst, iadd IntKind.i64 (iadd IntKind.i64 d0.snd.fst 1) 1, iadd IntKind.i64 d0.snd.snd 1))
        else none
    else none
  else some (Sum.inr (Sum.inl d0.snd.fst))
def laws_heldReservationS.f (k : Nat) (x : List DSubscriberID × Int) : Option Int :=
    obind (loopN laws_heldReservationS.s0 k (x.fst, x.snd, 0)) fun v1 => selim (fun v2 => some v2) (fun v3 => some v3) v1

def laws_heldAccount.f (k : Nat) (x : DAccount × Int) : Option Int :=
    obind (laws_heldReservationS.f k (x.fst.snd.snd.snd, x.snd)) fun v0 => bif ilt v0 0 then some (-1) else some v0

def laws_heldSignalS.s0  (d0 : List DSignal × DSubscriberID) : Option (List DSignal × DSubscriberID ⊕ Int ⊕ Int) :=
    bif ilt d0.snd.snd (llen d0.fst) then
    bif idxOk d0.snd.snd (llen d0.fst) then
      bif ine (lget TSignal d0.fst d0.snd.snd).fst d0.snd.fst then some (Sum.inr (Sum.inr (-1)))
      else
        bif idxOk d0.snd.snd (llen d0.fst) then
          bif ine (lget TSignal d0.fst d0.snd.snd).snd.fst (iadd IntKind.i64 d0.snd.fst 1) then
            some (Sum.inr (Sum.inr (-1)))
          else
            bif idxOk d0.snd.snd (llen d0.fst) then
              bif
                  ine (lget TSignal d0.fst d0.snd.snd).snd.snd.fst
                    (iadd IntKind.i64 (iadd IntKind.i64 d0.snd.fst 1) 1) then
                some (Sum.inr (Sum.inr (-1)))
              else
                bif idxOk d0.snd.snd (llen d0.fst) then
                  bif
                      ine (lget TSignal d0.fst d0.snd.snd).snd.snd.snd.fst
                        (iadd IntKind.i64 (iadd IntKind.i64 (iadd IntKind.i64 d0.snd.fst 1) 1) 1) then
                    some (Sum.inr (Sum.inr (-1)))
                  else
                    bif idxOk d0.snd.snd (llen d0.fst) then
                      bif
                          ine (lget TSignal d0.fst d0.snd.snd).snd.snd.snd.snd.fst
                            (iadd IntKind.i64 (iadd IntKind.i64 (iadd IntKind.i64 (iadd IntKind.i64 d0.snd.fst 1) 1) 1)
                              1) then
                        some (Sum.inr (Sum.inr (-1)))
                      else
                        bif idxOk d0.snd.snd (llen d0.fst) then
                          bif
                              ine (lget TSignal d0.fst d0.snd.snd).snd.snd.snd.snd.snd.fst.fst
                                (iadd IntKind.i64
                                  (iadd IntKind.i64
                                    (iadd IntKind.i64 (iadd IntKind.i64 (iadd IntKind.i64 d0.snd.fst 1) 1) 1) 1)
                                  1) then
                            some (Sum.inr (Sum.inr (-1)))
                          else
                            bif idxOk d0.snd.snd (llen d0.fst) then
                              bif
                                  ine (lget TSignal d0.fst d0.snd.snd).snd.snd.snd.snd.snd.fst.snd.fst
                                    (iadd IntKind.i64
                                      (iadd IntKind.i64
                                        (iadd IntKind.i64
                                          (iadd IntKind.i64 (iadd IntKind.i64 (iadd IntKind.i64 d0.snd.fst 1) 1) 1) 1)
                                        1)
                                      1) then
                                some (Sum.inr (Sum.inr (-1)))
                              else
                                bif idxOk d0.snd.snd (llen d0.fst) then
                                  bif
                                      ine (lget TSignal d0.fst d0.snd.snd).snd.snd.snd.snd.snd.fst.snd.snd.fst
                                        (iadd IntKind.i64
                                          (iadd IntKind.i64
                                            (iadd IntKind.i64
                                              (iadd IntKind.i64
                                                (iadd IntKind.i64 (iadd IntKind.i64 (iadd IntKind.i64 d0.snd.fst 1) 1) 1)
                                                1)
                                              1)
                                            1)
                                          1) then
                                    some (Sum.inr (Sum.inr (-1)))
                                  else
                                    bif idxOk d0.snd.snd (llen d0.fst) then
                                      bif
                                          ine (lget TSignal d0.fst d0.snd.snd).snd.snd.snd.snd.snd.fst.snd.snd.snd.fst
                                            (iadd IntKind.i64
                                              (iadd IntKind.i64
                                                (iadd IntKind.i64
                                                  (iadd IntKind.i64
                                                    (iadd IntKind.i64
                                                      (iadd IntKind.i64
                                                        (iadd IntKind.i64 (iadd IntKind.i64 d0.snd.fst 1) 1) 1)
                                                      1)
                                                    1)
                                                  1)
                                                1)
                                              1) then
                                        some (Sum.inr (Sum.inr (-1)))
                                      else
                                        bif idxOk d0.snd.snd (llen d0.fst) then
                                          bif
                                              ine (lget TSignal d0.fst d0.snd.snd).snd.snd.snd.snd.snd.fst.snd.snd.snd.snd
                                                (iadd IntKind.i64
                                                  (iadd IntKind.i64
                                                    (iadd IntKind.i64
                                                      (iadd IntKind.i64
                                                        (iadd IntKind.i64
                                                          (iadd IntKind.i64
                                                            (iadd IntKind.i64
                                                              (iadd IntKind.i64 (iadd IntKind.i64 d0.snd.fst 1) 1) 1)
                                                            1)
                                                          1)
                                                        1)
                                                      1)
                                                    1)
                                                  1) then
                                            some (Sum.inr (Sum.inr (-1)))
                                          else
                                            bif idxOk d0.snd.snd (llen d0.fst) then
                                              bif
                                                  ine (lget TSignal d0.fst d0.snd.snd).snd.snd.snd.snd.snd.snd
                                                    (iadd IntKind.i64
                                                      (iadd IntKind.i64
                                                        (iadd IntKind.i64
                                                          (iadd IntKind.i64
                                                            (iadd IntKind.i64
                                                              (iadd IntKind.i64
                                                                (iadd IntKind.i64
                                                                  (iadd IntKind.i64
                                                                    (iadd IntKind.i64 (iadd IntKind.i64 d0.snd.fst 1) 1)
                                                                    1)
                                                                  1)
                                                                1)
                                                              1)
                                                            1)
                                                          1)
                                                        1)
                                                      1) then
                                                some (Sum.inr (Sum.inr (-1)))
                                              else
                                                some
                                                  (Sum.inl
                                                    (d0.fst,
                                                      iadd IntKind.i64
                                                        (iadd IntKind.i64
                                                          (iadd IntKind.i64
                                                            (iadd IntKind.i64
                                                              (iadd IntKind.i64
                                                                (iadd IntKind.i64
                                                                  (iadd IntKind.i64
                                                                    (iadd IntKind.i64
                                                                      (iadd IntKind.i64
                                                                        (iadd IntKind.i64 (iadd IntKind.i64 d0.snd.fst 1)
                                                                          1)
                                                                        1)
                                                                      1)
                                                                    1)
                                                                  1)
                                                                1)
                                                              1)
                                                            1)
                                                          1)
                                                        1,
                                                      iadd IntKind.i64 d0.snd.snd 1))
                                            else none
                                        else none
                                    else none
                                else none
                            else none
                        else none
                    else none
                else none
            else none
        else none
    else none
  else some (Sum.inr (Sum.inl d0.snd.fst))
def laws_heldSignalS.f (k : Nat) (x : List DSignal × Int) : Option Int :=
    obind (loopN laws_heldSignalS.s0 k (x.fst, x.snd, 0)) fun v1 => selim (fun v2 => some v2) (fun v3 => some v3) v1

def laws_heldRadioPacketS.s0 (k : Nat) (d0 : List DRadioPacket × DSubscriberID) : Option (List DRadioPacket × DSubscriberID ⊕ Int ⊕ Int) :=
    bif ilt d0.snd.snd (llen d0.fst) then
    bif idxOk d0.snd.snd (llen d0.fst) then
      bif ine (lget TRadioPacket d0.fst d0.snd.snd).fst d0.snd.fst then some (Sum.inr (Sum.inr (-1)))
      else
        bif idxOk d0.snd.snd (llen d0.fst) then
          bif ine (lget TRadioPacket d0.fst d0.snd.snd).snd.fst (iadd IntKind.i64 d0.snd.fst 1) then
            some (Sum.inr (Sum.inr (-1)))
          else
            bif idxOk d0.snd.snd (llen d0.fst) then
              bif
                  ine (lget TRadioPacket d0.fst d0.snd.snd).snd.snd.fst
                    (iadd IntKind.i64 (iadd IntKind.i64 d0.snd.fst 1) 1) then
                some (Sum.inr (Sum.inr (-1)))
              else
                bif idxOk d0.snd.snd (llen d0.fst) then
                  bif
                      ine (lget TRadioPacket d0.fst d0.snd.snd).snd.snd.snd.fst
                        (iadd IntKind.i64 (iadd IntKind.i64 (iadd IntKind.i64 d0.snd.fst 1) 1) 1) then
                    some (Sum.inr (Sum.inr (-1)))
                  else
                    bif idxOk d0.snd.snd (llen d0.fst) then
                      obind
                        (laws_heldByteS.f k
                          ((lget TRadioPacket d0.fst d0.snd.snd).snd.snd.snd.snd.fst,
                            iadd IntKind.i64 (iadd IntKind.i64 (iadd IntKind.i64 (iadd IntKind.i64 d0.snd.fst 1) 1) 1) 1))
                        fun v1 =>
                        bif ilt v1 0 then some (Sum.inr (Sum.inr (-1)))
                        else
                          bif idxOk d0.snd.snd (llen d0.fst) then
                            bif ine (lget TRadioPacket d0.fst d0.snd.snd).snd.snd.snd.snd.snd v1 then
                              some (Sum.inr (Sum.inr (-1)))
                            else some (Sum.inl (d0.fst, iadd IntKind.i64 v1 1, iadd IntKind.i64 d0.snd.snd 1))
                          else none
                    else none
                else none
            else none
        else none
    else none
  else some (Sum.inr (Sum.inl d0.snd.fst))
def laws_heldRadioPacketS.f (k : Nat) (x : List DRadioPacket × Int) : Option Int :=
    obind (loopN (laws_heldRadioPacketS.s0 k) k (x.fst, x.snd, 0)) fun v2 =>
    selim (fun v3 => some v3) (fun v4 => some v4) v2

def laws_heldTransmission.f (k : Nat) (x : DTransmission × Int) : Option Int :=
    obind (laws_heldSession.f k (x.fst.fst, x.snd)) fun v0 =>
    bif ilt v0 0 then some (-1)
    else
      obind (laws_heldAccount.f k (x.fst.snd.fst, v0)) fun v1 =>
        bif ilt v1 0 then some (-1)
        else
          obind (laws_heldSignalS.f k (x.fst.snd.snd.fst, v1)) fun v2 =>
            bif ilt v2 0 then some (-1)
            else
              obind (laws_heldRadioPacketS.f k (x.fst.snd.snd.snd, v2)) fun v3 => bif ilt v3 0 then some (-1) else some v3

def laws_FnExactSendNew.f (k : Nat) (x : DSession × DAccount) : Option Bool :=
    obind (laws_szSession.f k (x.fst, 1048576)) fun v0 =>
    bif ilt v0 0 then some true
    else
      obind (laws_szAccount.f k (x.snd, v0)) fun v1 =>
        bif ilt v1 0 then some true
        else
          obind (laws_toSession.f k x.fst) fun v2 =>
            obind (laws_toAccount.f k x.snd) fun v3 =>
              obind (spec_SendNew.f k (v2, v3)) fun v4 =>
                obind (laws_toSession.f k x.fst) fun v5 =>
                  obind (laws_toAccount.f k x.snd) fun v6 =>
                    obind (impl_SendNew.f k (v5, v6)) fun v7 =>
                      obind (laws_eqTransmission.f k (v7, v4)) fun v8 =>
                        bif dnot v8 then some false
                        else
                          obind (laws_toSession.f k x.fst) fun v9 =>
                            obind (laws_eqSession.f k (v5, v9)) fun v10 =>
                              bif dnot v10 then some false
                              else
                                obind (laws_toAccount.f k x.snd) fun v11 =>
                                  obind (laws_eqAccount.f k (v6, v11)) fun v12 =>
                                    bif dnot v12 then some false
                                    else
                                      obind (laws_markSession.f k (v5, 1)) fun v13 =>
                                        obind (laws_markAccount.f k (v6, v13.fst)) fun v14 =>
                                          obind
                                            (bif dnot (ilt v14.fst 0) then laws_eqTransmission.f k (v7, v4)
                                            else some false)
                                            fun v15 =>
                                            bif bif ilt v14.fst 0 then true else dnot v15 then some false
                                            else
                                              obind (laws_markTransmission.f k (v7, 1)) fun v16 =>
                                                obind
                                                  (laws_heldTransmission.f k
                                                    (((v7.fst.fst,
                                                          (v7.fst.snd.fst.fst, v7.fst.snd.fst.snd.fst,
                                                            v7.fst.snd.fst.snd.snd.fst, v16.snd.fst.snd.fst.snd.snd.snd),
                                                          v7.fst.snd.snd.fst, v7.fst.snd.snd.snd.fst,
                                                          v7.fst.snd.snd.snd.snd.fst, v7.fst.snd.snd.snd.snd.snd.fst,
                                                          v7.fst.snd.snd.snd.snd.snd.snd.fst,
                                                          v7.fst.snd.snd.snd.snd.snd.snd.snd.fst,
                                                          v7.fst.snd.snd.snd.snd.snd.snd.snd.snd.fst,
                                                          v7.fst.snd.snd.snd.snd.snd.snd.snd.snd.snd.fst,
                                                          v7.fst.snd.snd.snd.snd.snd.snd.snd.snd.snd.snd.fst,
                                                          v16.snd.fst.snd.snd.snd.snd.snd.snd.snd.snd.snd.snd.snd.fst,
                                                          (v7.fst.snd.snd.snd.snd.snd.snd.snd.snd.snd.snd.snd.snd.fst.fst,
                                                            v16.snd.fst.snd.snd.snd.snd.snd.snd.snd.snd.snd.snd.snd.snd.fst.snd),
                                                          v7.fst.snd.snd.snd.snd.snd.snd.snd.snd.snd.snd.snd.snd.snd),
                                                        (v7.snd.fst.fst, v7.snd.fst.snd.fst, v7.snd.fst.snd.snd.fst,
                                                          v16.snd.snd.fst.snd.snd.snd),
                                                        v16.snd.snd.snd),
                                                      1))
                                                  fun v17 =>
                                                  bif ilt v17 0 then some false
                                                  else
                                                    bif ine v17 v16.fst then some false
                                                    else
                                                      obind (laws_toSession.f k x.fst) fun v18 =>
                                                        obind (laws_toAccount.f k x.snd) fun v19 =>
                                                          obind (impl_SendNew.f k (v18, v19)) fun v20 =>
                                                            obind (laws_eqTransmission.f k (v20, v4)) fun v21 =>
                                                              bif dnot v21 then some false
                                                              else
                                                                obind
                                                                  (laws_heldTransmission.f k
                                                                    (((v7.fst.fst,
                                                                          (v7.fst.snd.fst.fst, v7.fst.snd.fst.snd.fst,
                                                                            v7.fst.snd.fst.snd.snd.fst,
                                                                            v16.snd.fst.snd.fst.snd.snd.snd),
                                                                          v7.fst.snd.snd.fst, v7.fst.snd.snd.snd.fst,
                                                                          v7.fst.snd.snd.snd.snd.fst,
                                                                          v7.fst.snd.snd.snd.snd.snd.fst,
                                                                          v7.fst.snd.snd.snd.snd.snd.snd.fst,
                                                                          v7.fst.snd.snd.snd.snd.snd.snd.snd.fst,
                                                                          v7.fst.snd.snd.snd.snd.snd.snd.snd.snd.fst,
                                                                          v7.fst.snd.snd.snd.snd.snd.snd.snd.snd.snd.fst,
                                                                          v7.fst.snd.snd.snd.snd.snd.snd.snd.snd.snd.snd.fst,
                                                                          v16.snd.fst.snd.snd.snd.snd.snd.snd.snd.snd.snd.snd.snd.fst,
                                                                          (v7.fst.snd.snd.snd.snd.snd.snd.snd.snd.snd.snd.snd.snd.fst.fst,
                                                                            v16.snd.fst.snd.snd.snd.snd.snd.snd.snd.snd.snd.snd.snd.snd.fst.snd),
                                                                          v7.fst.snd.snd.snd.snd.snd.snd.snd.snd.snd.snd.snd.snd.snd),
                                                                        (v7.snd.fst.fst, v7.snd.fst.snd.fst,
                                                                          v7.snd.fst.snd.snd.fst,
                                                                          v16.snd.snd.fst.snd.snd.snd),
                                                                        v16.snd.snd.snd),
                                                                      1))
                                                                  fun v22 =>
                                                                  bif ilt v22 0 then some false
                                                                  else bif ine v22 v16.fst then some false else some true

end Go.Proofs.XF
/- Plain laws: what the laws' own functions (to, eq, sz, mark, held) do, for every kind of data at once. -/
set_option linter.unusedVariables false
set_option linter.unusedSimpArgs false
namespace Go.Proofs.XF
open Go Go.Proofs.XTv

theorem lset_lset {α : Type} (l : List α) (i : Int) (v w : α) : lset (lset l i v) i w = lset l i w := by simp [lset]
theorem llen_lset {α : Type} (l : List α) (i : Int) (v : α) : llen (lset l i v) = llen l := by simp [lset, llen]
theorem lget_lset {e : Ty} (l : List e.den) {i : Nat} (h : i < l.length) (v : e.den) : lget e (lset l (i : Int) v) (i : Int) = v := by simp [lget, lset, h]

/-- An element, all its numbers marked. -/
def mkE : (t : Ty) → t.den → Nat → t.den × Nat
  | .int .i64, _, n => ((n : Int), n + 1)
  | .int k, _, n => (k.wrap (n : Int), n + 1)
  | .bool, _, n => (ieq (irem .i64 (n : Int) 3) 0, n + 1)
  | .str, x, n => (x, n)
  | .sl e, xs, n => mkL (mkE e) xs n
  | .unit, x, n => (x, n)
  | .pair a b, x, n => (((mkE a x.1 n).1, (mkE b x.2 (mkE a x.1 n).2).1), (mkE b x.2 (mkE a x.1 n).2).2)
/-- A datum that was handed over by value: what its slices hold is marked. -/
def mkTop : (t : Ty) → t.den → Nat → t.den × Nat
  | .int _, x, n => (x, n)
  | .bool, x, n => (x, n)
  | .str, x, n => (x, n)
  | .sl e, xs, n => mkL (mkE e) xs n
  | .unit, x, n => (x, n)
  | .pair a b, x, n => (((mkTop a x.1 n).1, (mkTop b x.2 (mkTop a x.1 n).2).1), (mkTop b x.2 (mkTop a x.1 n).2).2)
def cE : (t : Ty) → t.den → Nat
  | .int _, _ => 1
  | .bool, _ => 1
  | .str, _ => 0
  | .sl e, xs => (List.map (cE e) xs).sum
  | .unit, _ => 0
  | .pair a b, x => cE a x.1 + cE b x.2
def cTop : (t : Ty) → t.den → Nat
  | .sl e, xs => (List.map (cE e) xs).sum
  | .pair a b, x => cTop a x.1 + cTop b x.2
  | _, _ => 0
theorem mkL_eq {α : Type} (m : α → Nat → α × Nat) (c : α → Nat) : ∀ (xs : List α), (∀ x ∈ xs, ∀ n, (m x n).2 = n + c x) → ∀ n, (mkL m xs n).2 = n + (xs.map c).sum
  | [], _, n => rfl
  | x :: xs, h, n => by
    have h1 := h x (List.mem_cons_self ..) n
    have h2 := mkL_eq m c xs (fun y hy => h y (List.mem_cons_of_mem _ hy)) (m x n).2
    simp only [mkL, List.map_cons, List.sum_cons]
    omega
theorem mkE_n : ∀ (t : Ty) (x : t.den) (n : Nat), (mkE t x n).2 = n + cE t x
  | .int k, _, _ => by cases k <;> rfl
  | .bool, _, _ => rfl
  | .str, _, _ => rfl
  | .unit, _, _ => rfl
  | .sl e, xs, n => mkL_eq _ _ xs (fun x _ n => mkE_n e x n) n
  | .pair a b, x, n => by
    have h1 := mkE_n a x.1 n
    have h2 := mkE_n b x.2 (mkE a x.1 n).2
    simp only [mkE, cE]
    omega
theorem mkTop_n : ∀ (t : Ty) (x : t.den) (n : Nat), (mkTop t x n).2 = n + cTop t x
  | .int _, _, _ => rfl
  | .bool, _, _ => rfl
  | .str, _, _ => rfl
  | .unit, _, _ => rfl
  | .sl e, xs, n => mkL_eq _ _ xs (fun x _ n => mkE_n e x n) n
  | .pair a b, x, n => by
    have h1 := mkTop_n a x.1 n
    have h2 := mkTop_n b x.2 (mkTop a x.1 n).2
    simp only [mkTop, cTop]
    omega
/-- The elements' own numbers, at the most. -/
def elMax : Ty → Nat
  | .sl e => max e.size (elMax e)
  | .pair a b => max (elMax a) (elMax b)
  | _ => 0
theorem cE_le : ∀ (t : Ty) (x : t.den) (M : Nat), elMax t ≤ M → cE t x ≤ t.size + M * cnt t x
  | .int _, _, _, _ => by simp [cE, Ty.size]
  | .bool, _, _, _ => by simp [cE, Ty.size]
  | .str, _, _, _ => by simp [cE, Ty.size]
  | .unit, _, _, _ => by simp [cE, Ty.size]
  | .sl e, xs, M, h => by
    simp only [elMax] at h
    have key : ∀ l : List e.den, (l.map (cE e)).sum ≤ M * (l.length + (l.map (cnt e)).sum) := by
      intro l
      induction l with
      | nil => simp
      | cons y l ih =>
        have h1 := cE_le e y M (by omega)
        have h2 : e.size ≤ M := by omega
        simp only [List.map_cons, List.sum_cons, List.length_cons]
        have : M * (l.length + 1 + (cnt e y + (l.map (cnt e)).sum)) = M + M * cnt e y + M * (l.length + (l.map (cnt e)).sum) := by
          simp only [Nat.mul_add, Nat.mul_one]; omega
        omega
    have := key xs
    simp only [cE, cnt]
    omega
  | .pair a b, x, M, h => by
    simp only [elMax] at h
    have h1 := cE_le a x.1 M (by omega)
    have h2 := cE_le b x.2 M (by omega)
    simp only [cE, cnt, Ty.size, Nat.mul_add]
    omega
theorem cTop_le : ∀ (t : Ty) (x : t.den) (M : Nat), elMax t ≤ M → cTop t x ≤ M * cnt t x
  | .int _, _, _, _ => by simp [cTop]
  | .bool, _, _, _ => by simp [cTop]
  | .str, _, _, _ => by simp [cTop]
  | .unit, _, _, _ => by simp [cTop]
  | .sl e, xs, M, h => by
    simp only [elMax] at h
    have key : ∀ l : List e.den, (l.map (cE e)).sum ≤ M * (l.length + (l.map (cnt e)).sum) := by
      intro l
      induction l with
      | nil => simp
      | cons y l ih =>
        have h1 := cE_le e y M (by omega)
        have h2 : e.size ≤ M := by omega
        simp only [List.map_cons, List.sum_cons, List.length_cons]
        have : M * (l.length + 1 + (cnt e y + (l.map (cnt e)).sum)) = M + M * cnt e y + M * (l.length + (l.map (cnt e)).sum) := by
          simp only [Nat.mul_add, Nat.mul_one]; omega
        omega
    have := key xs
    simp only [cTop, cnt]
    omega
  | .pair a b, x, M, h => by
    simp only [elMax] at h
    have h1 := cTop_le a x.1 M (by omega)
    have h2 := cTop_le b x.2 M (by omega)
    simp only [cTop, cnt, Nat.mul_add]
    omega
/-- A datum with few places is no great one. -/
theorem ok_of_cnt : ∀ (t : Ty) (x : t.den), Good' t x → cnt t x ≤ 4294967296 → Ok t x
  | .int _, _, h, _ => h
  | .bool, _, _, _ => trivial
  | .str, _, h, _ => h
  | .unit, _, _, _ => trivial
  | .sl e, xs, h, hc => by
    simp only [cnt] at hc
    refine ⟨by show List.length xs ≤ _; omega, fun y hy => ok_of_cnt e y (h.2 y hy) ?_⟩
    have : ∀ {l : List e.den}, y ∈ l → cnt e y ≤ (l.map (cnt e)).sum := by
      intro l
      induction l with
      | nil => intro h; cases h
      | cons z l ih =>
        intro h
        simp only [List.map_cons, List.sum_cons]
        rcases List.mem_cons.1 h with rfl | h
        · omega
        · have := ih h; omega
    have := this hy
    omega
  | .pair a b, x, h, hc => by
    simp only [cnt] at hc
    exact ⟨ok_of_cnt a x.1 h.1 (by omega), ok_of_cnt b x.2 h.2 (by omega)⟩

theorem sz_seq {a b : Nat} {L : Int} (h0 : 0 ≤ L) {f : Int → Option Int} (hf : ∀ M, 0 ≤ M → M ≤ L → f M = some (if (b : Int) ≤ M then M - b else -1)) :
    (obind (some (if (a : Int) ≤ L then L - a else -1)) fun v => bif ilt v 0 then some (-1) else f v) = some (if ((a + b : Nat) : Int) ≤ L then L - (a + b : Nat) else -1) := by
  rw [ob_some]
  by_cases h : (a : Int) ≤ L
  · rw [if_pos h, ilt_f (by omega), cond_false, hf _ (by omega) (by omega)]
    by_cases h2 : (b : Int) ≤ L - a
    · rw [if_pos h2, if_pos (by omega)]; congr 1; omega
    · rw [if_neg h2, if_neg (by omega)]
  · rw [if_neg h, ilt_t (by omega), cond_true, if_neg (by omega)]
theorem sz_end {a : Nat} {L : Int} (h0 : 0 ≤ L) : (obind (some (if (a : Int) ≤ L then L - a else -1)) fun v => bif ilt v 0 then some (-1) else some v) = some (if (a : Int) ≤ L then L - a else -1) := by
  rw [ob_some]
  by_cases h : (a : Int) ≤ L
  · rw [if_pos h, ilt_f (by omega), cond_false]
  · rw [if_neg h, ilt_t (by omega), cond_true]
theorem sum_zero {α : Type} : ∀ l : List α, (List.map (fun _ => 0) l).sum = 0
  | [] => rfl
  | _ :: l => by rw [List.map_cons, List.sum_cons, sum_zero l]
theorem ilt_nn (n : Nat) : ilt (n : Int) 0 = false := ilt_f (by omega)
theorem mkLE_n (e : Ty) (xs : List e.den) (n : Nat) : (mkL (mkE e) xs n).2 = n + (xs.map (cE e)).sum := mkL_eq _ _ _ (fun x _ n => mkE_n e x n) n
theorem held_seq {n : Nat} {f : Int → Option Int} : (obind (some (n : Int)) fun v => bif ilt v 0 then some (-1) else f v) = f n := by
  rw [ob_some, ilt_f (by omega), cond_false]
/-! ### The chain of a law -/
theorem ob_of {α β : Type} {m : Option α} {v : α} (h : m = some v) {f : α → Option β} {r : Option β} (hf : f v = r) : obind m f = r := by rw [h]; exact hf
theorem bif_t {α : Type} {c : Bool} (hc : c = true) {a b r : α} (h : a = r) : (bif c then a else b) = r := by rw [hc]; exact h
theorem bif_f {α : Type} {c : Bool} (hc : c = false) {a b r : α} (h : b = r) : (bif c then a else b) = r := by rw [hc]; exact h
theorem ob_bif {α β : Type} {c : Bool} (hc : c = true) {m m2 : Option α} {v : α} (h : m = some v) {f : α → Option β} {r : Option β} (hf : f v = r) : obind (bif c then m else m2) f = r := by rw [hc, cond_true, h]; exact hf
theorem law_sz {c : Nat} {L : Int} (h0 : 0 ≤ L) {m : Option Int} (hm : m = some (if (c : Int) ≤ L then L - c else -1)) {f : Int → Option Bool} (hf : (c : Int) ≤ L → f (L - c) = some true) :
    (obind m fun v => bif ilt v 0 then some true else f v) = some true := by
  rw [hm, ob_some]
  by_cases h : (c : Int) ≤ L
  · rw [if_pos h, ilt_f (by omega), cond_false]; exact hf h
  · rw [if_neg h, ilt_t (by omega), cond_true]
end Go.Proofs.XF
/- The laws' own functions: what they do to each kind of data. -/
set_option linter.unusedVariables false
set_option linter.unusedSimpArgs false
set_option maxRecDepth 4000
namespace Go.Proofs.XF
open Go Go.Proofs.XTv
theorem toReservation {k : Nat} (hk : FU ≤ k) {x : (TSubscriberID : Ty).den} (h : Ok TSubscriberID x) : laws_toReservation.f k x = some x := by
  unfold laws_toReservation.f
  rfl
theorem toReservationS {k : Nat} (hk : FU ≤ k) {x : ((.sl TSubscriberID) : Ty).den} (h : Ok (.sl TSubscriberID) x) : laws_toReservationS.f k x = some x := by
  have hl := ok_len h
  unfold laws_toReservationS.f
  rw [make_len (by omega), cond_true, to_loop hk (e := TSubscriberID) (s := (laws_toReservationS.s0 k)) (ok_len h) (fun i acc hi hl => by
    have hi' : i < acc.length := hl ▸ hi
    simp only [laws_toReservationS.s0, ilt_len, idx_len, decide_eq_true hi, decide_eq_true hi', cond_true, lget_nat _ hi, toReservation hk (ok_get h hi), ob_some, lset_nat, iadd_nat (show i < 9223372036854775807 by omega)]) (fun acc => by
    simp only [laws_toReservationS.s0, ilt_len, Nat.lt_irrefl, decide_false, cond_false]), ob_some]
theorem toAccount {k : Nat} (hk : FU ≤ k) {x : (TAccount : Ty).den} (h : Ok TAccount x) : laws_toAccount.f k x = some x := by
  have e0 := toReservationS hk (x := x.2.2.2) h.2.2.2
  unfold laws_toAccount.f
  simp only [e0, ob_some]
theorem toAuthVector {k : Nat} (hk : FU ≤ k) {x : (TAuthVector : Ty).den} (h : Ok TAuthVector x) : laws_toAuthVector.f k x = some x := by
  unfold laws_toAuthVector.f
  rfl
theorem toByteS {k : Nat} (hk : FU ≤ k) {x : ((.sl (.int .u8)) : Ty).den} (h : Ok (.sl (.int .u8)) x) : laws_toByteS.f k x = some x := by
  have hl := ok_len h
  unfold laws_toByteS.f
  rw [make_len (by omega), cond_true, to_loop hk (e := (.int .u8)) (s := laws_toByteS.s0) (ok_len h) (fun i acc hi hl => by
    have hi' : i < acc.length := hl ▸ hi
    simp only [laws_toByteS.s0, ilt_len, idx_len, decide_eq_true hi, decide_eq_true hi', cond_true, lget_nat _ hi, ob_some, lset_nat, iadd_nat (show i < 9223372036854775807 by omega)]) (fun acc => by
    simp only [laws_toByteS.s0, ilt_len, Nat.lt_irrefl, decide_false, cond_false]), ob_some]
theorem toSubscriberID {k : Nat} (hk : FU ≤ k) {x : (TSubscriberID : Ty).den} (h : Ok TSubscriberID x) : laws_toSubscriberID.f k x = some x := by
  unfold laws_toSubscriberID.f
  rfl
theorem toPayload {k : Nat} (hk : FU ≤ k) {x : ((.sl (.int .u8)) : Ty).den} (h : Ok (.sl (.int .u8)) x) : laws_toPayload.f k x = some x := by
  have e0 := toByteS hk (x := x) h
  unfold laws_toPayload.f
  simp only [e0, ob_some]
theorem toPayloadS {k : Nat} (hk : FU ≤ k) {x : ((.sl (.sl (.int .u8))) : Ty).den} (h : Ok (.sl (.sl (.int .u8))) x) : laws_toPayloadS.f k x = some x := by
  have hl := ok_len h
  unfold laws_toPayloadS.f
  rw [make_len (by omega), cond_true, to_loop hk (e := (.sl (.int .u8))) (s := (laws_toPayloadS.s0 k)) (ok_len h) (fun i acc hi hl => by
    have hi' : i < acc.length := hl ▸ hi
    simp only [laws_toPayloadS.s0, ilt_len, idx_len, decide_eq_true hi, decide_eq_true hi', cond_true, lget_nat _ hi, toPayload hk (ok_get h hi), ob_some, lset_nat, iadd_nat (show i < 9223372036854775807 by omega)]) (fun acc => by
    simp only [laws_toPayloadS.s0, ilt_len, Nat.lt_irrefl, decide_false, cond_false]), ob_some]
theorem toNumberedPacket {k : Nat} (hk : FU ≤ k) {x : (TNumberedPacket : Ty).den} (h : Ok TNumberedPacket x) : laws_toNumberedPacket.f k x = some x := by
  have e0 := toByteS hk (x := x.2) h.2
  unfold laws_toNumberedPacket.f
  simp only [e0, ob_some]
theorem toNumberedPacketS {k : Nat} (hk : FU ≤ k) {x : ((.sl TNumberedPacket) : Ty).den} (h : Ok (.sl TNumberedPacket) x) : laws_toNumberedPacketS.f k x = some x := by
  have hl := ok_len h
  unfold laws_toNumberedPacketS.f
  rw [make_len (by omega), cond_true, to_loop hk (e := TNumberedPacket) (s := (laws_toNumberedPacketS.s0 k)) (ok_len h) (fun i acc hi hl => by
    have hi' : i < acc.length := hl ▸ hi
    simp only [laws_toNumberedPacketS.s0, ilt_len, idx_len, decide_eq_true hi, decide_eq_true hi', cond_true, lget_nat _ hi, toNumberedPacket hk (ok_get h hi), ob_some, lset_nat, iadd_nat (show i < 9223372036854775807 by omega)]) (fun acc => by
    simp only [laws_toNumberedPacketS.s0, ilt_len, Nat.lt_irrefl, decide_false, cond_false]), ob_some]
theorem toIntS {k : Nat} (hk : FU ≤ k) {x : ((.sl (.int .i64)) : Ty).den} (h : Ok (.sl (.int .i64)) x) : laws_toIntS.f k x = some x := by
  have hl := ok_len h
  unfold laws_toIntS.f
  rw [make_len (by omega), cond_true, to_loop hk (e := (.int .i64)) (s := laws_toIntS.s0) (ok_len h) (fun i acc hi hl => by
    have hi' : i < acc.length := hl ▸ hi
    simp only [laws_toIntS.s0, ilt_len, idx_len, decide_eq_true hi, decide_eq_true hi', cond_true, lget_nat _ hi, ob_some, lset_nat, iadd_nat (show i < 9223372036854775807 by omega)]) (fun acc => by
    simp only [laws_toIntS.s0, ilt_len, Nat.lt_irrefl, decide_false, cond_false]), ob_some]
theorem toPagingState {k : Nat} (hk : FU ≤ k) {x : (TQuota : Ty).den} (h : Ok TQuota x) : laws_toPagingState.f k x = some x := by
  unfold laws_toPagingState.f
  rfl
theorem toQuota {k : Nat} (hk : FU ≤ k) {x : (TQuota : Ty).den} (h : Ok TQuota x) : laws_toQuota.f k x = some x := by
  unfold laws_toQuota.f
  rfl
theorem toSendWindow {k : Nat} (hk : FU ≤ k) {x : (TSendWindow : Ty).den} (h : Ok TSendWindow x) : laws_toSendWindow.f k x = some x := by
  have e0 := toNumberedPacketS hk (x := x.2) h.2
  unfold laws_toSendWindow.f
  simp only [e0, ob_some]
theorem toSubscriberRecord {k : Nat} (hk : FU ≤ k) {x : (TUSIM : Ty).den} (h : Ok TUSIM x) : laws_toSubscriberRecord.f k x = some x := by
  have e0 := toSubscriberID hk (x := x.1) h.1
  unfold laws_toSubscriberRecord.f
  simp only [e0, ob_some]
theorem toSubscription {k : Nat} (hk : FU ≤ k) {x : (TSubscription : Ty).den} (h : Ok TSubscription x) : laws_toSubscription.f k x = some x := by
  have e0 := toIntS hk (x := x.2.2.2) h.2.2.2
  unfold laws_toSubscription.f
  simp only [e0, ob_some]
theorem toSession {k : Nat} (hk : FU ≤ k) {x : (TSession : Ty).den} (h : Ok TSession x) : laws_toSession.f k x = some x := by
  have e0 := toSubscriberRecord hk (x := x.1) h.1
  have e1 := toSubscription hk (x := x.2.1) h.2.1
  have e2 := toAuthVector hk (x := x.2.2.2.1) h.2.2.2.1
  have e3 := toPagingState hk (x := x.2.2.2.2.2.2.2.2.2.2.1) h.2.2.2.2.2.2.2.2.2.2.1
  have e4 := toPayloadS hk (x := x.2.2.2.2.2.2.2.2.2.2.2.1) h.2.2.2.2.2.2.2.2.2.2.2.1
  have e5 := toSendWindow hk (x := x.2.2.2.2.2.2.2.2.2.2.2.2.1) h.2.2.2.2.2.2.2.2.2.2.2.2.1
  have e6 := toQuota hk (x := x.2.2.2.2.2.2.2.2.2.2.2.2.2.2) h.2.2.2.2.2.2.2.2.2.2.2.2.2.2
  unfold laws_toSession.f
  simp only [e0, e1, e2, e3, e4, e5, e6, ob_some]
theorem eqReservation {k : Nat} (hk : FU ≤ k) {x : (TSubscriberID : Ty).den} (h : Ok TSubscriberID x) : laws_eqReservation.f k (x, x) = some true := by
  unfold laws_eqReservation.f
  simp only [ob_some, cond_true, cond_false, dnot_t, dnot_f, ine_self, bne_self, seq_self, ilt_nn]
theorem eqReservationS {k : Nat} (hk : FU ≤ k) {x : ((.sl TSubscriberID) : Ty).den} (h : Ok (.sl TSubscriberID) x) : laws_eqReservationS.f k (x, x) = some true := by
  have hl := ok_len h
  unfold laws_eqReservationS.f
  simp only [ine_self, cond_false]
  rw [eq_loop hk (e := TSubscriberID) (s := (laws_eqReservationS.s0 k)) (ok_len h) (fun i hi => by
    simp only [laws_eqReservationS.s0, ilt_len, idx_len, decide_eq_true hi, lget_nat _ hi, iadd_nat (show i < 9223372036854775807 by omega), eqReservation hk (ok_get h hi), ob_some, cond_true, cond_false, dnot_t, dnot_f, ine_self, bne_self, seq_self, ilt_nn]) (by
    simp only [laws_eqReservationS.s0, ilt_len, Nat.lt_irrefl, decide_false, cond_false])]
  rfl
theorem eqAccount {k : Nat} (hk : FU ≤ k) {x : (TAccount : Ty).den} (h : Ok TAccount x) : laws_eqAccount.f k (x, x) = some true := by
  have e0 := eqReservationS hk (x := x.2.2.2) h.2.2.2
  unfold laws_eqAccount.f
  simp only [e0, ob_some, cond_true, cond_false, dnot_t, dnot_f, ine_self, bne_self, seq_self, ilt_nn]
theorem eqAuthVector {k : Nat} (hk : FU ≤ k) {x : (TAuthVector : Ty).den} (h : Ok TAuthVector x) : laws_eqAuthVector.f k (x, x) = some true := by
  unfold laws_eqAuthVector.f
  simp only [ob_some, cond_true, cond_false, dnot_t, dnot_f, ine_self, bne_self, seq_self, ilt_nn]
theorem eqByteS {k : Nat} (hk : FU ≤ k) {x : ((.sl (.int .u8)) : Ty).den} (h : Ok (.sl (.int .u8)) x) : laws_eqByteS.f k (x, x) = some true := by
  have hl := ok_len h
  unfold laws_eqByteS.f
  simp only [ine_self, cond_false]
  rw [eq_loop hk (e := (.int .u8)) (s := laws_eqByteS.s0) (ok_len h) (fun i hi => by
    simp only [laws_eqByteS.s0, ilt_len, idx_len, decide_eq_true hi, lget_nat _ hi, iadd_nat (show i < 9223372036854775807 by omega), ob_some, cond_true, cond_false, dnot_t, dnot_f, ine_self, bne_self, seq_self, ilt_nn]) (by
    simp only [laws_eqByteS.s0, ilt_len, Nat.lt_irrefl, decide_false, cond_false])]
  rfl
theorem eqSubscriberID {k : Nat} (hk : FU ≤ k) {x : (TSubscriberID : Ty).den} (h : Ok TSubscriberID x) : laws_eqSubscriberID.f k (x, x) = some true := by
  unfold laws_eqSubscriberID.f
  simp only [ob_some, cond_true, cond_false, dnot_t, dnot_f, ine_self, bne_self, seq_self, ilt_nn]
theorem eqPayload {k : Nat} (hk : FU ≤ k) {x : ((.sl (.int .u8)) : Ty).den} (h : Ok (.sl (.int .u8)) x) : laws_eqPayload.f k (x, x) = some true := by
  have e0 := eqByteS hk (x := x) h
  unfold laws_eqPayload.f
  simp only [e0, ob_some, cond_true, cond_false, dnot_t, dnot_f, ine_self, bne_self, seq_self, ilt_nn]
theorem eqPayloadS {k : Nat} (hk : FU ≤ k) {x : ((.sl (.sl (.int .u8))) : Ty).den} (h : Ok (.sl (.sl (.int .u8))) x) : laws_eqPayloadS.f k (x, x) = some true := by
  have hl := ok_len h
  unfold laws_eqPayloadS.f
  simp only [ine_self, cond_false]
  rw [eq_loop hk (e := (.sl (.int .u8))) (s := (laws_eqPayloadS.s0 k)) (ok_len h) (fun i hi => by
    simp only [laws_eqPayloadS.s0, ilt_len, idx_len, decide_eq_true hi, lget_nat _ hi, iadd_nat (show i < 9223372036854775807 by omega), eqPayload hk (ok_get h hi), ob_some, cond_true, cond_false, dnot_t, dnot_f, ine_self, bne_self, seq_self, ilt_nn]) (by
    simp only [laws_eqPayloadS.s0, ilt_len, Nat.lt_irrefl, decide_false, cond_false])]
  rfl
theorem eqNumberedPacket {k : Nat} (hk : FU ≤ k) {x : (TNumberedPacket : Ty).den} (h : Ok TNumberedPacket x) : laws_eqNumberedPacket.f k (x, x) = some true := by
  have e0 := eqByteS hk (x := x.2) h.2
  unfold laws_eqNumberedPacket.f
  simp only [e0, ob_some, cond_true, cond_false, dnot_t, dnot_f, ine_self, bne_self, seq_self, ilt_nn]
theorem eqNumberedPacketS {k : Nat} (hk : FU ≤ k) {x : ((.sl TNumberedPacket) : Ty).den} (h : Ok (.sl TNumberedPacket) x) : laws_eqNumberedPacketS.f k (x, x) = some true := by
  have hl := ok_len h
  unfold laws_eqNumberedPacketS.f
  simp only [ine_self, cond_false]
  rw [eq_loop hk (e := TNumberedPacket) (s := (laws_eqNumberedPacketS.s0 k)) (ok_len h) (fun i hi => by
    simp only [laws_eqNumberedPacketS.s0, ilt_len, idx_len, decide_eq_true hi, lget_nat _ hi, iadd_nat (show i < 9223372036854775807 by omega), eqNumberedPacket hk (ok_get h hi), ob_some, cond_true, cond_false, dnot_t, dnot_f, ine_self, bne_self, seq_self, ilt_nn]) (by
    simp only [laws_eqNumberedPacketS.s0, ilt_len, Nat.lt_irrefl, decide_false, cond_false])]
  rfl
theorem eqSignal {k : Nat} (hk : FU ≤ k) {x : (TSignal : Ty).den} (h : Ok TSignal x) : laws_eqSignal.f k (x, x) = some true := by
  have e0 := eqAuthVector hk (x := x.2.2.2.2.2.1) h.2.2.2.2.2.1
  unfold laws_eqSignal.f
  simp only [e0, ob_some, cond_true, cond_false, dnot_t, dnot_f, ine_self, bne_self, seq_self, ilt_nn]
theorem eqSignalS {k : Nat} (hk : FU ≤ k) {x : ((.sl TSignal) : Ty).den} (h : Ok (.sl TSignal) x) : laws_eqSignalS.f k (x, x) = some true := by
  have hl := ok_len h
  unfold laws_eqSignalS.f
  simp only [ine_self, cond_false]
  rw [eq_loop hk (e := TSignal) (s := (laws_eqSignalS.s0 k)) (ok_len h) (fun i hi => by
    simp only [laws_eqSignalS.s0, ilt_len, idx_len, decide_eq_true hi, lget_nat _ hi, iadd_nat (show i < 9223372036854775807 by omega), eqSignal hk (ok_get h hi), ob_some, cond_true, cond_false, dnot_t, dnot_f, ine_self, bne_self, seq_self, ilt_nn]) (by
    simp only [laws_eqSignalS.s0, ilt_len, Nat.lt_irrefl, decide_false, cond_false])]
  rfl
theorem eqIntS {k : Nat} (hk : FU ≤ k) {x : ((.sl (.int .i64)) : Ty).den} (h : Ok (.sl (.int .i64)) x) : laws_eqIntS.f k (x, x) = some true := by
  have hl := ok_len h
  unfold laws_eqIntS.f
  simp only [ine_self, cond_false]
  rw [eq_loop hk (e := (.int .i64)) (s := laws_eqIntS.s0) (ok_len h) (fun i hi => by
    simp only [laws_eqIntS.s0, ilt_len, idx_len, decide_eq_true hi, lget_nat _ hi, iadd_nat (show i < 9223372036854775807 by omega), ob_some, cond_true, cond_false, dnot_t, dnot_f, ine_self, bne_self, seq_self, ilt_nn]) (by
    simp only [laws_eqIntS.s0, ilt_len, Nat.lt_irrefl, decide_false, cond_false])]
  rfl
theorem eqPagingState {k : Nat} (hk : FU ≤ k) {x : (TQuota : Ty).den} (h : Ok TQuota x) : laws_eqPagingState.f k (x, x) = some true := by
  unfold laws_eqPagingState.f
  simp only [ob_some, cond_true, cond_false, dnot_t, dnot_f, ine_self, bne_self, seq_self, ilt_nn]
theorem eqQuota {k : Nat} (hk : FU ≤ k) {x : (TQuota : Ty).den} (h : Ok TQuota x) : laws_eqQuota.f k (x, x) = some true := by
  unfold laws_eqQuota.f
  simp only [ob_some, cond_true, cond_false, dnot_t, dnot_f, ine_self, bne_self, seq_self, ilt_nn]
theorem eqSecuredMessage {k : Nat} (hk : FU ≤ k) {x : (TSecuredMessage : Ty).den} (h : Ok TSecuredMessage x) : laws_eqSecuredMessage.f k (x, x) = some true := by
  have e0 := eqByteS hk (x := x.2.2.1) h.2.2.1
  unfold laws_eqSecuredMessage.f
  simp only [e0, ob_some, cond_true, cond_false, dnot_t, dnot_f, ine_self, bne_self, seq_self, ilt_nn]
theorem eqRadioPacket {k : Nat} (hk : FU ≤ k) {x : (TRadioPacket : Ty).den} (h : Ok TRadioPacket x) : laws_eqRadioPacket.f k (x, x) = some true := by
  have e0 := eqSecuredMessage hk (x := x.2.2) h.2.2
  unfold laws_eqRadioPacket.f
  simp only [e0, ob_some, cond_true, cond_false, dnot_t, dnot_f, ine_self, bne_self, seq_self, ilt_nn]
theorem eqRadioPacketS {k : Nat} (hk : FU ≤ k) {x : ((.sl TRadioPacket) : Ty).den} (h : Ok (.sl TRadioPacket) x) : laws_eqRadioPacketS.f k (x, x) = some true := by
  have hl := ok_len h
  unfold laws_eqRadioPacketS.f
  simp only [ine_self, cond_false]
  rw [eq_loop hk (e := TRadioPacket) (s := (laws_eqRadioPacketS.s0 k)) (ok_len h) (fun i hi => by
    simp only [laws_eqRadioPacketS.s0, ilt_len, idx_len, decide_eq_true hi, lget_nat _ hi, iadd_nat (show i < 9223372036854775807 by omega), eqRadioPacket hk (ok_get h hi), ob_some, cond_true, cond_false, dnot_t, dnot_f, ine_self, bne_self, seq_self, ilt_nn]) (by
    simp only [laws_eqRadioPacketS.s0, ilt_len, Nat.lt_irrefl, decide_false, cond_false])]
  rfl
theorem eqSendWindow {k : Nat} (hk : FU ≤ k) {x : (TSendWindow : Ty).den} (h : Ok TSendWindow x) : laws_eqSendWindow.f k (x, x) = some true := by
  have e0 := eqNumberedPacketS hk (x := x.2) h.2
  unfold laws_eqSendWindow.f
  simp only [e0, ob_some, cond_true, cond_false, dnot_t, dnot_f, ine_self, bne_self, seq_self, ilt_nn]
theorem eqSubscriberRecord {k : Nat} (hk : FU ≤ k) {x : (TUSIM : Ty).den} (h : Ok TUSIM x) : laws_eqSubscriberRecord.f k (x, x) = some true := by
  have e0 := eqSubscriberID hk (x := x.1) h.1
  unfold laws_eqSubscriberRecord.f
  simp only [e0, ob_some, cond_true, cond_false, dnot_t, dnot_f, ine_self, bne_self, seq_self, ilt_nn]
theorem eqSubscription {k : Nat} (hk : FU ≤ k) {x : (TSubscription : Ty).den} (h : Ok TSubscription x) : laws_eqSubscription.f k (x, x) = some true := by
  have e0 := eqIntS hk (x := x.2.2.2) h.2.2.2
  unfold laws_eqSubscription.f
  simp only [e0, ob_some, cond_true, cond_false, dnot_t, dnot_f, ine_self, bne_self, seq_self, ilt_nn]
theorem eqSession {k : Nat} (hk : FU ≤ k) {x : (TSession : Ty).den} (h : Ok TSession x) : laws_eqSession.f k (x, x) = some true := by
  have e0 := eqSubscriberRecord hk (x := x.1) h.1
  have e1 := eqSubscription hk (x := x.2.1) h.2.1
  have e2 := eqAuthVector hk (x := x.2.2.2.1) h.2.2.2.1
  have e3 := eqPagingState hk (x := x.2.2.2.2.2.2.2.2.2.2.1) h.2.2.2.2.2.2.2.2.2.2.1
  have e4 := eqPayloadS hk (x := x.2.2.2.2.2.2.2.2.2.2.2.1) h.2.2.2.2.2.2.2.2.2.2.2.1
  have e5 := eqSendWindow hk (x := x.2.2.2.2.2.2.2.2.2.2.2.2.1) h.2.2.2.2.2.2.2.2.2.2.2.2.1
  have e6 := eqQuota hk (x := x.2.2.2.2.2.2.2.2.2.2.2.2.2.2) h.2.2.2.2.2.2.2.2.2.2.2.2.2.2
  unfold laws_eqSession.f
  simp only [e0, e1, e2, e3, e4, e5, e6, ob_some, cond_true, cond_false, dnot_t, dnot_f, ine_self, bne_self, seq_self, ilt_nn]
theorem eqTransmission {k : Nat} (hk : FU ≤ k) {x : (TTransmission : Ty).den} (h : Ok TTransmission x) : laws_eqTransmission.f k (x, x) = some true := by
  have e0 := eqSession hk (x := x.1) h.1
  have e1 := eqAccount hk (x := x.2.1) h.2.1
  have e2 := eqSignalS hk (x := x.2.2.1) h.2.2.1
  have e3 := eqRadioPacketS hk (x := x.2.2.2) h.2.2.2
  unfold laws_eqTransmission.f
  simp only [e0, e1, e2, e3, ob_some, cond_true, cond_false, dnot_t, dnot_f, ine_self, bne_self, seq_self, ilt_nn]
theorem szReservationS {k : Nat} (hk : FU ≤ k) {x : ((.sl TSubscriberID) : Ty).den} (h : Good' (.sl TSubscriberID) x) {L : Int} (h0 : 0 ≤ L) (h1 : L ≤ 4294967296) : laws_szReservationS.f k (x, L) = some (if (cnt (.sl TSubscriberID) x : Int) ≤ L then L - cnt (.sl TSubscriberID) x else -1) := by
  have hl := good_len h
  have hs : isub .i64 L (llen x) = L - (x.length : Int) := isub_eq (by show _ ≤ L - (x.length : Int); omega) (by show L - (x.length : Int) ≤ _; omega)
  have hc : cnt (.sl TSubscriberID) x = x.length := by
    show x.length + (x.map fun _ => 0).sum = _
    rw [sum_zero]; rfl
  unfold laws_szReservationS.f
  simp only [hs, hc]
  by_cases hd : (x.length : Int) ≤ L
  · rw [ilt_f (by omega), cond_false, if_pos hd]
  · rw [ilt_t (by omega), cond_true, if_neg hd]
theorem szAccount {k : Nat} (hk : FU ≤ k) {x : (TAccount : Ty).den} (h : Good' TAccount x) {L : Int} (h0 : 0 ≤ L) (h1 : L ≤ 4294967296) : laws_szAccount.f k (x, L) = some (if (cnt TAccount x : Int) ≤ L then L - cnt TAccount x else -1) := by
  have hc : cnt TAccount x = cnt (.sl TSubscriberID) x.2.2.2 := by simp only [cnt]; try omega
  rw [hc]
  unfold laws_szAccount.f
  have e0 := szReservationS hk (x := x.2.2.2) h.2.2.2 (L := L) h0 h1
  (try simp only [])
  rw [e0]
  exact sz_end h0
theorem szByteS {k : Nat} (hk : FU ≤ k) {x : ((.sl (.int .u8)) : Ty).den} (h : Good' (.sl (.int .u8)) x) {L : Int} (h0 : 0 ≤ L) (h1 : L ≤ 4294967296) : laws_szByteS.f k (x, L) = some (if (cnt (.sl (.int .u8)) x : Int) ≤ L then L - cnt (.sl (.int .u8)) x else -1) := by
  have hl := good_len h
  have hs : isub .i64 L (llen x) = L - (x.length : Int) := isub_eq (by show _ ≤ L - (x.length : Int); omega) (by show L - (x.length : Int) ≤ _; omega)
  have hc : cnt (.sl (.int .u8)) x = x.length := by
    show x.length + (x.map fun _ => 0).sum = _
    rw [sum_zero]; rfl
  unfold laws_szByteS.f
  simp only [hs, hc]
  by_cases hd : (x.length : Int) ≤ L
  · rw [ilt_f (by omega), cond_false, if_pos hd]
  · rw [ilt_t (by omega), cond_true, if_neg hd]
theorem szPayload {k : Nat} (hk : FU ≤ k) {x : ((.sl (.int .u8)) : Ty).den} (h : Good' (.sl (.int .u8)) x) {L : Int} (h0 : 0 ≤ L) (h1 : L ≤ 4294967296) : laws_szPayload.f k (x, L) = some (if (cnt (.sl (.int .u8)) x : Int) ≤ L then L - cnt (.sl (.int .u8)) x else -1) := by
  have hc : cnt (.sl (.int .u8)) x = cnt (.sl (.int .u8)) x := by simp only [cnt]; try omega
  rw [hc]
  unfold laws_szPayload.f
  have e0 := szByteS hk (x := x) h (L := L) h0 h1
  (try simp only [])
  rw [e0]
  exact sz_end h0
theorem szPayloadS {k : Nat} (hk : FU ≤ k) {x : ((.sl (.sl (.int .u8))) : Ty).den} (h : Good' (.sl (.sl (.int .u8))) x) {L : Int} (h0 : 0 ≤ L) (h1 : L ≤ 4294967296) : laws_szPayloadS.f k (x, L) = some (if (cnt (.sl (.sl (.int .u8))) x : Int) ≤ L then L - cnt (.sl (.sl (.int .u8))) x else -1) := by
  have hl := good_len h
  have hs : isub .i64 L (llen x) = L - (x.length : Int) := isub_eq (by show _ ≤ L - (x.length : Int); omega) (by show L - (x.length : Int) ≤ _; omega)
  have hcn : cnt (.sl (.sl (.int .u8))) x = x.length + (x.map (cnt (.sl (.int .u8)))).sum := rfl
  rw [hcn]
  unfold laws_szPayloadS.f
  simp only [hs]
  by_cases hc : (x.length : Int) ≤ L
  · rw [ilt_f (by omega), cond_false, sz_loop hk (e := (.sl (.int .u8))) (cnt (.sl (.int .u8))) (s := (laws_szPayloadS.s0 k)) hl (fun i hi L h0 h1 => by
      have e1 := szPayload hk (good_get h hi) h0 h1
      simp only [laws_szPayloadS.s0, ilt_len, idx_len, decide_eq_true hi, lget_nat _ hi, iadd_nat (show i < 9223372036854775807 by omega), e1, ob_some, cond_true]
      by_cases hd : (cnt (.sl (.int .u8)) x[i] : Int) ≤ L
      · rw [if_pos hd, if_pos hd, ilt_f (by omega), cond_false]
      · rw [if_neg hd, if_neg hd, ilt_t (by omega), cond_true]) (fun L => by
      simp only [laws_szPayloadS.s0, ilt_len, Nat.lt_irrefl, decide_false, cond_false]) (by omega) (by omega), ob_some]
    by_cases hd : ((x.map (cnt (.sl (.int .u8)))).sum : Int) ≤ L - x.length
    · rw [if_pos hd, sel_l, if_pos (by omega)]; congr 1; omega
    · rw [if_neg hd, sel_r, if_neg (by omega)]
  · rw [ilt_t (by omega), cond_true, if_neg (by omega)]
theorem szNumberedPacket {k : Nat} (hk : FU ≤ k) {x : (TNumberedPacket : Ty).den} (h : Good' TNumberedPacket x) {L : Int} (h0 : 0 ≤ L) (h1 : L ≤ 4294967296) : laws_szNumberedPacket.f k (x, L) = some (if (cnt TNumberedPacket x : Int) ≤ L then L - cnt TNumberedPacket x else -1) := by
  have hc : cnt TNumberedPacket x = cnt (.sl (.int .u8)) x.2 := by simp only [cnt]; try omega
  rw [hc]
  unfold laws_szNumberedPacket.f
  have e0 := szByteS hk (x := x.2) h.2 (L := L) h0 h1
  (try simp only [])
  rw [e0]
  exact sz_end h0
theorem szNumberedPacketS {k : Nat} (hk : FU ≤ k) {x : ((.sl TNumberedPacket) : Ty).den} (h : Good' (.sl TNumberedPacket) x) {L : Int} (h0 : 0 ≤ L) (h1 : L ≤ 4294967296) : laws_szNumberedPacketS.f k (x, L) = some (if (cnt (.sl TNumberedPacket) x : Int) ≤ L then L - cnt (.sl TNumberedPacket) x else -1) := by
  have hl := good_len h
  have hs : isub .i64 L (llen x) = L - (x.length : Int) := isub_eq (by show _ ≤ L - (x.length : Int); omega) (by show L - (x.length : Int) ≤ _; omega)
  have hcn : cnt (.sl TNumberedPacket) x = x.length + (x.map (cnt TNumberedPacket)).sum := rfl
  rw [hcn]
  unfold laws_szNumberedPacketS.f
  simp only [hs]
  by_cases hc : (x.length : Int) ≤ L
  · rw [ilt_f (by omega), cond_false, sz_loop hk (e := TNumberedPacket) (cnt TNumberedPacket) (s := (laws_szNumberedPacketS.s0 k)) hl (fun i hi L h0 h1 => by
      have e1 := szNumberedPacket hk (good_get h hi) h0 h1
      simp only [laws_szNumberedPacketS.s0, ilt_len, idx_len, decide_eq_true hi, lget_nat _ hi, iadd_nat (show i < 9223372036854775807 by omega), e1, ob_some, cond_true]
      by_cases hd : (cnt TNumberedPacket x[i] : Int) ≤ L
      · rw [if_pos hd, if_pos hd, ilt_f (by omega), cond_false]
      · rw [if_neg hd, if_neg hd, ilt_t (by omega), cond_true]) (fun L => by
      simp only [laws_szNumberedPacketS.s0, ilt_len, Nat.lt_irrefl, decide_false, cond_false]) (by omega) (by omega), ob_some]
    by_cases hd : ((x.map (cnt TNumberedPacket)).sum : Int) ≤ L - x.length
    · rw [if_pos hd, sel_l, if_pos (by omega)]; congr 1; omega
    · rw [if_neg hd, sel_r, if_neg (by omega)]
  · rw [ilt_t (by omega), cond_true, if_neg (by omega)]
theorem szIntS {k : Nat} (hk : FU ≤ k) {x : ((.sl (.int .i64)) : Ty).den} (h : Good' (.sl (.int .i64)) x) {L : Int} (h0 : 0 ≤ L) (h1 : L ≤ 4294967296) : laws_szIntS.f k (x, L) = some (if (cnt (.sl (.int .i64)) x : Int) ≤ L then L - cnt (.sl (.int .i64)) x else -1) := by
  have hl := good_len h
  have hs : isub .i64 L (llen x) = L - (x.length : Int) := isub_eq (by show _ ≤ L - (x.length : Int); omega) (by show L - (x.length : Int) ≤ _; omega)
  have hc : cnt (.sl (.int .i64)) x = x.length := by
    show x.length + (x.map fun _ => 0).sum = _
    rw [sum_zero]; rfl
  unfold laws_szIntS.f
  simp only [hs, hc]
  by_cases hd : (x.length : Int) ≤ L
  · rw [ilt_f (by omega), cond_false, if_pos hd]
  · rw [ilt_t (by omega), cond_true, if_neg hd]
theorem szSendWindow {k : Nat} (hk : FU ≤ k) {x : (TSendWindow : Ty).den} (h : Good' TSendWindow x) {L : Int} (h0 : 0 ≤ L) (h1 : L ≤ 4294967296) : laws_szSendWindow.f k (x, L) = some (if (cnt TSendWindow x : Int) ≤ L then L - cnt TSendWindow x else -1) := by
  have hc : cnt TSendWindow x = cnt (.sl TNumberedPacket) x.2 := by simp only [cnt]; try omega
  rw [hc]
  unfold laws_szSendWindow.f
  have e0 := szNumberedPacketS hk (x := x.2) h.2 (L := L) h0 h1
  (try simp only [])
  rw [e0]
  exact sz_end h0
theorem szSubscription {k : Nat} (hk : FU ≤ k) {x : (TSubscription : Ty).den} (h : Good' TSubscription x) {L : Int} (h0 : 0 ≤ L) (h1 : L ≤ 4294967296) : laws_szSubscription.f k (x, L) = some (if (cnt TSubscription x : Int) ≤ L then L - cnt TSubscription x else -1) := by
  have hc : cnt TSubscription x = cnt (.sl (.int .i64)) x.2.2.2 := by simp only [cnt]; try omega
  rw [hc]
  unfold laws_szSubscription.f
  have e0 := szIntS hk (x := x.2.2.2) h.2.2.2 (L := L) h0 h1
  (try simp only [])
  rw [e0]
  exact sz_end h0
theorem szSession {k : Nat} (hk : FU ≤ k) {x : (TSession : Ty).den} (h : Good' TSession x) {L : Int} (h0 : 0 ≤ L) (h1 : L ≤ 4294967296) : laws_szSession.f k (x, L) = some (if (cnt TSession x : Int) ≤ L then L - cnt TSession x else -1) := by
  have hc : cnt TSession x = cnt TSubscription x.2.1 + (cnt (.sl (.sl (.int .u8))) x.2.2.2.2.2.2.2.2.2.2.2.1 + (cnt TSendWindow x.2.2.2.2.2.2.2.2.2.2.2.2.1)) := by simp only [cnt]; try omega
  rw [hc]
  unfold laws_szSession.f
  have e0 := szSubscription hk (x := x.2.1) h.2.1 (L := L) h0 h1
  (try simp only [])
  rw [e0]
  refine sz_seq h0 fun M1 h01 h11 => ?_
  have hM1 : M1 ≤ 4294967296 := Int.le_trans h11 h1
  have e1 := szPayloadS hk (x := x.2.2.2.2.2.2.2.2.2.2.2.1) h.2.2.2.2.2.2.2.2.2.2.2.1 (L := M1) h01 hM1
  rw [e1]
  refine sz_seq h01 fun M2 h02 h12 => ?_
  have hM2 : M2 ≤ 4294967296 := Int.le_trans h12 hM1
  have e2 := szSendWindow hk (x := x.2.2.2.2.2.2.2.2.2.2.2.2.1) h.2.2.2.2.2.2.2.2.2.2.2.2.1 (L := M2) h02 hM2
  rw [e2]
  exact sz_end h02
theorem markReservationS {k : Nat} (hk : FU ≤ k) {x : List (TSubscriberID : Ty).den} (h : Ok (.sl TSubscriberID) x) {n : Nat} (hn : n + cTop (.sl TSubscriberID) x ≤ 4611686018427387904) : laws_markReservationS.f k (x, (n : Int)) = some (((mkL (mkE TSubscriberID) x n).2 : Int), (mkL (mkE TSubscriberID) x n).1) := by
  have hl := ok_len h
  unfold laws_markReservationS.f
  rw [mark_loop hk (mkE TSubscriberID) (cE TSubscriberID) (s := laws_markReservationS.s0) hl (fun x _ n => by rw [mkE_n]; omega) (fun ys i n hi hm hl' hb => by
    have hb' : n + (1 + 1) ≤ 4611686018427387904 := hb
    have a0 : iadd .i64 ((n : Nat) : Int) 1 = ((n + 1 : Nat) : Int) := iadd_nat (by omega)
    have a1 : iadd .i64 (((n + 1) : Nat) : Int) 1 = (((n + 1) + 1 : Nat) : Int) := iadd_nat (by omega)
    simp only [laws_markReservationS.s0, ilt_len, idx_len, decide_eq_true hi, cond_true, lmod, llen_lset, lget_nat _ hi, lget_lset _ hi, lset_lset, ob_some, iadd_nat (show i < 9223372036854775807 by omega), a0, a1]
    simp only [lset_nat]
    try rfl) (fun ys n => by
    simp only [laws_markReservationS.s0, ilt_len, Nat.lt_irrefl, decide_false, cond_false]) hn, ob_some]
theorem heldReservationS {k : Nat} (hk : FU ≤ k) {x : List (TSubscriberID : Ty).den} (h : Ok (.sl TSubscriberID) x) {n : Nat} (hn : n + cTop (.sl TSubscriberID) x ≤ 4611686018427387904) : laws_heldReservationS.f k ((mkL (mkE TSubscriberID) x n).1, (n : Int)) = some ((mkL (mkE TSubscriberID) x n).2 : Int) := by
  have hl := ok_len h
  unfold laws_heldReservationS.f
  rw [held_loop hk (mkE TSubscriberID) (cE TSubscriberID) (s := laws_heldReservationS.s0) hl (fun x _ n => by rw [mkE_n]; omega) (fun ys z i n hi hm hl' hy hb => by
    have hb' : n + (1 + 1) ≤ 4611686018427387904 := hb
    have a0 : iadd .i64 ((n : Nat) : Int) 1 = ((n + 1 : Nat) : Int) := iadd_nat (by omega)
    have y0 : ys[i].1 = ((n : Nat) : Int) := by rw [hy]; rfl
    have a1 : iadd .i64 (((n + 1) : Nat) : Int) 1 = (((n + 1) + 1 : Nat) : Int) := iadd_nat (by omega)
    have y1 : ys[i].2 = (((n + 1) : Nat) : Int) := by rw [hy]; rfl
    simp only [laws_heldReservationS.s0, ilt_len, idx_len, decide_eq_true hi, cond_true, lget_nat _ hi]
    simp only [ine_self, bne_self, cond_false, cond_true, ob_some, ilt_nn, iadd_nat (show i < 9223372036854775807 by omega), a0, y0, a1, y1]
    try rfl) (fun ys n => by
    simp only [laws_heldReservationS.s0, ilt_len, Nat.lt_irrefl, decide_false, cond_false]) hn, ob_some]
  rfl
theorem markAccount {k : Nat} (hk : FU ≤ k) {x : (TAccount : Ty).den} (h : Ok TAccount x) {n : Nat} (hn : n + cTop TAccount x ≤ 4611686018427387904) : laws_markAccount.f k (x, (n : Int)) = some (((mkTop TAccount x n).2 : Int), (mkTop TAccount x n).1) := by
  have hc : cTop TAccount x = cTop (.sl TSubscriberID) x.2.2.2 := by simp only [cTop]; try omega
  have e0 : laws_markReservationS.f k (x.2.2.2, ((n : Nat) : Int)) = some (((mkTop (.sl TSubscriberID) x.2.2.2 n).2 : Int), (mkTop (.sl TSubscriberID) x.2.2.2 n).1) := markReservationS hk (x := x.2.2.2) h.2.2.2 (n := n) (by omega)
  have q0 := mkTop_n (.sl TSubscriberID) x.2.2.2 n
  unfold laws_markAccount.f
  simp only [e0, ob_some, ilt_nn, cond_false]
  rfl
theorem heldAccount {k : Nat} (hk : FU ≤ k) {x : (TAccount : Ty).den} (h : Ok TAccount x) {n : Nat} (hn : n + cTop TAccount x ≤ 4611686018427387904) : laws_heldAccount.f k ((mkTop TAccount x n).1, (n : Int)) = some ((mkTop TAccount x n).2 : Int) := by
  have hc : cTop TAccount x = cTop (.sl TSubscriberID) x.2.2.2 := by simp only [cTop]; try omega
  have e0 : laws_heldReservationS.f k ((mkTop TAccount x n).1.2.2.2, ((n : Nat) : Int)) = some ((mkTop (.sl TSubscriberID) x.2.2.2 n).2 : Int) := heldReservationS hk (x := x.2.2.2) h.2.2.2 (n := n) (by omega)
  have q0 := mkTop_n (.sl TSubscriberID) x.2.2.2 n
  unfold laws_heldAccount.f
  simp only [e0, ob_some, ilt_nn, cond_false]
  rfl
theorem markByteS {k : Nat} (hk : FU ≤ k) {x : List ((.int .u8) : Ty).den} (h : Ok (.sl (.int .u8)) x) {n : Nat} (hn : n + cTop (.sl (.int .u8)) x ≤ 4611686018427387904) : laws_markByteS.f k (x, (n : Int)) = some (((mkL (mkE (.int .u8)) x n).2 : Int), (mkL (mkE (.int .u8)) x n).1) := by
  have hl := ok_len h
  unfold laws_markByteS.f
  rw [mark_loop hk (mkE (.int .u8)) (cE (.int .u8)) (s := laws_markByteS.s0) hl (fun x _ n => by rw [mkE_n]; omega) (fun ys i n hi hm hl' hb => by
    have hb' : n + 1 ≤ 4611686018427387904 := hb
    have a0 : iadd .i64 ((n : Nat) : Int) 1 = ((n + 1 : Nat) : Int) := iadd_nat (by omega)
    simp only [laws_markByteS.s0, ilt_len, idx_len, decide_eq_true hi, cond_true, lmod, llen_lset, lget_nat _ hi, lget_lset _ hi, lset_lset, ob_some, iadd_nat (show i < 9223372036854775807 by omega), a0]
    simp only [lset_nat]
    try rfl) (fun ys n => by
    simp only [laws_markByteS.s0, ilt_len, Nat.lt_irrefl, decide_false, cond_false]) hn, ob_some]
theorem heldByteS {k : Nat} (hk : FU ≤ k) {x : List ((.int .u8) : Ty).den} (h : Ok (.sl (.int .u8)) x) {n : Nat} (hn : n + cTop (.sl (.int .u8)) x ≤ 4611686018427387904) : laws_heldByteS.f k ((mkL (mkE (.int .u8)) x n).1, (n : Int)) = some ((mkL (mkE (.int .u8)) x n).2 : Int) := by
  have hl := ok_len h
  unfold laws_heldByteS.f
  rw [held_loop hk (mkE (.int .u8)) (cE (.int .u8)) (s := laws_heldByteS.s0) hl (fun x _ n => by rw [mkE_n]; omega) (fun ys z i n hi hm hl' hy hb => by
    have hb' : n + 1 ≤ 4611686018427387904 := hb
    have a0 : iadd .i64 ((n : Nat) : Int) 1 = ((n + 1 : Nat) : Int) := iadd_nat (by omega)
    have y0 : ys[i] = icast .u8 ((n : Nat) : Int) := by rw [hy]; rfl
    simp only [laws_heldByteS.s0, ilt_len, idx_len, decide_eq_true hi, cond_true, lget_nat _ hi]
    simp only [ine_self, bne_self, cond_false, cond_true, ob_some, ilt_nn, iadd_nat (show i < 9223372036854775807 by omega), a0, y0]
    try rfl) (fun ys n => by
    simp only [laws_heldByteS.s0, ilt_len, Nat.lt_irrefl, decide_false, cond_false]) hn, ob_some]
  rfl
theorem markPayloadS {k : Nat} (hk : FU ≤ k) {x : List ((.sl (.int .u8)) : Ty).den} (h : Ok (.sl (.sl (.int .u8))) x) {n : Nat} (hn : n + cTop (.sl (.sl (.int .u8))) x ≤ 4611686018427387904) : laws_markPayloadS.f k (x, (n : Int)) = some (((mkL (mkE (.sl (.int .u8))) x n).2 : Int), (mkL (mkE (.sl (.int .u8))) x n).1) := by
  have hl := ok_len h
  unfold laws_markPayloadS.f
  rw [mark_loop hk (mkE (.sl (.int .u8))) (cE (.sl (.int .u8))) (s := (laws_markPayloadS.s0 k)) hl (fun x _ n => by rw [mkE_n]; omega) (fun ys i n hi hm hl' hb => by
    have hb' : n + (List.map (cE (.int .u8)) ys[i]).sum ≤ 4611686018427387904 := hb
    have a0 := markByteS hk (x := ys[i]) (h.2 _ hm) (n := n) (by show n + (List.map (cE (.int .u8)) ys[i]).sum ≤ _; omega)
    have q0 := mkLE_n (.int .u8) ys[i] n
    simp only [laws_markPayloadS.s0, ilt_len, idx_len, decide_eq_true hi, cond_true, lmod, llen_lset, lget_nat _ hi, lget_lset _ hi, lset_lset, ob_some, iadd_nat (show i < 9223372036854775807 by omega), a0]
    simp only [lset_nat]
    try rfl) (fun ys n => by
    simp only [laws_markPayloadS.s0, ilt_len, Nat.lt_irrefl, decide_false, cond_false]) hn, ob_some]
theorem heldPayloadS {k : Nat} (hk : FU ≤ k) {x : List ((.sl (.int .u8)) : Ty).den} (h : Ok (.sl (.sl (.int .u8))) x) {n : Nat} (hn : n + cTop (.sl (.sl (.int .u8))) x ≤ 4611686018427387904) : laws_heldPayloadS.f k ((mkL (mkE (.sl (.int .u8))) x n).1, (n : Int)) = some ((mkL (mkE (.sl (.int .u8))) x n).2 : Int) := by
  have hl := ok_len h
  unfold laws_heldPayloadS.f
  rw [held_loop hk (mkE (.sl (.int .u8))) (cE (.sl (.int .u8))) (s := (laws_heldPayloadS.s0 k)) hl (fun x _ n => by rw [mkE_n]; omega) (fun ys z i n hi hm hl' hy hb => by
    have hb' : n + (List.map (cE (.int .u8)) z).sum ≤ 4611686018427387904 := hb
    have a0 := heldByteS hk (x := z) (h.2 _ hm) (n := n) (by show n + (List.map (cE (.int .u8)) z).sum ≤ _; omega)
    have q0 := mkLE_n (.int .u8) z n
    have y0 : ys[i] = (mkL (mkE (.int .u8)) z n).1 := by rw [hy]; rfl
    simp only [laws_heldPayloadS.s0, ilt_len, idx_len, decide_eq_true hi, cond_true, lget_nat _ hi]
    simp only [ine_self, bne_self, cond_false, cond_true, ob_some, ilt_nn, iadd_nat (show i < 9223372036854775807 by omega), a0, y0]
    try rfl) (fun ys n => by
    simp only [laws_heldPayloadS.s0, ilt_len, Nat.lt_irrefl, decide_false, cond_false]) hn, ob_some]
  rfl
theorem markNumberedPacketS {k : Nat} (hk : FU ≤ k) {x : List (TNumberedPacket : Ty).den} (h : Ok (.sl TNumberedPacket) x) {n : Nat} (hn : n + cTop (.sl TNumberedPacket) x ≤ 4611686018427387904) : laws_markNumberedPacketS.f k (x, (n : Int)) = some (((mkL (mkE TNumberedPacket) x n).2 : Int), (mkL (mkE TNumberedPacket) x n).1) := by
  have hl := ok_len h
  unfold laws_markNumberedPacketS.f
  rw [mark_loop hk (mkE TNumberedPacket) (cE TNumberedPacket) (s := (laws_markNumberedPacketS.s0 k)) hl (fun x _ n => by rw [mkE_n]; omega) (fun ys i n hi hm hl' hb => by
    have hb' : n + (1 + (List.map (cE (.int .u8)) ys[i].2).sum) ≤ 4611686018427387904 := hb
    have a0 : iadd .i64 ((n : Nat) : Int) 1 = ((n + 1 : Nat) : Int) := iadd_nat (by omega)
    have a1 := markByteS hk (x := ys[i].2) (h.2 _ hm).2 (n := (n + 1)) (by show (n + 1) + (List.map (cE (.int .u8)) ys[i].2).sum ≤ _; omega)
    have q1 := mkLE_n (.int .u8) ys[i].2 (n + 1)
    simp only [laws_markNumberedPacketS.s0, ilt_len, idx_len, decide_eq_true hi, cond_true, lmod, llen_lset, lget_nat _ hi, lget_lset _ hi, lset_lset, ob_some, iadd_nat (show i < 9223372036854775807 by omega), a0, a1]
    simp only [lset_nat]
    try rfl) (fun ys n => by
    simp only [laws_markNumberedPacketS.s0, ilt_len, Nat.lt_irrefl, decide_false, cond_false]) hn, ob_some]
theorem heldNumberedPacketS {k : Nat} (hk : FU ≤ k) {x : List (TNumberedPacket : Ty).den} (h : Ok (.sl TNumberedPacket) x) {n : Nat} (hn : n + cTop (.sl TNumberedPacket) x ≤ 4611686018427387904) : laws_heldNumberedPacketS.f k ((mkL (mkE TNumberedPacket) x n).1, (n : Int)) = some ((mkL (mkE TNumberedPacket) x n).2 : Int) := by
  have hl := ok_len h
  unfold laws_heldNumberedPacketS.f
  rw [held_loop hk (mkE TNumberedPacket) (cE TNumberedPacket) (s := (laws_heldNumberedPacketS.s0 k)) hl (fun x _ n => by rw [mkE_n]; omega) (fun ys z i n hi hm hl' hy hb => by
    have hb' : n + (1 + (List.map (cE (.int .u8)) z.2).sum) ≤ 4611686018427387904 := hb
    have a0 : iadd .i64 ((n : Nat) : Int) 1 = ((n + 1 : Nat) : Int) := iadd_nat (by omega)
    have y0 : ys[i].1 = ((n : Nat) : Int) := by rw [hy]; rfl
    have a1 := heldByteS hk (x := z.2) (h.2 _ hm).2 (n := (n + 1)) (by show (n + 1) + (List.map (cE (.int .u8)) z.2).sum ≤ _; omega)
    have q1 := mkLE_n (.int .u8) z.2 (n + 1)
    have y1 : ys[i].2 = (mkL (mkE (.int .u8)) z.2 (n + 1)).1 := by rw [hy]; rfl
    simp only [laws_heldNumberedPacketS.s0, ilt_len, idx_len, decide_eq_true hi, cond_true, lget_nat _ hi]
    simp only [ine_self, bne_self, cond_false, cond_true, ob_some, ilt_nn, iadd_nat (show i < 9223372036854775807 by omega), a0, y0, a1, y1]
    try rfl) (fun ys n => by
    simp only [laws_heldNumberedPacketS.s0, ilt_len, Nat.lt_irrefl, decide_false, cond_false]) hn, ob_some]
  rfl
theorem markSignalS {k : Nat} (hk : FU ≤ k) {x : List (TSignal : Ty).den} (h : Ok (.sl TSignal) x) {n : Nat} (hn : n + cTop (.sl TSignal) x ≤ 4611686018427387904) : laws_markSignalS.f k (x, (n : Int)) = some (((mkL (mkE TSignal) x n).2 : Int), (mkL (mkE TSignal) x n).1) := by
  have hl := ok_len h
  unfold laws_markSignalS.f
  rw [mark_loop hk (mkE TSignal) (cE TSignal) (s := laws_markSignalS.s0) hl (fun x _ n => by rw [mkE_n]; omega) (fun ys i n hi hm hl' hb => by
    have hb' : n + (1 + (1 + (1 + (1 + (1 + ((1 + (1 + (1 + (1 + 1)))) + 1)))))) ≤ 4611686018427387904 := hb
    have a0 : iadd .i64 ((n : Nat) : Int) 1 = ((n + 1 : Nat) : Int) := iadd_nat (by omega)
    have a1 : iadd .i64 (((n + 1) : Nat) : Int) 1 = (((n + 1) + 1 : Nat) : Int) := iadd_nat (by omega)
    have a2 : iadd .i64 ((((n + 1) + 1) : Nat) : Int) 1 = ((((n + 1) + 1) + 1 : Nat) : Int) := iadd_nat (by omega)
    have a3 : iadd .i64 (((((n + 1) + 1) + 1) : Nat) : Int) 1 = (((((n + 1) + 1) + 1) + 1 : Nat) : Int) := iadd_nat (by omega)
    have a4 : iadd .i64 ((((((n + 1) + 1) + 1) + 1) : Nat) : Int) 1 = ((((((n + 1) + 1) + 1) + 1) + 1 : Nat) : Int) := iadd_nat (by omega)
    have a5 : iadd .i64 (((((((n + 1) + 1) + 1) + 1) + 1) : Nat) : Int) 1 = (((((((n + 1) + 1) + 1) + 1) + 1) + 1 : Nat) : Int) := iadd_nat (by omega)
    have a6 : iadd .i64 ((((((((n + 1) + 1) + 1) + 1) + 1) + 1) : Nat) : Int) 1 = ((((((((n + 1) + 1) + 1) + 1) + 1) + 1) + 1 : Nat) : Int) := iadd_nat (by omega)
    have a7 : iadd .i64 (((((((((n + 1) + 1) + 1) + 1) + 1) + 1) + 1) : Nat) : Int) 1 = (((((((((n + 1) + 1) + 1) + 1) + 1) + 1) + 1) + 1 : Nat) : Int) := iadd_nat (by omega)
    have a8 : iadd .i64 ((((((((((n + 1) + 1) + 1) + 1) + 1) + 1) + 1) + 1) : Nat) : Int) 1 = ((((((((((n + 1) + 1) + 1) + 1) + 1) + 1) + 1) + 1) + 1 : Nat) : Int) := iadd_nat (by omega)
    have a9 : iadd .i64 (((((((((((n + 1) + 1) + 1) + 1) + 1) + 1) + 1) + 1) + 1) : Nat) : Int) 1 = (((((((((((n + 1) + 1) + 1) + 1) + 1) + 1) + 1) + 1) + 1) + 1 : Nat) : Int) := iadd_nat (by omega)
    have a10 : iadd .i64 ((((((((((((n + 1) + 1) + 1) + 1) + 1) + 1) + 1) + 1) + 1) + 1) : Nat) : Int) 1 = ((((((((((((n + 1) + 1) + 1) + 1) + 1) + 1) + 1) + 1) + 1) + 1) + 1 : Nat) : Int) := iadd_nat (by omega)
    simp only [laws_markSignalS.s0, ilt_len, idx_len, decide_eq_true hi, cond_true, lmod, llen_lset, lget_nat _ hi, lget_lset _ hi, lset_lset, ob_some, iadd_nat (show i < 9223372036854775807 by omega), a0, a1, a2, a3, a4, a5, a6, a7, a8, a9, a10]
    simp only [lset_nat]
    try rfl) (fun ys n => by
    simp only [laws_markSignalS.s0, ilt_len, Nat.lt_irrefl, decide_false, cond_false]) hn, ob_some]
theorem heldSignalS {k : Nat} (hk : FU ≤ k) {x : List (TSignal : Ty).den} (h : Ok (.sl TSignal) x) {n : Nat} (hn : n + cTop (.sl TSignal) x ≤ 4611686018427387904) : laws_heldSignalS.f k ((mkL (mkE TSignal) x n).1, (n : Int)) = some ((mkL (mkE TSignal) x n).2 : Int) := by
  have hl := ok_len h
  unfold laws_heldSignalS.f
  rw [held_loop hk (mkE TSignal) (cE TSignal) (s := laws_heldSignalS.s0) hl (fun x _ n => by rw [mkE_n]; omega) (fun ys z i n hi hm hl' hy hb => by
    have hb' : n + (1 + (1 + (1 + (1 + (1 + ((1 + (1 + (1 + (1 + 1)))) + 1)))))) ≤ 4611686018427387904 := hb
    have a0 : iadd .i64 ((n : Nat) : Int) 1 = ((n + 1 : Nat) : Int) := iadd_nat (by omega)
    have y0 : ys[i].1 = ((n : Nat) : Int) := by rw [hy]; rfl
    have a1 : iadd .i64 (((n + 1) : Nat) : Int) 1 = (((n + 1) + 1 : Nat) : Int) := iadd_nat (by omega)
    have y1 : ys[i].2.1 = (((n + 1) : Nat) : Int) := by rw [hy]; rfl
    have a2 : iadd .i64 ((((n + 1) + 1) : Nat) : Int) 1 = ((((n + 1) + 1) + 1 : Nat) : Int) := iadd_nat (by omega)
    have y2 : ys[i].2.2.1 = ((((n + 1) + 1) : Nat) : Int) := by rw [hy]; rfl
    have a3 : iadd .i64 (((((n + 1) + 1) + 1) : Nat) : Int) 1 = (((((n + 1) + 1) + 1) + 1 : Nat) : Int) := iadd_nat (by omega)
    have y3 : ys[i].2.2.2.1 = (((((n + 1) + 1) + 1) : Nat) : Int) := by rw [hy]; rfl
    have a4 : iadd .i64 ((((((n + 1) + 1) + 1) + 1) : Nat) : Int) 1 = ((((((n + 1) + 1) + 1) + 1) + 1 : Nat) : Int) := iadd_nat (by omega)
    have y4 : ys[i].2.2.2.2.1 = ((((((n + 1) + 1) + 1) + 1) : Nat) : Int) := by rw [hy]; rfl
    have a5 : iadd .i64 (((((((n + 1) + 1) + 1) + 1) + 1) : Nat) : Int) 1 = (((((((n + 1) + 1) + 1) + 1) + 1) + 1 : Nat) : Int) := iadd_nat (by omega)
    have y5 : ys[i].2.2.2.2.2.1.1 = (((((((n + 1) + 1) + 1) + 1) + 1) : Nat) : Int) := by rw [hy]; rfl
    have a6 : iadd .i64 ((((((((n + 1) + 1) + 1) + 1) + 1) + 1) : Nat) : Int) 1 = ((((((((n + 1) + 1) + 1) + 1) + 1) + 1) + 1 : Nat) : Int) := iadd_nat (by omega)
    have y6 : ys[i].2.2.2.2.2.1.2.1 = ((((((((n + 1) + 1) + 1) + 1) + 1) + 1) : Nat) : Int) := by rw [hy]; rfl
    have a7 : iadd .i64 (((((((((n + 1) + 1) + 1) + 1) + 1) + 1) + 1) : Nat) : Int) 1 = (((((((((n + 1) + 1) + 1) + 1) + 1) + 1) + 1) + 1 : Nat) : Int) := iadd_nat (by omega)
    have y7 : ys[i].2.2.2.2.2.1.2.2.1 = (((((((((n + 1) + 1) + 1) + 1) + 1) + 1) + 1) : Nat) : Int) := by rw [hy]; rfl
    have a8 : iadd .i64 ((((((((((n + 1) + 1) + 1) + 1) + 1) + 1) + 1) + 1) : Nat) : Int) 1 = ((((((((((n + 1) + 1) + 1) + 1) + 1) + 1) + 1) + 1) + 1 : Nat) : Int) := iadd_nat (by omega)
    have y8 : ys[i].2.2.2.2.2.1.2.2.2.1 = ((((((((((n + 1) + 1) + 1) + 1) + 1) + 1) + 1) + 1) : Nat) : Int) := by rw [hy]; rfl
    have a9 : iadd .i64 (((((((((((n + 1) + 1) + 1) + 1) + 1) + 1) + 1) + 1) + 1) : Nat) : Int) 1 = (((((((((((n + 1) + 1) + 1) + 1) + 1) + 1) + 1) + 1) + 1) + 1 : Nat) : Int) := iadd_nat (by omega)
    have y9 : ys[i].2.2.2.2.2.1.2.2.2.2 = (((((((((((n + 1) + 1) + 1) + 1) + 1) + 1) + 1) + 1) + 1) : Nat) : Int) := by rw [hy]; rfl
    have a10 : iadd .i64 ((((((((((((n + 1) + 1) + 1) + 1) + 1) + 1) + 1) + 1) + 1) + 1) : Nat) : Int) 1 = ((((((((((((n + 1) + 1) + 1) + 1) + 1) + 1) + 1) + 1) + 1) + 1) + 1 : Nat) : Int) := iadd_nat (by omega)
    have y10 : ys[i].2.2.2.2.2.2 = ((((((((((((n + 1) + 1) + 1) + 1) + 1) + 1) + 1) + 1) + 1) + 1) : Nat) : Int) := by rw [hy]; rfl
    simp only [laws_heldSignalS.s0, ilt_len, idx_len, decide_eq_true hi, cond_true, lget_nat _ hi]
    simp only [ine_self, bne_self, cond_false, cond_true, ob_some, ilt_nn, iadd_nat (show i < 9223372036854775807 by omega), a0, y0, a1, y1, a2, y2, a3, y3, a4, y4, a5, y5, a6, y6, a7, y7, a8, y8, a9, y9, a10, y10]
    try rfl) (fun ys n => by
    simp only [laws_heldSignalS.s0, ilt_len, Nat.lt_irrefl, decide_false, cond_false]) hn, ob_some]
  rfl
theorem markIntS {k : Nat} (hk : FU ≤ k) {x : List ((.int .i64) : Ty).den} (h : Ok (.sl (.int .i64)) x) {n : Nat} (hn : n + cTop (.sl (.int .i64)) x ≤ 4611686018427387904) : laws_markIntS.f k (x, (n : Int)) = some (((mkL (mkE (.int .i64)) x n).2 : Int), (mkL (mkE (.int .i64)) x n).1) := by
  have hl := ok_len h
  unfold laws_markIntS.f
  rw [mark_loop hk (mkE (.int .i64)) (cE (.int .i64)) (s := laws_markIntS.s0) hl (fun x _ n => by rw [mkE_n]; omega) (fun ys i n hi hm hl' hb => by
    have hb' : n + 1 ≤ 4611686018427387904 := hb
    have a0 : iadd .i64 ((n : Nat) : Int) 1 = ((n + 1 : Nat) : Int) := iadd_nat (by omega)
    simp only [laws_markIntS.s0, ilt_len, idx_len, decide_eq_true hi, cond_true, lmod, llen_lset, lget_nat _ hi, lget_lset _ hi, lset_lset, ob_some, iadd_nat (show i < 9223372036854775807 by omega), a0]
    simp only [lset_nat]
    try rfl) (fun ys n => by
    simp only [laws_markIntS.s0, ilt_len, Nat.lt_irrefl, decide_false, cond_false]) hn, ob_some]
theorem heldIntS {k : Nat} (hk : FU ≤ k) {x : List ((.int .i64) : Ty).den} (h : Ok (.sl (.int .i64)) x) {n : Nat} (hn : n + cTop (.sl (.int .i64)) x ≤ 4611686018427387904) : laws_heldIntS.f k ((mkL (mkE (.int .i64)) x n).1, (n : Int)) = some ((mkL (mkE (.int .i64)) x n).2 : Int) := by
  have hl := ok_len h
  unfold laws_heldIntS.f
  rw [held_loop hk (mkE (.int .i64)) (cE (.int .i64)) (s := laws_heldIntS.s0) hl (fun x _ n => by rw [mkE_n]; omega) (fun ys z i n hi hm hl' hy hb => by
    have hb' : n + 1 ≤ 4611686018427387904 := hb
    have a0 : iadd .i64 ((n : Nat) : Int) 1 = ((n + 1 : Nat) : Int) := iadd_nat (by omega)
    have y0 : ys[i] = ((n : Nat) : Int) := by rw [hy]; rfl
    simp only [laws_heldIntS.s0, ilt_len, idx_len, decide_eq_true hi, cond_true, lget_nat _ hi]
    simp only [ine_self, bne_self, cond_false, cond_true, ob_some, ilt_nn, iadd_nat (show i < 9223372036854775807 by omega), a0, y0]
    try rfl) (fun ys n => by
    simp only [laws_heldIntS.s0, ilt_len, Nat.lt_irrefl, decide_false, cond_false]) hn, ob_some]
  rfl
theorem markRadioPacketS {k : Nat} (hk : FU ≤ k) {x : List (TRadioPacket : Ty).den} (h : Ok (.sl TRadioPacket) x) {n : Nat} (hn : n + cTop (.sl TRadioPacket) x ≤ 4611686018427387904) : laws_markRadioPacketS.f k (x, (n : Int)) = some (((mkL (mkE TRadioPacket) x n).2 : Int), (mkL (mkE TRadioPacket) x n).1) := by
  have hl := ok_len h
  unfold laws_markRadioPacketS.f
  rw [mark_loop hk (mkE TRadioPacket) (cE TRadioPacket) (s := (laws_markRadioPacketS.s0 k)) hl (fun x _ n => by rw [mkE_n]; omega) (fun ys i n hi hm hl' hb => by
    have hb' : n + (1 + (1 + (1 + (1 + ((List.map (cE (.int .u8)) ys[i].2.2.2.2.1).sum + 1))))) ≤ 4611686018427387904 := hb
    have a0 : iadd .i64 ((n : Nat) : Int) 1 = ((n + 1 : Nat) : Int) := iadd_nat (by omega)
    have a1 : iadd .i64 (((n + 1) : Nat) : Int) 1 = (((n + 1) + 1 : Nat) : Int) := iadd_nat (by omega)
    have a2 : iadd .i64 ((((n + 1) + 1) : Nat) : Int) 1 = ((((n + 1) + 1) + 1 : Nat) : Int) := iadd_nat (by omega)
    have a3 : iadd .i64 (((((n + 1) + 1) + 1) : Nat) : Int) 1 = (((((n + 1) + 1) + 1) + 1 : Nat) : Int) := iadd_nat (by omega)
    have a4 := markByteS hk (x := ys[i].2.2.2.2.1) (h.2 _ hm).2.2.2.2.1 (n := ((((n + 1) + 1) + 1) + 1)) (by show ((((n + 1) + 1) + 1) + 1) + (List.map (cE (.int .u8)) ys[i].2.2.2.2.1).sum ≤ _; omega)
    have q4 := mkLE_n (.int .u8) ys[i].2.2.2.2.1 ((((n + 1) + 1) + 1) + 1)
    have a5 : iadd .i64 (((mkL (mkE (.int .u8)) ys[i].2.2.2.2.1 ((((n + 1) + 1) + 1) + 1)).2 : Nat) : Int) 1 = (((mkL (mkE (.int .u8)) ys[i].2.2.2.2.1 ((((n + 1) + 1) + 1) + 1)).2 + 1 : Nat) : Int) := iadd_nat (by omega)
    simp only [laws_markRadioPacketS.s0, ilt_len, idx_len, decide_eq_true hi, cond_true, lmod, llen_lset, lget_nat _ hi, lget_lset _ hi, lset_lset, ob_some, iadd_nat (show i < 9223372036854775807 by omega), a0, a1, a2, a3, a4, a5]
    simp only [lset_nat]
    try rfl) (fun ys n => by
    simp only [laws_markRadioPacketS.s0, ilt_len, Nat.lt_irrefl, decide_false, cond_false]) hn, ob_some]
theorem heldRadioPacketS {k : Nat} (hk : FU ≤ k) {x : List (TRadioPacket : Ty).den} (h : Ok (.sl TRadioPacket) x) {n : Nat} (hn : n + cTop (.sl TRadioPacket) x ≤ 4611686018427387904) : laws_heldRadioPacketS.f k ((mkL (mkE TRadioPacket) x n).1, (n : Int)) = some ((mkL (mkE TRadioPacket) x n).2 : Int) := by
  have hl := ok_len h
  unfold laws_heldRadioPacketS.f
  rw [held_loop hk (mkE TRadioPacket) (cE TRadioPacket) (s := (laws_heldRadioPacketS.s0 k)) hl (fun x _ n => by rw [mkE_n]; omega) (fun ys z i n hi hm hl' hy hb => by
    have hb' : n + (1 + (1 + (1 + (1 + ((List.map (cE (.int .u8)) z.2.2.2.2.1).sum + 1))))) ≤ 4611686018427387904 := hb
    have a0 : iadd .i64 ((n : Nat) : Int) 1 = ((n + 1 : Nat) : Int) := iadd_nat (by omega)
    have y0 : ys[i].1 = ((n : Nat) : Int) := by rw [hy]; rfl
    have a1 : iadd .i64 (((n + 1) : Nat) : Int) 1 = (((n + 1) + 1 : Nat) : Int) := iadd_nat (by omega)
    have y1 : ys[i].2.1 = (((n + 1) : Nat) : Int) := by rw [hy]; rfl
    have a2 : iadd .i64 ((((n + 1) + 1) : Nat) : Int) 1 = ((((n + 1) + 1) + 1 : Nat) : Int) := iadd_nat (by omega)
    have y2 : ys[i].2.2.1 = ((((n + 1) + 1) : Nat) : Int) := by rw [hy]; rfl
    have a3 : iadd .i64 (((((n + 1) + 1) + 1) : Nat) : Int) 1 = (((((n + 1) + 1) + 1) + 1 : Nat) : Int) := iadd_nat (by omega)
    have y3 : ys[i].2.2.2.1 = (((((n + 1) + 1) + 1) : Nat) : Int) := by rw [hy]; rfl
    have a4 := heldByteS hk (x := z.2.2.2.2.1) (h.2 _ hm).2.2.2.2.1 (n := ((((n + 1) + 1) + 1) + 1)) (by show ((((n + 1) + 1) + 1) + 1) + (List.map (cE (.int .u8)) z.2.2.2.2.1).sum ≤ _; omega)
    have q4 := mkLE_n (.int .u8) z.2.2.2.2.1 ((((n + 1) + 1) + 1) + 1)
    have y4 : ys[i].2.2.2.2.1 = (mkL (mkE (.int .u8)) z.2.2.2.2.1 ((((n + 1) + 1) + 1) + 1)).1 := by rw [hy]; rfl
    have a5 : iadd .i64 (((mkL (mkE (.int .u8)) z.2.2.2.2.1 ((((n + 1) + 1) + 1) + 1)).2 : Nat) : Int) 1 = (((mkL (mkE (.int .u8)) z.2.2.2.2.1 ((((n + 1) + 1) + 1) + 1)).2 + 1 : Nat) : Int) := iadd_nat (by omega)
    have y5 : ys[i].2.2.2.2.2 = (((mkL (mkE (.int .u8)) z.2.2.2.2.1 ((((n + 1) + 1) + 1) + 1)).2 : Nat) : Int) := by rw [hy]; rfl
    simp only [laws_heldRadioPacketS.s0, ilt_len, idx_len, decide_eq_true hi, cond_true, lget_nat _ hi]
    simp only [ine_self, bne_self, cond_false, cond_true, ob_some, ilt_nn, iadd_nat (show i < 9223372036854775807 by omega), a0, y0, a1, y1, a2, y2, a3, y3, a4, y4, a5, y5]
    try rfl) (fun ys n => by
    simp only [laws_heldRadioPacketS.s0, ilt_len, Nat.lt_irrefl, decide_false, cond_false]) hn, ob_some]
  rfl
theorem markSendWindow {k : Nat} (hk : FU ≤ k) {x : (TSendWindow : Ty).den} (h : Ok TSendWindow x) {n : Nat} (hn : n + cTop TSendWindow x ≤ 4611686018427387904) : laws_markSendWindow.f k (x, (n : Int)) = some (((mkTop TSendWindow x n).2 : Int), (mkTop TSendWindow x n).1) := by
  have hc : cTop TSendWindow x = cTop (.sl TNumberedPacket) x.2 := by simp only [cTop]; try omega
  have e0 : laws_markNumberedPacketS.f k (x.2, ((n : Nat) : Int)) = some (((mkTop (.sl TNumberedPacket) x.2 n).2 : Int), (mkTop (.sl TNumberedPacket) x.2 n).1) := markNumberedPacketS hk (x := x.2) h.2 (n := n) (by omega)
  have q0 := mkTop_n (.sl TNumberedPacket) x.2 n
  unfold laws_markSendWindow.f
  simp only [e0, ob_some, ilt_nn, cond_false]
  rfl
theorem heldSendWindow {k : Nat} (hk : FU ≤ k) {x : (TSendWindow : Ty).den} (h : Ok TSendWindow x) {n : Nat} (hn : n + cTop TSendWindow x ≤ 4611686018427387904) : laws_heldSendWindow.f k ((mkTop TSendWindow x n).1, (n : Int)) = some ((mkTop TSendWindow x n).2 : Int) := by
  have hc : cTop TSendWindow x = cTop (.sl TNumberedPacket) x.2 := by simp only [cTop]; try omega
  have e0 : laws_heldNumberedPacketS.f k ((mkTop TSendWindow x n).1.2, ((n : Nat) : Int)) = some ((mkTop (.sl TNumberedPacket) x.2 n).2 : Int) := heldNumberedPacketS hk (x := x.2) h.2 (n := n) (by omega)
  have q0 := mkTop_n (.sl TNumberedPacket) x.2 n
  unfold laws_heldSendWindow.f
  simp only [e0, ob_some, ilt_nn, cond_false]
  rfl
theorem markSubscription {k : Nat} (hk : FU ≤ k) {x : (TSubscription : Ty).den} (h : Ok TSubscription x) {n : Nat} (hn : n + cTop TSubscription x ≤ 4611686018427387904) : laws_markSubscription.f k (x, (n : Int)) = some (((mkTop TSubscription x n).2 : Int), (mkTop TSubscription x n).1) := by
  have hc : cTop TSubscription x = cTop (.sl (.int .i64)) x.2.2.2 := by simp only [cTop]; try omega
  have e0 : laws_markIntS.f k (x.2.2.2, ((n : Nat) : Int)) = some (((mkTop (.sl (.int .i64)) x.2.2.2 n).2 : Int), (mkTop (.sl (.int .i64)) x.2.2.2 n).1) := markIntS hk (x := x.2.2.2) h.2.2.2 (n := n) (by omega)
  have q0 := mkTop_n (.sl (.int .i64)) x.2.2.2 n
  unfold laws_markSubscription.f
  simp only [e0, ob_some, ilt_nn, cond_false]
  rfl
theorem heldSubscription {k : Nat} (hk : FU ≤ k) {x : (TSubscription : Ty).den} (h : Ok TSubscription x) {n : Nat} (hn : n + cTop TSubscription x ≤ 4611686018427387904) : laws_heldSubscription.f k ((mkTop TSubscription x n).1, (n : Int)) = some ((mkTop TSubscription x n).2 : Int) := by
  have hc : cTop TSubscription x = cTop (.sl (.int .i64)) x.2.2.2 := by simp only [cTop]; try omega
  have e0 : laws_heldIntS.f k ((mkTop TSubscription x n).1.2.2.2, ((n : Nat) : Int)) = some ((mkTop (.sl (.int .i64)) x.2.2.2 n).2 : Int) := heldIntS hk (x := x.2.2.2) h.2.2.2 (n := n) (by omega)
  have q0 := mkTop_n (.sl (.int .i64)) x.2.2.2 n
  unfold laws_heldSubscription.f
  simp only [e0, ob_some, ilt_nn, cond_false]
  rfl
theorem markSession {k : Nat} (hk : FU ≤ k) {x : (TSession : Ty).den} (h : Ok TSession x) {n : Nat} (hn : n + cTop TSession x ≤ 4611686018427387904) : laws_markSession.f k (x, (n : Int)) = some (((mkTop TSession x n).2 : Int), (mkTop TSession x n).1) := by
  have hc : cTop TSession x = cTop TSubscription x.2.1 + cTop (.sl (.sl (.int .u8))) x.2.2.2.2.2.2.2.2.2.2.2.1 + cTop TSendWindow x.2.2.2.2.2.2.2.2.2.2.2.2.1 := by simp only [cTop]; try omega
  have e0 : laws_markSubscription.f k (x.2.1, ((n : Nat) : Int)) = some (((mkTop TSubscription x.2.1 n).2 : Int), (mkTop TSubscription x.2.1 n).1) := markSubscription hk (x := x.2.1) h.2.1 (n := n) (by omega)
  have q0 := mkTop_n TSubscription x.2.1 n
  have e1 : laws_markPayloadS.f k (x.2.2.2.2.2.2.2.2.2.2.2.1, (((mkTop TSubscription x.2.1 n).2 : Nat) : Int)) = some (((mkTop (.sl (.sl (.int .u8))) x.2.2.2.2.2.2.2.2.2.2.2.1 (mkTop TSubscription x.2.1 n).2).2 : Int), (mkTop (.sl (.sl (.int .u8))) x.2.2.2.2.2.2.2.2.2.2.2.1 (mkTop TSubscription x.2.1 n).2).1) := markPayloadS hk (x := x.2.2.2.2.2.2.2.2.2.2.2.1) h.2.2.2.2.2.2.2.2.2.2.2.1 (n := (mkTop TSubscription x.2.1 n).2) (by omega)
  have q1 := mkTop_n (.sl (.sl (.int .u8))) x.2.2.2.2.2.2.2.2.2.2.2.1 (mkTop TSubscription x.2.1 n).2
  have e2 : laws_markSendWindow.f k (x.2.2.2.2.2.2.2.2.2.2.2.2.1, (((mkTop (.sl (.sl (.int .u8))) x.2.2.2.2.2.2.2.2.2.2.2.1 (mkTop TSubscription x.2.1 n).2).2 : Nat) : Int)) = some (((mkTop TSendWindow x.2.2.2.2.2.2.2.2.2.2.2.2.1 (mkTop (.sl (.sl (.int .u8))) x.2.2.2.2.2.2.2.2.2.2.2.1 (mkTop TSubscription x.2.1 n).2).2).2 : Int), (mkTop TSendWindow x.2.2.2.2.2.2.2.2.2.2.2.2.1 (mkTop (.sl (.sl (.int .u8))) x.2.2.2.2.2.2.2.2.2.2.2.1 (mkTop TSubscription x.2.1 n).2).2).1) := markSendWindow hk (x := x.2.2.2.2.2.2.2.2.2.2.2.2.1) h.2.2.2.2.2.2.2.2.2.2.2.2.1 (n := (mkTop (.sl (.sl (.int .u8))) x.2.2.2.2.2.2.2.2.2.2.2.1 (mkTop TSubscription x.2.1 n).2).2) (by omega)
  have q2 := mkTop_n TSendWindow x.2.2.2.2.2.2.2.2.2.2.2.2.1 (mkTop (.sl (.sl (.int .u8))) x.2.2.2.2.2.2.2.2.2.2.2.1 (mkTop TSubscription x.2.1 n).2).2
  unfold laws_markSession.f
  simp only [e0, e1, e2, ob_some, ilt_nn, cond_false]
  rfl
theorem heldSession {k : Nat} (hk : FU ≤ k) {x : (TSession : Ty).den} (h : Ok TSession x) {n : Nat} (hn : n + cTop TSession x ≤ 4611686018427387904) : laws_heldSession.f k ((mkTop TSession x n).1, (n : Int)) = some ((mkTop TSession x n).2 : Int) := by
  have hc : cTop TSession x = cTop TSubscription x.2.1 + cTop (.sl (.sl (.int .u8))) x.2.2.2.2.2.2.2.2.2.2.2.1 + cTop TSendWindow x.2.2.2.2.2.2.2.2.2.2.2.2.1 := by simp only [cTop]; try omega
  have e0 : laws_heldSubscription.f k ((mkTop TSession x n).1.2.1, ((n : Nat) : Int)) = some ((mkTop TSubscription x.2.1 n).2 : Int) := heldSubscription hk (x := x.2.1) h.2.1 (n := n) (by omega)
  have q0 := mkTop_n TSubscription x.2.1 n
  have e1 : laws_heldPayloadS.f k ((mkTop TSession x n).1.2.2.2.2.2.2.2.2.2.2.2.1, (((mkTop TSubscription x.2.1 n).2 : Nat) : Int)) = some ((mkTop (.sl (.sl (.int .u8))) x.2.2.2.2.2.2.2.2.2.2.2.1 (mkTop TSubscription x.2.1 n).2).2 : Int) := heldPayloadS hk (x := x.2.2.2.2.2.2.2.2.2.2.2.1) h.2.2.2.2.2.2.2.2.2.2.2.1 (n := (mkTop TSubscription x.2.1 n).2) (by omega)
  have q1 := mkTop_n (.sl (.sl (.int .u8))) x.2.2.2.2.2.2.2.2.2.2.2.1 (mkTop TSubscription x.2.1 n).2
  have e2 : laws_heldSendWindow.f k ((mkTop TSession x n).1.2.2.2.2.2.2.2.2.2.2.2.2.1, (((mkTop (.sl (.sl (.int .u8))) x.2.2.2.2.2.2.2.2.2.2.2.1 (mkTop TSubscription x.2.1 n).2).2 : Nat) : Int)) = some ((mkTop TSendWindow x.2.2.2.2.2.2.2.2.2.2.2.2.1 (mkTop (.sl (.sl (.int .u8))) x.2.2.2.2.2.2.2.2.2.2.2.1 (mkTop TSubscription x.2.1 n).2).2).2 : Int) := heldSendWindow hk (x := x.2.2.2.2.2.2.2.2.2.2.2.2.1) h.2.2.2.2.2.2.2.2.2.2.2.2.1 (n := (mkTop (.sl (.sl (.int .u8))) x.2.2.2.2.2.2.2.2.2.2.2.1 (mkTop TSubscription x.2.1 n).2).2) (by omega)
  have q2 := mkTop_n TSendWindow x.2.2.2.2.2.2.2.2.2.2.2.2.1 (mkTop (.sl (.sl (.int .u8))) x.2.2.2.2.2.2.2.2.2.2.2.1 (mkTop TSubscription x.2.1 n).2).2
  unfold laws_heldSession.f
  simp only [e0, e1, e2, ob_some, ilt_nn, cond_false]
  rfl
theorem markTransmission {k : Nat} (hk : FU ≤ k) {x : (TTransmission : Ty).den} (h : Ok TTransmission x) {n : Nat} (hn : n + cTop TTransmission x ≤ 4611686018427387904) : laws_markTransmission.f k (x, (n : Int)) = some (((mkTop TTransmission x n).2 : Int), (mkTop TTransmission x n).1) := by
  have hc : cTop TTransmission x = cTop TSession x.1 + cTop TAccount x.2.1 + cTop (.sl TSignal) x.2.2.1 + cTop (.sl TRadioPacket) x.2.2.2 := by simp only [cTop]; try omega
  have e0 : laws_markSession.f k (x.1, ((n : Nat) : Int)) = some (((mkTop TSession x.1 n).2 : Int), (mkTop TSession x.1 n).1) := markSession hk (x := x.1) h.1 (n := n) (by omega)
  have q0 := mkTop_n TSession x.1 n
  have e1 : laws_markAccount.f k (x.2.1, (((mkTop TSession x.1 n).2 : Nat) : Int)) = some (((mkTop TAccount x.2.1 (mkTop TSession x.1 n).2).2 : Int), (mkTop TAccount x.2.1 (mkTop TSession x.1 n).2).1) := markAccount hk (x := x.2.1) h.2.1 (n := (mkTop TSession x.1 n).2) (by omega)
  have q1 := mkTop_n TAccount x.2.1 (mkTop TSession x.1 n).2
  have e2 : laws_markSignalS.f k (x.2.2.1, (((mkTop TAccount x.2.1 (mkTop TSession x.1 n).2).2 : Nat) : Int)) = some (((mkTop (.sl TSignal) x.2.2.1 (mkTop TAccount x.2.1 (mkTop TSession x.1 n).2).2).2 : Int), (mkTop (.sl TSignal) x.2.2.1 (mkTop TAccount x.2.1 (mkTop TSession x.1 n).2).2).1) := markSignalS hk (x := x.2.2.1) h.2.2.1 (n := (mkTop TAccount x.2.1 (mkTop TSession x.1 n).2).2) (by omega)
  have q2 := mkTop_n (.sl TSignal) x.2.2.1 (mkTop TAccount x.2.1 (mkTop TSession x.1 n).2).2
  have e3 : laws_markRadioPacketS.f k (x.2.2.2, (((mkTop (.sl TSignal) x.2.2.1 (mkTop TAccount x.2.1 (mkTop TSession x.1 n).2).2).2 : Nat) : Int)) = some (((mkTop (.sl TRadioPacket) x.2.2.2 (mkTop (.sl TSignal) x.2.2.1 (mkTop TAccount x.2.1 (mkTop TSession x.1 n).2).2).2).2 : Int), (mkTop (.sl TRadioPacket) x.2.2.2 (mkTop (.sl TSignal) x.2.2.1 (mkTop TAccount x.2.1 (mkTop TSession x.1 n).2).2).2).1) := markRadioPacketS hk (x := x.2.2.2) h.2.2.2 (n := (mkTop (.sl TSignal) x.2.2.1 (mkTop TAccount x.2.1 (mkTop TSession x.1 n).2).2).2) (by omega)
  have q3 := mkTop_n (.sl TRadioPacket) x.2.2.2 (mkTop (.sl TSignal) x.2.2.1 (mkTop TAccount x.2.1 (mkTop TSession x.1 n).2).2).2
  unfold laws_markTransmission.f
  simp only [e0, e1, e2, e3, ob_some, ilt_nn, cond_false]
  rfl
theorem heldTransmission {k : Nat} (hk : FU ≤ k) {x : (TTransmission : Ty).den} (h : Ok TTransmission x) {n : Nat} (hn : n + cTop TTransmission x ≤ 4611686018427387904) : laws_heldTransmission.f k ((mkTop TTransmission x n).1, (n : Int)) = some ((mkTop TTransmission x n).2 : Int) := by
  have hc : cTop TTransmission x = cTop TSession x.1 + cTop TAccount x.2.1 + cTop (.sl TSignal) x.2.2.1 + cTop (.sl TRadioPacket) x.2.2.2 := by simp only [cTop]; try omega
  have e0 : laws_heldSession.f k ((mkTop TTransmission x n).1.1, ((n : Nat) : Int)) = some ((mkTop TSession x.1 n).2 : Int) := heldSession hk (x := x.1) h.1 (n := n) (by omega)
  have q0 := mkTop_n TSession x.1 n
  have e1 : laws_heldAccount.f k ((mkTop TTransmission x n).1.2.1, (((mkTop TSession x.1 n).2 : Nat) : Int)) = some ((mkTop TAccount x.2.1 (mkTop TSession x.1 n).2).2 : Int) := heldAccount hk (x := x.2.1) h.2.1 (n := (mkTop TSession x.1 n).2) (by omega)
  have q1 := mkTop_n TAccount x.2.1 (mkTop TSession x.1 n).2
  have e2 : laws_heldSignalS.f k ((mkTop TTransmission x n).1.2.2.1, (((mkTop TAccount x.2.1 (mkTop TSession x.1 n).2).2 : Nat) : Int)) = some ((mkTop (.sl TSignal) x.2.2.1 (mkTop TAccount x.2.1 (mkTop TSession x.1 n).2).2).2 : Int) := heldSignalS hk (x := x.2.2.1) h.2.2.1 (n := (mkTop TAccount x.2.1 (mkTop TSession x.1 n).2).2) (by omega)
  have q2 := mkTop_n (.sl TSignal) x.2.2.1 (mkTop TAccount x.2.1 (mkTop TSession x.1 n).2).2
  have e3 : laws_heldRadioPacketS.f k ((mkTop TTransmission x n).1.2.2.2, (((mkTop (.sl TSignal) x.2.2.1 (mkTop TAccount x.2.1 (mkTop TSession x.1 n).2).2).2 : Nat) : Int)) = some ((mkTop (.sl TRadioPacket) x.2.2.2 (mkTop (.sl TSignal) x.2.2.1 (mkTop TAccount x.2.1 (mkTop TSession x.1 n).2).2).2).2 : Int) := heldRadioPacketS hk (x := x.2.2.2) h.2.2.2 (n := (mkTop (.sl TSignal) x.2.2.1 (mkTop TAccount x.2.1 (mkTop TSession x.1 n).2).2).2) (by omega)
  have q3 := mkTop_n (.sl TRadioPacket) x.2.2.2 (mkTop (.sl TSignal) x.2.2.1 (mkTop TAccount x.2.1 (mkTop TSession x.1 n).2).2).2
  unfold laws_heldTransmission.f
  simp only [e0, e1, e2, e3, ob_some, ilt_nn, cond_false]
  rfl
end Go.Proofs.XF
/- Plain laws: program and reference agree: copies, devices, sessions. -/
set_option linter.unusedVariables false
set_option linter.unusedSimpArgs false
set_option linter.unusedSectionVars false
set_option maxRecDepth 4000
namespace Go.Proofs.XF
open Go Go.Proofs.XTv

theorem app1 {α : Type} {l : List α} {v : α} {b : Nat} (h : l.length ≤ 4294967296) (hb : b ≤ 16384) : appOk l [v] b = true := by
  refine app_ok ?_
  have : (l.length + 1) * b ≤ 4294967297 * 16384 := Nat.mul_le_mul (by omega) hb
  show (l.length + 1) * b ≤ _
  omega
theorem app0 {α : Type} {l : List α} {b : Nat} (h : l.length ≤ 4294967296) (hb : b ≤ 16384) : appOk [] l b = true := by
  refine app_ok ?_
  have : l.length * b ≤ 4294967296 * 16384 := Nat.mul_le_mul h hb
  simp only [List.length_nil, Nat.zero_add]
  omega
theorem okn {n : Int} (h : -2147483648 ≤ n ∧ n ≤ 2147483647) : Ok (.int .i64) n := by
  show -9223372036854775808 ≤ n ∧ n ≤ 9223372036854775807
  omega
theorem takeL {α : Type} {l : List α} {i : Nat} (h : i < l.length) (hl : l.length ≤ 4294967296) : (l.take i).length ≤ 4294967296 := by simp; omega

section
variable {k : Nat} (hk : FU ≤ k)
/-! ### Copies -/
theorem i_copyBytes (hk : FU ≤ k) {x : List Int} (h : x.length ≤ 4294967296) : impl_copyBytes.f k x = some x := by
  unfold impl_copyBytes.f
  rw [make_len (by omega), cond_true, lcopy_all (e := .int .u8)]
theorem i_copyInts (hk : FU ≤ k) {x : List Int} (h : x.length ≤ 4294967296) : impl_copyInts.f k x = some x := by
  unfold impl_copyInts.f
  rw [make_len (by omega), cond_true, lcopy_all (e := .int .i64)]
theorem i_copyPayloads (hk : FU ≤ k) {x : List (List Int)} (h : Ok (.sl (.sl (.int .u8))) x) : impl_copyPayloads.f k x = some x := by
  have hl := ok_len h
  unfold impl_copyPayloads.f
  rw [make_len (by omega), cond_true, copy_loop hk (e := .sl (.int .u8)) (s := impl_copyPayloads.s0 k) hl (fun i acc hi ha => by
    have hi' : i < acc.length := ha ▸ hi
    simp only [impl_copyPayloads.s0, ilt_nat, idx_len, decide_eq_true hi, decide_eq_true hi', cond_true, lget_nat (e := .sl (.int .u8)) _ hi, i_copyBytes hk (ok_len (ok_get h hi)), ob_some, lset_nat, iadd_nat (show i < 9223372036854775807 by omega)]) (fun acc => by
    simp only [impl_copyPayloads.s0, ilt_nat, Nat.lt_irrefl, decide_false, cond_false]), ob_some]
theorem i_copyNumbered (hk : FU ≤ k) {x : List DNumberedPacket} (h : Ok (.sl TNumberedPacket) x) : impl_copyNumbered.f k x = some x := by
  have hl := ok_len h
  unfold impl_copyNumbered.f
  rw [make_len (by omega), cond_true, copy_loop hk (e := TNumberedPacket) (s := impl_copyNumbered.s0 k) hl (fun i acc hi ha => by
    have hi' : i < acc.length := ha ▸ hi
    simp only [impl_copyNumbered.s0, ilt_nat, idx_len, decide_eq_true hi, decide_eq_true hi', cond_true, lget_nat (e := TNumberedPacket) _ hi, i_copyBytes hk (ok_len (ok_get h hi).2), ob_some, lset_nat, iadd_nat (show i < 9223372036854775807 by omega)]) (fun acc => by
    simp only [impl_copyNumbered.s0, ilt_nat, Nat.lt_irrefl, decide_false, cond_false]), ob_some]
theorem s_bodies (hk : FU ≤ k) {x : List (List Int)} (h : Ok (.sl (.sl (.int .u8))) x) : spec_l15Bodies.f k x = some x := by
  have hl := ok_len h
  unfold spec_l15Bodies.f
  rw [cat_loop hk (e := .sl (.int .u8)) (s := spec_l15Bodies.s0) hl (fun i hi => by
    simp only [spec_l15Bodies.s0, ilt_len, idx_len, decide_eq_true hi, cond_true, lget_nat (e := .sl (.int .u8)) _ hi, app0 (ok_len (ok_get h hi)) (show 1 ≤ 16384 by omega), app1 (takeL hi hl) (show 24 ≤ 16384 by omega), lcat_nil, lcat_eq, List.nil_append, iadd_nat (show i < 9223372036854775807 by omega)]) (by
    simp only [spec_l15Bodies.s0, ilt_len, Nat.lt_irrefl, decide_false, cond_false]), ob_some]
theorem s_sents (hk : FU ≤ k) {x : List DNumberedPacket} (h : Ok (.sl TNumberedPacket) x) : spec_l24Sents.f k x = some x := by
  have hl := ok_len h
  unfold spec_l24Sents.f
  rw [cat_loop hk (e := TNumberedPacket) (s := spec_l24Sents.s0) hl (fun i hi => by
    simp only [spec_l24Sents.s0, ilt_len, idx_len, decide_eq_true hi, cond_true, lget_nat (e := TNumberedPacket) _ hi, app0 (ok_len (ok_get h hi).2) (show 1 ≤ 16384 by omega), app1 (takeL hi hl) (show 32 ≤ 16384 by omega), lcat_nil, lcat_eq, List.nil_append, iadd_nat (show i < 9223372036854775807 by omega)]) (by
    simp only [spec_l24Sents.s0, ilt_len, Nat.lt_irrefl, decide_false, cond_false]), ob_some]
theorem s_plan (hk : FU ≤ k) {x : DSubscription} (h : Ok TSubscription x) : spec_l30Plan.f k x = some x := by
  unfold spec_l30Plan.f
  have h1 : x.2.2.2.length ≤ 4294967296 := ok_len h.2.2.2
  simp only [app0 h1 (show 8 ≤ 16384 by omega), cond_true, lcat_nil]
theorem i_copySubscription (hk : FU ≤ k) {x : DSubscription} (h : Ok TSubscription x) : impl_copySubscription.f k x = some x := by
  unfold impl_copySubscription.f
  simp only [i_copyInts hk (ok_len h.2.2.2), ob_some]
theorem i_copySender (hk : FU ≤ k) {x : DSendWindow} (h : Ok TSendWindow x) : impl_copySender.f k x = some x := by
  unfold impl_copySender.f
  simp only [i_copyNumbered hk h.2, ob_some]
theorem s_sender (hk : FU ≤ k) {x : DSendWindow} (h : Ok TSendWindow x) : spec_l24Sender.f k x = some x := by
  unfold spec_l24Sender.f
  simp only [s_sents hk h.2, ob_some]
theorem i_copySession (hk : FU ≤ k) {x : DSession} (h : Ok TSession x) : impl_copySession.f k x = some x := by
  unfold impl_copySession.f
  simp only [i_copySubscription hk h.2.1, i_copyPayloads hk h.2.2.2.2.2.2.2.2.2.2.2.1, i_copySender hk h.2.2.2.2.2.2.2.2.2.2.2.2.1, ob_some]
theorem s_copySession (hk : FU ≤ k) {x : DSession} (h : Ok TSession x) : spec_l30Copy.f k x = some x := by
  unfold spec_l30Copy.f
  simp only [s_plan hk h.2.1, s_bodies hk h.2.2.2.2.2.2.2.2.2.2.2.1, s_sender hk h.2.2.2.2.2.2.2.2.2.2.2.2.1, ob_some]

/-! ### Devices -/
theorem in_eq (x : DQuota) : impl_InRange.f k x = spec_l1In.f k x := rfl
def bytesFrom : List DNumberedPacket → Int → Int
  | [], n => n
  | p :: ps, n => bytesFrom ps (iadd .i64 n (llen p.2))
theorem bytesFrom_snoc (p : DNumberedPacket) : ∀ (l : List DNumberedPacket) (n : Int), bytesFrom (l ++ [p]) n = iadd .i64 (bytesFrom l n) (llen p.2)
  | [], n => rfl
  | q :: l, n => bytesFrom_snoc p l _
theorem i_numberedBytes (hk : FU ≤ k) {x : List DNumberedPacket} (hl : x.length ≤ 4294967296) : impl_numberedBytes.f k x = some (bytesFrom x 0) := by
  have := loop_up (step := impl_numberedBytes.s0) (e := bytesFrom x 0) x.length k (fun i => (bytesFrom (x.take i) 0, x, (x.length : Int), (i : Int))) (by unfold FU at hk; omega)
    (fun i hi => by simp only [impl_numberedBytes.s0, ilt_nat, idx_len, decide_eq_true hi, cond_true, lget_nat (e := TNumberedPacket) _ hi, iadd_nat (show i < 9223372036854775807 by omega)]; rw [← take_snoc x hi, bytesFrom_snoc])
    (by simp only [impl_numberedBytes.s0, ilt_nat, Nat.lt_irrefl, decide_false, cond_false, List.take_length])
  unfold impl_numberedBytes.f
  rw [llen_eq]
  rw [show loopN impl_numberedBytes.s0 k (0, x, (x.length : Int), 0) = some (bytesFrom x 0) by simpa [bytesFrom] using this, ob_some]
theorem s_bytes (hk : FU ≤ k) {x : List DNumberedPacket} (hl : x.length ≤ 4294967296) : spec_l30Bytes.f k x = some (bytesFrom x 0) := by
  have := loop_up (step := spec_l30Bytes.s0) (e := bytesFrom x 0) x.length k (fun i => (x, bytesFrom (x.take i) 0, (i : Int))) (by unfold FU at hk; omega)
    (fun i hi => by simp only [spec_l30Bytes.s0, ilt_len, idx_len, decide_eq_true hi, cond_true, lget_nat (e := TNumberedPacket) _ hi, iadd_nat (show i < 9223372036854775807 by omega)]; rw [← take_snoc x hi, bytesFrom_snoc])
    (by simp only [spec_l30Bytes.s0, ilt_len, Nat.lt_irrefl, decide_false, cond_false, List.take_length])
  unfold spec_l30Bytes.f
  rw [show loopN spec_l30Bytes.s0 k (x, 0, 0) = some (bytesFrom x 0) by simpa [bytesFrom] using this, ob_some]
theorem both_OutstandingBytes (hk : FU ≤ k) {x : DSession} (h : Ok TSession x) (hn : cnt TSession x ≤ 1048576) : ∃ r, spec_OutstandingBytes.f k x = some r ∧ impl_OutstandingBytes.f k x = some r := by
  have hl := ok_len h.2.2.2.2.2.2.2.2.2.2.2.2.1.2
  refine ⟨bytesFrom x.2.2.2.2.2.2.2.2.2.2.2.2.1.2 0, ?_, ?_⟩
  · unfold spec_OutstandingBytes.f; rw [s_bytes hk hl, ob_some]
  · unfold impl_OutstandingBytes.f; rw [i_numberedBytes hk hl, ob_some]
end
end Go.Proofs.XF
/- Plain laws: which receivers and devices are valid. -/
set_option linter.unusedVariables false
set_option linter.unusedSimpArgs false
set_option linter.unusedSectionVars false
set_option maxRecDepth 4000
namespace Go.Proofs.XF
open Go Go.Proofs.XTv

def fitB (l : List (List Int)) (j : Nat) : Bool := dnot (ilt 60 (llen (lget (.sl (.int .u8)) l (j : Int))))
def recvB (x : DReceiveWindow) (i : Nat) : Bool :=
  (bif ile (iadd .i64 x.1 1) (lget TNumberedPacket x.2.1 (i : Int)).1 then ile (lget TNumberedPacket x.2.1 (i : Int)).1 (isub .i64 (iadd .i64 x.1 8) 1) else false) &&
  dnot (ilt 60 (llen (lget TNumberedPacket x.2.1 (i : Int)).2)) &&
  dnot (ilt 0 (i : Int) && ile (lget TNumberedPacket x.2.1 (i : Int)).1 (lget TNumberedPacket x.2.1 (isub .i64 (i : Int) 1)).1)
def recvOk (x : DReceiveWindow) : Bool :=
  decide (ieq x.1 (iadd .i64 (llen x.2.2) 1) = true ∧ ile (llen x.2.2) 24 = true ∧ (∀ j, j < x.2.2.length → fitB x.2.2 j = true) ∧ ile (llen x.2.1) 8 = true ∧ ∀ i, i < x.2.1.length → recvB x i = true)
theorem idx_pred {α : Type} {l : List α} {i : Nat} (hi : i < l.length) (hl : l.length ≤ 4294967296) (h : ilt 0 (i : Int) = true) : idxOk (isub .i64 (i : Int) 1) (llen l) = true := by
  have h0 : (0 : Int) < (i : Int) := of_decide_eq_true h
  rw [isub_eq (by omega) (by omega)]
  exact decide_eq_true ⟨by omega, by show (i : Int) - 1 < (l.length : Int); omega⟩
theorem not_ilt_ile (x y : Int) : dnot (ilt x y) = ile y x := by
  by_cases h : x < y
  · rw [ilt_t h, ile_f (by omega)]; rfl
  · rw [ilt_f h, ile_t (by omega)]; rfl
theorem not_ine (x y : Int) : dnot (ine x y) = ieq x y := by
  unfold dnot ine ieq bne
  rw [Bool.not_not]
theorem ine_not (x y : Int) : ine x y = dnot (ieq x y) := rfl

section
variable {k : Nat} (hk : FU ≤ k)
theorem i_fitPayload (hk : FU ≤ k) {x : List (List Int)} (hl : x.length ≤ 4294967296) : impl_fitPayload.f k x = some (decide (∀ j, j < x.length → fitB x j = true)) := by
  have := all_loop (step := impl_fitPayload.s0) (fitB x) (fin := .inl ()) (bad := .inr false) (fun i => (x, (x.length : Int), (i : Int))) x.length
    (fun i hi => by
      simp only [impl_fitPayload.s0, ilt_nat, idx_len, decide_eq_true hi, cond_true, iadd_nat (show i < 9223372036854775807 by omega), fitB]
      cases ilt 60 (llen (lget (.sl (.int .u8)) x (i : Int))) <;> rfl)
    (by simp only [impl_fitPayload.s0, ilt_nat, Nat.lt_irrefl, decide_false, cond_false]) (N := k) (by unfold FU at hk; omega)
  unfold impl_fitPayload.f
  rw [llen_eq, show loopN impl_fitPayload.s0 k (x, (x.length : Int), 0) = _ from this, ob_some]
  by_cases h : ∀ j, j < x.length → fitB x j = true
  · rw [if_pos h, decide_eq_true h]; rfl
  · rw [if_neg h, decide_eq_false h]; rfl
def inB (x l h : Int) : Bool := bif ile l x then ile x h else false
theorem i_in (x l h : Int) : impl_InRange.f k (x, l, h) = some (inB x l h) := rfl
theorem s_in (x l h : Int) : spec_l1In.f k (x, l, h) = some (inB x l h) := rfl
theorem in_23 (x : Int) : inB x 2 3 = (ieq x 2 || ieq x 3) := by
  unfold inB
  by_cases h2 : x = 2
  · subst h2; rfl
  · by_cases h3 : x = 3
    · subst h3; rfl
    · rw [ieq_f h2, ieq_f h3]
      by_cases h : 2 ≤ x
      · rw [ile_t h, cond_true, ile_f (by omega)]; rfl
      · rw [ile_f h]; rfl
theorem ob_pick {α β : Type} (c : Bool) (a b : α) (f : α → Option β) : obind (bif c then some a else some b) f = f (bif c then a else b) := by cases c <;> rfl
end
end Go.Proofs.XF
/- Plain laws: hashes, keys, message codes: program and reference reckon the same. -/
set_option linter.unusedVariables false
set_option linter.unusedSimpArgs false
set_option linter.unusedSectionVars false
set_option maxRecDepth 4000
namespace Go.Proofs.XF
open Go Go.Proofs.XTv

def modF (x m : Int) : Int := if 1 ≤ m ∧ m ≤ 1000000000000 then x % m else 0
theorem modF_bd {x m : Int} (h : 1 ≤ m) (h2 : m ≤ 1000000000000) : 0 ≤ modF x m ∧ modF x m < m := by
  unfold modF
  rw [if_pos ⟨h, h2⟩]
  exact ⟨Int.emod_nonneg x (by omega), Int.emod_lt_of_pos x (by omega)⟩
theorem tmod_bd (x : Int) {m : Int} (h : 0 < m) : -m < x.tmod m ∧ x.tmod m < m := by
  constructor
  · have := Int.lt_tmod_of_pos x h; omega
  · exact Int.tmod_lt_of_pos x h
theorem tmod_emod (x : Int) {m : Int} (h : 0 < m) : x % m = if x.tmod m < 0 then x.tmod m + m else x.tmod m := by
  have hb := tmod_bd x h
  have h1 : x = m * x.tdiv m + x.tmod m := (Int.mul_tdiv_add_tmod x m).symm
  split
  · have : x = (x.tmod m + m) + m * (x.tdiv m - 1) := by rw [Int.mul_sub]; omega
    rw [this, Int.add_mul_emod_self_left]
    have e : x.tmod m + m + m * (x.tdiv m - 1) = x := this.symm
    rw [e]
    exact Int.emod_eq_of_lt (by omega) (by omega)
  · conv => lhs; rw [h1, Int.add_comm, Int.add_mul_emod_self_left]
    exact Int.emod_eq_of_lt (by omega) (by omega)
def hstep (h x : Int) : Int := irem .i64 (iadd .i64 (iadd .i64 (imul .i64 h 1000003) (modF x 2147483647)) 13) 2147483647
theorem hstep_bd {h x : Int} (h0 : 0 ≤ h) (h1 : h < 2147483647) : 0 ≤ hstep h x ∧ hstep h x < 2147483647 := by
  have hb := modF_bd (x := x) (m := 2147483647) (by omega) (by omega)
  unfold hstep
  rw [imul_eq (by omega) (by omega), iadd_eq (x := h * 1000003) (y := modF x 2147483647) (by omega) (by omega), iadd_eq (by omega) (by omega)]
  unfold irem
  have := tmod_bd (h * 1000003 + modF x 2147483647 + 13) (m := 2147483647) (by omega)
  exact ⟨Int.tmod_nonneg _ (by omega), this.2⟩
def hfold (h : Int) (l : List Int) : Int := l.foldl hstep h
theorem hfold_bd : ∀ (l : List Int) {h : Int}, 0 ≤ h → h < 2147483647 → 0 ≤ hfold h l ∧ hfold h l < 2147483647
  | [], h, h0, h1 => ⟨h0, h1⟩
  | x :: l, h, h0, h1 => by
    have := hstep_bd (x := x) h0 h1
    exact hfold_bd l this.1 this.2
theorem hfold_snoc (h : Int) (l : List Int) (x : Int) : hfold h (l ++ [x]) = hstep (hfold h l) x := by simp [hfold]
def khash (key : Int) (l : List Int) : Int := hfold 11 (key :: l ++ [key])
theorem khash_bd (key : Int) (l : List Int) : 0 ≤ khash key l ∧ khash key l < 2147483647 := hfold_bd _ (by omega) (by omega)
def derive (key x : Int) : Int := if khash key [9, x] = 0 then 1 else khash key [9, x]
theorem derive_bd (key x : Int) : 1 ≤ derive key x ∧ derive key x < 2147483647 := by
  have := khash_bd key [9, x]
  unfold derive
  split <;> omega
def pathKey (key : Int) (l : List Int) : Int := l.foldl derive key
theorem pathKey_snoc (key : Int) (l : List Int) (x : Int) : pathKey key (l ++ [x]) = derive (pathKey key l) x := by simp [pathKey]
def macF (key : Int) (m : DSignal) : Int := khash (pathKey key [1, 2]) [23, m.1, m.2.1, m.2.2.1, m.2.2.2.1, m.2.2.2.2.1]

section
variable {k : Nat} (hk : FU ≤ k)
theorem i_mod (hk : FU ≤ k) (x m : Int) : impl_Mod.f k (x, m) = some (modF x m) := by
  unfold impl_Mod.f
  rw [i_in, ob_some]
  unfold inB modF
  by_cases h : 1 ≤ m ∧ m ≤ 1000000000000
  · rw [ile_t h.1, ile_t h.2, if_pos h, ine_t (show m ≠ 0 by omega)]
    simp only [cond_true, dnot_t, cond_false]
    have hb := tmod_bd x (m := m) (by omega)
    rw [tmod_emod x (m := m) (by omega)]
    unfold irem
    by_cases hn : x.tmod m < 0
    · rw [ilt_t hn, cond_true, if_pos hn, iadd_eq (by omega) (by omega)]
    · rw [ilt_f hn, cond_false, if_neg hn]
  · rw [if_neg h]
    by_cases h1 : 1 ≤ m
    · rw [ile_t h1, cond_true, ile_f (by omega)]; rfl
    · rw [ile_f h1]; rfl
theorem s_mod (hk : FU ≤ k) (x m : Int) : spec_Mod.f k (x, m) = some (modF x m) := by
  unfold spec_Mod.f
  rw [s_in, ob_some]
  unfold inB modF
  by_cases h : 1 ≤ m ∧ m ≤ 1000000000000
  · rw [ile_t h.1, ile_t h.2, if_pos h, ine_t (show m ≠ 0 by omega)]
    simp only [cond_true, dnot_t, cond_false]
    have hb := tmod_bd x (m := m) (by omega)
    rw [tmod_emod x (m := m) (by omega)]
    unfold irem
    rw [iadd_eq (by omega) (by omega)]
    by_cases hn : x.tmod m < 0
    · rw [if_pos hn, Int.tmod_eq_of_lt (by omega) (by omega)]
    · rw [if_neg hn, Int.tmod_eq_emod_of_nonneg (by omega), Int.add_emod_right, Int.emod_eq_of_lt (by omega) (by omega)]
  · rw [if_neg h]
    by_cases h1 : 1 ≤ m
    · rw [ile_t h1, cond_true, ile_f (by omega)]; rfl
    · rw [ile_f h1]; rfl
theorem i_hashStep (hk : FU ≤ k) (h x : Int) : impl_hashStep.f k (h, x) = some (hstep h x) := by
  unfold impl_hashStep.f
  rw [i_mod hk, ob_some]; rfl
theorem s_hash (hk : FU ≤ k) {l : List Int} (hl : l.length ≤ 8589934592) : spec_Hash.f k l = some (hfold 11 l) := by
  have := loop_up (step := spec_Hash.s0 k) (e := hfold 11 l) l.length k (fun i => (l, hfold 11 (l.take i), (i : Int))) (by unfold FU at hk; omega)
    (fun i hi => by
      simp only [spec_Hash.s0, ilt_len, idx_len, decide_eq_true hi, cond_true, lget_nat (e := .int .i64) _ hi, s_mod hk, ob_some, iadd_nat (show i < 9223372036854775807 by omega)]
      rw [← take_snoc l hi, hfold_snoc]; rfl)
    (by simp only [spec_Hash.s0, ilt_len, Nat.lt_irrefl, decide_false, cond_false, List.take_length])
  unfold spec_Hash.f
  rw [show loopN (spec_Hash.s0 k) k (l, 11, 0) = some (hfold 11 l) by simpa [hfold] using this, ob_some]
theorem s_khash (hk : FU ≤ k) {key : Int} {l : List Int} (hl : l.length ≤ 8589934000) : spec_KeyedHash.f k (key, l) = some (khash key l) := by
  unfold spec_KeyedHash.f
  rw [app_ok (by simp; omega), app_ok (by simp [lcat]; omega)]
  simp only [cond_true]
  rw [s_hash hk (by simp [lcat]; omega), ob_some]
  rfl
theorem i_khash (hk : FU ≤ k) {key : Int} {l : List Int} (hl : l.length ≤ 8589934592) : impl_KeyedHash.f k (key, l) = some (khash key l) := by
  have := loop_up (step := impl_KeyedHash.s0 k) (e := (key, hfold 11 (key :: l))) l.length k (fun i => (key, hfold 11 (key :: l.take i), l, (l.length : Int), (i : Int))) (by unfold FU at hk; omega)
    (fun i hi => by
      simp only [impl_KeyedHash.s0, ilt_nat, idx_len, decide_eq_true hi, cond_true, lget_nat (e := .int .i64) _ hi, i_hashStep hk, ob_some, iadd_nat (show i < 9223372036854775807 by omega)]
      rw [← take_snoc l hi, ← List.cons_append, hfold_snoc])
    (by simp only [impl_KeyedHash.s0, ilt_nat, Nat.lt_irrefl, decide_false, cond_false, List.take_length])
  unfold impl_KeyedHash.f
  rw [i_hashStep hk, ob_some, llen_eq]
  rw [show loopN (impl_KeyedHash.s0 k) k (key, hstep 11 key, l, (l.length : Int), 0) = some (key, hfold 11 (key :: l)) by simpa [hfold] using this, ob_some, i_hashStep hk, ob_some]
  unfold khash
  rw [hfold_snoc]
theorem i_derive (hk : FU ≤ k) (key x : Int) : impl_DeriveKey.f k (key, x) = some (derive key x) := by
  unfold impl_DeriveKey.f derive
  rw [i_khash hk (by simp), ob_some]
  by_cases h : khash key [9, x] = 0
  · rw [if_pos h, ieq_t h, cond_true]
  · rw [if_neg h, ieq_f h, cond_false]
theorem s_max (hk : FU ≤ k) (a b : Int) : spec_Max.f k (a, b) = some (if a ≤ b then b else a) := by
  unfold spec_Max.f
  by_cases h : a ≤ b
  · rw [if_pos h]
    first
      | (rw [ilt_f (by omega)]; rfl)
      | (by_cases h2 : a < b
         · rw [ilt_t h2]; rfl
         · have : a = b := by omega
           subst this; rw [ilt_f h2]; rfl)
      | (rw [ile_t h]; rfl)
  · rw [if_neg h]
    first
      | (rw [ilt_t (by omega)]; rfl)
      | (rw [ilt_f (by omega)]; rfl)
      | (rw [ile_f h]; rfl)
theorem s_derive (hk : FU ≤ k) (key x : Int) : spec_DeriveKey.f k (key, x) = some (derive key x) := by
  have hb := khash_bd key [9, x]
  unfold spec_DeriveKey.f derive
  rw [s_khash hk (by simp), ob_some, s_max hk, ob_some]
  show some (if (1 : Int) ≤ khash key [9, x] then khash key [9, x] else 1) = some (if khash key [9, x] = 0 then 1 else khash key [9, x])
  by_cases h : khash key [9, x] = 0
  · rw [if_pos h, if_neg (by omega)]
  · rw [if_neg h, if_pos (by omega)]
theorem i_pathKey (hk : FU ≤ k) {key : Int} {l : List Int} (hl : l.length ≤ 4294967296) : impl_KeyForPath.f k (key, l) = some (pathKey key l) := by
  have := loop_up (step := impl_deriveSteps.s0 k) (e := pathKey key l) l.length k (fun i => (pathKey key (l.take i), l, (l.length : Int), (i : Int))) (by unfold FU at hk; omega)
    (fun i hi => by
      simp only [impl_deriveSteps.s0, ilt_nat, idx_len, decide_eq_true hi, cond_true, lget_nat (e := .int .i64) _ hi, i_derive hk, ob_some, iadd_nat (show i < 9223372036854775807 by omega)]
      rw [← take_snoc l hi, pathKey_snoc])
    (by simp only [impl_deriveSteps.s0, ilt_nat, Nat.lt_irrefl, decide_false, cond_false, List.take_length])
  unfold impl_KeyForPath.f impl_deriveSteps.f
  rw [llen_eq]
  rw [show loopN (impl_deriveSteps.s0 k) k (key, l, (l.length : Int), 0) = some (pathKey key l) by simpa [pathKey] using this]
  rfl
theorem s_pathKey (hk : FU ≤ k) {key : Int} {l : List Int} (hl : l.length ≤ 4294967296) : spec_KeyForPath.f k (key, l) = some (pathKey key l) := by
  have := loop_up (step := spec_KeyForPath.s0 k) (e := pathKey key l) l.length k (fun i => ((pathKey key (l.take i), (i : Int)), l)) (by unfold FU at hk; omega)
    (fun i hi => by
      simp only [spec_KeyForPath.s0, ilt_len, idx_len, decide_eq_true hi, cond_true, lget_nat (e := .int .i64) _ hi, s_derive hk, ob_some, iadd_nat (show i < 9223372036854775807 by omega)]
      rw [← take_snoc l hi, pathKey_snoc])
    (by simp only [spec_KeyForPath.s0, ilt_len, Nat.lt_irrefl, decide_false, cond_false, List.take_length])
  unfold spec_KeyForPath.f
  rw [show loopN (spec_KeyForPath.s0 k) k ((key, 0), l) = some (pathKey key l) by simpa [pathKey] using this]
  rfl
end
end Go.Proofs.XF
/- Plain laws: what is drawn out of bytes. -/
set_option linter.unusedVariables false
set_option linter.unusedSimpArgs false
set_option linter.unusedSectionVars false
set_option maxRecDepth 4000
namespace Go.Proofs.XF
open Go Go.Proofs.XTv

/-- A cursor over bytes. -/
def CurOk (c : Dl1Cur) : Prop := c.1.length ≤ 281474976710656 ∧ 0 ≤ c.2.1 ∧ c.2.1 ≤ (c.1.length : Int)
theorem iand_bd (x : Int) : 0 ≤ iand .i64 x 255 ∧ iand .i64 x 255 ≤ 255 := by
  have h : (BitVec.ofInt 64 x &&& BitVec.ofInt 64 255).toNat ≤ 255 := by
    rw [BitVec.toNat_and]
    exact Nat.le_trans Nat.and_le_right (by decide)
  have e : iand .i64 x 255 = ((BitVec.ofInt 64 x &&& BitVec.ofInt 64 255).toNat : Int) := by
    unfold iand
    exact wrap_i64 (by show _ ≤ (((BitVec.ofInt 64 x &&& BitVec.ofInt 64 255).toNat : Nat) : Int); omega) (by show (((BitVec.ofInt 64 x &&& BitVec.ofInt 64 255).toNat : Nat) : Int) ≤ _; omega)
  rw [e]
  omega
section
variable {k : Nat} (hk : FU ≤ k)
end
end Go.Proofs.XF
