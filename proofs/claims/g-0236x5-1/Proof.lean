import JvmDerived
import JvmDerived.Pilot.@@N@@Statement
import JvmDerived.Pilot.@@N@@Code
set_option linter.unusedVariables false
set_option linter.unusedSimpArgs false
namespace Jvm.RoadKit
open Sem ClassFile Op Lib Jvm.Stand Jvm.Free Jvm.LawKit
section New
variable {p : Program} {l : Launch} {e : Env} {R : Room} {s : State} {m : MethodId} {args : Array Value} {below : List Frame} {meth : Method} {c : Code} {T : State} {locs : List Loc} {cells slots : Nat}
theorem retI (X : Stand p l e R s m args below meth c T locs cells slots) (hx : p.tables.exec = Jvm.exec) {pc : Nat} {Ls : Array Slot} {z : Int32} {rest : List Value} (hret : meth.sig.returnType = some .int) (hd : decode c.code pc = .ok (.ireturn, 1)) {fs : List Frame}
    (hl : ∀ (f : JFrame) (acts : List Action), f.method = m → f.locked = none → f.entered = [] → (doReturn e (T.setTop f) acts (some (.int z))).1 = T.setFrames fs) : Steps p.tables e below (T.setTop (mkF m pc Ls (.int z :: rest))) (T.setFrames fs) := by
  have hm' : T.vm.method? m = some meth := X.method'
  have hn : narrow .int (.int z) = .int z := rfl
  show Steps p.tables e below (T.setTop { method := m, pc := pc, locals := Ls, stack := _ :: rest, locked := none }) _
  jvm_step X.here [X.here.top, hx, hd, hm', hret, hn]
  first | (intro acts; rw [hl _ acts rfl rfl rfl]) | rw [hl _ _ rfl rfl rfl]
  exact Steps.refl _
end New
end Jvm.RoadKit
namespace Jvm.Pilot.@@N@@
open Jvm Jvm.ClassFile Sem Op Lib Jvm.Free Jvm.Stand Jvm.LawKit Jvm.RoadKit Bundle Jvm.Pilot.@@N@@.Jvm.D
/-! TABLES of this claim: printed by claim.py -/
def k0 : Nat := 0
def cName : String := "NakMulticast"
def cN : Nat := 26
def nF : Nat := 26
def kName (k : Nat) : String := bif Nat.beq k 0 then "NakMulticastL3" else "NakMulticast"
def fNm (k : Nat) : String := (bif Nat.ble 13 k then (bif Nat.ble 19 k then (bif Nat.ble 22 k then (bif Nat.ble 24 k then (bif Nat.ble 25 k then "nakLen" else "qLen") else (bif Nat.ble 23 k then "nextSeq" else "period")) else (bif Nat.ble 20 k then (bif Nat.ble 21 k then "repair" else "back") else "win")) else (bif Nat.ble 16 k then (bif Nat.ble 17 k then (bif Nat.ble 18 k then "nakBuf" else "lostLen") else "lostLog") else (bif Nat.ble 14 k then (bif Nat.ble 15 k then "delLen" else "delVal") else "delSeq"))) else (bif Nat.ble 6 k then (bif Nat.ble 9 k then (bif Nat.ble 11 k then (bif Nat.ble 12 k then "drops" else "dups") else (bif Nat.ble 10 k then "lossLeft" else "rxTrail")) else (bif Nat.ble 7 k then (bif Nat.ble 8 k then "rxLead" else "rxNext") else "rxVal")) else (bif Nat.ble 3 k then (bif Nat.ble 4 k then (bif Nat.ble 5 k then "timer" else "state") else "stats") else (bif Nat.ble 1 k then (bif Nat.ble 2 k then "queue" else "pend") else "srcPayload"))))
def fDs (k : Nat) : String := (bif Nat.ble 13 k then (bif Nat.ble 19 k then (bif Nat.ble 22 k then (bif Nat.ble 24 k then (bif Nat.ble 25 k then "I" else "I") else (bif Nat.ble 23 k then "I" else "I")) else (bif Nat.ble 20 k then (bif Nat.ble 21 k then "I" else "I") else "I")) else (bif Nat.ble 16 k then (bif Nat.ble 17 k then (bif Nat.ble 18 k then "[I" else "[I") else "[I") else (bif Nat.ble 14 k then (bif Nat.ble 15 k then "[I" else "[I") else "[I"))) else (bif Nat.ble 6 k then (bif Nat.ble 9 k then (bif Nat.ble 11 k then (bif Nat.ble 12 k then "[I" else "[I") else (bif Nat.ble 10 k then "[I" else "[I")) else (bif Nat.ble 7 k then (bif Nat.ble 8 k then "[I" else "[I") else "[I")) else (bif Nat.ble 3 k then (bif Nat.ble 4 k then (bif Nat.ble 5 k then "[I" else "[I") else "[I") else (bif Nat.ble 1 k then (bif Nat.ble 2 k then "[I" else "[Z") else "[I"))))
def fTy (k : Nat) : FieldType := (bif Nat.ble 13 k then (bif Nat.ble 19 k then (bif Nat.ble 22 k then (bif Nat.ble 24 k then (bif Nat.ble 25 k then .int else .int) else (bif Nat.ble 23 k then .int else .int)) else (bif Nat.ble 20 k then (bif Nat.ble 21 k then .int else .int) else .int)) else (bif Nat.ble 16 k then (bif Nat.ble 17 k then (bif Nat.ble 18 k then (.array .int) else (.array .int)) else (.array .int)) else (bif Nat.ble 14 k then (bif Nat.ble 15 k then (.array .int) else (.array .int)) else (.array .int)))) else (bif Nat.ble 6 k then (bif Nat.ble 9 k then (bif Nat.ble 11 k then (bif Nat.ble 12 k then (.array .int) else (.array .int)) else (bif Nat.ble 10 k then (.array .int) else (.array .int))) else (bif Nat.ble 7 k then (bif Nat.ble 8 k then (.array .int) else (.array .int)) else (.array .int))) else (bif Nat.ble 3 k then (bif Nat.ble 4 k then (bif Nat.ble 5 k then (.array .int) else (.array .int)) else (.array .int)) else (bif Nat.ble 1 k then (bif Nat.ble 2 k then (.array .int) else (.array .boolean)) else (.array .int)))))
def fFin (k : Nat) : Bool := (bif Nat.ble 13 k then (bif Nat.ble 19 k then (bif Nat.ble 22 k then (bif Nat.ble 24 k then (bif Nat.ble 25 k then false else false) else (bif Nat.ble 23 k then false else false)) else (bif Nat.ble 20 k then (bif Nat.ble 21 k then false else false) else false)) else (bif Nat.ble 16 k then (bif Nat.ble 17 k then (bif Nat.ble 18 k then true else true) else true) else (bif Nat.ble 14 k then (bif Nat.ble 15 k then true else true) else true))) else (bif Nat.ble 6 k then (bif Nat.ble 9 k then (bif Nat.ble 11 k then (bif Nat.ble 12 k then true else true) else (bif Nat.ble 10 k then true else true)) else (bif Nat.ble 7 k then (bif Nat.ble 8 k then true else true) else true)) else (bif Nat.ble 3 k then (bif Nat.ble 4 k then (bif Nat.ble 5 k then true else true) else true) else (bif Nat.ble 1 k then (bif Nat.ble 2 k then true else true) else true))))
def cDef : List Value := [.null, .null, .null, .null, .null, .null, .null, .null, .null, .null, .null, .null, .null, .null, .null, .null, .null, .null, .null, .int 0, .int 0, .int 0, .int 0, .int 0, .int 0, .int 0]
def cK : List Value := []
def pN : Nat := 34
def pTop (m : Nat) : Nat := (bif Nat.ble 17 m then (bif Nat.ble 25 m then (bif Nat.ble 29 m then (bif Nat.ble 31 m then (bif Nat.ble 32 m then (bif Nat.ble 33 m then 17 else 30) else 36) else (bif Nat.ble 30 m then 36 else 111)) else (bif Nat.ble 27 m then (bif Nat.ble 28 m then 54 else 24) else (bif Nat.ble 26 m then 95 else 44))) else (bif Nat.ble 21 m then (bif Nat.ble 23 m then (bif Nat.ble 24 m then 21 else 134) else (bif Nat.ble 22 m then 39 else 102)) else (bif Nat.ble 19 m then (bif Nat.ble 20 m then 61 else 30) else (bif Nat.ble 18 m then 30 else 7)))) else (bif Nat.ble 8 m then (bif Nat.ble 12 m then (bif Nat.ble 14 m then (bif Nat.ble 15 m then (bif Nat.ble 16 m then 15 else 27) else 51) else (bif Nat.ble 13 m then 89 else 115)) else (bif Nat.ble 10 m then (bif Nat.ble 11 m then 94 else 16) else (bif Nat.ble 9 m then 96 else 99))) else (bif Nat.ble 4 m then (bif Nat.ble 6 m then (bif Nat.ble 7 m then 51 else 18) else (bif Nat.ble 5 m then 7 else 49)) else (bif Nat.ble 2 m then (bif Nat.ble 3 m then 65 else 16) else (bif Nat.ble 1 m then 228 else 392)))))
def pK (m : Nat) : Nat := (bif Nat.ble 17 m then (bif Nat.ble 25 m then (bif Nat.ble 29 m then (bif Nat.ble 31 m then (bif Nat.ble 32 m then (bif Nat.ble 33 m then 1 else 1) else 1) else (bif Nat.ble 30 m then 1 else 1)) else (bif Nat.ble 27 m then (bif Nat.ble 28 m then 1 else 1) else (bif Nat.ble 26 m then 1 else 1))) else (bif Nat.ble 21 m then (bif Nat.ble 23 m then (bif Nat.ble 24 m then 1 else 1) else (bif Nat.ble 22 m then 1 else 1)) else (bif Nat.ble 19 m then (bif Nat.ble 20 m then 1 else 1) else (bif Nat.ble 18 m then 1 else 1)))) else (bif Nat.ble 8 m then (bif Nat.ble 12 m then (bif Nat.ble 14 m then (bif Nat.ble 15 m then (bif Nat.ble 16 m then 1 else 1) else 1) else (bif Nat.ble 13 m then 1 else 1)) else (bif Nat.ble 10 m then (bif Nat.ble 11 m then 1 else 1) else (bif Nat.ble 9 m then 1 else 1))) else (bif Nat.ble 4 m then (bif Nat.ble 6 m then (bif Nat.ble 7 m then 1 else 1) else (bif Nat.ble 5 m then 1 else 1)) else (bif Nat.ble 2 m then (bif Nat.ble 3 m then 1 else 1) else (bif Nat.ble 1 m then 1 else 0)))))
def pNm (m : Nat) : String := (bif Nat.ble 17 m then (bif Nat.ble 25 m then (bif Nat.ble 29 m then (bif Nat.ble 31 m then (bif Nat.ble 32 m then (bif Nat.ble 33 m then "pending" else "stat") else "deliveredSeq") else (bif Nat.ble 30 m then "deliveredValue" else "rxInfo")) else (bif Nat.ble 27 m then (bif Nat.ble 28 m then "applyNcf" else "multicastNcf") else (bif Nat.ble 26 m then "handleNak" else "handleNaks"))) else (bif Nat.ble 21 m then (bif Nat.ble 23 m then (bif Nat.ble 24 m then "isWaiting" else "stepTimer") else (bif Nat.ble 22 m then "runTimers" else "serveQueue")) else (bif Nat.ble 19 m then (bif Nat.ble 20 m then "tick" else "rxTimer") else (bif Nat.ble 18 m then "rxState" else "backoffOf")))) else (bif Nat.ble 8 m then (bif Nat.ble 12 m then (bif Nat.ble 14 m then (bif Nat.ble 15 m then (bif Nat.ble 16 m then "validRx" else "setLoss") else "appendDelivered") else (bif Nat.ble 13 m then "deliver" else "applyTrail")) else (bif Nat.ble 10 m then (bif Nat.ble 11 m then "applyLead" else "validSeq") else (bif Nat.ble 9 m then "applyData" else "copyTo"))) else (bif Nat.ble 4 m then (bif Nat.ble 6 m then (bif Nat.ble 7 m then "aggregatorApply" else "trail") else (bif Nat.ble 5 m then "lead" else "multicastSource")) else (bif Nat.ble 2 m then (bif Nat.ble 3 m then "send" else "clamp") else (bif Nat.ble 1 m then "<init>" else "law")))))
def pDs (m : Nat) : String := (bif Nat.ble 17 m then (bif Nat.ble 25 m then (bif Nat.ble 29 m then (bif Nat.ble 31 m then (bif Nat.ble 32 m then (bif Nat.ble 33 m then "(I)Z" else "(I)I") else "(II)I") else (bif Nat.ble 30 m then "(II)I" else "(II)I")) else (bif Nat.ble 27 m then (bif Nat.ble 28 m then "(II)V" else "(I)V") else (bif Nat.ble 26 m then "(I)V" else "()V"))) else (bif Nat.ble 21 m then (bif Nat.ble 23 m then (bif Nat.ble 24 m then "(I)Z" else "(II)V") else (bif Nat.ble 22 m then "()V" else "()V")) else (bif Nat.ble 19 m then (bif Nat.ble 20 m then "()V" else "(II)I") else (bif Nat.ble 18 m then "(II)I" else "(I)I")))) else (bif Nat.ble 8 m then (bif Nat.ble 12 m then (bif Nat.ble 14 m then (bif Nat.ble 15 m then (bif Nat.ble 16 m then "(I)Z" else "(II)Z") else "(III)V") else (bif Nat.ble 13 m then "(I)V" else "(II)V")) else (bif Nat.ble 10 m then (bif Nat.ble 11 m then "(II)V" else "(I)Z") else (bif Nat.ble 9 m then "(IIIII)V" else "(IIIIII)V"))) else (bif Nat.ble 4 m then (bif Nat.ble 6 m then (bif Nat.ble 7 m then "(III)V" else "()I") else (bif Nat.ble 5 m then "()I" else "(III)V")) else (bif Nat.ble 2 m then (bif Nat.ble 3 m then "(I)I" else "(III)I") else (bif Nat.ble 1 m then "(IIII)V" else "(IIII)Z")))))
def pName (m : Nat) : MethodName := ⟨kName (pK m), pNm m, pDs m⟩
def pBytes (m : Nat) : ByteArray := (bif Nat.ble 17 m then (bif Nat.ble 25 m then (bif Nat.ble 29 m then (bif Nat.ble 31 m then (bif Nat.ble 32 m then (bif Nat.ble 33 m then prog_1_method_9_code else prog_1_method_8_code) else prog_1_method_14_code) else (bif Nat.ble 30 m then prog_1_method_15_code else prog_1_method_11_code)) else (bif Nat.ble 27 m then (bif Nat.ble 28 m then prog_1_method_29_code else prog_1_method_26_code) else (bif Nat.ble 26 m then prog_1_method_39_code else prog_1_method_38_code))) else (bif Nat.ble 21 m then (bif Nat.ble 23 m then (bif Nat.ble 24 m then prog_1_method_22_code else prog_1_method_37_code) else (bif Nat.ble 22 m then prog_1_method_36_code else prog_1_method_35_code)) else (bif Nat.ble 19 m then (bif Nat.ble 20 m then prog_1_method_5_code else prog_1_method_13_code) else (bif Nat.ble 18 m then prog_1_method_12_code else prog_1_method_23_code)))) else (bif Nat.ble 8 m then (bif Nat.ble 12 m then (bif Nat.ble 14 m then (bif Nat.ble 15 m then (bif Nat.ble 16 m then prog_1_method_18_code else prog_1_method_4_code) else prog_1_method_34_code) else (bif Nat.ble 13 m then prog_1_method_33_code else prog_1_method_31_code)) else (bif Nat.ble 10 m then (bif Nat.ble 11 m then prog_1_method_30_code else prog_1_method_19_code) else (bif Nat.ble 9 m then prog_1_method_28_code else prog_1_method_27_code))) else (bif Nat.ble 4 m then (bif Nat.ble 6 m then (bif Nat.ble 7 m then prog_1_method_25_code else prog_1_method_21_code) else (bif Nat.ble 5 m then prog_1_method_20_code else prog_1_method_24_code)) else (bif Nat.ble 2 m then (bif Nat.ble 3 m then prog_1_method_2_code else prog_1_method_17_code) else (bif Nat.ble 1 m then prog_1_method_1_code else code)))))
def pMaxL (m : Nat) : Nat := (bif Nat.ble 17 m then (bif Nat.ble 25 m then (bif Nat.ble 29 m then (bif Nat.ble 31 m then (bif Nat.ble 32 m then (bif Nat.ble 33 m then 2 else 2) else 3) else (bif Nat.ble 30 m then 3 else 3)) else (bif Nat.ble 27 m then (bif Nat.ble 28 m then 5 else 3) else (bif Nat.ble 26 m then 2 else 3))) else (bif Nat.ble 21 m then (bif Nat.ble 23 m then (bif Nat.ble 24 m then 2 else 5) else (bif Nat.ble 22 m then 3 else 5)) else (bif Nat.ble 19 m then (bif Nat.ble 20 m then 1 else 3) else (bif Nat.ble 18 m then 3 else 2)))) else (bif Nat.ble 8 m then (bif Nat.ble 12 m then (bif Nat.ble 14 m then (bif Nat.ble 15 m then (bif Nat.ble 16 m then 2 else 3) else 5) else (bif Nat.ble 13 m then 5 else 7)) else (bif Nat.ble 10 m then (bif Nat.ble 11 m then 6 else 2) else (bif Nat.ble 9 m then 8 else 7))) else (bif Nat.ble 4 m then (bif Nat.ble 6 m then (bif Nat.ble 7 m then 5 else 2) else (bif Nat.ble 5 m then 1 else 7)) else (bif Nat.ble 2 m then (bif Nat.ble 3 m then 3 else 4) else (bif Nat.ble 1 m then 6 else 11)))))
def pRet (m : Nat) : Option FieldType := (bif Nat.ble 17 m then (bif Nat.ble 25 m then (bif Nat.ble 29 m then (bif Nat.ble 31 m then (bif Nat.ble 32 m then (bif Nat.ble 33 m then (some .boolean) else (some .int)) else (some .int)) else (bif Nat.ble 30 m then (some .int) else (some .int))) else (bif Nat.ble 27 m then (bif Nat.ble 28 m then none else none) else (bif Nat.ble 26 m then none else none))) else (bif Nat.ble 21 m then (bif Nat.ble 23 m then (bif Nat.ble 24 m then (some .boolean) else none) else (bif Nat.ble 22 m then none else none)) else (bif Nat.ble 19 m then (bif Nat.ble 20 m then none else (some .int)) else (bif Nat.ble 18 m then (some .int) else (some .int))))) else (bif Nat.ble 8 m then (bif Nat.ble 12 m then (bif Nat.ble 14 m then (bif Nat.ble 15 m then (bif Nat.ble 16 m then (some .boolean) else (some .boolean)) else none) else (bif Nat.ble 13 m then none else none)) else (bif Nat.ble 10 m then (bif Nat.ble 11 m then none else (some .boolean)) else (bif Nat.ble 9 m then none else none))) else (bif Nat.ble 4 m then (bif Nat.ble 6 m then (bif Nat.ble 7 m then none else (some .int)) else (bif Nat.ble 5 m then (some .int) else none)) else (bif Nat.ble 2 m then (bif Nat.ble 3 m then (some .int) else (some .int)) else (bif Nat.ble 1 m then none else (some .boolean))))))
def pNA (m : Nat) : Nat := (bif Nat.ble 17 m then (bif Nat.ble 25 m then (bif Nat.ble 29 m then (bif Nat.ble 31 m then (bif Nat.ble 32 m then (bif Nat.ble 33 m then 1 else 1) else 2) else (bif Nat.ble 30 m then 2 else 2)) else (bif Nat.ble 27 m then (bif Nat.ble 28 m then 2 else 1) else (bif Nat.ble 26 m then 1 else 0))) else (bif Nat.ble 21 m then (bif Nat.ble 23 m then (bif Nat.ble 24 m then 1 else 2) else (bif Nat.ble 22 m then 0 else 0)) else (bif Nat.ble 19 m then (bif Nat.ble 20 m then 0 else 2) else (bif Nat.ble 18 m then 2 else 1)))) else (bif Nat.ble 8 m then (bif Nat.ble 12 m then (bif Nat.ble 14 m then (bif Nat.ble 15 m then (bif Nat.ble 16 m then 1 else 2) else 3) else (bif Nat.ble 13 m then 1 else 2)) else (bif Nat.ble 10 m then (bif Nat.ble 11 m then 2 else 1) else (bif Nat.ble 9 m then 5 else 6))) else (bif Nat.ble 4 m then (bif Nat.ble 6 m then (bif Nat.ble 7 m then 3 else 0) else (bif Nat.ble 5 m then 0 else 3)) else (bif Nat.ble 2 m then (bif Nat.ble 3 m then 1 else 3) else (bif Nat.ble 1 m then 4 else 4)))))
def pFr (m : Nat) : Nat := (bif Nat.ble 17 m then (bif Nat.ble 25 m then (bif Nat.ble 29 m then (bif Nat.ble 31 m then (bif Nat.ble 32 m then (bif Nat.ble 33 m then 1 else 0) else 1) else (bif Nat.ble 30 m then 1 else 1)) else (bif Nat.ble 27 m then (bif Nat.ble 28 m then 1 else 4) else (bif Nat.ble 26 m then 5 else 6))) else (bif Nat.ble 21 m then (bif Nat.ble 23 m then (bif Nat.ble 24 m then 0 else 1) else (bif Nat.ble 22 m then 2 else 5)) else (bif Nat.ble 19 m then (bif Nat.ble 20 m then 7 else 1) else (bif Nat.ble 18 m then 1 else 0)))) else (bif Nat.ble 8 m then (bif Nat.ble 12 m then (bif Nat.ble 14 m then (bif Nat.ble 15 m then (bif Nat.ble 16 m then 0 else 1) else 0) else (bif Nat.ble 13 m then 1 else 0)) else (bif Nat.ble 10 m then (bif Nat.ble 11 m then 1 else 0) else (bif Nat.ble 9 m then 2 else 3))) else (bif Nat.ble 4 m then (bif Nat.ble 6 m then (bif Nat.ble 7 m then 1 else 0) else (bif Nat.ble 5 m then 0 else 4)) else (bif Nat.ble 2 m then (bif Nat.ble 3 m then 5 else 0) else (bif Nat.ble 1 m then 1 else 8)))))
def pLo (m : Nat) : Nat := (bif Nat.ble 17 m then (bif Nat.ble 25 m then (bif Nat.ble 29 m then (bif Nat.ble 31 m then (bif Nat.ble 32 m then (bif Nat.ble 33 m then 13 else 0) else 13) else (bif Nat.ble 30 m then 13 else 13)) else (bif Nat.ble 27 m then (bif Nat.ble 28 m then 13 else 69) else (bif Nat.ble 26 m then 83 else 96))) else (bif Nat.ble 21 m then (bif Nat.ble 23 m then (bif Nat.ble 24 m then 0 else 15) else (bif Nat.ble 22 m then 31 else 87)) else (bif Nat.ble 19 m then (bif Nat.ble 20 m then 110 else 13) else (bif Nat.ble 18 m then 13 else 0)))) else (bif Nat.ble 8 m then (bif Nat.ble 12 m then (bif Nat.ble 14 m then (bif Nat.ble 15 m then (bif Nat.ble 16 m then 0 else 17) else 0) else (bif Nat.ble 13 m then 16 else 0)) else (bif Nat.ble 10 m then (bif Nat.ble 11 m then 15 else 0) else (bif Nat.ble 9 m then 32 else 51))) else (bif Nat.ble 4 m then (bif Nat.ble 6 m then (bif Nat.ble 7 m then 13 else 0) else (bif Nat.ble 5 m then 0 else 69)) else (bif Nat.ble 2 m then (bif Nat.ble 3 m then 87 else 0) else (bif Nat.ble 1 m then 16 else 122)))))
def tB (k p : Nat) (a b : Option (Instr × Nat)) : Option (Instr × Nat) := bif Nat.ble k p then a else b
def tL (k p : Nat) (i : Instr) (x : Nat) : Option (Instr × Nat) := bif Nat.beq p k then some (i, x) else none
set_option maxHeartbeats 4000000 in
def cd0 (p : Nat) : Option (Instr × Nat) := (tB 193 p (tB 292 p (tB 341 p (tB 365 p (tB 379 p (tB 386 p (tB 390 p (tB 391 p (tL 391 p .ireturn 0) (tL 390 p (.iconst 0) 0)) (tB 387 p (tL 387 p (.goto 4) 391) (tL 386 p (.iconst 1) 0))) (tB 380 p (tB 383 p (tL 383 p (.ifCond .ne 7) 390) (tL 380 p (.invokevirtual 42) 33)) (tL 379 p (.iconst 1) 0))) (tB 372 p (tB 376 p (tB 377 p (tL 377 p (.aload 4) 0) (tL 376 p .ireturn 0)) (tB 375 p (tL 375 p (.iconst 0) 0) (tL 372 p (.ifCond .eq 5) 377))) (tB 367 p (tB 369 p (tL 369 p (.invokevirtual 39) 32) (tL 367 p (.bipush 8) 0)) (tL 365 p (.aload 4) 0)))) (tB 352 p (tB 359 p (tB 363 p (tB 364 p (tL 364 p .ireturn 0) (tL 363 p (.iconst 0) 0)) (tB 360 p (tL 360 p (.if_icmp .eq 5) 365) (tL 359 p (.iconst 1) 0))) (tB 354 p (tB 356 p (tL 356 p (.invokevirtual 39) 32) (tL 354 p (.bipush 9) 0)) (tL 352 p (.aload 4) 0))) (tB 347 p (tB 350 p (tB 351 p (tL 351 p .ireturn 0) (tL 350 p (.iconst 0) 0)) (tL 347 p (.ifCond .eq 5) 352)) (tB 343 p (tB 344 p (tL 344 p (.invokevirtual 39) 32) (tL 343 p (.iconst 3) 0)) (tL 341 p (.aload 4) 0))))) (tB 316 p (tB 329 p (tB 335 p (tB 339 p (tB 340 p (tL 340 p .ireturn 0) (tL 339 p (.iconst 0) 0)) (tB 336 p (tL 336 p (.if_icmp .eq 5) 341) (tL 335 p (.iconst 1) 0))) (tB 331 p (tB 332 p (tL 332 p (.invokevirtual 39) 32) (tL 331 p (.iconst 2) 0)) (tL 329 p (.aload 4) 0))) (tB 323 p (tB 327 p (tB 328 p (tL 328 p .ireturn 0) (tL 327 p (.iconst 0) 0)) (tB 324 p (tL 324 p (.if_icmp .eq 5) 329) (tL 323 p (.iconst 1) 0))) (tB 318 p (tB 320 p (tL 320 p (.invokevirtual 39) 32) (tL 318 p (.bipush 7) 0)) (tL 316 p (.aload 4) 0)))) (tB 303 p (tB 308 p (tB 314 p (tB 315 p (tL 315 p .ireturn 0) (tL 314 p (.iconst 0) 0)) (tB 311 p (tL 311 p (.ifCond .eq 5) 316) (tL 308 p (.invokevirtual 39) 32))) (tB 304 p (tB 306 p (tL 306 p (.bipush 6) 0) (tL 304 p (.aload 4) 0)) (tL 303 p .ireturn 0))) (tB 298 p (tB 299 p (tB 302 p (tL 302 p (.iconst 0) 0) (tL 299 p (.if_icmp .eq 5) 304)) (tL 298 p (.iconst 1) 0)) (tB 294 p (tB 295 p (tL 295 p (.invokevirtual 39) 32) (tL 294 p (.iconst 5) 0)) (tL 292 p (.aload 4) 0)))))) (tB 242 p (tB 267 p (tB 280 p (tB 286 p (tB 290 p (tB 291 p (tL 291 p .ireturn 0) (tL 290 p (.iconst 0) 0)) (tB 287 p (tL 287 p (.if_icmp .eq 5) 292) (tL 286 p (.iconst 1) 0))) (tB 282 p (tB 283 p (tL 283 p (.invokevirtual 39) 32) (tL 282 p (.iconst 4) 0)) (tL 280 p (.aload 4) 0))) (tB 273 p (tB 278 p (tB 279 p (tL 279 p .ireturn 0) (tL 278 p (.iconst 0) 0)) (tB 275 p (tL 275 p (.if_icmp .eq 5) 280) (tL 273 p (.bipush 6) 0))) (tB 269 p (tB 270 p (tL 270 p (.invokevirtual 39) 32) (tL 269 p (.iconst 0) 0)) (tL 267 p (.aload 4) 0)))) (tB 254 p (tB 261 p (tB 265 p (tB 266 p (tL 266 p .ireturn 0) (tL 265 p (.iconst 0) 0)) (tB 262 p (tL 262 p (.if_icmp .eq 5) 267) (tL 261 p (.iconst 1) 0))) (tB 256 p (tB 258 p (tL 258 p (.invokevirtual 30) 29) (tL 256 p (.bipush 6) 0)) (tL 254 p (.iload 9) 0))) (tB 250 p (tB 251 p (tB 252 p (tL 252 p (.aload 4) 0) (tL 251 p .ireturn 0)) (tL 250 p (.iconst 0) 0)) (tB 244 p (tB 247 p (tL 247 p (.ifCond .eq 5) 252) (tL 244 p (.invokevirtual 30) 29)) (tL 242 p (.bipush 6) 0))))) (tB 217 p (tB 229 p (tB 236 p (tB 238 p (tB 240 p (tL 240 p (.iload 8) 0) (tL 238 p (.aload 4) 0)) (tB 237 p (tL 237 p .ireturn 0) (tL 236 p (.iconst 0) 0))) (tB 232 p (tB 233 p (tL 233 p (.if_icmp .eq 5) 238) (tL 232 p (.iconst 1) 0)) (tL 229 p (.invokevirtual 36) 31))) (tB 223 p (tB 226 p (tB 228 p (tL 228 p (.iconst 1) 0) (tL 226 p (.iload 8) 0)) (tB 224 p (tL 224 p (.aload 4) 0) (tL 223 p .ireturn 0))) (tB 219 p (tB 222 p (tL 222 p (.iconst 0) 0) (tL 219 p (.if_icmp .eq 5) 224)) (tL 217 p (.iload 7) 0)))) (tB 204 p (tB 209 p (tB 213 p (tB 214 p (tL 214 p (.invokevirtual 33) 30) (tL 213 p (.iconst 2) 0)) (tB 211 p (tL 211 p (.iload 8) 0) (tL 209 p (.aload 4) 0))) (tB 207 p (tB 208 p (tL 208 p .ireturn 0) (tL 207 p (.iconst 0) 0)) (tL 204 p (.if_icmp .eq 5) 209))) (tB 198 p (tB 199 p (tB 202 p (tL 202 p (.iload 6) 0) (tL 199 p (.invokevirtual 33) 30)) (tL 198 p (.iconst 1) 0)) (tB 194 p (tB 196 p (tL 196 p (.iload 8) 0) (tL 194 p (.aload 4) 0)) (tL 193 p .ireturn 0))))))) (tB 93 p (tB 140 p (tB 167 p (tB 179 p (tB 184 p (tB 189 p (tB 192 p (tL 192 p (.iconst 0) 0) (tL 189 p (.if_icmp .eq 5) 194)) (tB 187 p (tL 187 p (.iload 5) 0) (tL 184 p (.invokevirtual 33) 30))) (tB 181 p (tB 183 p (tL 183 p (.iconst 0) 0) (tL 181 p (.iload 8) 0)) (tL 179 p (.aload 4) 0))) (tB 173 p (tB 177 p (tB 178 p (tL 178 p .ireturn 0) (tL 177 p (.iconst 0) 0)) (tB 174 p (tL 174 p (.if_icmp .eq 5) 179) (tL 173 p (.iconst 3) 0))) (tB 169 p (tB 170 p (tL 170 p (.invokevirtual 30) 29) (tL 169 p (.iconst 3) 0)) (tL 167 p (.iload 8) 0)))) (tB 155 p (tB 160 p (tB 164 p (tB 165 p (tL 165 p (.aload 4) 0) (tL 164 p .ireturn 0)) (tB 163 p (tL 163 p (.iconst 0) 0) (tL 160 p (.if_icmp .eq 5) 165))) (tB 156 p (tB 159 p (tL 159 p (.iconst 5) 0) (tL 156 p (.invokevirtual 20) 18)) (tL 155 p (.iconst 1) 0))) (tB 148 p (tB 151 p (tB 153 p (tL 153 p (.iload 8) 0) (tL 151 p (.aload 4) 0)) (tL 148 p (.goto (-15)) 133)) (tB 142 p (tB 145 p (tL 145 p (.iinc 10 1) 0) (tL 142 p (.invokevirtual 27) 20)) (tL 140 p (.aload 4) 0))))) (tB 115 p (tB 128 p (tB 131 p (tB 135 p (tB 137 p (tL 137 p (.if_icmp .ge 14) 151) (tL 135 p (.bipush 6) 0)) (tB 133 p (tL 133 p (.iload 10) 0) (tL 131 p (.istore 10) 0))) (tB 129 p (tB 130 p (tL 130 p (.iconst 0) 0) (tL 129 p .ireturn 0)) (tL 128 p (.iconst 0) 0))) (tB 121 p (tB 124 p (tB 125 p (tL 125 p (.if_icmp .eq 5) 130) (tL 124 p .iadd 0)) (tB 122 p (tL 122 p (.iload 8) 0) (tL 121 p (.iconst 1) 0))) (tB 117 p (tB 118 p (tL 118 p (.invokevirtual 24) 19) (tL 117 p (.iconst 1) 0)) (tL 115 p (.iload 8) 0)))) (tB 103 p (tB 108 p (tB 112 p (tB 113 p (tL 113 p (.aload 4) 0) (tL 112 p .ireturn 0)) (tB 111 p (tL 111 p (.iconst 0) 0) (tL 108 p (.if_icmp .eq 5) 113))) (tB 104 p (tB 107 p (tL 107 p (.iconst 1) 0) (tL 104 p (.invokevirtual 20) 18)) (tL 103 p (.iconst 1) 0))) (tB 98 p (tB 99 p (tB 101 p (tL 101 p (.iload 8) 0) (tL 99 p (.aload 4) 0)) (tL 98 p .ireturn 0)) (tB 94 p (tB 97 p (tL 97 p (.iconst 0) 0) (tL 94 p (.if_icmp .eq 5) 99)) (tL 93 p (.iconst 2) 0)))))) (tB 43 p (tB 65 p (tB 80 p (tB 85 p (tB 88 p (tB 90 p (tL 90 p (.invokevirtual 12) 3) (tL 88 p (.iload 7) 0)) (tB 86 p (tL 86 p (.aload 4) 0) (tL 85 p .ireturn 0))) (tB 81 p (tB 84 p (tL 84 p (.iconst 0) 0) (tL 81 p (.if_icmp .eq 5) 86)) (tL 80 p (.iconst 1) 0))) (tB 72 p (tB 75 p (tB 77 p (tL 77 p (.invokevirtual 12) 3) (tL 75 p (.iload 6) 0)) (tB 73 p (tL 73 p (.aload 4) 0) (tL 72 p .ireturn 0))) (tB 68 p (tB 71 p (tL 71 p (.iconst 0) 0) (tL 68 p (.ifCond .ne 5) 73)) (tL 65 p (.invokevirtual 16) 15)))) (tB 52 p (tB 59 p (tB 62 p (tB 64 p (tL 64 p (.iconst 1) 0) (tL 62 p (.iload 8) 0)) (tB 60 p (tL 60 p (.aload 4) 0) (tL 59 p .ireturn 0))) (tB 55 p (tB 58 p (tL 58 p (.iconst 0) 0) (tL 55 p (.ifCond .eq 5) 60)) (tL 52 p (.invokevirtual 12) 3))) (tB 46 p (tB 48 p (tB 50 p (tL 50 p (.iload 5) 0) (tL 48 p (.aload 4) 0)) (tL 46 p (.istore 9) 0)) (tB 44 p (tB 45 p (tL 45 p .iand 0) (tL 44 p (.iconst 3) 0)) (tL 43 p .iadd 0))))) (tB 22 p (tB 33 p (tB 37 p (tB 40 p (tB 42 p (tL 42 p (.iconst 1) 0) (tL 40 p (.iload 8) 0)) (tB 38 p (tL 38 p (.istore 8) 0) (tL 37 p .iand 0))) (tB 35 p (tB 36 p (tL 36 p (.iconst 3) 0) (tL 35 p (.iload_n 3) 0)) (tL 33 p (.istore 7) 0))) (tB 28 p (tB 29 p (tB 32 p (tL 32 p .iand 0) (tL 29 p (.sipush 255) 0)) (tL 28 p (.iload_n 2) 0)) (tB 25 p (tB 26 p (tL 26 p (.istore 6) 0) (tL 25 p .iand 0)) (tL 22 p (.sipush 255) 0)))) (tB 9 p (tB 15 p (tB 19 p (tB 21 p (tL 21 p (.iload_n 1) 0) (tL 19 p (.istore 5) 0)) (tB 18 p (tL 18 p .iand 0) (tL 15 p (.sipush 255) 0))) (tB 12 p (tB 14 p (tL 14 p (.iload_n 0) 0) (tL 12 p (.astore 4) 0)) (tL 9 p (.invokespecial 9) 1))) (tB 6 p (tB 7 p (tB 8 p (tL 8 p (.iconst 0) 0) (tL 7 p (.iconst 4) 0)) (tL 6 p (.iconst 1) 0)) (tB 3 p (tB 4 p (tL 4 p (.bipush 8) 0) (tL 3 p .dup 0)) (tL 0 p (.new 7) 0))))))))
set_option maxHeartbeats 4000000 in
def cd1 (p : Nat) : Option (Instr × Nat) := (tB 115 p (tB 171 p (tB 198 p (tB 213 p (tB 220 p (tB 224 p (tB 227 p (tL 227 p .return_ 0) (tL 224 p (.goto (-17)) 207)) (tB 221 p (tL 221 p (.iinc 5 1) 0) (tL 220 p .iastore 0))) (tB 217 p (tB 219 p (tL 219 p (.iconst (-1)) 0) (tL 217 p (.iload 5) 0)) (tB 214 p (tL 214 p (.getfield 35) 8) (tL 213 p (.aload_n 0) 0)))) (tB 205 p (tB 209 p (tB 210 p (tL 210 p (.if_icmp .ge 17) 227) (tL 209 p (.iconst 4) 0)) (tB 207 p (tL 207 p (.iload 5) 0) (tL 205 p (.istore 5) 0))) (tB 201 p (tB 204 p (tL 204 p (.iconst 0) 0) (tL 201 p (.putfield 82) 22)) (tL 198 p (.invokevirtual 68) 2)))) (tB 183 p (tB 192 p (tB 195 p (tB 196 p (tL 196 p (.bipush 16) 0) (tL 195 p (.iconst 0) 0)) (tB 193 p (tL 193 p (.iload 4) 0) (tL 192 p (.aload_n 0) 0))) (tB 188 p (tB 191 p (tL 191 p (.aload_n 0) 0) (tL 188 p (.putfield 79) 21)) (tB 185 p (tL 185 p (.invokevirtual 68) 2) (tL 183 p (.bipush 8) 0)))) (tB 179 p (tB 181 p (tB 182 p (tL 182 p (.iconst 1) 0) (tL 181 p (.iload_n 3) 0)) (tB 180 p (tL 180 p (.aload_n 0) 0) (tL 179 p (.aload_n 0) 0))) (tB 173 p (tB 176 p (tL 176 p (.putfield 76) 20) (tL 173 p (.invokevirtual 68) 2)) (tL 171 p (.bipush 8) 0))))) (tB 146 p (tB 158 p (tB 167 p (tB 169 p (tB 170 p (tL 170 p (.iconst 1) 0) (tL 169 p (.iload_n 2) 0)) (tB 168 p (tL 168 p (.aload_n 0) 0) (tL 167 p (.aload_n 0) 0))) (tB 161 p (tB 164 p (tL 164 p (.putfield 72) 19) (tL 161 p (.invokevirtual 68) 2)) (tB 159 p (tL 159 p (.bipush 16) 0) (tL 158 p (.iconst 2) 0)))) (tB 152 p (tB 156 p (tB 157 p (tL 157 p (.iload_n 1) 0) (tL 156 p (.aload_n 0) 0)) (tB 155 p (tL 155 p (.aload_n 0) 0) (tL 152 p (.putfield 65) 18))) (tB 147 p (tB 150 p (tL 150 p (.newarray .int) 0) (tL 147 p (.sipush 128) 0)) (tL 146 p (.aload_n 0) 0)))) (tB 130 p (tB 139 p (tB 141 p (tB 143 p (tL 143 p (.putfield 62) 17) (tL 141 p (.newarray .int) 0)) (tB 140 p (tL 140 p (.iconst 4) 0) (tL 139 p (.aload_n 0) 0))) (tB 134 p (tB 136 p (tL 136 p (.putfield 59) 16) (tL 134 p (.newarray .int) 0)) (tB 131 p (tL 131 p (.sipush 128) 0) (tL 130 p (.aload_n 0) 0)))) (tB 123 p (tB 125 p (tB 127 p (tL 127 p (.putfield 56) 15) (tL 125 p (.newarray .int) 0)) (tB 124 p (tL 124 p (.iconst 4) 0) (tL 123 p (.aload_n 0) 0))) (tB 118 p (tB 120 p (tL 120 p (.putfield 53) 14) (tL 118 p (.newarray .int) 0)) (tL 115 p (.sipush 128) 0)))))) (tB 60 p (tB 86 p (tB 99 p (tB 106 p (tB 111 p (tB 114 p (tL 114 p (.aload_n 0) 0) (tL 111 p (.putfield 50) 13)) (tB 109 p (tL 109 p (.newarray .int) 0) (tL 106 p (.sipush 128) 0))) (tB 102 p (tB 105 p (tL 105 p (.aload_n 0) 0) (tL 102 p (.putfield 47) 12)) (tB 100 p (tL 100 p (.newarray .int) 0) (tL 99 p (.iconst 4) 0)))) (tB 92 p (tB 95 p (tB 98 p (tL 98 p (.aload_n 0) 0) (tL 95 p (.putfield 44) 11)) (tB 93 p (tL 93 p (.newarray .int) 0) (tL 92 p (.iconst 4) 0))) (tB 88 p (tB 91 p (tL 91 p (.aload_n 0) 0) (tL 88 p (.putfield 41) 10)) (tL 86 p (.newarray .int) 0)))) (tB 72 p (tB 79 p (tB 84 p (tB 85 p (tL 85 p (.iconst 4) 0) (tL 84 p (.aload_n 0) 0)) (tB 81 p (tL 81 p (.putfield 38) 9) (tL 79 p (.newarray .int) 0))) (tB 77 p (tB 78 p (tL 78 p (.iconst 4) 0) (tL 77 p (.aload_n 0) 0)) (tB 74 p (tL 74 p (.putfield 35) 8) (tL 72 p (.newarray .int) 0)))) (tB 65 p (tB 70 p (tB 71 p (tL 71 p (.iconst 4) 0) (tL 70 p (.aload_n 0) 0)) (tB 67 p (tL 67 p (.putfield 32) 7) (tL 65 p (.newarray .int) 0))) (tB 63 p (tB 64 p (tL 64 p (.iconst 4) 0) (tL 63 p (.aload_n 0) 0)) (tL 60 p (.putfield 29) 6))))) (tB 28 p (tB 42 p (tB 51 p (tB 55 p (tB 58 p (tL 58 p (.newarray .int) 0) (tL 55 p (.sipush 128) 0)) (tB 54 p (tL 54 p (.aload_n 0) 0) (tL 51 p (.putfield 26) 5))) (tB 46 p (tB 49 p (tL 49 p (.newarray .int) 0) (tL 46 p (.sipush 128) 0)) (tB 45 p (tL 45 p (.aload_n 0) 0) (tL 42 p (.putfield 23) 4)))) (tB 33 p (tB 37 p (tB 40 p (tL 40 p (.newarray .int) 0) (tL 37 p (.sipush 128) 0)) (tB 36 p (tL 36 p (.aload_n 0) 0) (tL 33 p (.putfield 20) 3))) (tB 29 p (tB 31 p (tL 31 p (.newarray .int) 0) (tL 29 p (.bipush 10) 0)) (tL 28 p (.aload_n 0) 0)))) (tB 13 p (tB 20 p (tB 23 p (tB 25 p (tL 25 p (.putfield 17) 2) (tL 23 p (.newarray .int) 0)) (tB 21 p (tL 21 p (.bipush 64) 0) (tL 20 p (.aload_n 0) 0))) (tB 15 p (tB 17 p (tL 17 p (.putfield 13) 1) (tL 15 p (.newarray .boolean) 0)) (tL 13 p (.bipush 32) 0))) (tB 5 p (tB 9 p (tB 12 p (tL 12 p (.aload_n 0) 0) (tL 9 p (.putfield 7) 0)) (tB 7 p (tL 7 p (.newarray .int) 0) (tL 5 p (.bipush 32) 0))) (tB 1 p (tB 4 p (tL 4 p (.aload_n 0) 0) (tL 1 p (.invokespecial 1) 0)) (tL 0 p (.aload_n 0) 0)))))))
set_option maxHeartbeats 4000000 in
def cd2 (p : Nat) : Option (Instr × Nat) := (tB 8 p (tB 13 p (tB 14 p (tB 15 p (tL 15 p .ireturn 0) (tL 14 p (.iload_n 1) 0)) (tL 13 p .ireturn 0)) (tB 9 p (tB 12 p (tL 12 p (.iload_n 3) 0) (tL 9 p (.if_icmp .le 5) 14)) (tL 8 p (.iload_n 3) 0))) (tB 5 p (tB 6 p (tB 7 p (tL 7 p (.iload_n 1) 0) (tL 6 p .ireturn 0)) (tL 5 p (.iload_n 2) 0)) (tB 1 p (tB 2 p (tL 2 p (.if_icmp .ge 5) 7) (tL 1 p (.iload_n 2) 0)) (tL 0 p (.iload_n 1) 0))))
set_option maxHeartbeats 4000000 in
def cd3 (p : Nat) : Option (Instr × Nat) := (tB 36 p (tB 52 p (tB 57 p (tB 60 p (tB 63 p (tB 64 p (tL 64 p .ireturn 0) (tL 63 p (.iload_n 2) 0)) (tL 60 p (.invokevirtual 88) 4)) (tB 58 p (tB 59 p (tL 59 p (.iload_n 1) 0) (tL 58 p (.iload_n 2) 0)) (tL 57 p (.iconst 0) 0))) (tB 54 p (tB 55 p (tB 56 p (tL 56 p (.aload_n 0) 0) (tL 55 p .iastore 0)) (tL 54 p .iadd 0)) (tB 53 p (tL 53 p (.iconst 1) 0) (tL 52 p .iaload 0)))) (tB 43 p (tB 47 p (tB 50 p (tB 51 p (tL 51 p .dup2 0) (tL 50 p (.iconst 1) 0)) (tL 47 p (.getfield 20) 3)) (tB 46 p (tL 46 p (.aload_n 0) 0) (tL 43 p (.putfield 85) 23))) (tB 38 p (tB 41 p (tB 42 p (tL 42 p .iadd 0) (tL 41 p (.iconst 1) 0)) (tL 38 p (.getfield 85) 23)) (tB 37 p (tL 37 p (.aload_n 0) 0) (tL 36 p (.aload_n 0) 0))))) (tB 19 p (tB 28 p (tB 33 p (tB 34 p (tB 35 p (tL 35 p .iastore 0) (tL 34 p (.iload_n 1) 0)) (tL 33 p (.iload_n 2) 0)) (tB 29 p (tB 30 p (tL 30 p (.getfield 7) 0) (tL 29 p (.aload_n 0) 0)) (tL 28 p (.istore_n 2) 0))) (tB 23 p (tB 24 p (tB 25 p (tL 25 p (.getfield 85) 23) (tL 24 p (.aload_n 0) 0)) (tL 23 p .ireturn 0)) (tB 22 p (tL 22 p (.iconst (-1)) 0) (tL 19 p (.if_icmp .lt 5) 24)))) (tB 11 p (tB 13 p (tB 14 p (tB 17 p (tL 17 p (.bipush 32) 0) (tL 14 p (.getfield 85) 23)) (tL 13 p (.aload_n 0) 0)) (tB 12 p (tL 12 p .ireturn 0) (tL 11 p (.iconst (-1)) 0))) (tB 4 p (tB 5 p (tB 8 p (tL 8 p (.if_icmp .le 5) 13) (tL 5 p (.sipush 255) 0)) (tL 4 p (.iload_n 1) 0)) (tB 1 p (tL 1 p (.ifCond .lt 10) 11) (tL 0 p (.iload_n 1) 0))))))
set_option maxHeartbeats 4000000 in
def cd4 (p : Nat) : Option (Instr × Nat) := (tB 23 p (tB 34 p (tB 39 p (tB 45 p (tB 48 p (tL 48 p .return_ 0) (tL 45 p (.goto (-22)) 23)) (tB 42 p (tL 42 p (.iinc 6 1) 0) (tL 39 p (.invokevirtual 121) 8))) (tB 35 p (tB 37 p (tL 37 p (.iload 5) 0) (tL 35 p (.iload 4) 0)) (tL 34 p (.iload_n 3) 0))) (tB 29 p (tB 32 p (tB 33 p (tL 33 p (.iload_n 2) 0) (tL 32 p (.iload_n 1) 0)) (tB 30 p (tL 30 p (.iload 6) 0) (tL 29 p (.aload_n 0) 0))) (tB 25 p (tB 26 p (tL 26 p (.if_icmp .ge 22) 48) (tL 25 p (.iconst 4) 0)) (tL 23 p (.iload 6) 0)))) (tB 12 p (tB 15 p (tB 20 p (tB 21 p (tL 21 p (.istore 6) 0) (tL 20 p (.iconst 0) 0)) (tB 17 p (tL 17 p (.invokevirtual 118) 7) (tL 15 p (.iload 5) 0))) (tB 13 p (tB 14 p (tL 14 p (.iload_n 2) 0) (tL 13 p (.iload_n 1) 0)) (tL 12 p (.aload_n 0) 0))) (tB 6 p (tB 7 p (tB 10 p (tL 10 p (.istore 5) 0) (tL 7 p (.invokevirtual 109) 6)) (tL 6 p (.aload_n 0) 0)) (tB 1 p (tB 4 p (tL 4 p (.istore 4) 0) (tL 1 p (.invokevirtual 105) 5)) (tL 0 p (.aload_n 0) 0)))))
set_option maxHeartbeats 4000000 in
def cd5 (p : Nat) : Option (Instr × Nat) := (tB 4 p (tB 5 p (tB 6 p (tL 6 p .ireturn 0) (tL 5 p .isub 0)) (tL 4 p (.iconst 1) 0)) (tB 1 p (tL 1 p (.getfield 85) 23) (tL 0 p (.aload_n 0) 0)))
set_option maxHeartbeats 4000000 in
def cd6 (p : Nat) : Option (Instr × Nat) := (tB 10 p (tB 15 p (tB 16 p (tB 17 p (tL 17 p .ireturn 0) (tL 16 p (.iload_n 1) 0)) (tL 15 p .ireturn 0)) (tB 11 p (tB 14 p (tL 14 p (.iconst 0) 0) (tL 11 p (.ifCond .ge 5) 16)) (tL 10 p (.iload_n 1) 0))) (tB 5 p (tB 8 p (tB 9 p (tL 9 p (.istore_n 1) 0) (tL 8 p .isub 0)) (tL 5 p (.getfield 72) 19)) (tB 1 p (tB 4 p (tL 4 p (.aload_n 0) 0) (tL 1 p (.getfield 85) 23)) (tL 0 p (.aload_n 0) 0))))
set_option maxHeartbeats 4000000 in
def cd7 (p : Nat) : Option (Instr × Nat) := (tB 23 p (tB 37 p (tB 43 p (tB 47 p (tB 50 p (tL 50 p .return_ 0) (tL 47 p (.goto (-24)) 23)) (tB 44 p (tL 44 p (.iinc 4 1) 0) (tL 43 p .bastore 0))) (tB 40 p (tB 42 p (tL 42 p (.iconst 0) 0) (tL 40 p (.iload 4) 0)) (tL 37 p (.getfield 13) 1))) (tB 29 p (tB 33 p (tB 36 p (tL 36 p (.aload_n 0) 0) (tL 33 p (.if_icmp .ge 17) 50)) (tB 31 p (tL 31 p (.bipush 32) 0) (tL 29 p (.iload 4) 0))) (tB 25 p (tB 26 p (tL 26 p (.if_icmp .ge 24) 50) (tL 25 p (.iload_n 3) 0)) (tL 23 p (.iload 4) 0)))) (tB 13 p (tB 18 p (tB 20 p (tB 21 p (tL 21 p (.istore 4) 0) (tL 20 p (.iconst 0) 0)) (tB 19 p (tL 19 p .bastore 0) (tL 18 p (.iconst 0) 0))) (tB 14 p (tB 17 p (tL 17 p (.iload_n 2) 0) (tL 14 p (.getfield 13) 1)) (tL 13 p (.aload_n 0) 0))) (tB 5 p (tB 7 p (tB 10 p (tL 10 p (.ifCond .eq 10) 20) (tL 7 p (.invokevirtual 115) 10)) (tB 6 p (tL 6 p (.iload_n 2) 0) (tL 5 p (.aload_n 0) 0))) (tB 1 p (tB 2 p (tL 2 p (.if_icmp .ne 18) 20) (tL 1 p (.iconst 1) 0)) (tL 0 p (.iload_n 1) 0)))))
set_option maxHeartbeats 4000000 in
def cd8 (p : Nat) : Option (Instr × Nat) := (tB 42 p (tB 71 p (tB 85 p (tB 93 p (tB 95 p (tB 98 p (tL 98 p .return_ 0) (tL 95 p (.invokevirtual 140) 28)) (tB 94 p (tL 94 p (.iload_n 3) 0) (tL 93 p (.iload_n 1) 0))) (tB 89 p (tB 92 p (tL 92 p (.aload_n 0) 0) (tL 89 p (.goto 9) 98)) (tB 86 p (tL 86 p (.invokevirtual 136) 13) (tL 85 p (.iload_n 1) 0)))) (tB 78 p (tB 81 p (tB 84 p (tL 84 p (.aload_n 0) 0) (tL 81 p (.invokevirtual 133) 12)) (tB 79 p (tL 79 p (.iload 6) 0) (tL 78 p (.iload_n 1) 0))) (tB 74 p (tB 77 p (tL 77 p (.aload_n 0) 0) (tL 74 p (.invokevirtual 129) 11)) (tB 72 p (tL 72 p (.iload 5) 0) (tL 71 p (.iload_n 1) 0))))) (tB 55 p (tB 65 p (tB 67 p (tB 70 p (tL 70 p (.aload_n 0) 0) (tL 67 p (.if_icmp .ne 25) 92)) (tB 66 p (tL 66 p (.iconst 2) 0) (tL 65 p (.iload_n 2) 0))) (tB 59 p (tB 62 p (tL 62 p (.goto 36) 98) (tL 59 p (.invokevirtual 125) 9)) (tB 57 p (tL 57 p (.iload 6) 0) (tL 55 p (.iload 5) 0)))) (tB 50 p (tB 52 p (tB 53 p (tL 53 p (.iload 4) 0) (tL 52 p (.iload_n 3) 0)) (tB 51 p (tL 51 p (.iload_n 1) 0) (tL 50 p (.aload_n 0) 0))) (tB 46 p (tB 47 p (tL 47 p (.if_icmp .ne 18) 65) (tL 46 p (.iconst 1) 0)) (tB 45 p (tL 45 p (.iload_n 2) 0) (tL 42 p (.ifCond .eq 8) 50)))))) (tB 23 p (tB 33 p (tB 38 p (tB 40 p (tB 41 p (tL 41 p (.iload_n 2) 0) (tL 40 p .return_ 0)) (tB 39 p (tL 39 p .iastore 0) (tL 38 p .iadd 0))) (tB 36 p (tB 37 p (tL 37 p (.iconst 1) 0) (tL 36 p .iaload 0)) (tB 35 p (tL 35 p .dup2 0) (tL 33 p (.bipush 9) 0)))) (tB 27 p (tB 29 p (tB 30 p (tL 30 p (.getfield 20) 3) (tL 29 p (.aload_n 0) 0)) (tB 28 p (tL 28 p .iastore 0) (tL 27 p .iadd 0))) (tB 25 p (tB 26 p (tL 26 p (.iconst 1) 0) (tL 25 p .iaload 0)) (tB 24 p (tL 24 p .dup2 0) (tL 23 p (.iload_n 1) 0))))) (tB 13 p (tB 17 p (tB 19 p (tB 20 p (tL 20 p (.getfield 47) 12) (tL 19 p (.aload_n 0) 0)) (tB 18 p (tL 18 p .iastore 0) (tL 17 p .isub 0))) (tB 15 p (tB 16 p (tL 16 p (.iconst 1) 0) (tL 15 p .iaload 0)) (tB 14 p (tL 14 p .dup2 0) (tL 13 p (.iload_n 1) 0)))) (tB 5 p (tB 9 p (tB 10 p (tL 10 p (.getfield 41) 10) (tL 9 p (.aload_n 0) 0)) (tB 6 p (tL 6 p (.ifCond .le 35) 41) (tL 5 p .iaload 0))) (tB 1 p (tB 4 p (tL 4 p (.iload_n 1) 0) (tL 1 p (.getfield 41) 10)) (tL 0 p (.aload_n 0) 0))))))
set_option maxHeartbeats 4000000 in
def cd9 (p : Nat) : Option (Instr × Nat) := (tB 51 p (tB 73 p (tB 83 p (tB 90 p (tB 92 p (tB 95 p (tL 95 p .return_ 0) (tL 92 p (.invokevirtual 136) 13)) (tB 91 p (tL 91 p (.iload_n 1) 0) (tL 90 p (.aload_n 0) 0))) (tB 85 p (tB 87 p (tL 87 p (.invokevirtual 133) 12) (tL 85 p (.iload 5) 0)) (tB 84 p (tL 84 p (.iload_n 1) 0) (tL 83 p (.aload_n 0) 0)))) (tB 76 p (tB 78 p (tB 80 p (tL 80 p (.invokevirtual 129) 11) (tL 78 p (.iload 4) 0)) (tB 77 p (tL 77 p (.iload_n 1) 0) (tL 76 p (.aload_n 0) 0))) (tB 74 p (tB 75 p (tL 75 p .iastore 0) (tL 74 p .iadd 0)) (tL 73 p (.iconst 1) 0)))) (tB 62 p (tB 67 p (tB 71 p (tB 72 p (tL 72 p .iaload 0) (tL 71 p .dup2 0)) (tB 70 p (tL 70 p (.iload_n 1) 0) (tL 67 p (.getfield 44) 11))) (tB 63 p (tB 66 p (tL 66 p (.aload_n 0) 0) (tL 63 p (.goto 13) 76)) (tL 62 p .iastore 0))) (tB 55 p (tB 59 p (tB 61 p (tL 61 p (.iconst 0) 0) (tL 59 p (.iload 6) 0)) (tB 56 p (tL 56 p (.getfield 26) 5) (tL 55 p (.aload_n 0) 0))) (tB 53 p (tB 54 p (tL 54 p .iastore 0) (tL 53 p (.iload_n 3) 0)) (tL 51 p (.iload 6) 0))))) (tB 23 p (tB 39 p (tB 45 p (tB 47 p (tB 48 p (tL 48 p (.getfield 29) 6) (tL 47 p (.aload_n 0) 0)) (tB 46 p (tL 46 p .iastore 0) (tL 45 p (.iconst 4) 0))) (tB 40 p (tB 43 p (tL 43 p (.iload 6) 0) (tL 40 p (.getfield 23) 4)) (tL 39 p (.aload_n 0) 0))) (tB 30 p (tB 33 p (tB 36 p (tL 36 p (.ifCond .eq 30) 66) (tL 33 p (.invokevirtual 143) 24)) (tB 31 p (tL 31 p (.iload 7) 0) (tL 30 p (.aload_n 0) 0))) (tB 25 p (tB 27 p (tL 27 p (.ifCond .eq 12) 39) (tL 25 p (.iload 7) 0)) (tL 23 p (.istore 7) 0)))) (tB 12 p (tB 16 p (tB 20 p (tB 22 p (tL 22 p .iaload 0) (tL 20 p (.iload 6) 0)) (tB 17 p (tL 17 p (.getfield 23) 4) (tL 16 p (.aload_n 0) 0))) (tB 13 p (tB 14 p (tL 14 p (.istore 6) 0) (tL 13 p .iadd 0)) (tL 12 p (.iload_n 2) 0))) (tB 5 p (tB 9 p (tB 11 p (tL 11 p .imul 0) (tL 9 p (.bipush 32) 0)) (tB 8 p (tL 8 p (.iload_n 1) 0) (tL 5 p (.ifCond .eq 71) 76))) (tB 1 p (tB 2 p (tL 2 p (.invokevirtual 115) 10) (tL 1 p (.iload_n 2) 0)) (tL 0 p (.aload_n 0) 0))))))
set_option maxHeartbeats 4000000 in
def cd10 (p : Nat) : Option (Instr × Nat) := (tB 7 p (tB 11 p (tB 14 p (tB 15 p (tL 15 p .ireturn 0) (tL 14 p (.iconst 0) 0)) (tL 11 p (.goto 4) 15)) (tB 10 p (tL 10 p (.iconst 1) 0) (tL 7 p (.if_icmp .ge 7) 14))) (tB 4 p (tB 5 p (tL 5 p (.bipush 32) 0) (tL 4 p (.iload_n 1) 0)) (tB 1 p (tL 1 p (.ifCond .lt 13) 14) (tL 0 p (.iload_n 1) 0))))
set_option maxHeartbeats 4000000 in
def cd11 (p : Nat) : Option (Instr × Nat) := (tB 46 p (tB 70 p (tB 83 p (tB 90 p (tB 92 p (tB 93 p (tL 93 p .return_ 0) (tL 92 p .iastore 0)) (tB 91 p (tL 91 p (.iload_n 2) 0) (tL 90 p (.iload_n 1) 0))) (tB 86 p (tB 87 p (tL 87 p (.getfield 35) 8) (tL 86 p (.aload_n 0) 0)) (tL 83 p (.if_icmp .le 10) 93))) (tB 77 p (tB 81 p (tB 82 p (tL 82 p .iaload 0) (tL 81 p (.iload_n 1) 0)) (tB 78 p (tL 78 p (.getfield 35) 8) (tL 77 p (.aload_n 0) 0))) (tB 73 p (tB 76 p (tL 76 p (.iload_n 2) 0) (tL 73 p (.goto (-55)) 18)) (tL 70 p (.iinc 4 1) 0)))) (tB 58 p (tB 64 p (tB 66 p (tB 69 p (tL 69 p .iastore 0) (tL 66 p (.invokevirtual 146) 17)) (tB 65 p (tL 65 p (.iload_n 1) 0) (tL 64 p (.aload_n 0) 0))) (tB 59 p (tB 62 p (tL 62 p (.iload 5) 0) (tL 59 p (.getfield 26) 5)) (tL 58 p (.aload_n 0) 0))) (tB 51 p (tB 56 p (tB 57 p (tL 57 p .iastore 0) (tL 56 p (.iconst 1) 0)) (tB 54 p (tL 54 p (.iload 5) 0) (tL 51 p (.getfield 23) 4))) (tB 47 p (tB 50 p (tL 50 p (.aload_n 0) 0) (tL 47 p (.ifCond .ne 23) 70)) (tL 46 p .iaload 0))))) (tB 20 p (tB 34 p (tB 38 p (tB 41 p (tB 44 p (tL 44 p (.iload 5) 0) (tL 41 p (.getfield 23) 4)) (tB 40 p (tL 40 p (.aload_n 0) 0) (tL 38 p (.istore 5) 0))) (tB 35 p (tB 37 p (tL 37 p .iadd 0) (tL 35 p (.iload 4) 0)) (tL 34 p .imul 0))) (tB 26 p (tB 31 p (tB 32 p (tL 32 p (.bipush 32) 0) (tL 31 p (.iload_n 1) 0)) (tB 28 p (tL 28 p (.if_icmp .ge 48) 76) (tL 26 p (.bipush 32) 0))) (tB 21 p (tB 24 p (tL 24 p (.iload 4) 0) (tL 21 p (.if_icmp .gt 55) 76)) (tL 20 p (.iload_n 2) 0)))) (tB 9 p (tB 14 p (tB 16 p (tB 18 p (tL 18 p (.iload 4) 0) (tL 16 p (.istore 4) 0)) (tB 15 p (tL 15 p (.iload_n 3) 0) (tL 14 p (.istore_n 3) 0))) (tB 10 p (tB 13 p (tL 13 p (.iconst 0) 0) (tL 10 p (.ifCond .ge 5) 15)) (tL 9 p (.iload_n 3) 0))) (tB 5 p (tB 7 p (tB 8 p (tL 8 p (.istore_n 3) 0) (tL 7 p .iadd 0)) (tB 6 p (tL 6 p (.iconst 1) 0) (tL 5 p .iaload 0))) (tB 1 p (tB 4 p (tL 4 p (.iload_n 1) 0) (tL 1 p (.getfield 35) 8)) (tL 0 p (.aload_n 0) 0))))))
set_option maxHeartbeats 4000000 in
def cd12 (p : Nat) : Option (Instr × Nat) := (tB 51 p (tB 81 p (tB 97 p (tB 102 p (tB 108 p (tB 111 p (tB 114 p (tL 114 p .return_ 0) (tL 111 p (.goto (-77)) 34)) (tL 108 p (.iinc 4 1) 0)) (tB 103 p (tL 103 p (.iload 4) 0) (tL 102 p (.iload_n 1) 0))) (tB 100 p (tB 101 p (tL 101 p (.aload_n 0) 0) (tL 100 p .iastore 0)) (tB 99 p (tL 99 p (.iconst 0) 0) (tL 97 p (.iload 5) 0)))) (tB 90 p (tB 93 p (tB 94 p (tL 94 p (.getfield 26) 5) (tL 93 p (.aload_n 0) 0)) (tB 92 p (tL 92 p .iastore 0) (tL 90 p (.bipush 6) 0))) (tB 85 p (tB 88 p (tL 88 p (.iload 5) 0) (tL 85 p (.getfield 23) 4)) (tB 84 p (tL 84 p (.aload_n 0) 0) (tL 81 p (.if_icmp .eq 27) 108))))) (tB 65 p (tB 73 p (tB 77 p (tB 79 p (tL 79 p (.bipush 6) 0) (tL 77 p (.iload 6) 0)) (tB 74 p (tL 74 p (.if_icmp .eq 34) 108) (tL 73 p (.iconst 5) 0))) (tB 68 p (tB 71 p (tL 71 p (.iload 6) 0) (tL 68 p (.if_icmp .eq 40) 108)) (tB 67 p (tL 67 p (.iconst 4) 0) (tL 65 p (.iload 6) 0)))) (tB 57 p (tB 62 p (tB 63 p (tL 63 p (.istore 6) 0) (tL 62 p .iaload 0)) (tB 60 p (tL 60 p (.iload 5) 0) (tL 57 p (.getfield 23) 4))) (tB 54 p (tB 56 p (tL 56 p (.aload_n 0) 0) (tL 54 p (.istore 5) 0)) (tB 53 p (tL 53 p .iadd 0) (tL 51 p (.iload 4) 0)))))) (tB 24 p (tB 36 p (tB 44 p (tB 48 p (tB 50 p (tL 50 p .imul 0) (tL 48 p (.bipush 32) 0)) (tB 47 p (tL 47 p (.iload_n 1) 0) (tL 44 p (.if_icmp .ge 70) 114))) (tB 40 p (tB 42 p (tL 42 p (.bipush 32) 0) (tL 40 p (.iload 4) 0)) (tB 37 p (tL 37 p (.if_icmp .ge 77) 114) (tL 36 p (.iload_n 2) 0)))) (tB 30 p (tB 32 p (tB 34 p (tL 34 p (.iload 4) 0) (tL 32 p (.istore 4) 0)) (tB 31 p (tL 31 p (.iload_n 3) 0) (tL 30 p (.istore_n 3) 0))) (tB 26 p (tB 29 p (tL 29 p (.iconst 0) 0) (tL 26 p (.ifCond .ge 5) 31)) (tB 25 p (tL 25 p (.iload_n 3) 0) (tL 24 p (.istore_n 3) 0))))) (tB 12 p (tB 18 p (tB 22 p (tB 23 p (tL 23 p .iaload 0) (tL 22 p (.iload_n 1) 0)) (tB 19 p (tL 19 p (.getfield 32) 7) (tL 18 p (.aload_n 0) 0))) (tB 16 p (tB 17 p (tL 17 p .iastore 0) (tL 16 p (.iload_n 2) 0)) (tB 15 p (tL 15 p (.iload_n 1) 0) (tL 12 p (.getfield 38) 9)))) (tB 6 p (tB 10 p (tB 11 p (tL 11 p (.aload_n 0) 0) (tL 10 p .return_ 0)) (tB 7 p (tL 7 p (.if_icmp .gt 4) 11) (tL 6 p .iaload 0))) (tB 2 p (tB 5 p (tL 5 p (.iload_n 1) 0) (tL 2 p (.getfield 38) 9)) (tB 1 p (tL 1 p (.aload_n 0) 0) (tL 0 p (.iload_n 2) 0)))))))
set_option maxHeartbeats 4000000 in
def cd13 (p : Nat) : Option (Instr × Nat) := (tB 45 p (tB 67 p (tB 78 p (tB 81 p (tB 85 p (tB 88 p (tL 88 p .return_ 0) (tL 85 p (.goto (-78)) 7)) (tB 82 p (tL 82 p (.iinc 2 1) 0) (tL 81 p .iastore 0))) (tB 79 p (tB 80 p (tL 80 p .iadd 0) (tL 79 p (.iconst 1) 0)) (tL 78 p (.iload_n 2) 0))) (tB 72 p (tB 74 p (tB 77 p (tL 77 p (.iload_n 1) 0) (tL 74 p (.getfield 32) 7)) (tB 73 p (tL 73 p (.aload_n 0) 0) (tL 72 p .iastore 0))) (tB 70 p (tB 71 p (tL 71 p (.iconst 5) 0) (tL 70 p (.iload_n 3) 0)) (tL 67 p (.getfield 23) 4)))) (tB 56 p (tB 61 p (tB 63 p (tB 66 p (tL 66 p (.aload_n 0) 0) (tL 63 p (.invokevirtual 153) 14)) (tB 62 p (tL 62 p .iaload 0) (tL 61 p (.iload_n 3) 0))) (tB 57 p (tB 58 p (tL 58 p (.getfield 29) 6) (tL 57 p (.aload_n 0) 0)) (tL 56 p (.iload_n 2) 0))) (tB 51 p (tB 54 p (tB 55 p (tL 55 p (.iload_n 1) 0) (tL 54 p (.aload_n 0) 0)) (tL 51 p (.if_icmp .ne 22) 73)) (tB 48 p (tB 50 p (tL 50 p (.iconst 4) 0) (tL 48 p (.iload 4) 0)) (tL 45 p (.goto 43) 88))))) (tB 21 p (tB 30 p (tB 35 p (tB 40 p (tB 42 p (tL 42 p (.if_icmp .eq 6) 48) (tL 40 p (.bipush 6) 0)) (tB 38 p (tL 38 p (.iload 4) 0) (tL 35 p (.if_icmp .eq 13) 48))) (tB 32 p (tB 34 p (tL 34 p (.iconst 4) 0) (tL 32 p (.iload 4) 0)) (tL 30 p (.istore 4) 0))) (tB 24 p (tB 28 p (tB 29 p (tL 29 p .iaload 0) (tL 28 p (.iload_n 3) 0)) (tB 25 p (tL 25 p (.getfield 23) 4) (tL 24 p (.aload_n 0) 0))) (tB 22 p (tB 23 p (tL 23 p (.istore_n 3) 0) (tL 22 p .iadd 0)) (tL 21 p (.iload_n 2) 0)))) (tB 8 p (tB 14 p (tB 18 p (tB 20 p (tL 20 p .imul 0) (tL 18 p (.bipush 32) 0)) (tB 17 p (tL 17 p (.iload_n 1) 0) (tL 14 p (.if_icmp .ge 74) 88))) (tB 11 p (tB 12 p (tL 12 p (.bipush 32) 0) (tL 11 p (.iload_n 2) 0)) (tL 8 p (.ifCond .lt 80) 88))) (tB 5 p (tB 6 p (tB 7 p (tL 7 p (.iload_n 2) 0) (tL 6 p (.istore_n 2) 0)) (tL 5 p .iaload 0)) (tB 1 p (tB 4 p (tL 4 p (.iload_n 1) 0) (tL 1 p (.getfield 32) 7)) (tL 0 p (.aload_n 0) 0))))))
set_option maxHeartbeats 4000000 in
def cd14 (p : Nat) : Option (Instr × Nat) := (tB 28 p (tB 40 p (tB 46 p (tB 48 p (tB 49 p (tB 50 p (tL 50 p .return_ 0) (tL 49 p .iastore 0)) (tL 48 p .iadd 0)) (tB 47 p (tL 47 p (.iconst 1) 0) (tL 46 p .iaload 0))) (tB 44 p (tB 45 p (tL 45 p .dup2 0) (tL 44 p (.iload_n 1) 0)) (tB 41 p (tL 41 p (.getfield 56) 15) (tL 40 p (.aload_n 0) 0)))) (tB 33 p (tB 38 p (tB 39 p (tL 39 p .iastore 0) (tL 38 p (.iload_n 3) 0)) (tB 36 p (tL 36 p (.iload 4) 0) (tL 33 p (.getfield 53) 14))) (tB 31 p (tB 32 p (tL 32 p (.aload_n 0) 0) (tL 31 p .iastore 0)) (tB 30 p (tL 30 p (.iload_n 2) 0) (tL 28 p (.iload 4) 0))))) (tB 14 p (tB 20 p (tB 22 p (tB 24 p (tB 25 p (tL 25 p (.getfield 50) 13) (tL 24 p (.aload_n 0) 0)) (tL 22 p (.istore 4) 0)) (tB 21 p (tL 21 p .iadd 0) (tL 20 p .iaload 0))) (tB 16 p (tB 19 p (tL 19 p (.iload_n 1) 0) (tL 16 p (.getfield 56) 15)) (tB 15 p (tL 15 p (.aload_n 0) 0) (tL 14 p .imul 0)))) (tB 6 p (tB 11 p (tB 12 p (tL 12 p (.bipush 32) 0) (tL 11 p (.iload_n 1) 0)) (tB 8 p (tL 8 p (.if_icmp .ge 42) 50) (tL 6 p (.bipush 32) 0))) (tB 4 p (tB 5 p (tL 5 p .iaload 0) (tL 4 p (.iload_n 1) 0)) (tB 1 p (tL 1 p (.getfield 56) 15) (tL 0 p (.aload_n 0) 0))))))
set_option maxHeartbeats 4000000 in
def cd15 (p : Nat) : Option (Instr × Nat) := (tB 14 p (tB 18 p (tB 24 p (tB 25 p (tB 26 p (tL 26 p .ireturn 0) (tL 25 p (.iconst 1) 0)) (tL 24 p .iastore 0)) (tB 21 p (tL 21 p (.invokevirtual 68) 2) (tL 18 p (.sipush 255) 0))) (tB 16 p (tB 17 p (tL 17 p (.iconst 0) 0) (tL 16 p (.iload_n 2) 0)) (tB 15 p (tL 15 p (.aload_n 0) 0) (tL 14 p (.iload_n 1) 0)))) (tB 8 p (tB 10 p (tB 11 p (tL 11 p (.getfield 41) 10) (tL 10 p (.aload_n 0) 0)) (tB 9 p (tL 9 p .ireturn 0) (tL 8 p (.iconst 0) 0))) (tB 2 p (tB 5 p (tL 5 p (.ifCond .ne 5) 10) (tL 2 p (.invokevirtual 92) 16)) (tB 1 p (tL 1 p (.iload_n 1) 0) (tL 0 p (.aload_n 0) 0)))))
set_option maxHeartbeats 4000000 in
def cd16 (p : Nat) : Option (Instr × Nat) := (tB 6 p (tB 10 p (tB 13 p (tB 14 p (tL 14 p .ireturn 0) (tL 13 p (.iconst 0) 0)) (tL 10 p (.goto 4) 14)) (tB 9 p (tL 9 p (.iconst 1) 0) (tL 6 p (.if_icmp .ge 7) 13))) (tB 4 p (tB 5 p (tL 5 p (.iconst 4) 0) (tL 4 p (.iload_n 1) 0)) (tB 1 p (tL 1 p (.ifCond .lt 12) 13) (tL 0 p (.iload_n 1) 0))))
set_option maxHeartbeats 4000000 in
def cd17 (p : Nat) : Option (Instr × Nat) := (tB 4 p (tB 5 p (tB 6 p (tL 6 p .ireturn 0) (tL 5 p .iadd 0)) (tL 4 p (.iload_n 1) 0)) (tB 1 p (tL 1 p (.getfield 76) 20) (tL 0 p (.aload_n 0) 0)))
set_option maxHeartbeats 4000000 in
def cd18 (p : Nat) : Option (Instr × Nat) := (tB 17 p (tB 25 p (tB 27 p (tB 28 p (tB 29 p (tL 29 p .ireturn 0) (tL 28 p .iaload 0)) (tL 27 p .iadd 0)) (tB 26 p (tL 26 p (.iload_n 2) 0) (tL 25 p .imul 0))) (tB 19 p (tB 22 p (tB 23 p (tL 23 p (.bipush 32) 0) (tL 22 p (.iload_n 1) 0)) (tL 19 p (.getfield 23) 4)) (tB 18 p (tL 18 p (.aload_n 0) 0) (tL 17 p .ireturn 0)))) (tB 8 p (tB 10 p (tB 13 p (tB 16 p (tL 16 p (.iconst (-1)) 0) (tL 13 p (.ifCond .ne 5) 18)) (tL 10 p (.invokevirtual 115) 10)) (tB 9 p (tL 9 p (.iload_n 2) 0) (tL 8 p (.aload_n 0) 0))) (tB 2 p (tB 5 p (tL 5 p (.ifCond .eq 11) 16) (tL 2 p (.invokevirtual 92) 16)) (tB 1 p (tL 1 p (.iload_n 1) 0) (tL 0 p (.aload_n 0) 0)))))
set_option maxHeartbeats 4000000 in
def cd19 (p : Nat) : Option (Instr × Nat) := (tB 17 p (tB 25 p (tB 27 p (tB 28 p (tB 29 p (tL 29 p .ireturn 0) (tL 28 p .iaload 0)) (tL 27 p .iadd 0)) (tB 26 p (tL 26 p (.iload_n 2) 0) (tL 25 p .imul 0))) (tB 19 p (tB 22 p (tB 23 p (tL 23 p (.bipush 32) 0) (tL 22 p (.iload_n 1) 0)) (tL 19 p (.getfield 26) 5)) (tB 18 p (tL 18 p (.aload_n 0) 0) (tL 17 p .ireturn 0)))) (tB 8 p (tB 10 p (tB 13 p (tB 16 p (tL 16 p (.iconst (-1)) 0) (tL 13 p (.ifCond .ne 5) 18)) (tL 10 p (.invokevirtual 115) 10)) (tB 9 p (tL 9 p (.iload_n 2) 0) (tL 8 p (.aload_n 0) 0))) (tB 2 p (tB 5 p (tL 5 p (.ifCond .eq 11) 16) (tL 2 p (.invokevirtual 92) 16)) (tB 1 p (tL 1 p (.iload_n 1) 0) (tL 0 p (.aload_n 0) 0)))))
set_option maxHeartbeats 4000000 in
def cd20 (p : Nat) : Option (Instr × Nat) := (tB 31 p (tB 45 p (tB 52 p (tB 56 p (tB 57 p (tB 60 p (tL 60 p .return_ 0) (tL 57 p (.invokevirtual 102) 25)) (tL 56 p (.aload_n 0) 0)) (tB 53 p (tL 53 p (.invokevirtual 99) 22) (tL 52 p (.aload_n 0) 0))) (tB 47 p (tB 48 p (tB 49 p (tL 49 p (.invokevirtual 88) 4) (tL 48 p (.iconst 0) 0)) (tL 47 p (.iconst 0) 0)) (tB 46 p (tL 46 p (.iconst 2) 0) (tL 45 p (.aload_n 0) 0)))) (tB 40 p (tB 42 p (tB 43 p (tB 44 p (tL 44 p .iastore 0) (tL 43 p .iadd 0)) (tL 42 p (.iconst 1) 0)) (tB 41 p (tL 41 p .iaload 0) (tL 40 p .dup2 0))) (tB 35 p (tB 36 p (tB 39 p (tL 39 p (.iconst 3) 0) (tL 36 p (.getfield 20) 3)) (tL 35 p (.aload_n 0) 0)) (tB 32 p (tL 32 p (.ifCond .ne 20) 52) (tL 31 p .irem 0))))) (tB 11 p (tB 22 p (tB 26 p (tB 27 p (tB 28 p (tL 28 p (.getfield 82) 22) (tL 27 p (.aload_n 0) 0)) (tL 26 p .iaload 0)) (tB 25 p (tL 25 p (.iconst 0) 0) (tL 22 p (.getfield 20) 3))) (tB 15 p (tB 18 p (tB 21 p (tL 21 p (.aload_n 0) 0) (tL 18 p (.ifCond .le 34) 52)) (tL 15 p (.getfield 82) 22)) (tB 14 p (tL 14 p (.aload_n 0) 0) (tL 11 p (.invokevirtual 96) 21)))) (tB 6 p (tB 8 p (tB 9 p (tB 10 p (tL 10 p (.aload_n 0) 0) (tL 9 p .iastore 0)) (tL 8 p .iadd 0)) (tB 7 p (tL 7 p (.iconst 1) 0) (tL 6 p .iaload 0))) (tB 4 p (tB 5 p (tL 5 p .dup2 0) (tL 4 p (.iconst 0) 0)) (tB 1 p (tL 1 p (.getfield 20) 3) (tL 0 p (.aload_n 0) 0))))))
set_option maxHeartbeats 4000000 in
def cd21 (p : Nat) : Option (Instr × Nat) := (tB 53 p (tB 78 p (tB 86 p (tB 96 p (tB 98 p (tB 101 p (tL 101 p .return_ 0) (tL 98 p (.putfield 112) 24)) (tB 97 p (tL 97 p (.iconst 0) 0) (tL 96 p (.aload_n 0) 0))) (tB 90 p (tB 93 p (tL 93 p (.goto (-86)) 7) (tL 90 p (.iinc 2 1) 0)) (tB 87 p (tL 87 p (.invokevirtual 88) 4) (tL 86 p (.iconst 0) 0)))) (tB 82 p (tB 84 p (tB 85 p (tL 85 p (.iconst 0) 0) (tL 84 p (.iconst 2) 0)) (tB 83 p (tL 83 p (.aload_n 0) 0) (tL 82 p .iastore 0))) (tB 80 p (tB 81 p (tL 81 p .iadd 0) (tL 80 p (.iconst 1) 0)) (tB 79 p (tL 79 p .iaload 0) (tL 78 p .dup2 0))))) (tB 63 p (tB 70 p (tB 74 p (tB 77 p (tL 77 p (.iconst 3) 0) (tL 74 p (.getfield 20) 3)) (tB 73 p (tL 73 p (.aload_n 0) 0) (tL 70 p (.goto 20) 90))) (tB 65 p (tB 67 p (tL 67 p (.invokevirtual 88) 4) (tL 65 p (.iload 4) 0)) (tB 64 p (tL 64 p (.iload_n 3) 0) (tL 63 p (.iconst 1) 0)))) (tB 59 p (tB 61 p (tB 62 p (tL 62 p (.aload_n 0) 0) (tL 61 p .iastore 0)) (tB 60 p (tL 60 p .iadd 0) (tL 59 p (.iconst 1) 0))) (tB 57 p (tB 58 p (tL 58 p .iaload 0) (tL 57 p .dup2 0)) (tB 56 p (tL 56 p (.iconst 2) 0) (tL 53 p (.getfield 20) 3)))))) (tB 27 p (tB 38 p (tB 48 p (tB 50 p (tB 52 p (tL 52 p (.aload_n 0) 0) (tL 50 p (.istore 4) 0)) (tB 49 p (tL 49 p .iaload 0) (tL 48 p (.iload_n 3) 0))) (tB 44 p (tB 45 p (tL 45 p (.getfield 7) 0) (tL 44 p (.aload_n 0) 0)) (tB 41 p (tL 41 p (.ifCond .eq 11) 52) (tL 38 p (.invokevirtual 115) 10)))) (tB 33 p (tB 36 p (tB 37 p (tL 37 p (.iload_n 3) 0) (tL 36 p (.aload_n 0) 0)) (tB 34 p (tL 34 p (.istore 4) 0) (tL 33 p (.iconst 0) 0))) (tB 29 p (tB 30 p (tL 30 p (.if_icmp .lt 43) 73) (tL 29 p (.iload_n 1) 0)) (tB 28 p (tL 28 p (.iload_n 3) 0) (tL 27 p (.istore_n 3) 0))))) (tB 12 p (tB 21 p (tB 25 p (tB 26 p (tL 26 p .iaload 0) (tL 25 p (.iload_n 2) 0)) (tB 22 p (tL 22 p (.getfield 17) 2) (tL 21 p (.aload_n 0) 0))) (tB 16 p (tB 18 p (tL 18 p (.if_icmp .ge 78) 96) (tL 16 p (.bipush 64) 0)) (tB 15 p (tL 15 p (.iload_n 2) 0) (tL 12 p (.if_icmp .ge 84) 96)))) (tB 6 p (tB 8 p (tB 9 p (tL 9 p (.getfield 112) 24) (tL 8 p (.aload_n 0) 0)) (tB 7 p (tL 7 p (.iload_n 2) 0) (tL 6 p (.istore_n 2) 0))) (tB 4 p (tB 5 p (tL 5 p (.iconst 0) 0) (tL 4 p (.istore_n 1) 0)) (tB 1 p (tL 1 p (.invokevirtual 109) 6) (tL 0 p (.aload_n 0) 0)))))))
set_option maxHeartbeats 4000000 in
def cd22 (p : Nat) : Option (Instr × Nat) := (tB 15 p (tB 23 p (tB 32 p (tB 35 p (tB 38 p (tL 38 p .return_ 0) (tL 35 p (.goto (-28)) 7)) (tL 32 p (.iinc 1 1) 0)) (tB 26 p (tB 29 p (tL 29 p (.goto (-15)) 14) (tL 26 p (.iinc 2 1) 0)) (tL 23 p (.invokevirtual 159) 23))) (tB 20 p (tB 21 p (tB 22 p (tL 22 p (.iload_n 2) 0) (tL 21 p (.iload_n 1) 0)) (tL 20 p (.aload_n 0) 0)) (tB 17 p (tL 17 p (.if_icmp .ge 15) 32) (tL 15 p (.bipush 32) 0)))) (tB 7 p (tB 12 p (tB 13 p (tB 14 p (tL 14 p (.iload_n 2) 0) (tL 13 p (.istore_n 2) 0)) (tL 12 p (.iconst 0) 0)) (tB 8 p (tB 9 p (tL 9 p (.if_icmp .ge 29) 38) (tL 8 p (.iconst 4) 0)) (tL 7 p (.iload_n 1) 0))) (tB 2 p (tB 5 p (tB 6 p (tL 6 p (.istore_n 1) 0) (tL 5 p (.iconst 0) 0)) (tL 2 p (.putfield 156) 25)) (tB 1 p (tL 1 p (.iconst 0) 0) (tL 0 p (.aload_n 0) 0)))))
set_option maxHeartbeats 4000000 in
def cd23 (p : Nat) : Option (Instr × Nat) := (tB 66 p (tB 103 p (tB 119 p (tB 126 p (tB 129 p (tB 132 p (tB 133 p (tL 133 p .return_ 0) (tL 132 p .iastore 0)) (tL 129 p (.invokevirtual 146) 17)) (tB 127 p (tB 128 p (tL 128 p (.iload_n 1) 0) (tL 127 p (.aload_n 0) 0)) (tL 126 p (.iload_n 3) 0))) (tB 121 p (tB 122 p (tB 123 p (tL 123 p (.getfield 26) 5) (tL 122 p (.aload_n 0) 0)) (tL 121 p .iastore 0)) (tB 120 p (tL 120 p (.iconst 1) 0) (tL 119 p (.iload_n 3) 0)))) (tB 110 p (tB 112 p (tB 115 p (tB 116 p (tL 116 p (.getfield 23) 4) (tL 115 p (.aload_n 0) 0)) (tL 112 p (.goto 21) 133)) (tB 111 p (tL 111 p .iastore 0) (tL 110 p .iadd 0))) (tB 107 p (tB 108 p (tB 109 p (tL 109 p (.iconst 1) 0) (tL 108 p .iaload 0)) (tL 107 p .dup2 0)) (tB 106 p (tL 106 p (.iconst 4) 0) (tL 103 p (.getfield 20) 3))))) (tB 86 p (tB 93 p (tB 98 p (tB 99 p (tB 102 p (tL 102 p (.aload_n 0) 0) (tL 99 p (.putfield 156) 25)) (tL 98 p .iadd 0)) (tB 94 p (tB 97 p (tL 97 p (.iconst 1) 0) (tL 94 p (.getfield 156) 25)) (tL 93 p .dup 0))) (tB 90 p (tB 91 p (tB 92 p (tL 92 p (.aload_n 0) 0) (tL 91 p .iastore 0)) (tL 90 p (.iload_n 3) 0)) (tB 87 p (tL 87 p (.getfield 156) 25) (tL 86 p (.aload_n 0) 0)))) (tB 73 p (tB 79 p (tB 82 p (tB 83 p (tL 83 p (.getfield 65) 18) (tL 82 p (.aload_n 0) 0)) (tL 79 p (.if_icmp .ge 23) 102)) (tB 76 p (tL 76 p (.sipush 128) 0) (tL 73 p (.getfield 156) 25))) (tB 68 p (tB 71 p (tB 72 p (tL 72 p (.aload_n 0) 0) (tL 71 p .iastore 0)) (tL 68 p (.getfield 79) 21)) (tB 67 p (tL 67 p (.aload_n 0) 0) (tL 66 p (.iload_n 3) 0)))))) (tB 34 p (tB 48 p (tB 56 p (tB 61 p (tB 62 p (tB 63 p (tL 63 p (.getfield 26) 5) (tL 62 p (.aload_n 0) 0)) (tL 61 p .iastore 0)) (tB 59 p (tB 60 p (tL 60 p (.iconst 2) 0) (tL 59 p (.iload_n 3) 0)) (tL 56 p (.getfield 23) 4))) (tB 51 p (tB 52 p (tB 55 p (tL 55 p (.aload_n 0) 0) (tL 52 p (.if_icmp .ne 63) 115)) (tL 51 p (.iconst 1) 0)) (tB 49 p (tL 49 p (.iload 4) 0) (tL 48 p .return_ 0)))) (tB 39 p (tB 43 p (tB 44 p (tB 45 p (tL 45 p (.ifCond .eq 4) 49) (tL 44 p .iaload 0)) (tL 43 p (.iload_n 3) 0)) (tB 40 p (tL 40 p (.getfield 26) 5) (tL 39 p (.aload_n 0) 0))) (tB 36 p (tB 37 p (tB 38 p (tL 38 p .iastore 0) (tL 37 p .isub 0)) (tL 36 p (.iconst 1) 0)) (tB 35 p (tL 35 p .iaload 0) (tL 34 p (.iload_n 3) 0))))) (tB 13 p (tB 24 p (tB 29 p (tB 30 p (tB 31 p (tL 31 p (.getfield 26) 5) (tL 30 p (.aload_n 0) 0)) (tL 29 p (.iload_n 3) 0)) (tB 25 p (tB 26 p (tL 26 p (.getfield 26) 5) (tL 25 p (.aload_n 0) 0)) (tL 24 p .return_ 0))) (tB 16 p (tB 18 p (tB 21 p (tL 21 p (.ifCond .ne 4) 25) (tL 18 p (.invokevirtual 143) 24)) (tL 16 p (.iload 4) 0)) (tB 15 p (tL 15 p (.aload_n 0) 0) (tL 13 p (.istore 4) 0)))) (tB 6 p (tB 8 p (tB 11 p (tB 12 p (tL 12 p .iaload 0) (tL 11 p (.iload_n 3) 0)) (tL 8 p (.getfield 23) 4)) (tB 7 p (tL 7 p (.aload_n 0) 0) (tL 6 p (.istore_n 3) 0))) (tB 3 p (tB 4 p (tB 5 p (tL 5 p .iadd 0) (tL 4 p (.iload_n 2) 0)) (tL 3 p .imul 0)) (tB 1 p (tL 1 p (.bipush 32) 0) (tL 0 p (.iload_n 1) 0)))))))
set_option maxHeartbeats 4000000 in
def cd24 (p : Nat) : Option (Instr × Nat) := (tB 10 p (tB 15 p (tB 19 p (tB 20 p (tL 20 p .ireturn 0) (tL 19 p (.iconst 0) 0)) (tB 16 p (tL 16 p (.goto 4) 20) (tL 15 p (.iconst 1) 0))) (tB 11 p (tB 12 p (tL 12 p (.if_icmp .ne 7) 19) (tL 11 p (.iconst 3) 0)) (tL 10 p (.iload_n 1) 0))) (tB 5 p (tB 6 p (tB 7 p (tL 7 p (.if_icmp .eq 8) 15) (tL 6 p (.iconst 2) 0)) (tL 5 p (.iload_n 1) 0)) (tB 1 p (tB 2 p (tL 2 p (.if_icmp .eq 13) 15) (tL 1 p (.iconst 1) 0)) (tL 0 p (.iload_n 1) 0))))
set_option maxHeartbeats 4000000 in
def cd25 (p : Nat) : Option (Instr × Nat) := (tB 22 p (tB 29 p (tB 38 p (tB 40 p (tB 43 p (tL 43 p .return_ 0) (tL 40 p (.putfield 156) 25)) (tB 39 p (tL 39 p (.iconst 0) 0) (tL 38 p (.aload_n 0) 0))) (tB 32 p (tB 35 p (tL 35 p (.goto (-33)) 2) (tL 32 p (.iinc 1 1) 0)) (tL 29 p (.invokevirtual 162) 26))) (tB 26 p (tB 27 p (tB 28 p (tL 28 p (.iload_n 2) 0) (tL 27 p (.aload_n 0) 0)) (tL 26 p (.istore_n 2) 0)) (tB 23 p (tB 25 p (tL 25 p .irem 0) (tL 23 p (.bipush 32) 0)) (tL 22 p .iaload 0)))) (tB 10 p (tB 17 p (tB 18 p (tB 21 p (tL 21 p (.iload_n 1) 0) (tL 18 p (.getfield 65) 18)) (tL 17 p (.aload_n 0) 0)) (tB 11 p (tB 14 p (tL 14 p (.if_icmp .ge 24) 38) (tL 11 p (.sipush 128) 0)) (tL 10 p (.iload_n 1) 0))) (tB 3 p (tB 4 p (tB 7 p (tL 7 p (.if_icmp .ge 31) 38) (tL 4 p (.getfield 156) 25)) (tL 3 p (.aload_n 0) 0)) (tB 1 p (tB 2 p (tL 2 p (.iload_n 1) 0) (tL 1 p (.istore_n 1) 0)) (tL 0 p (.iconst 0) 0)))))
set_option maxHeartbeats 4000000 in
def cd26 (p : Nat) : Option (Instr × Nat) := (tB 52 p (tB 75 p (tB 84 p (tB 91 p (tB 93 p (tB 94 p (tL 94 p .return_ 0) (tL 93 p .iastore 0)) (tB 92 p (tL 92 p .iadd 0) (tL 91 p (.iconst 1) 0))) (tB 89 p (tB 90 p (tL 90 p .iaload 0) (tL 89 p .dup2 0)) (tB 87 p (tL 87 p (.bipush 7) 0) (tL 84 p (.getfield 20) 3)))) (tB 78 p (tB 80 p (tB 83 p (tL 83 p (.aload_n 0) 0) (tL 80 p (.invokevirtual 165) 27)) (tB 79 p (tL 79 p (.iload_n 1) 0) (tL 78 p (.aload_n 0) 0))) (tB 76 p (tB 77 p (tL 77 p .iastore 0) (tL 76 p .iadd 0)) (tL 75 p (.iconst 1) 0)))) (tB 63 p (tB 69 p (tB 73 p (tB 74 p (tL 74 p .iaload 0) (tL 73 p .dup2 0)) (tB 72 p (tL 72 p (.iconst 5) 0) (tL 69 p (.getfield 20) 3))) (tB 65 p (tB 68 p (tL 68 p (.aload_n 0) 0) (tL 65 p (.putfield 112) 24)) (tB 64 p (tL 64 p .iadd 0) (tL 63 p (.iconst 1) 0)))) (tB 57 p (tB 59 p (tB 60 p (tL 60 p (.getfield 112) 24) (tL 59 p .dup 0)) (tB 58 p (tL 58 p (.aload_n 0) 0) (tL 57 p .iastore 0))) (tB 53 p (tB 56 p (tL 56 p (.iload_n 1) 0) (tL 53 p (.getfield 112) 24)) (tL 52 p (.aload_n 0) 0))))) (tB 26 p (tB 37 p (tB 43 p (tB 48 p (tB 49 p (tL 49 p (.getfield 17) 2) (tL 48 p (.aload_n 0) 0)) (tB 45 p (tL 45 p (.if_icmp .ge 23) 68) (tL 43 p (.bipush 64) 0))) (tB 39 p (tB 40 p (tL 40 p (.getfield 112) 24) (tL 39 p (.aload_n 0) 0)) (tB 38 p (tL 38 p .bastore 0) (tL 37 p (.iconst 1) 0)))) (tB 29 p (tB 33 p (tB 36 p (tL 36 p (.iload_n 1) 0) (tL 33 p (.getfield 13) 1)) (tB 32 p (tL 32 p (.aload_n 0) 0) (tL 29 p (.goto 49) 78))) (tB 27 p (tB 28 p (tL 28 p .iastore 0) (tL 27 p .iadd 0)) (tL 26 p (.iconst 1) 0)))) (tB 13 p (tB 19 p (tB 24 p (tB 25 p (tL 25 p .iaload 0) (tL 24 p .dup2 0)) (tB 22 p (tL 22 p (.bipush 6) 0) (tL 19 p (.getfield 20) 3))) (tB 15 p (tB 18 p (tL 18 p (.aload_n 0) 0) (tL 15 p (.ifCond .eq 17) 32)) (tB 14 p (tL 14 p .baload 0) (tL 13 p (.iload_n 1) 0)))) (tB 5 p (tB 9 p (tB 10 p (tL 10 p (.getfield 13) 1) (tL 9 p (.aload_n 0) 0)) (tB 8 p (tL 8 p .return_ 0) (tL 5 p (.ifCond .ne 4) 9))) (tB 1 p (tB 2 p (tL 2 p (.invokevirtual 115) 10) (tL 1 p (.iload_n 1) 0)) (tL 0 p (.aload_n 0) 0))))))
set_option maxHeartbeats 4000000 in
def cd27 (p : Nat) : Option (Instr × Nat) := (tB 10 p (tB 14 p (tB 20 p (tB 23 p (tL 23 p .return_ 0) (tL 20 p (.goto (-18)) 2)) (tB 17 p (tL 17 p (.iinc 2 1) 0) (tL 14 p (.invokevirtual 121) 8))) (tB 12 p (tB 13 p (tL 13 p (.iconst 0) 0) (tL 12 p (.iconst 0) 0)) (tB 11 p (tL 11 p (.iconst 0) 0) (tL 10 p (.iload_n 1) 0)))) (tB 4 p (tB 8 p (tB 9 p (tL 9 p (.iconst 3) 0) (tL 8 p (.iload_n 2) 0)) (tB 7 p (tL 7 p (.aload_n 0) 0) (tL 4 p (.if_icmp .ge 19) 23))) (tB 2 p (tB 3 p (tL 3 p (.iconst 4) 0) (tL 2 p (.iload_n 2) 0)) (tB 1 p (tL 1 p (.istore_n 2) 0) (tL 0 p (.iconst 0) 0)))))
set_option maxHeartbeats 4000000 in
def cd28 (p : Nat) : Option (Instr × Nat) := (tB 26 p (tB 41 p (tB 47 p (tB 49 p (tB 52 p (tB 53 p (tL 53 p .return_ 0) (tL 52 p .iastore 0)) (tL 49 p (.getfield 79) 21)) (tB 48 p (tL 48 p (.aload_n 0) 0) (tL 47 p (.iload_n 3) 0))) (tB 43 p (tB 44 p (tL 44 p (.getfield 26) 5) (tL 43 p (.aload_n 0) 0)) (tB 42 p (tL 42 p .iastore 0) (tL 41 p (.iconst 3) 0)))) (tB 33 p (tB 37 p (tB 40 p (tL 40 p (.iload_n 3) 0) (tL 37 p (.getfield 23) 4)) (tB 36 p (tL 36 p (.aload_n 0) 0) (tL 33 p (.if_icmp .ne 20) 53))) (tB 30 p (tB 32 p (tL 32 p (.iconst 2) 0) (tL 30 p (.iload 4) 0)) (tB 27 p (tL 27 p (.if_icmp .eq 9) 36) (tL 26 p (.iconst 1) 0))))) (tB 13 p (tB 17 p (tB 21 p (tB 22 p (tB 24 p (tL 24 p (.iload 4) 0) (tL 22 p (.istore 4) 0)) (tL 21 p .iaload 0)) (tB 20 p (tL 20 p (.iload_n 3) 0) (tL 17 p (.getfield 23) 4))) (tB 15 p (tB 16 p (tL 16 p (.aload_n 0) 0) (tL 15 p (.istore_n 3) 0)) (tB 14 p (tL 14 p .iadd 0) (tL 13 p (.iload_n 2) 0)))) (tB 8 p (tB 10 p (tB 12 p (tL 12 p .imul 0) (tL 10 p (.bipush 32) 0)) (tB 9 p (tL 9 p (.iload_n 1) 0) (tL 8 p .return_ 0))) (tB 2 p (tB 5 p (tL 5 p (.ifCond .ne 4) 9) (tL 2 p (.invokevirtual 115) 10)) (tB 1 p (tL 1 p (.iload_n 2) 0) (tL 0 p (.aload_n 0) 0))))))
set_option maxHeartbeats 4000000 in
def cd29 (p : Nat) : Option (Instr × Nat) := (tB 56 p (tB 82 p (tB 96 p (tB 105 p (tB 107 p (tB 108 p (tB 110 p (tL 110 p .ireturn 0) (tL 108 p (.bipush (-2)) 0)) (tL 107 p .ireturn 0)) (tB 106 p (tL 106 p .iaload 0) (tL 105 p (.iload_n 1) 0))) (tB 101 p (tB 102 p (tL 102 p (.getfield 47) 12) (tL 101 p (.aload_n 0) 0)) (tB 98 p (tL 98 p (.if_icmp .ne 10) 108) (tL 96 p (.bipush 7) 0)))) (tB 89 p (tB 93 p (tB 94 p (tB 95 p (tL 95 p (.iload_n 2) 0) (tL 94 p .ireturn 0)) (tL 93 p .iaload 0)) (tB 92 p (tL 92 p (.iload_n 1) 0) (tL 89 p (.getfield 44) 11))) (tB 85 p (tB 88 p (tL 88 p (.aload_n 0) 0) (tL 85 p (.if_icmp .ne 10) 95)) (tB 83 p (tL 83 p (.bipush 6) 0) (tL 82 p (.iload_n 2) 0))))) (tB 69 p (tB 75 p (tB 79 p (tB 80 p (tB 81 p (tL 81 p .ireturn 0) (tL 80 p .iaload 0)) (tL 79 p (.iload_n 1) 0)) (tB 76 p (tL 76 p (.getfield 41) 10) (tL 75 p (.aload_n 0) 0))) (tB 71 p (tB 72 p (tL 72 p (.if_icmp .ne 10) 82) (tL 71 p (.iconst 5) 0)) (tB 70 p (tL 70 p (.iload_n 2) 0) (tL 69 p .ireturn 0)))) (tB 60 p (tB 64 p (tB 67 p (tB 68 p (tL 68 p .iaload 0) (tL 67 p (.iload_n 1) 0)) (tL 64 p (.getfield 62) 17)) (tB 63 p (tL 63 p (.aload_n 0) 0) (tL 60 p (.if_icmp .ne 10) 70))) (tB 58 p (tB 59 p (tL 59 p (.iconst 4) 0) (tL 58 p (.iload_n 2) 0)) (tB 57 p (tL 57 p .ireturn 0) (tL 56 p .iaload 0)))))) (tB 28 p (tB 43 p (tB 47 p (tB 51 p (tB 52 p (tB 55 p (tL 55 p (.iload_n 1) 0) (tL 52 p (.getfield 56) 15)) (tL 51 p (.aload_n 0) 0)) (tB 48 p (tL 48 p (.if_icmp .ne 10) 58) (tL 47 p (.iconst 3) 0))) (tB 45 p (tB 46 p (tL 46 p (.iload_n 2) 0) (tL 45 p .ireturn 0)) (tB 44 p (tL 44 p .iaload 0) (tL 43 p (.iload_n 1) 0)))) (tB 34 p (tB 36 p (tB 39 p (tB 40 p (tL 40 p (.getfield 38) 9) (tL 39 p (.aload_n 0) 0)) (tL 36 p (.if_icmp .ne 10) 46)) (tB 35 p (tL 35 p (.iconst 2) 0) (tL 34 p (.iload_n 2) 0))) (tB 32 p (tB 33 p (tL 33 p .ireturn 0) (tL 32 p .iaload 0)) (tB 31 p (tL 31 p (.iload_n 1) 0) (tL 28 p (.getfield 35) 8))))) (tB 15 p (tB 21 p (tB 23 p (tB 24 p (tB 27 p (tL 27 p (.aload_n 0) 0) (tL 24 p (.if_icmp .ne 10) 34)) (tL 23 p (.iconst 1) 0)) (tB 22 p (tL 22 p (.iload_n 2) 0) (tL 21 p .ireturn 0))) (tB 19 p (tB 20 p (tL 20 p .iaload 0) (tL 19 p (.iload_n 1) 0)) (tB 16 p (tL 16 p (.getfield 32) 7) (tL 15 p (.aload_n 0) 0)))) (tB 8 p (tB 11 p (tB 12 p (tL 12 p (.ifCond .ne 10) 22) (tL 11 p (.iload_n 2) 0)) (tB 10 p (tL 10 p .ireturn 0) (tL 8 p (.bipush (-2)) 0))) (tB 2 p (tB 5 p (tL 5 p (.ifCond .ne 6) 11) (tL 2 p (.invokevirtual 92) 16)) (tB 1 p (tL 1 p (.iload_n 1) 0) (tL 0 p (.aload_n 0) 0)))))))
set_option maxHeartbeats 4000000 in
def cd30 (p : Nat) : Option (Instr × Nat) := (tB 19 p (tB 29 p (tB 33 p (tB 34 p (tB 35 p (tL 35 p .ireturn 0) (tL 34 p .iaload 0)) (tL 33 p .iadd 0)) (tB 31 p (tB 32 p (tL 32 p (.iload_n 2) 0) (tL 31 p .imul 0)) (tL 29 p (.bipush 32) 0))) (tB 24 p (tB 25 p (tB 28 p (tL 28 p (.iload_n 1) 0) (tL 25 p (.getfield 53) 14)) (tL 24 p (.aload_n 0) 0)) (tB 22 p (tB 23 p (tL 23 p .ireturn 0) (tL 22 p (.iconst (-1)) 0)) (tL 19 p (.if_icmp .lt 5) 24)))) (tB 9 p (tB 14 p (tB 17 p (tB 18 p (tL 18 p .iaload 0) (tL 17 p (.iload_n 1) 0)) (tL 14 p (.getfield 56) 15)) (tB 12 p (tB 13 p (tL 13 p (.aload_n 0) 0) (tL 12 p (.iload_n 2) 0)) (tL 9 p (.ifCond .lt 13) 22))) (tB 2 p (tB 5 p (tB 8 p (tL 8 p (.iload_n 2) 0) (tL 5 p (.ifCond .eq 17) 22)) (tL 2 p (.invokevirtual 92) 16)) (tB 1 p (tL 1 p (.iload_n 1) 0) (tL 0 p (.aload_n 0) 0)))))
set_option maxHeartbeats 4000000 in
def cd31 (p : Nat) : Option (Instr × Nat) := (tB 19 p (tB 29 p (tB 33 p (tB 34 p (tB 35 p (tL 35 p .ireturn 0) (tL 34 p .iaload 0)) (tL 33 p .iadd 0)) (tB 31 p (tB 32 p (tL 32 p (.iload_n 2) 0) (tL 31 p .imul 0)) (tL 29 p (.bipush 32) 0))) (tB 24 p (tB 25 p (tB 28 p (tL 28 p (.iload_n 1) 0) (tL 25 p (.getfield 50) 13)) (tL 24 p (.aload_n 0) 0)) (tB 22 p (tB 23 p (tL 23 p .ireturn 0) (tL 22 p (.iconst (-1)) 0)) (tL 19 p (.if_icmp .lt 5) 24)))) (tB 9 p (tB 14 p (tB 17 p (tB 18 p (tL 18 p .iaload 0) (tL 17 p (.iload_n 1) 0)) (tL 14 p (.getfield 56) 15)) (tB 12 p (tB 13 p (tL 13 p (.aload_n 0) 0) (tL 12 p (.iload_n 2) 0)) (tL 9 p (.ifCond .lt 13) 22))) (tB 2 p (tB 5 p (tB 8 p (tL 8 p (.iload_n 2) 0) (tL 5 p (.ifCond .eq 17) 22)) (tL 2 p (.invokevirtual 92) 16)) (tB 1 p (tL 1 p (.iload_n 1) 0) (tL 0 p (.aload_n 0) 0)))))
set_option maxHeartbeats 4000000 in
def cd32 (p : Nat) : Option (Instr × Nat) := (tB 16 p (tB 23 p (tB 27 p (tB 28 p (tB 29 p (tL 29 p .ireturn 0) (tL 28 p .iaload 0)) (tL 27 p (.iload_n 1) 0)) (tB 24 p (tL 24 p (.getfield 20) 3) (tL 23 p (.aload_n 0) 0))) (tB 21 p (tB 22 p (tL 22 p .ireturn 0) (tL 21 p (.iconst (-1)) 0)) (tB 18 p (tL 18 p (.if_icmp .le 5) 23) (tL 16 p (.bipush 9) 0)))) (tB 7 p (tB 11 p (tB 12 p (tB 15 p (tL 15 p (.iload_n 1) 0) (tL 12 p (.ifCond .lt 9) 21)) (tL 11 p (.iload_n 1) 0)) (tB 10 p (tL 10 p .ireturn 0) (tL 7 p (.getfield 112) 24))) (tB 3 p (tB 6 p (tL 6 p (.aload_n 0) 0) (tL 3 p (.if_icmp .ne 8) 11)) (tB 1 p (tL 1 p (.bipush 8) 0) (tL 0 p (.iload_n 1) 0)))))
set_option maxHeartbeats 4000000 in
def cd33 (p : Nat) : Option (Instr × Nat) := (tB 9 p (tB 14 p (tB 15 p (tB 16 p (tL 16 p .ireturn 0) (tL 15 p .baload 0)) (tL 14 p (.iload_n 1) 0)) (tB 10 p (tB 11 p (tL 11 p (.getfield 13) 1) (tL 10 p (.aload_n 0) 0)) (tL 9 p .ireturn 0))) (tB 2 p (tB 5 p (tB 8 p (tL 8 p (.iconst 0) 0) (tL 5 p (.ifCond .ne 5) 10)) (tL 2 p (.invokevirtual 115) 10)) (tB 1 p (tL 1 p (.iload_n 1) 0) (tL 0 p (.aload_n 0) 0))))
def pCode (m pc : Nat) : Option (Instr × Nat) := bif Nat.ble pN m then none else bif Nat.ble (pTop m) pc then none else (bif Nat.ble 17 m then (bif Nat.ble 25 m then (bif Nat.ble 29 m then (bif Nat.ble 31 m then (bif Nat.ble 32 m then (bif Nat.ble 33 m then cd33 pc else cd32 pc) else cd31 pc) else (bif Nat.ble 30 m then cd30 pc else cd29 pc)) else (bif Nat.ble 27 m then (bif Nat.ble 28 m then cd28 pc else cd27 pc) else (bif Nat.ble 26 m then cd26 pc else cd25 pc))) else (bif Nat.ble 21 m then (bif Nat.ble 23 m then (bif Nat.ble 24 m then cd24 pc else cd23 pc) else (bif Nat.ble 22 m then cd22 pc else cd21 pc)) else (bif Nat.ble 19 m then (bif Nat.ble 20 m then cd20 pc else cd19 pc) else (bif Nat.ble 18 m then cd18 pc else cd17 pc)))) else (bif Nat.ble 8 m then (bif Nat.ble 12 m then (bif Nat.ble 14 m then (bif Nat.ble 15 m then (bif Nat.ble 16 m then cd16 pc else cd15 pc) else cd14 pc) else (bif Nat.ble 13 m then cd13 pc else cd12 pc)) else (bif Nat.ble 10 m then (bif Nat.ble 11 m then cd11 pc else cd10 pc) else (bif Nat.ble 9 m then cd9 pc else cd8 pc))) else (bif Nat.ble 4 m then (bif Nat.ble 6 m then (bif Nat.ble 7 m then cd7 pc else cd6 pc) else (bif Nat.ble 5 m then cd5 pc else cd4 pc)) else (bif Nat.ble 2 m then (bif Nat.ble 3 m then cd3 pc else cd2 pc) else (bif Nat.ble 1 m then cd1 pc else cd0 pc)))))
def lkF : List (Nat × Nat × Nat) := [(1, 7, 0), (1, 13, 1), (1, 17, 2), (1, 20, 3), (1, 23, 4), (1, 26, 5), (1, 29, 6), (1, 32, 7), (1, 35, 8), (1, 38, 9), (1, 41, 10), (1, 44, 11), (1, 47, 12), (1, 50, 13), (1, 53, 14), (1, 56, 15), (1, 59, 16), (1, 62, 17), (1, 65, 18), (1, 72, 19), (1, 76, 20), (1, 79, 21), (1, 82, 22), (1, 85, 23), (1, 112, 24), (1, 156, 25)]
def lkN : List (Nat × Nat) := [(0, 7)]
def lkC : List (Nat × Nat × Nat) := []
def lkD : List (Nat × Nat × Nat) := []
def lkV : List (Nat × Nat × Nat) := [(0, 9, 1), (1, 68, 2), (0, 12, 3), (1, 88, 4), (1, 105, 5), (1, 109, 6), (1, 118, 7), (1, 121, 8), (1, 125, 9), (1, 115, 10), (1, 129, 11), (1, 133, 12), (1, 136, 13), (1, 153, 14), (0, 16, 15), (1, 92, 16), (1, 146, 17), (0, 20, 18), (0, 24, 19), (0, 27, 20), (1, 96, 21), (1, 99, 22), (1, 159, 23), (1, 143, 24), (1, 102, 25), (1, 162, 26), (1, 165, 27), (1, 140, 28), (0, 30, 29), (0, 33, 30), (0, 36, 31), (0, 39, 32), (0, 42, 33)]
def lkO : List (Nat × Nat) := [(1, 1)]
def mV : List Nat := [3, 15, 18, 19, 20, 29, 30, 31, 32, 33]
def mP : List Nat := [2, 4, 5, 6, 7, 8, 9, 10, 11, 12, 13, 14, 16, 17, 21, 22, 23, 24, 25, 26, 27, 28]
def mS : List Nat := []
def mI : List Nat := [1]
def mA : List Nat := [1, 2, 3, 4, 5, 6, 7, 8, 9, 10, 11, 12, 13, 14, 15, 16, 17, 18, 19, 20, 21, 22, 23, 24, 25, 26, 27, 28, 29, 30, 31, 32, 33]
def aTys : List FieldType := [.int, .boolean]
abbrev QCell := List Value ⊕ ((FieldType × List Int32) ⊕ List Int64)
abbrev QHeap := List QCell
abbrev QLoc := List (Option Value)
abbrev vI (x : Int32) : Option Value := some (.int x)
abbrev vR (a : Addr) : Option Value := some (.ref a)
abbrev vL (x : Int64) : Option Value := some (.long x)
abbrev QSt := Nat × QLoc × List Value × QHeap
def qv (ad : Nat → Addr) : Value → Value
 | .ref k => .ref (ad k)
 | v => v
def qsz : QCell → Nat
 | .inl _ => cN
 | .inr (.inl x) => x.2.length
 | .inr (.inr x) => x.length
def qhs : QHeap → Nat
 | [] => 0
 | c :: t => qsz c + qhs t
def aget {α : Type} (xs : List α) (j : Int32) : Option α := if j < 0 then none else xs[j.toNatClampNeg]?
def aset {α : Type} (xs : List α) (j : Int32) (v : α) : Option (List α) := if j < 0 then none else if j.toNatClampNeg < xs.length then some (xs.set j.toNatClampNeg v) else none
def qnew (n : Int32) : Option Nat := if n < 0 then none else if n.toNatClampNeg ≤ 67108864 then some n.toNatClampNeg else none
def qdiv (x y : Int32) : Option Int32 := if y = 0 then none else some (x / y)
def qrem (x y : Int32) : Option Int32 := if y = 0 then none else some (x % y)
def qboo (x : Int32) : Option Int32 := if x = 0 then some x else if x = 1 then some x else none
def lget : QLoc → Nat → Option Value
 | [], _ => none
 | v :: _, 0 => v
 | _ :: t, k + 1 => lget t k
def hget : QHeap → Nat → Option QCell
 | [], _ => none
 | v :: _, 0 => some v
 | _ :: t, k + 1 => hget t k
def vget : List Value → Nat → Option Value
 | [], _ => none
 | v :: _, 0 => some v
 | _ :: t, k + 1 => vget t k
def lkill (L : QLoc) : Nat → QLoc
 | 0 => L
 | k + 1 => match lget L k with
  | some (.long _) => L.set k none
  | some (.double _) => L.set k none
  | _ => L
def lput (L : QLoc) (k : Nat) (v : Value) : Option QLoc :=
 match v with
 | .long x => bif Nat.ble (k + 2) L.length then some (((lkill L k).set k (some (.long x))).set (k + 1) none) else none
 | .double _ => none
 | v => bif Nat.ble (k + 1) L.length then some ((lkill L k).set k (some v)) else none
def qload (pc : Nat) (L : QLoc) (S : List Value) (σ : QHeap) (k : Nat) (ok : Value → Bool) : Option QSt :=
 match lget L k with
 | some v => bif ok v then some (pc, L, v :: S, σ) else none
 | none => none
def isI : Value → Bool | .int _ => true | _ => false
def isJ : Value → Bool | .long _ => true | _ => false
def isR : Value → Bool | .ref _ => true | _ => false
def qstore (pc : Nat) (L : QLoc) (S : List Value) (σ : QHeap) (k : Nat) (ok : Value → Bool) : Option QSt :=
 match S with
 | v :: S' => bif ok v then (match lput L k v with | some L' => some (pc, L', S', σ) | none => none) else none
 | [] => none
def qbin (pc : Nat) (L : QLoc) (S : List Value) (σ : QHeap) (f : Int32 → Int32 → Int32) : Option QSt :=
 match S with
 | .int y :: .int x :: S' => some (pc, L, .int (f x y) :: S', σ)
 | _ => none
def qbino (pc : Nat) (L : QLoc) (S : List Value) (σ : QHeap) (f : Int32 → Int32 → Option Int32) : Option QSt :=
 match S with
 | .int y :: .int x :: S' => (f x y).bind fun z => some (pc, L, .int z :: S', σ)
 | _ => none
def qbinJ (pc : Nat) (L : QLoc) (S : List Value) (σ : QHeap) (f : Int64 → Int64 → Int64) : Option QSt :=
 match S with
 | .long y :: .long x :: S' => some (pc, L, .long (f x y) :: S', σ)
 | _ => none
def qshJ (pc : Nat) (L : QLoc) (S : List Value) (σ : QHeap) (f : Int64 → Int32 → Int64) : Option QSt :=
 match S with
 | .int y :: .long x :: S' => some (pc, L, .long (f x y) :: S', σ)
 | _ => none
def quni (pc : Nat) (L : QLoc) (S : List Value) (σ : QHeap) (f : Int32 → Value) : Option QSt :=
 match S with
 | .int x :: S' => some (pc, L, f x :: S', σ)
 | _ => none
def quniJ (pc : Nat) (L : QLoc) (S : List Value) (σ : QHeap) (f : Int64 → Value) : Option QSt :=
 match S with
 | .long x :: S' => some (pc, L, f x :: S', σ)
 | _ => none
def qald (pc : Nat) (L : QLoc) (S : List Value) (σ : QHeap) (ok : FieldType → Bool) : Option QSt :=
 match S with
 | .int j :: .ref a :: S' => (match hget σ a with
  | some (.inr (.inl x)) => bif ok x.1 then (aget x.2 j).bind fun v => some (pc, L, .int v :: S', σ) else none
  | _ => none)
 | _ => none
def qaldJ (pc : Nat) (L : QLoc) (S : List Value) (σ : QHeap) : Option QSt :=
 match S with
 | .int j :: .ref a :: S' => (match hget σ a with
  | some (.inr (.inr x)) => (aget x j).bind fun v => some (pc, L, .long v :: S', σ)
  | _ => none)
 | _ => none
def qnar : FieldType → Int32 → Int32
 | .boolean, x => x &&& 1
 | .byte, x => x.toInt8.toInt32
 | _, x => x
def qast (pc : Nat) (L : QLoc) (S : List Value) (σ : QHeap) (ok : FieldType → Bool) : Option QSt :=
 match S with
 | .int v :: .int j :: .ref a :: S' => (match hget σ a with
  | some (.inr (.inl x)) => bif ok x.1 && Nat.ble k0 a then (aset x.2 j (qnar x.1 v)).bind fun y => some (pc, L, S', σ.set a (.inr (.inl (x.1, y)))) else none
  | _ => none)
 | _ => none
def qastJ (pc : Nat) (L : QLoc) (S : List Value) (σ : QHeap) : Option QSt :=
 match S with
 | .long v :: .int j :: .ref a :: S' => (match hget σ a with
  | some (.inr (.inr x)) => bif Nat.ble k0 a then (aset x j v).bind fun y => some (pc, L, S', σ.set a (.inr (.inr y))) else none
  | _ => none)
 | _ => none
def tyI : FieldType → Bool | .int => true | _ => false
def tyB : FieldType → Bool | .boolean => true | .byte => true | _ => false
def qfit : FieldType → Value → Option Value
 | .int, .int x => some (.int x)
 | .boolean, .int x => (qboo x).bind fun y => some (.int y)
 | .long, .long x => some (.long x)
 | .array t, .ref a => some (.ref a)
 | _, _ => none
def qget (pc : Nat) (L : QLoc) (S : List Value) (σ : QHeap) (k : Nat) : Option QSt :=
 match S with
 | .ref a :: S' => (match hget σ a with
  | some (.inl vs) => (match vget vs k with | some v => some (pc, L, v :: S', σ) | none => none)
  | _ => none)
 | _ => none
def qput (pc : Nat) (L : QLoc) (S : List Value) (σ : QHeap) (k : Nat) : Option QSt :=
 match S with
 | v :: .ref a :: S' => (match hget σ a with
  | some (.inl vs) => bif Nat.ble k0 a && Nat.ble (k + 1) vs.length then (qfit (fTy k) v).bind fun w => some (pc, L, S', σ.set a (.inl (vs.set k w))) else none
  | _ => none)
 | _ => none
def qnewA (pc : Nat) (L : QLoc) (S : List Value) (σ : QHeap) (t : ArrayType) : Option QSt :=
 match S with
 | .int n :: S' => (match t with
  | .int => (qnew n).bind fun k => some (pc, L, .ref σ.length :: S', σ ++ [.inr (.inl (.int, List.replicate k 0))])
  | .boolean => (qnew n).bind fun k => some (pc, L, .ref σ.length :: S', σ ++ [.inr (.inl (.boolean, List.replicate k 0))])
  | .byte => (qnew n).bind fun k => some (pc, L, .ref σ.length :: S', σ ++ [.inr (.inl (.byte, List.replicate k 0))])
  | .long => (qnew n).bind fun k => some (pc, L, .ref σ.length :: S', σ ++ [.inr (.inr (List.replicate k 0))])
  | _ => none)
 | _ => none
def qlen (pc : Nat) (L : QLoc) (S : List Value) (σ : QHeap) : Option QSt :=
 match S with
 | .ref a :: S' => (match hget σ a with
  | some (.inr (.inl x)) => some (pc, L, .int x.2.length.toInt32 :: S', σ)
  | some (.inr (.inr x)) => some (pc, L, .int x.length.toInt32 :: S', σ)
  | _ => none)
 | _ => none
def qdup (pc : Nat) (L : QLoc) (S : List Value) (σ : QHeap) : Option QSt :=
 match S with
 | .int x :: S' => some (pc, L, .int x :: .int x :: S', σ)
 | .ref x :: S' => some (pc, L, .ref x :: .ref x :: S', σ)
 | _ => none
def qdup2 (pc : Nat) (L : QLoc) (S : List Value) (σ : QHeap) : Option QSt :=
 match S with
 | .int x :: .ref y :: S' => some (pc, L, .int x :: .ref y :: .int x :: .ref y :: S', σ)
 | .int x :: .int y :: S' => some (pc, L, .int x :: .int y :: .int x :: .int y :: S', σ)
 | .long x :: S' => some (pc, L, .long x :: .long x :: S', σ)
 | _ => none
def qpop (pc : Nat) (L : QLoc) (S : List Value) (σ : QHeap) : Option QSt :=
 match S with
 | .int _ :: S' => some (pc, L, S', σ)
 | .ref _ :: S' => some (pc, L, S', σ)
 | _ => none
def qif (pc : Nat) (L : QLoc) (S : List Value) (σ : QHeap) (cd : ClassFile.Cond) (tgt : Nat) : Option QSt :=
 match S with
 | .int x :: S' => some (bif ifCond.holds cd x then tgt else pc, L, S', σ)
 | _ => none
def qicmp (pc : Nat) (L : QLoc) (S : List Value) (σ : QHeap) (cd : ClassFile.Cond) (tgt : Nat) : Option QSt :=
 match S with
 | .int y :: .int x :: S' => some (bif if_icmp.holds cd x y then tgt else pc, L, S', σ)
 | _ => none
def qinc (pc : Nat) (L : QLoc) (S : List Value) (σ : QHeap) (k : Nat) (i : Int) : Option QSt :=
 match lget L k with
 | some (.int x) => (match lput L k (.int (x + Int32.ofInt i)) with | some L' => some (pc, L', S, σ) | none => none)
 | _ => none
def qldc (pc : Nat) (L : QLoc) (S : List Value) (σ : QHeap) (k : Nat) : Option QSt :=
 match vget cK k with
 | some v => some (pc, L, v :: S, σ)
 | none => none
def qexec (pc : Nat) (L : QLoc) (S : List Value) (σ : QHeap) (aux : Nat) : Instr → Option QSt
 | .aload_n k => qload (pc + 1) L S σ k.val isR
 | .aload k => qload (pc + 2) L S σ k isR
 | .iload_n k => qload (pc + 1) L S σ k.val isI
 | .iload k => qload (pc + 2) L S σ k isI
 | .lload_n k => qload (pc + 1) L S σ k.val isJ
 | .lload k => qload (pc + 2) L S σ k isJ
 | .iconst i => some (pc + 1, L, .int (Int32.ofInt i) :: S, σ)
 | .bipush i => some (pc + 2, L, .int (Int8.ofInt i).toInt32 :: S, σ)
 | .sipush i => some (pc + 3, L, .int (Int16.ofInt i).toInt32 :: S, σ)
 | .lconst k => some (pc + 1, L, .long (Int64.ofNat k.val) :: S, σ)
 | .ldc _ => qldc (pc + 2) L S σ aux
 | .ldc2_w _ => qldc (pc + 3) L S σ aux
 | .istore_n k => qstore (pc + 1) L S σ k.val isI
 | .istore k => qstore (pc + 2) L S σ k isI
 | .lstore_n k => qstore (pc + 1) L S σ k.val isJ
 | .lstore k => qstore (pc + 2) L S σ k isJ
 | .astore_n k => qstore (pc + 1) L S σ k.val isR
 | .astore k => qstore (pc + 2) L S σ k isR
 | .iinc k i => qinc (pc + 3) L S σ k i
 | .iadd => qbin (pc + 1) L S σ fun x y => x + y
 | .isub => qbin (pc + 1) L S σ fun x y => x - y
 | .imul => qbin (pc + 1) L S σ fun x y => x * y
 | .iand => qbin (pc + 1) L S σ fun x y => x &&& y
 | .ior => qbin (pc + 1) L S σ fun x y => x ||| y
 | .ixor => qbin (pc + 1) L S σ fun x y => x ^^^ y
 | .ishl => qbin (pc + 1) L S σ fun x y => x <<< (y &&& 31)
 | .ishr => qbin (pc + 1) L S σ fun x y => x >>> (y &&& 31)
 | .iushr => qbin (pc + 1) L S σ fun x y => XT.ushr x y
 | .idiv => qbino (pc + 1) L S σ qdiv
 | .irem => qbino (pc + 1) L S σ qrem
 | .ineg => quni (pc + 1) L S σ fun x => .int (-x)
 | .i2l => quni (pc + 1) L S σ fun x => .long x.toInt64
 | .i2b => quni (pc + 1) L S σ fun x => .int x.toInt8.toInt32
 | .l2i => quniJ (pc + 1) L S σ fun x => .int x.toInt32
 | .lneg => quniJ (pc + 1) L S σ fun x => .long (-x)
 | .ladd => qbinJ (pc + 1) L S σ fun x y => x + y
 | .lsub => qbinJ (pc + 1) L S σ fun x y => x - y
 | .lmul => qbinJ (pc + 1) L S σ fun x y => x * y
 | .land => qbinJ (pc + 1) L S σ fun x y => x &&& y
 | .lor => qbinJ (pc + 1) L S σ fun x y => x ||| y
 | .lxor => qbinJ (pc + 1) L S σ fun x y => x ^^^ y
 | .lshl => qshJ (pc + 1) L S σ fun x y => x <<< (y.toInt64 &&& 63)
 | .lshr => qshJ (pc + 1) L S σ fun x y => x >>> (y.toInt64 &&& 63)
 | .lushr => qshJ (pc + 1) L S σ fun x y => XT.ushrL x y
 | .lcmp => (match S with
  | .long y :: .long x :: S' => some (pc + 1, L, .int (XT.cmpL x y) :: S', σ)
  | _ => none)
 | .goto _ => some (aux, L, S, σ)
 | .ifCond cd _ => qif (pc + 3) L S σ cd aux
 | .if_icmp cd _ => qicmp (pc + 3) L S σ cd aux
 | .dup => qdup (pc + 1) L S σ
 | .dup2 => qdup2 (pc + 1) L S σ
 | .pop => qpop (pc + 1) L S σ
 | .getfield _ => qget (pc + 3) L S σ aux
 | .putfield _ => qput (pc + 3) L S σ aux
 | .iaload => qald (pc + 1) L S σ tyI
 | .baload => qald (pc + 1) L S σ tyB
 | .laload => qaldJ (pc + 1) L S σ
 | .iastore => qast (pc + 1) L S σ tyI
 | .bastore => qast (pc + 1) L S σ tyB
 | .lastore => qastJ (pc + 1) L S σ
 | .arraylength => qlen (pc + 1) L S σ
 | .newarray t => qnewA (pc + 2) L S σ t
 | .new _ => some (pc + 3, L, .ref σ.length :: S, σ ++ [.inl cDef])
 | _ => none
def qstep (m : Nat) (st : QSt) : Option QSt :=
 match pCode m st.1 with
 | some (i, aux) => qexec st.1 st.2.1 st.2.2.1 st.2.2.2 aux i
 | none => none
def qsteps (m : Nat) : Nat → QSt → Option QSt
 | 0, st => some st
 | n + 1, st => match qstep m st with | some st' => qsteps m n st' | none => none
def qentry (args : List Value) (mx : Nat) : QLoc := (args.flatMap fun v => match v with | .long x => [some (.long x), none] | .double x => [some (.double x), none] | v => [some v]) ++ List.replicate (mx - (args.map fun v => v.category).sum) none
def ilen : Instr → Nat
 | .aload _ | .iload _ | .lload _ | .istore _ | .lstore _ | .astore _ | .bipush _ | .ldc _ | .newarray _ => 2
 | .sipush _ | .ldc2_w _ | .iinc _ _ | .goto _ | .ifCond _ _ | .if_icmp _ _ | .getfield _ | .putfield _ | .new _ | .invokevirtual _ | .invokespecial _ | .invokestatic _ => 3
 | _ => 1
def qtgt (pc : Nat) (o : Int) (aux : Nat) : Bool := decide (0 ≤ (pc : Int) + o) && decide (((pc : Int) + o).toNat = aux)
def qlk (m pc : Nat) (i : Instr) (aux : Nat) : Bool :=
 match i with
 | .goto o => qtgt pc o aux
 | .ifCond _ o => qtgt pc o aux
 | .if_icmp _ o => qtgt pc o aux
 | .getfield idx => lkF.contains (pK m, idx, aux)
 | .putfield idx => lkF.contains (pK m, idx, aux) && (!fFin aux || (pK m == 1 && pNm m == "<init>"))
 | .new idx => lkN.contains (pK m, idx)
 | .newarray t => aTys.contains (newarray.typeOf t)
 | .ldc idx => lkC.contains (pK m, idx, aux)
 | .ldc2_w idx => lkD.contains (pK m, idx, aux)
 | _ => true
def qchk (m pc : Nat) (i : Instr) (aux : Nat) : Bool := decide (decode (pBytes m) pc = .ok (i, ilen i)) && qlk m pc i aux
def QCellOk (Z : State) (ad : Nat → Addr) (h : Heap) (a : Addr) : QCell → Prop
 | .inl vs => Exa Z h a cName ∧ vs.length = nF ∧ ∀ (k : Nat) (v : Value), k < nF → vget vs k = some v → Fld Z h a cName (fNm k) (fDs k) (qv ad v)
 | .inr (.inl x) => ∃ c : Cell, Arr Z h a c x.1 ∧ c.slots = (x.2.map Value.int).toArray
 | .inr (.inr x) => ∃ c : Cell, Arr Z h a c .long ∧ c.slots = (x.map Value.long).toArray
def QAd (n0 : Nat) (ad : Nat → Addr) : Prop := (∀ k, k0 ≤ k → n0 ≤ ad k) ∧ ∀ i j, ad i = ad j → i = j
def QRep (Z : State) (n0 : Nat) (ad : Nat → Addr) (h : Heap) (σ : QHeap) : Prop := (k0 ≤ σ.length ∧ ∀ k, σ.length ≤ k → ad k = n0 + (k - k0)) ∧ h.size = n0 + (σ.length - k0) ∧ ∀ k c, hget σ k = some c → QCellOk Z ad h (ad k) c
def QLocOk (ad : Nat → Addr) (L : QLoc) (C : Array Slot) : Prop :=
 L.length = C.size ∧ (∀ k v, lget L k = some v → C[k]? = some (.val (qv ad v))) ∧ (∀ k w, C[k]? = some (.val w) → w.category = 2 → C[k + 1]? = some .second) ∧ ∀ k, C[k]? = some .second → ∃ j w, k = j + 1 ∧ C[j]? = some (.val w) ∧ w.category = 2
def QW (Z : State) (a0 : Array Value) : Prop :=
 (∀ t ∈ lkF, (Cond.fieldLink (kName t.1) t.2.1 cName (fNm t.2.2) (fDs t.2.2)).before a0 Z = true) ∧
 (∀ t ∈ lkN, (Cond.classLink (kName t.1) t.2 cName).before a0 Z = true) ∧
 (∀ t ∈ lkC, ∃ v, vget cK t.2.2 = some (.int v) ∧ (Cond.constant (kName t.1) t.2.1 v).before a0 Z = true) ∧
 (∀ t ∈ lkD, ∃ v, vget cK t.2.2 = some (.long v) ∧ (Cond.constantLong (kName t.1) t.2.1 v).before a0 Z = true) ∧
 (∀ t ∈ lkV, (Cond.methodLink (kName t.1) t.2.1 (pName t.2.2)).before a0 Z = true) ∧
 (∀ t ∈ lkO, (Cond.methodLink (kName t.1) t.2 Lib.objectInit).before a0 Z = true) ∧
 (∀ m ∈ mV, (Cond.declares (pName m)).before a0 Z = true ∧ (Cond.selects cName (pName m) (pName m)).before a0 Z = true ∧ (Cond.instanceMethod (pName m)).before a0 Z = true) ∧
 (∀ m ∈ mP, (Cond.instanceMethod (pName m)).before a0 Z = true ∧ (Cond.privateMethod (pName m)).before a0 Z = true) ∧
 (∀ m ∈ mS, (Cond.static (pName m)).before a0 Z = true) ∧
 (∀ m ∈ mI, (Cond.instanceMethod (pName m)).before a0 Z = true) ∧
 (∀ m ∈ mA, (Cond.code (pName m) (pBytes m) (pMaxL m) (pRet m)).before a0 Z = true ∧ (Cond.initialized (kName (pK m))).before a0 Z = true) ∧
 (Cond.instanceMethod Lib.objectInit).before a0 Z = true ∧ (Cond.code Lib.objectInit ⟨#[0xb1]⟩ 1 none).before a0 Z = true ∧
 (∀ k, k < nF → bif fFin k then (Cond.laysFinal cName cName (fNm k) (fDs k)).before a0 Z = true else (Cond.lays cName cName (fNm k) (fDs k)).before a0 Z = true) ∧
 (Cond.instantiable cName cN).before a0 Z = true ∧ (Cond.initialized cName).before a0 Z = true ∧
 ∀ ty ∈ aTys, (Cond.arrayClass ty).before a0 Z = true
section Words
variable {Z : State} {a0 : Array Value}
theorem qw_fl (W : QW Z a0) : ∀ t ∈ lkF, (Cond.fieldLink (kName t.1) t.2.1 cName (fNm t.2.2) (fDs t.2.2)).before a0 Z = true := W.1
theorem qw_nw (W : QW Z a0) : ∀ t ∈ lkN, (Cond.classLink (kName t.1) t.2 cName).before a0 Z = true := W.2.1
theorem qw_cI (W : QW Z a0) : ∀ t ∈ lkC, ∃ v, vget cK t.2.2 = some (.int v) ∧ (Cond.constant (kName t.1) t.2.1 v).before a0 Z = true := W.2.2.1
theorem qw_cJ (W : QW Z a0) : ∀ t ∈ lkD, ∃ v, vget cK t.2.2 = some (.long v) ∧ (Cond.constantLong (kName t.1) t.2.1 v).before a0 Z = true := W.2.2.2.1
theorem qw_ml (W : QW Z a0) : ∀ t ∈ lkV, (Cond.methodLink (kName t.1) t.2.1 (pName t.2.2)).before a0 Z = true := W.2.2.2.2.1
theorem qw_mo (W : QW Z a0) : ∀ t ∈ lkO, (Cond.methodLink (kName t.1) t.2 Lib.objectInit).before a0 Z = true := W.2.2.2.2.2.1
theorem qw_vi (W : QW Z a0) : ∀ m ∈ mV, (Cond.declares (pName m)).before a0 Z = true ∧ (Cond.selects cName (pName m) (pName m)).before a0 Z = true ∧ (Cond.instanceMethod (pName m)).before a0 Z = true := W.2.2.2.2.2.2.1
theorem qw_pr (W : QW Z a0) : ∀ m ∈ mP, (Cond.instanceMethod (pName m)).before a0 Z = true ∧ (Cond.privateMethod (pName m)).before a0 Z = true := W.2.2.2.2.2.2.2.1
theorem qw_st (W : QW Z a0) : ∀ m ∈ mS, (Cond.static (pName m)).before a0 Z = true := W.2.2.2.2.2.2.2.2.1
theorem qw_ini (W : QW Z a0) : ∀ m ∈ mI, (Cond.instanceMethod (pName m)).before a0 Z = true := W.2.2.2.2.2.2.2.2.2.1
theorem qw_cod (W : QW Z a0) : ∀ m ∈ mA, (Cond.code (pName m) (pBytes m) (pMaxL m) (pRet m)).before a0 Z = true ∧ (Cond.initialized (kName (pK m))).before a0 Z = true := W.2.2.2.2.2.2.2.2.2.2.1
theorem qw_oi (W : QW Z a0) : (Cond.instanceMethod Lib.objectInit).before a0 Z = true := W.2.2.2.2.2.2.2.2.2.2.2.1
theorem qw_oc (W : QW Z a0) : (Cond.code Lib.objectInit ⟨#[0xb1]⟩ 1 none).before a0 Z = true := W.2.2.2.2.2.2.2.2.2.2.2.2.1
theorem qw_lay (W : QW Z a0) : ∀ k, k < nF → bif fFin k then (Cond.laysFinal cName cName (fNm k) (fDs k)).before a0 Z = true else (Cond.lays cName cName (fNm k) (fDs k)).before a0 Z = true := W.2.2.2.2.2.2.2.2.2.2.2.2.2.1
theorem qw_inst (W : QW Z a0) : (Cond.instantiable cName cN).before a0 Z = true := W.2.2.2.2.2.2.2.2.2.2.2.2.2.2.1
theorem qw_init (W : QW Z a0) : (Cond.initialized cName).before a0 Z = true := W.2.2.2.2.2.2.2.2.2.2.2.2.2.2.2.1
theorem qw_arr (W : QW Z a0) : ∀ ty ∈ aTys, (Cond.arrayClass ty).before a0 Z = true := W.2.2.2.2.2.2.2.2.2.2.2.2.2.2.2.2
end Words
theorem hget_eq : ∀ (σ : QHeap) k, hget σ k = σ[k]?
 | [], _ => by simp [hget]
 | _ :: _, 0 => by simp [hget]
 | _ :: t, k + 1 => by simp [hget, hget_eq t k]
theorem vget_eq : ∀ (σ : List Value) k, vget σ k = σ[k]?
 | [], _ => by simp [vget]
 | _ :: _, 0 => by simp [vget]
 | _ :: t, k + 1 => by simp [vget, vget_eq t k]
theorem lget_eq : ∀ (L : QLoc) k, lget L k = (L[k]?).getD none
 | [], _ => by simp [lget]
 | _ :: _, 0 => by simp [lget]
 | _ :: t, k + 1 => by simp [lget, lget_eq t k]
theorem lget_lt {L : QLoc} {k : Nat} {v : Value} (h : lget L k = some v) : k < L.length := by
 rw [lget_eq] at h
 rcases Nat.lt_or_ge k L.length with q | q
 ·exact q
 ·simp [List.getElem?_eq_none q] at h
theorem lget_set {L : QLoc} {k j : Nat} {o : Option Value} (hk : k < L.length) : lget (L.set k o) j = if j = k then o else lget L j := by
 simp only [lget_eq, List.getElem?_set]
 by_cases e : k = j
 ·subst e; simp [hk]
 ·simp [e, Ne.symm e]
theorem qhs_app (σ τ : QHeap) : qhs (σ ++ τ) = qhs σ + qhs τ := by
 induction σ with
 | nil => simp [qhs]
 | cons c t ih => simp [qhs, ih, Nat.add_assoc]
theorem qhs_set {σ : QHeap} {k : Nat} {c d : QCell} (h : hget σ k = some c) (hs : qsz d = qsz c) : qhs (σ.set k d) = qhs σ := by
 induction σ generalizing k with
 | nil => simp [hget] at h
 | cons x t ih =>
  cases k with
  | zero => simp only [hget, Option.some.injEq] at h; subst h; simp [qhs, hs]
  | succ k => simp only [hget] at h; simp [qhs, ih h]
theorem hget_set {σ : QHeap} {k j : Nat} {c d : QCell} (h : hget σ k = some c) : hget (σ.set k d) j = if j = k then some d else hget σ j := by
 rw [hget_eq] at h
 have hk := (List.getElem?_eq_some_iff.mp h).1
 simp only [hget_eq, List.getElem?_set]
 by_cases e : k = j
 ·subst e; simp [hk]
 ·simp [e, Ne.symm e]
theorem lkill_len (L : QLoc) (k : Nat) : (lkill L k).length = L.length := by
 cases k with
 | zero => rfl
 | succ k => simp only [lkill]; split <;> simp
theorem lget_kill {L : QLoc} {k j : Nat} {v : Value} (h : lget (lkill L k) j = some v) : lget L j = some v ∧ (k = j + 1 → v.category ≠ 2) := by
 cases k with
 | zero => exact ⟨h, fun e => by omega⟩
 | succ k =>
  simp only [lkill] at h
  split at h
  ·rename_i x q
   rw [lget_set (lget_lt q)] at h
   split at h
   ·cases h
   ·rename_i ne; exact ⟨h, fun e => absurd (by omega) ne⟩
  ·rename_i x q
   rw [lget_set (lget_lt q)] at h
   split at h
   ·cases h
   ·rename_i ne; exact ⟨h, fun e => absurd (by omega) ne⟩
  ·rename_i q1 q2
   refine ⟨h, fun e hc => ?_⟩
   obtain rfl : j = k := by omega
   cases v with
   | long x => exact q1 _ h
   | double x => exact q2 _ h
   | _ => simp [Value.category] at hc
theorem qv_cat (ad : Nat → Addr) (v : Value) : (qv ad v).category = v.category := by cases v <;> rfl
def kA (C : Array Slot) (k j : Nat) : Prop := k = j + 1 ∧ C[k]? = some .second
def kB (C : Array Slot) (k j : Nat) : Prop := j = k + 1 ∧ ∃ u, C[k]? = some (.val u) ∧ u.category = 2
def kD (C : Array Slot) (k j : Nat) : Prop := j = k + 2 ∧ ∃ u, C[k + 1]? = some (.val u) ∧ u.category = 2
theorem set1_at {C D : Array Slot} {k : Nat} {w : Value} (hk : k < C.size) (hw : w.category = 1) (h : storeLocals C k w = some D) :
  D.size = C.size ∧ D[k]? = some (.val w) ∧ ∀ j, j ≠ k → (D[j]? = C[j]? ∧ ¬ kA C k j ∧ ¬ kB C k j) ∨ D[j]? = some .unset ∧ (kA C k j ∨ kB C k j) := by
 have hck : C[k]? = some C[k] := Array.getElem?_eq_getElem hk
 unfold storeLocals at h
 simp only [hck, Option.bind_eq_bind, Option.bind_some] at h
 have self : ∀ {E : Array Slot}, k < E.size → storeSelf E k w = some D → D = E.setIfInBounds k (.val w) := by
  intro E hE q
  simp only [storeSelf, setAt, hE, if_true, Option.bind_eq_bind, Option.bind_some, hw] at q
  simpa using q.symm
 split at h
 ·rename_i q
  have hk1 : k - 1 < C.size := by omega
  simp only [setAt, hk1, if_true, Option.bind_some] at h
  have e := self (by simpa using hk) h
  subst e
  refine ⟨by simp, by simp [hk], fun j hj => ?_⟩
  by_cases ej : k = j + 1
  ·refine Or.inr ⟨?_, Or.inl ⟨ej, by rw [hck, q]⟩⟩
   rw [Array.getElem?_setIfInBounds_ne (Ne.symm hj), show j = k - 1 by omega]
   simp [hk1]
  ·refine Or.inl ⟨?_, fun x => ej x.1, fun x => ?_⟩
   ·rw [Array.getElem?_setIfInBounds_ne (Ne.symm hj), Array.getElem?_setIfInBounds_ne (by omega)]
   ·obtain ⟨-, u, x1, -⟩ := x
    rw [hck, q] at x1; cases x1
 ·rename_i u q
  split at h
  ·rename_i hu
   by_cases hk1 : k + 1 < C.size
   ·simp only [setAt, hk1, if_true, Option.bind_some] at h
    have e := self (by simpa using hk) h
    subst e
    refine ⟨by simp, by simp [hk], fun j hj => ?_⟩
    by_cases ej : j = k + 1
    ·refine Or.inr ⟨?_, Or.inr ⟨ej, u, by rw [hck, q], hu⟩⟩
     rw [Array.getElem?_setIfInBounds_ne (Ne.symm hj), ej]
     simp [hk1]
    ·refine Or.inl ⟨?_, fun x => ?_, fun x => ej x.1⟩
     ·rw [Array.getElem?_setIfInBounds_ne (Ne.symm hj), Array.getElem?_setIfInBounds_ne (by omega)]
     ·obtain ⟨-, x1⟩ := x
      rw [hck, q] at x1; cases x1
   ·simp [setAt, hk1] at h
  ·rename_i hu
   have e := self hk h
   subst e
   refine ⟨by simp, by simp [hk], fun j hj => Or.inl ⟨Array.getElem?_setIfInBounds_ne (Ne.symm hj), fun x => ?_, fun x => ?_⟩⟩
   ·obtain ⟨-, x1⟩ := x
    rw [hck, q] at x1; cases x1
   ·obtain ⟨-, u', x1, x2⟩ := x
    rw [hck, q] at x1; cases x1; exact hu x2
 ·rename_i q
  have e := self hk h
  subst e
  refine ⟨by simp, by simp [hk], fun j hj => Or.inl ⟨Array.getElem?_setIfInBounds_ne (Ne.symm hj), fun x => ?_, fun x => ?_⟩⟩
  ·obtain ⟨-, x1⟩ := x
   rw [hck, q] at x1; cases x1
  ·obtain ⟨-, u', x1, x2⟩ := x
   rw [hck, q] at x1; cases x1
theorem set2_at {C D : Array Slot} {k : Nat} {w : Value} (hk : k + 1 < C.size) (hw : w.category = 2) (wf : ∀ k w, C[k]? = some (.val w) → w.category = 2 → C[k + 1]? = some .second) (h : storeLocals C k w = some D) :
  D.size = C.size ∧ D[k]? = some (.val w) ∧ D[k + 1]? = some .second ∧ ∀ j, j ≠ k → j ≠ k + 1 → (D[j]? = C[j]? ∧ ¬ kA C k j ∧ ¬ kD C k j) ∨ D[j]? = some .unset ∧ (kA C k j ∨ kD C k j) := by
 have hk0 : k < C.size := by omega
 have hck : C[k]? = some C[k] := Array.getElem?_eq_getElem hk0
 unfold storeLocals at h
 simp only [hck, Option.bind_eq_bind, Option.bind_some] at h
 have self : ∀ {E : Array Slot}, E.size = C.size → storeSelf E k w = some D → D.size = C.size ∧ D[k]? = some (.val w) ∧ D[k + 1]? = some .second ∧ ∀ j, j ≠ k → j ≠ k + 1 → (D[j]? = E[j]? ∧ ¬ kD E k j) ∨ D[j]? = some .unset ∧ kD E k j := by
  intro E hs q
  have h1 : k < E.size := by omega
  have h2 : k + 1 < E.size := by omega
  have h3 : (E.setIfInBounds k (.val w))[k + 1]? = some E[k + 1] := by rw [Array.getElem?_setIfInBounds_ne (by omega)]; exact Array.getElem?_eq_getElem h2
  simp only [storeSelf, setAt, h1, if_true, Option.bind_eq_bind, Option.bind_some, hw, h3] at q
  have plain : (¬ ∃ u, E[k + 1]? = some (.val u) ∧ u.category = 2) → some ((E.setIfInBounds k (.val w)).setIfInBounds (k + 1) .second) = some D → D.size = C.size ∧ D[k]? = some (.val w) ∧ D[k + 1]? = some .second ∧ ∀ j, j ≠ k → j ≠ k + 1 → (D[j]? = E[j]? ∧ ¬ kD E k j) ∨ D[j]? = some .unset ∧ kD E k j := by
   intro no q
   cases q
   refine ⟨by simp [hs], ?_, ?_, fun j hj hj1 => Or.inl ⟨?_, fun x => no x.2⟩⟩
   ·rw [Array.getElem?_setIfInBounds_ne (by omega)]; simp [h1]
   ·simp [h2]
   ·rw [Array.getElem?_setIfInBounds_ne (by omega), Array.getElem?_setIfInBounds_ne (by omega)]
  split at q
  ·rename_i u hu
   split at q
   ·rename_i hu2
    by_cases h5 : k + 2 < E.size
    ·simp [h5, h2] at q
     cases q
     refine ⟨by simp [hs], ?_, ?_, fun j hj hj1 => ?_⟩
     ·rw [Array.getElem?_setIfInBounds_ne (by omega), Array.getElem?_setIfInBounds_ne (by omega)]; simp [h1]
     ·simp [h2]
     ·by_cases e : j = k + 2
      ·refine Or.inr ⟨?_, e, u, by rw [Array.getElem?_eq_getElem h2, hu], hu2⟩
       rw [Array.getElem?_setIfInBounds_ne (by omega), e]
       simp [h5]
      ·refine Or.inl ⟨?_, fun x => e x.1⟩
       rw [Array.getElem?_setIfInBounds_ne (by omega), Array.getElem?_setIfInBounds_ne (by omega), Array.getElem?_setIfInBounds_ne (by omega)]
    ·simp [h5] at q
   ·rename_i hu2
    refine plain ?_ (by simpa [h2] using q)
    rintro ⟨u', x1, x2⟩
    rw [Array.getElem?_eq_getElem h2, hu] at x1; cases x1; exact hu2 x2
  ·rename_i hu
   refine plain ?_ (by simpa [h2] using q)
   rintro ⟨u', x1, x2⟩
   rw [Array.getElem?_eq_getElem h2] at x1; exact hu _ (Option.some.inj x1)
 split at h
 ·rename_i q
  have hk1 : k - 1 < C.size := by omega
  simp only [setAt, hk1, if_true, Option.bind_some] at h
  obtain ⟨e1, e2, e3, e4⟩ := self (by simp) h
  refine ⟨e1, e2, e3, fun j hj hj1 => ?_⟩
  have h6 : ∀ i, i + 1 ≠ k ∨ k = 0 → i ≠ k ∨ k ≠ 0 → (C.setIfInBounds (k - 1) Slot.unset)[i]? = C[i]? := fun i hi hi2 => Array.getElem?_setIfInBounds_ne (by omega)
  have h7 : (C.setIfInBounds (k - 1) Slot.unset)[k + 1]? = C[k + 1]? := Array.getElem?_setIfInBounds_ne (by omega)
  rcases e4 j hj hj1 with ⟨r, r'⟩ | ⟨r, r1, u, r2, r3⟩
  ·by_cases ej : k = j + 1
   ·refine Or.inr ⟨?_, Or.inl ⟨ej, by rw [hck, q]⟩⟩
    rw [r, show j = k - 1 by omega]; simp [hk1]
   ·refine Or.inl ⟨by rw [r]; exact h6 _ (by omega) (by omega), fun x => ej x.1, fun x => r' ⟨x.1, ?_⟩⟩
    rw [h7]; exact x.2
  ·exact Or.inr ⟨r, Or.inr ⟨r1, u, by rw [← h7]; exact r2, r3⟩⟩
 ·rename_i u q
  split at h
  ·rename_i hu
   simp only [setAt, hk, if_true, Option.bind_some] at h
   obtain ⟨e1, e2, e3, e4⟩ := self (by simp) h
   have hsec := wf k u (by rw [hck, q]) hu
   refine ⟨e1, e2, e3, fun j hj hj1 => ?_⟩
   rcases e4 j hj hj1 with ⟨r, r'⟩ | ⟨r, r1, u', r2, r3⟩
   ·refine Or.inl ⟨by rw [r]; exact Array.getElem?_setIfInBounds_ne (by omega), fun x => ?_, fun x => ?_⟩
    ·obtain ⟨-, x1⟩ := x
     rw [hck, q] at x1; cases x1
    ·obtain ⟨-, u', x1, x2⟩ := x
     rw [hsec] at x1; cases x1
   ·simp [hk] at r2
  ·rename_i hu
   obtain ⟨e1, e2, e3, e4⟩ := self rfl h
   refine ⟨e1, e2, e3, fun j hj hj1 => ?_⟩
   rcases e4 j hj hj1 with ⟨r, r'⟩ | ⟨r, r'⟩
   ·refine Or.inl ⟨r, fun x => ?_, r'⟩
    obtain ⟨-, x1⟩ := x
    rw [hck, q] at x1; cases x1
   ·exact Or.inr ⟨r, Or.inr r'⟩
 ·rename_i q
  obtain ⟨e1, e2, e3, e4⟩ := self rfl h
  refine ⟨e1, e2, e3, fun j hj hj1 => ?_⟩
  rcases e4 j hj hj1 with ⟨r, r'⟩ | ⟨r, r'⟩
  ·refine Or.inl ⟨r, fun x => ?_, r'⟩
   obtain ⟨-, x1⟩ := x
   rw [hck, q] at x1; cases x1
  ·exact Or.inr ⟨r, Or.inr r'⟩
theorem store_some {C : Array Slot} {k : Nat} {w : Value} (hk : k + (w.category - 1) < C.size) (hc : w.category = 1 ∨ w.category = 2) (wf : ∀ k w, C[k]? = some (.val w) → w.category = 2 → C[k + 1]? = some .second) :
  ∃ D, storeLocals C k w = some D := by
 have hk0 : k < C.size := by omega
 have hck : C[k]? = some C[k] := Array.getElem?_eq_getElem hk0
 have self : ∀ {E : Array Slot}, E.size = C.size → (∀ u, E[k + 1]? = some (.val u) → u.category = 2 → k + 2 < E.size) → ∃ D, storeSelf E k w = some D := by
  intro E hs hn
  have h1 : k < E.size := by omega
  simp only [storeSelf, setAt, h1, if_true, Option.bind_eq_bind, Option.bind_some]
  rcases hc with hc | hc
  ·exact ⟨E.setIfInBounds k (.val w), by simp [hc]⟩
  ·have h2 : k + 1 < E.size := by omega
   have h3 : (E.setIfInBounds k (.val w))[k + 1]? = some E[k + 1] := by rw [Array.getElem?_setIfInBounds_ne (by omega)]; exact Array.getElem?_eq_getElem h2
   simp only [hc, if_true, h3, Option.bind_some]
   split
   ·rename_i u hu
    split
    ·rename_i hu2
     have h5 := hn u (by rw [Array.getElem?_eq_getElem h2, hu]) hu2
     exact ⟨_, by simp [h5, h2]; rfl⟩
    ·exact ⟨_, by simp [h2]; rfl⟩
   ·exact ⟨_, by simp [h2]; rfl⟩
 have next : ∀ u, C[k + 1]? = some (.val u) → u.category = 2 → k + 2 < C.size := fun u h1 h2 => (Array.getElem?_eq_some_iff.mp (wf _ _ h1 h2)).1
 unfold storeLocals
 simp only [hck, Option.bind_eq_bind, Option.bind_some]
 split
 ·have hk1 : k - 1 < C.size := by omega
  simp only [setAt, hk1, if_true, Option.bind_some]
  refine self (by simp) fun u h1 h2 => ?_
  rw [Array.getElem?_setIfInBounds_ne (by omega)] at h1
  simpa using next u h1 h2
 ·rename_i u q
  split
  ·rename_i hu
   have h5 := (Array.getElem?_eq_some_iff.mp (wf k u (by rw [hck, q]) hu)).1
   simp only [setAt, h5, if_true, Option.bind_some]
   refine self (by simp) fun u h1 h2 => ?_
   simp [h5] at h1
  ·exact self rfl next
 ·exact self rfl next
theorem store_ok1 {ad : Nat → Addr} {L : QLoc} {C : Array Slot} {k : Nat} {v : Value} (H : QLocOk ad L C) (hv : v.category = 1) (hk : k < L.length) :
  ∃ D, storeLocals C k (qv ad v) = some D ∧ QLocOk ad ((lkill L k).set k (some v)) D ∧ D.size = C.size := by
 obtain ⟨H1, H2, H3, H4⟩ := H
 have hc : (qv ad v).category = 1 := by rw [qv_cat, hv]
 obtain ⟨D, hD⟩ := store_some (C := C) (k := k) (w := qv ad v) (by rw [hc]; omega) (Or.inl hc) H3
 obtain ⟨d1, d2, d3⟩ := set1_at (by omega) hc hD
 refine ⟨D, hD, ⟨by simp [lkill_len, H1, d1], fun j u hj => ?_, fun j w hj hw => ?_, fun j hj => ?_⟩, d1⟩
 ·rw [lget_set (by rw [lkill_len]; exact hk)] at hj
  split at hj
  ·rename_i e; cases hj; rw [e]; exact d2
  ·rename_i ne
   obtain ⟨g1, g2⟩ := lget_kill hj
   have g3 := H2 j u g1
   rcases d3 j ne with ⟨r, -, -⟩ | ⟨-, ⟨r1, r2⟩ | ⟨r1, w, r2, r3⟩⟩
   ·rw [r]; exact g3
   ·obtain ⟨i, w, z1, z2, z3⟩ := H4 k r2
    obtain rfl : i = j := by omega
    rw [g3] at z2
    cases z2
    rw [qv_cat] at z3
    exact absurd z3 (g2 r1)
   ·have := H3 k w r2 r3
    rw [← r1, g3] at this
    cases this
 ·by_cases e : j = k
  ·subst e; rw [d2] at hj; cases hj; rw [hc] at hw; cases hw
  ·rcases d3 j e with ⟨r, nA, nB⟩ | ⟨r, -⟩
   ·rw [r] at hj
    have g := H3 j w hj hw
    have e2 : j + 1 ≠ k := fun q => nA ⟨q.symm, by rw [← q]; exact g⟩
    rcases d3 (j + 1) e2 with ⟨z, -, -⟩ | ⟨-, ⟨z1, z2⟩ | ⟨z1, -⟩⟩
    ·rw [z]; exact g
    ·obtain ⟨i, u, y1, y2, y3⟩ := H4 k z2
     obtain rfl : i = j + 1 := by omega
     rw [g] at y2; cases y2
    ·omega
   ·rw [r] at hj; cases hj
 ·by_cases e : j = k
  ·subst e; rw [d2] at hj; cases hj
  ·rcases d3 j e with ⟨r, nA, nB⟩ | ⟨r, -⟩
   ·rw [r] at hj
    obtain ⟨i, w, y1, y2, y3⟩ := H4 j hj
    refine ⟨i, w, y1, ?_, y3⟩
    have ei : i ≠ k := fun q => nB ⟨by omega, w, by rw [← q]; exact y2, y3⟩
    rcases d3 i ei with ⟨z, -, -⟩ | ⟨-, ⟨z1, z2⟩ | ⟨z1, u, z2, z3⟩⟩
    ·rw [z]; exact y2
    ·omega
    ·have := H3 k u z2 z3
     rw [← z1, y2] at this; cases this
   ·rw [r] at hj; cases hj
theorem store_ok2 {ad : Nat → Addr} {L : QLoc} {C : Array Slot} {k : Nat} {x : Int64} (H : QLocOk ad L C) (hk : k + 1 < L.length) :
  ∃ D, storeLocals C k (.long x) = some D ∧ QLocOk ad (((lkill L k).set k (some (.long x))).set (k + 1) none) D ∧ D.size = C.size := by
 obtain ⟨H1, H2, H3, H4⟩ := H
 have hc : (Value.long x).category = 2 := rfl
 obtain ⟨D, hD⟩ := store_some (C := C) (k := k) (w := .long x) (by rw [hc]; omega) (Or.inr hc) H3
 obtain ⟨d1, d2, d2', d3⟩ := set2_at (by omega) hc H3 hD
 refine ⟨D, hD, ⟨by simp [lkill_len, H1, d1], fun j u hj => ?_, fun j w hj hw => ?_, fun j hj => ?_⟩, d1⟩
 ·rw [lget_set (by simp [lkill_len]; exact hk)] at hj
  split at hj
  ·cases hj
  ·rename_i ne1
   rw [lget_set (by rw [lkill_len]; omega)] at hj
   split at hj
   ·rename_i e; cases hj; rw [e]; exact d2
   ·rename_i ne
    obtain ⟨g1, g2⟩ := lget_kill hj
    have g3 := H2 j u g1
    rcases d3 j ne ne1 with ⟨r, -, -⟩ | ⟨-, ⟨r1, r2⟩ | ⟨r1, w, r2, r3⟩⟩
    ·rw [r]; exact g3
    ·obtain ⟨i, w, z1, z2, z3⟩ := H4 k r2
     obtain rfl : i = j := by omega
     rw [g3] at z2
     cases z2
     rw [qv_cat] at z3
     exact absurd z3 (g2 r1)
    ·have := H3 (k + 1) w r2 r3
     rw [show k + 1 + 1 = j by omega, g3] at this
     cases this
 ·by_cases e : j = k
  ·rw [e]; exact d2'
  ·by_cases e1 : j = k + 1
   ·rw [e1, d2'] at hj; cases hj
   ·rcases d3 j e e1 with ⟨r, nA, nB⟩ | ⟨r, -⟩
    ·rw [r] at hj
     have g := H3 j w hj hw
     have e2 : j + 1 ≠ k := fun q => nA ⟨q.symm, by rw [← q]; exact g⟩
     rcases d3 (j + 1) e2 (by omega) with ⟨z, -, -⟩ | ⟨-, ⟨z1, z2⟩ | ⟨z1, -⟩⟩
     ·rw [z]; exact g
     ·obtain ⟨i, u, y1, y2, y3⟩ := H4 k z2
      obtain rfl : i = j + 1 := by omega
      rw [g] at y2; cases y2
     ·omega
    ·rw [r] at hj; cases hj
 ·by_cases e : j = k
  ·rw [e, d2] at hj; cases hj
  ·by_cases e1 : j = k + 1
   ·exact ⟨k, _, e1, d2, hc⟩
   ·rcases d3 j e e1 with ⟨r, nA, nB⟩ | ⟨r, -⟩
    ·rw [r] at hj
     obtain ⟨i, w, y1, y2, y3⟩ := H4 j hj
     refine ⟨i, w, y1, ?_, y3⟩
     have ei : i ≠ k := fun q => e1 (by omega)
     have ei1 : i ≠ k + 1 := fun q => nB ⟨by omega, w, by rw [← q]; exact y2, y3⟩
     rcases d3 i ei ei1 with ⟨z, -, -⟩ | ⟨-, ⟨z1, z2⟩ | ⟨z1, u, z2, z3⟩⟩
     ·rw [z]; exact y2
     ·omega
     ·have := H3 (k + 1) u z2 z3
      rw [show k + 1 + 1 = i by omega, y2] at this; cases this
    ·rw [r] at hj; cases hj
theorem store_ok {ad : Nat → Addr} {L L' : QLoc} {C : Array Slot} {k : Nat} {v : Value} (H : QLocOk ad L C) (h : lput L k v = some L') :
  ∃ D, storeLocals C k (qv ad v) = some D ∧ QLocOk ad L' D ∧ D.size = C.size := by
 have one : v.category = 1 → (bif Nat.ble (k + 1) L.length then some ((lkill L k).set k (some v)) else none) = some L' → ∃ D, storeLocals C k (qv ad v) = some D ∧ QLocOk ad L' D ∧ D.size = C.size := by
  intro hv h
  cases hb : Nat.ble (k + 1) L.length with
  | false => rw [hb] at h; cases h
  | true => rw [hb] at h; cases h; exact store_ok1 H hv (Nat.le_of_ble_eq_true hb)
 cases v with
 | long x =>
  simp only [lput] at h
  cases hb : Nat.ble (k + 2) L.length with
  | false => rw [hb] at h; cases h
  | true => rw [hb] at h; cases h; exact store_ok2 H (Nat.le_of_ble_eq_true hb)
 | double x => simp [lput] at h
 | int x => exact one rfl h
 | float x => exact one rfl h
 | null => exact one rfl h
 | ref x => exact one rfl h
 | retAddr x => exact one rfl h
theorem fInj : ∀ i, i < nF → ∀ j, j < nF → fNm i = fNm j → i = j := by decide +kernel
theorem fPrs : ∀ i, i < nF → parseFieldDescriptor (fDs i) = some (fTy i) := by decide +kernel
theorem cDefs : ∀ i, i < nF → vget cDef i = some (defaultValue (fTy i)) := by decide +kernel
theorem cDefL : cDef.length = nF := by decide +kernel
theorem fDef : ∀ i, i < nF → ∀ a, defaultValue (fTy i) ≠ .ref a := by
 intro i _ a
 cases fTy i <;> simp [defaultValue]
theorem kPlain : ∀ k, k < 2 → plainName (kName k) = true := by
 intro k hk
 rcases k with _ | _ | k
 ·first | decide +kernel | (simp [kName, plainName, overriddenIn]; done)
 ·first | decide +kernel | (simp [kName, plainName, overriddenIn]; done)
 ·omega
theorem pKlt : ∀ m, m < pN → pK m < 2 := by decide +kernel
theorem pSig : ∀ m, m < pN → (parseMethodDescriptor (pDs m)).map (fun sg => sg.parameters.length) = some (pNA m) := by decide +kernel
theorem pOwn : ∀ k, k < 2 → kName k ≠ "java/lang/invoke/MethodHandle" ∧ kName k ≠ "java/lang/invoke/VarHandle" := by decide +kernel
theorem mAlt : ∀ m ∈ mA, m < pN := by decide +kernel
theorem mVlt : ∀ m ∈ mV, m ∈ mA ∧ pK m = 1 := by decide +kernel
theorem mPlt : ∀ m ∈ mP, m ∈ mA ∧ pK m = 1 := by decide +kernel
theorem mSlt : ∀ m ∈ mS, m ∈ mA := by decide +kernel
theorem mIlt : ∀ m ∈ mI, m ∈ mA ∧ pK m = 1 ∧ pNm m = "<init>" ∧ pRet m = none := by decide +kernel
theorem kOne : kName 1 = cName := rfl
def pX (m pc : Nat) : Bool := match pCode m pc with | some t => qchk m pc t.1 t.2 | none => true
set_option maxRecDepth 100000 in
set_option maxHeartbeats 4000000 in
theorem pC0_0 : ∀ q, q < 128 → pX 0 (0 + q) = true := by decide +kernel
set_option maxRecDepth 100000 in
set_option maxHeartbeats 4000000 in
theorem pC0_128 : ∀ q, q < 128 → pX 0 (128 + q) = true := by decide +kernel
set_option maxRecDepth 100000 in
set_option maxHeartbeats 4000000 in
theorem pC0_256 : ∀ q, q < 128 → pX 0 (256 + q) = true := by decide +kernel
set_option maxRecDepth 100000 in
set_option maxHeartbeats 4000000 in
theorem pC0_384 : ∀ q, q < 8 → pX 0 (384 + q) = true := by decide +kernel
theorem pCm0 (pc : Nat) (h : pc < pTop 0) : pX 0 pc = true := by
 replace h : pc < 392 := h
 by_cases h0 : pc < 128
 ·have q := pC0_0 (pc - 0) (by omega)
  rwa [show 0 + (pc - 0) = pc from by omega] at q
 by_cases h128 : pc < 256
 ·have q := pC0_128 (pc - 128) (by omega)
  rwa [show 128 + (pc - 128) = pc from by omega] at q
 by_cases h256 : pc < 384
 ·have q := pC0_256 (pc - 256) (by omega)
  rwa [show 256 + (pc - 256) = pc from by omega] at q
 have q := pC0_384 (pc - 384) (by omega)
 rwa [show 384 + (pc - 384) = pc from by omega] at q
set_option maxRecDepth 100000 in
set_option maxHeartbeats 4000000 in
theorem pC1_0 : ∀ q, q < 128 → pX 1 (0 + q) = true := by decide +kernel
set_option maxRecDepth 100000 in
set_option maxHeartbeats 4000000 in
theorem pC1_128 : ∀ q, q < 100 → pX 1 (128 + q) = true := by decide +kernel
theorem pCm1 (pc : Nat) (h : pc < pTop 1) : pX 1 pc = true := by
 replace h : pc < 228 := h
 by_cases h0 : pc < 128
 ·have q := pC1_0 (pc - 0) (by omega)
  rwa [show 0 + (pc - 0) = pc from by omega] at q
 have q := pC1_128 (pc - 128) (by omega)
 rwa [show 128 + (pc - 128) = pc from by omega] at q
set_option maxRecDepth 100000 in
set_option maxHeartbeats 4000000 in
theorem pC2_0 : ∀ q, q < 16 → pX 2 (0 + q) = true := by decide +kernel
theorem pCm2 (pc : Nat) (h : pc < pTop 2) : pX 2 pc = true := by
 replace h : pc < 16 := h
 have q := pC2_0 (pc - 0) (by omega)
 rwa [show 0 + (pc - 0) = pc from by omega] at q
set_option maxRecDepth 100000 in
set_option maxHeartbeats 4000000 in
theorem pC3_0 : ∀ q, q < 65 → pX 3 (0 + q) = true := by decide +kernel
theorem pCm3 (pc : Nat) (h : pc < pTop 3) : pX 3 pc = true := by
 replace h : pc < 65 := h
 have q := pC3_0 (pc - 0) (by omega)
 rwa [show 0 + (pc - 0) = pc from by omega] at q
set_option maxRecDepth 100000 in
set_option maxHeartbeats 4000000 in
theorem pC4_0 : ∀ q, q < 49 → pX 4 (0 + q) = true := by decide +kernel
theorem pCm4 (pc : Nat) (h : pc < pTop 4) : pX 4 pc = true := by
 replace h : pc < 49 := h
 have q := pC4_0 (pc - 0) (by omega)
 rwa [show 0 + (pc - 0) = pc from by omega] at q
set_option maxRecDepth 100000 in
set_option maxHeartbeats 4000000 in
theorem pC5_0 : ∀ q, q < 7 → pX 5 (0 + q) = true := by decide +kernel
theorem pCm5 (pc : Nat) (h : pc < pTop 5) : pX 5 pc = true := by
 replace h : pc < 7 := h
 have q := pC5_0 (pc - 0) (by omega)
 rwa [show 0 + (pc - 0) = pc from by omega] at q
set_option maxRecDepth 100000 in
set_option maxHeartbeats 4000000 in
theorem pC6_0 : ∀ q, q < 18 → pX 6 (0 + q) = true := by decide +kernel
theorem pCm6 (pc : Nat) (h : pc < pTop 6) : pX 6 pc = true := by
 replace h : pc < 18 := h
 have q := pC6_0 (pc - 0) (by omega)
 rwa [show 0 + (pc - 0) = pc from by omega] at q
set_option maxRecDepth 100000 in
set_option maxHeartbeats 4000000 in
theorem pC7_0 : ∀ q, q < 51 → pX 7 (0 + q) = true := by decide +kernel
theorem pCm7 (pc : Nat) (h : pc < pTop 7) : pX 7 pc = true := by
 replace h : pc < 51 := h
 have q := pC7_0 (pc - 0) (by omega)
 rwa [show 0 + (pc - 0) = pc from by omega] at q
set_option maxRecDepth 100000 in
set_option maxHeartbeats 4000000 in
theorem pC8_0 : ∀ q, q < 99 → pX 8 (0 + q) = true := by decide +kernel
theorem pCm8 (pc : Nat) (h : pc < pTop 8) : pX 8 pc = true := by
 replace h : pc < 99 := h
 have q := pC8_0 (pc - 0) (by omega)
 rwa [show 0 + (pc - 0) = pc from by omega] at q
set_option maxRecDepth 100000 in
set_option maxHeartbeats 4000000 in
theorem pC9_0 : ∀ q, q < 96 → pX 9 (0 + q) = true := by decide +kernel
theorem pCm9 (pc : Nat) (h : pc < pTop 9) : pX 9 pc = true := by
 replace h : pc < 96 := h
 have q := pC9_0 (pc - 0) (by omega)
 rwa [show 0 + (pc - 0) = pc from by omega] at q
set_option maxRecDepth 100000 in
set_option maxHeartbeats 4000000 in
theorem pC10_0 : ∀ q, q < 16 → pX 10 (0 + q) = true := by decide +kernel
theorem pCm10 (pc : Nat) (h : pc < pTop 10) : pX 10 pc = true := by
 replace h : pc < 16 := h
 have q := pC10_0 (pc - 0) (by omega)
 rwa [show 0 + (pc - 0) = pc from by omega] at q
set_option maxRecDepth 100000 in
set_option maxHeartbeats 4000000 in
theorem pC11_0 : ∀ q, q < 94 → pX 11 (0 + q) = true := by decide +kernel
theorem pCm11 (pc : Nat) (h : pc < pTop 11) : pX 11 pc = true := by
 replace h : pc < 94 := h
 have q := pC11_0 (pc - 0) (by omega)
 rwa [show 0 + (pc - 0) = pc from by omega] at q
set_option maxRecDepth 100000 in
set_option maxHeartbeats 4000000 in
theorem pC12_0 : ∀ q, q < 115 → pX 12 (0 + q) = true := by decide +kernel
theorem pCm12 (pc : Nat) (h : pc < pTop 12) : pX 12 pc = true := by
 replace h : pc < 115 := h
 have q := pC12_0 (pc - 0) (by omega)
 rwa [show 0 + (pc - 0) = pc from by omega] at q
set_option maxRecDepth 100000 in
set_option maxHeartbeats 4000000 in
theorem pC13_0 : ∀ q, q < 89 → pX 13 (0 + q) = true := by decide +kernel
theorem pCm13 (pc : Nat) (h : pc < pTop 13) : pX 13 pc = true := by
 replace h : pc < 89 := h
 have q := pC13_0 (pc - 0) (by omega)
 rwa [show 0 + (pc - 0) = pc from by omega] at q
set_option maxRecDepth 100000 in
set_option maxHeartbeats 4000000 in
theorem pC14_0 : ∀ q, q < 51 → pX 14 (0 + q) = true := by decide +kernel
theorem pCm14 (pc : Nat) (h : pc < pTop 14) : pX 14 pc = true := by
 replace h : pc < 51 := h
 have q := pC14_0 (pc - 0) (by omega)
 rwa [show 0 + (pc - 0) = pc from by omega] at q
set_option maxRecDepth 100000 in
set_option maxHeartbeats 4000000 in
theorem pC15_0 : ∀ q, q < 27 → pX 15 (0 + q) = true := by decide +kernel
theorem pCm15 (pc : Nat) (h : pc < pTop 15) : pX 15 pc = true := by
 replace h : pc < 27 := h
 have q := pC15_0 (pc - 0) (by omega)
 rwa [show 0 + (pc - 0) = pc from by omega] at q
set_option maxRecDepth 100000 in
set_option maxHeartbeats 4000000 in
theorem pC16_0 : ∀ q, q < 15 → pX 16 (0 + q) = true := by decide +kernel
theorem pCm16 (pc : Nat) (h : pc < pTop 16) : pX 16 pc = true := by
 replace h : pc < 15 := h
 have q := pC16_0 (pc - 0) (by omega)
 rwa [show 0 + (pc - 0) = pc from by omega] at q
set_option maxRecDepth 100000 in
set_option maxHeartbeats 4000000 in
theorem pC17_0 : ∀ q, q < 7 → pX 17 (0 + q) = true := by decide +kernel
theorem pCm17 (pc : Nat) (h : pc < pTop 17) : pX 17 pc = true := by
 replace h : pc < 7 := h
 have q := pC17_0 (pc - 0) (by omega)
 rwa [show 0 + (pc - 0) = pc from by omega] at q
set_option maxRecDepth 100000 in
set_option maxHeartbeats 4000000 in
theorem pC18_0 : ∀ q, q < 30 → pX 18 (0 + q) = true := by decide +kernel
theorem pCm18 (pc : Nat) (h : pc < pTop 18) : pX 18 pc = true := by
 replace h : pc < 30 := h
 have q := pC18_0 (pc - 0) (by omega)
 rwa [show 0 + (pc - 0) = pc from by omega] at q
set_option maxRecDepth 100000 in
set_option maxHeartbeats 4000000 in
theorem pC19_0 : ∀ q, q < 30 → pX 19 (0 + q) = true := by decide +kernel
theorem pCm19 (pc : Nat) (h : pc < pTop 19) : pX 19 pc = true := by
 replace h : pc < 30 := h
 have q := pC19_0 (pc - 0) (by omega)
 rwa [show 0 + (pc - 0) = pc from by omega] at q
set_option maxRecDepth 100000 in
set_option maxHeartbeats 4000000 in
theorem pC20_0 : ∀ q, q < 61 → pX 20 (0 + q) = true := by decide +kernel
theorem pCm20 (pc : Nat) (h : pc < pTop 20) : pX 20 pc = true := by
 replace h : pc < 61 := h
 have q := pC20_0 (pc - 0) (by omega)
 rwa [show 0 + (pc - 0) = pc from by omega] at q
set_option maxRecDepth 100000 in
set_option maxHeartbeats 4000000 in
theorem pC21_0 : ∀ q, q < 102 → pX 21 (0 + q) = true := by decide +kernel
theorem pCm21 (pc : Nat) (h : pc < pTop 21) : pX 21 pc = true := by
 replace h : pc < 102 := h
 have q := pC21_0 (pc - 0) (by omega)
 rwa [show 0 + (pc - 0) = pc from by omega] at q
set_option maxRecDepth 100000 in
set_option maxHeartbeats 4000000 in
theorem pC22_0 : ∀ q, q < 39 → pX 22 (0 + q) = true := by decide +kernel
theorem pCm22 (pc : Nat) (h : pc < pTop 22) : pX 22 pc = true := by
 replace h : pc < 39 := h
 have q := pC22_0 (pc - 0) (by omega)
 rwa [show 0 + (pc - 0) = pc from by omega] at q
set_option maxRecDepth 100000 in
set_option maxHeartbeats 4000000 in
theorem pC23_0 : ∀ q, q < 128 → pX 23 (0 + q) = true := by decide +kernel
set_option maxRecDepth 100000 in
set_option maxHeartbeats 4000000 in
theorem pC23_128 : ∀ q, q < 6 → pX 23 (128 + q) = true := by decide +kernel
theorem pCm23 (pc : Nat) (h : pc < pTop 23) : pX 23 pc = true := by
 replace h : pc < 134 := h
 by_cases h0 : pc < 128
 ·have q := pC23_0 (pc - 0) (by omega)
  rwa [show 0 + (pc - 0) = pc from by omega] at q
 have q := pC23_128 (pc - 128) (by omega)
 rwa [show 128 + (pc - 128) = pc from by omega] at q
set_option maxRecDepth 100000 in
set_option maxHeartbeats 4000000 in
theorem pC24_0 : ∀ q, q < 21 → pX 24 (0 + q) = true := by decide +kernel
theorem pCm24 (pc : Nat) (h : pc < pTop 24) : pX 24 pc = true := by
 replace h : pc < 21 := h
 have q := pC24_0 (pc - 0) (by omega)
 rwa [show 0 + (pc - 0) = pc from by omega] at q
set_option maxRecDepth 100000 in
set_option maxHeartbeats 4000000 in
theorem pC25_0 : ∀ q, q < 44 → pX 25 (0 + q) = true := by decide +kernel
theorem pCm25 (pc : Nat) (h : pc < pTop 25) : pX 25 pc = true := by
 replace h : pc < 44 := h
 have q := pC25_0 (pc - 0) (by omega)
 rwa [show 0 + (pc - 0) = pc from by omega] at q
set_option maxRecDepth 100000 in
set_option maxHeartbeats 4000000 in
theorem pC26_0 : ∀ q, q < 95 → pX 26 (0 + q) = true := by decide +kernel
theorem pCm26 (pc : Nat) (h : pc < pTop 26) : pX 26 pc = true := by
 replace h : pc < 95 := h
 have q := pC26_0 (pc - 0) (by omega)
 rwa [show 0 + (pc - 0) = pc from by omega] at q
set_option maxRecDepth 100000 in
set_option maxHeartbeats 4000000 in
theorem pC27_0 : ∀ q, q < 24 → pX 27 (0 + q) = true := by decide +kernel
theorem pCm27 (pc : Nat) (h : pc < pTop 27) : pX 27 pc = true := by
 replace h : pc < 24 := h
 have q := pC27_0 (pc - 0) (by omega)
 rwa [show 0 + (pc - 0) = pc from by omega] at q
set_option maxRecDepth 100000 in
set_option maxHeartbeats 4000000 in
theorem pC28_0 : ∀ q, q < 54 → pX 28 (0 + q) = true := by decide +kernel
theorem pCm28 (pc : Nat) (h : pc < pTop 28) : pX 28 pc = true := by
 replace h : pc < 54 := h
 have q := pC28_0 (pc - 0) (by omega)
 rwa [show 0 + (pc - 0) = pc from by omega] at q
set_option maxRecDepth 100000 in
set_option maxHeartbeats 4000000 in
theorem pC29_0 : ∀ q, q < 111 → pX 29 (0 + q) = true := by decide +kernel
theorem pCm29 (pc : Nat) (h : pc < pTop 29) : pX 29 pc = true := by
 replace h : pc < 111 := h
 have q := pC29_0 (pc - 0) (by omega)
 rwa [show 0 + (pc - 0) = pc from by omega] at q
set_option maxRecDepth 100000 in
set_option maxHeartbeats 4000000 in
theorem pC30_0 : ∀ q, q < 36 → pX 30 (0 + q) = true := by decide +kernel
theorem pCm30 (pc : Nat) (h : pc < pTop 30) : pX 30 pc = true := by
 replace h : pc < 36 := h
 have q := pC30_0 (pc - 0) (by omega)
 rwa [show 0 + (pc - 0) = pc from by omega] at q
set_option maxRecDepth 100000 in
set_option maxHeartbeats 4000000 in
theorem pC31_0 : ∀ q, q < 36 → pX 31 (0 + q) = true := by decide +kernel
theorem pCm31 (pc : Nat) (h : pc < pTop 31) : pX 31 pc = true := by
 replace h : pc < 36 := h
 have q := pC31_0 (pc - 0) (by omega)
 rwa [show 0 + (pc - 0) = pc from by omega] at q
set_option maxRecDepth 100000 in
set_option maxHeartbeats 4000000 in
theorem pC32_0 : ∀ q, q < 30 → pX 32 (0 + q) = true := by decide +kernel
theorem pCm32 (pc : Nat) (h : pc < pTop 32) : pX 32 pc = true := by
 replace h : pc < 30 := h
 have q := pC32_0 (pc - 0) (by omega)
 rwa [show 0 + (pc - 0) = pc from by omega] at q
set_option maxRecDepth 100000 in
set_option maxHeartbeats 4000000 in
theorem pC33_0 : ∀ q, q < 17 → pX 33 (0 + q) = true := by decide +kernel
theorem pCm33 (pc : Nat) (h : pc < pTop 33) : pX 33 pc = true := by
 replace h : pc < 17 := h
 have q := pC33_0 (pc - 0) (by omega)
 rwa [show 0 + (pc - 0) = pc from by omega] at q
theorem pChk0 : ∀ m, m < pN → ∀ pc, pc < pTop m → (match pCode m pc with | some t => qchk m pc t.1 t.2 | none => true) = true := by
 intro m hm pc hp
 change pX m pc = true
 match m, hm, hp with
 | 0, _, hp => exact pCm0 pc hp
 | 1, _, hp => exact pCm1 pc hp
 | 2, _, hp => exact pCm2 pc hp
 | 3, _, hp => exact pCm3 pc hp
 | 4, _, hp => exact pCm4 pc hp
 | 5, _, hp => exact pCm5 pc hp
 | 6, _, hp => exact pCm6 pc hp
 | 7, _, hp => exact pCm7 pc hp
 | 8, _, hp => exact pCm8 pc hp
 | 9, _, hp => exact pCm9 pc hp
 | 10, _, hp => exact pCm10 pc hp
 | 11, _, hp => exact pCm11 pc hp
 | 12, _, hp => exact pCm12 pc hp
 | 13, _, hp => exact pCm13 pc hp
 | 14, _, hp => exact pCm14 pc hp
 | 15, _, hp => exact pCm15 pc hp
 | 16, _, hp => exact pCm16 pc hp
 | 17, _, hp => exact pCm17 pc hp
 | 18, _, hp => exact pCm18 pc hp
 | 19, _, hp => exact pCm19 pc hp
 | 20, _, hp => exact pCm20 pc hp
 | 21, _, hp => exact pCm21 pc hp
 | 22, _, hp => exact pCm22 pc hp
 | 23, _, hp => exact pCm23 pc hp
 | 24, _, hp => exact pCm24 pc hp
 | 25, _, hp => exact pCm25 pc hp
 | 26, _, hp => exact pCm26 pc hp
 | 27, _, hp => exact pCm27 pc hp
 | 28, _, hp => exact pCm28 pc hp
 | 29, _, hp => exact pCm29 pc hp
 | 30, _, hp => exact pCm30 pc hp
 | 31, _, hp => exact pCm31 pc hp
 | 32, _, hp => exact pCm32 pc hp
 | 33, _, hp => exact pCm33 pc hp
 | m + 34, hm, _ => exact absurd hm (by unfold pN; omega)
theorem pIn {m pc : Nat} {t : Instr × Nat} (h : pCode m pc = some t) : m < pN ∧ pc < pTop m := by
 unfold pCode at h
 cases h1 : Nat.ble pN m with
 | true => rw [h1] at h; cases h
 | false =>
  cases h2 : Nat.ble (pTop m) pc with
  | true => rw [h1, h2] at h; cases h
  | false => exact ⟨Nat.lt_of_not_le (fun q => by rw [Nat.ble_eq_true_of_le q] at h1; cases h1), Nat.lt_of_not_le (fun q => by rw [Nat.ble_eq_true_of_le q] at h2; cases h2)⟩
theorem pChk {m pc : Nat} {i : Instr} {aux : Nat} (h : pCode m pc = some (i, aux)) : qchk m pc i aux = true := by
 have q := pChk0 m (pIn h).1 pc (pIn h).2
 rw [h] at q
 exact q
theorem pDec {m pc : Nat} {i : Instr} {aux : Nat} (h : pCode m pc = some (i, aux)) : decode (pBytes m) pc = .ok (i, ilen i) := by
 have q := pChk h
 unfold qchk at q
 exact of_decide_eq_true (Bool.and_eq_true_iff.mp q).1
theorem pDecN {m pc n : Nat} {i : Instr} {aux : Nat} (h : pCode m pc = some (i, aux)) (hn : ilen i = n) : decode (pBytes m) pc = .ok (i, n) := by
 rw [← hn]; exact pDec h
theorem pRest {m pc : Nat} {i : Instr} {aux : Nat} (h : pCode m pc = some (i, aux)) : qlk m pc i aux = true := by
 have q := pChk h
 unfold qchk at q
 exact (Bool.and_eq_true_iff.mp q).2
theorem qtgt_spec {pc : Nat} {o : Int} {aux : Nat} (h : qtgt pc o aux = true) : 0 ≤ (pc : Int) + o ∧ ((pc : Int) + o).toNat = aux := by
 unfold qtgt at h
 have h2 := Bool.and_eq_true_iff.mp h
 exact ⟨of_decide_eq_true h2.1, of_decide_eq_true h2.2⟩
def QCx (Z : State) (p : Program) (R : Room) (s : State) (mid : MethodId) (meth : Method) (c : Code) (m : Nat) : Prop :=
 p.tables.exec = Jvm.exec ∧ Z.Warmed39 s.vm ∧ c.code = pBytes m ∧ c.maxLocals = pMaxL m ∧ meth.sig.returnType = pRet m ∧ s.vm.findClass (kName (pK m)) = some mid.cls ∧ meth.name = pNm m ∧ pFr m ≤ R.frames ∧ pLo m ≤ R.locals
def QTri (l : Launch) (Z : State) (n0 : Nat) (ad : Nat → Addr) (m : Nat) (st : QSt) (v : Option Value) (σ' : QHeap) : Prop :=
 st.2.2.2.length ≤ σ'.length ∧ qhs st.2.2.2 ≤ qhs σ' ∧
 ∀ (p : Program) (e : Env) (R : Room) (s : State) (mid : MethodId) (args : Array Value) (below : List Frame) (meth : Method) (c : Code) (T : State) (locs : List Loc) (cells slots : Nat) (C : Array Slot),
  QCx Z p R s mid meth c m → Stand p l e R s mid args below meth c T locs cells slots → QRep Z n0 ad T.heap st.2.2.2 → Fr n0 locs → QLocOk ad st.2.1 C → C.size = c.maxLocals →
  n0 + (st.2.2.2.length - k0) = s.heap.size + cells → cells + (σ'.length - st.2.2.2.length) ≤ R.cells → slots + (qhs σ' - qhs st.2.2.2) ≤ R.slots →
  ∃ T' locs', Stand p l e R s mid args below meth c T' locs' (cells + (σ'.length - st.2.2.2.length)) (slots + (qhs σ' - qhs st.2.2.2)) ∧ QRep Z n0 ad T'.heap σ' ∧ Fr n0 locs' ∧
   ∀ fs, (∀ (f : JFrame) (acts : List Action), f.method = mid → f.locked = none → f.entered = [] → (doReturn e (T'.setTop f) acts (v.map (qv ad))).1 = T'.setFrames fs) →
    Steps p.tables e below (T.setTop (mkF mid st.1 C (st.2.2.1.map (qv ad)))) (T'.setFrames fs)
section Triples
variable {l : Launch} {Z : State} {n0 : Nat} {ad : Nat → Addr} {a0 : Array Value} {m : Nat} {v : Option Value} {σ' : QHeap}
theorem QTri.gen {st st' : QSt} (h : QTri l Z n0 ad m st' v σ') (g1 : st.2.2.2.length ≤ st'.2.2.2.length) (g2 : qhs st.2.2.2 ≤ qhs st'.2.2.2)
  (hs : ∀ (p : Program) (e : Env) (R : Room) (s : State) (mid : MethodId) (args : Array Value) (below : List Frame) (meth : Method) (c : Code) (T : State) (locs : List Loc) (cells slots : Nat) (C : Array Slot),
   QCx Z p R s mid meth c m → Stand p l e R s mid args below meth c T locs cells slots → QRep Z n0 ad T.heap st.2.2.2 → Fr n0 locs → QLocOk ad st.2.1 C → C.size = c.maxLocals →
   n0 + (st.2.2.2.length - k0) = s.heap.size + cells → cells + (st'.2.2.2.length - st.2.2.2.length) ≤ R.cells → slots + (qhs st'.2.2.2 - qhs st.2.2.2) ≤ R.slots →
   ∃ T₁ locs₁ C₁, Stand p l e R s mid args below meth c T₁ locs₁ (cells + (st'.2.2.2.length - st.2.2.2.length)) (slots + (qhs st'.2.2.2 - qhs st.2.2.2)) ∧ QRep Z n0 ad T₁.heap st'.2.2.2 ∧ Fr n0 locs₁ ∧ QLocOk ad st'.2.1 C₁ ∧ C₁.size = c.maxLocals ∧
    ∀ target, Steps p.tables e below (T₁.setTop (mkF mid st'.1 C₁ (st'.2.2.1.map (qv ad)))) target → Steps p.tables e below (T.setTop (mkF mid st.1 C (st.2.2.1.map (qv ad)))) target) :
  QTri l Z n0 ad m st v σ' := by
 obtain ⟨h1, h2, h3⟩ := h
 refine ⟨Nat.le_trans g1 h1, Nat.le_trans g2 h2, fun p e R s mid args below meth c T locs cells slots C hcx X hR hF hL hC hn hc hsl => ?_⟩
 obtain ⟨T₁, locs₁, C₁, X₁, R₁, F₁, L₁, C1, S₁⟩ := hs p e R s mid args below meth c T locs cells slots C hcx X hR hF hL hC hn (by omega) (by omega)
 have hk := hR.1.1
 obtain ⟨T', locs', X', R', F', S'⟩ := h3 p e R s mid args below meth c T₁ locs₁ _ _ C₁ hcx X₁ R₁ F₁ L₁ C1 (by omega) (by omega) (by omega)
 have e1 : cells + (st'.2.2.2.length - st.2.2.2.length) + (σ'.length - st'.2.2.2.length) = cells + (σ'.length - st.2.2.2.length) := by omega
 have e2 : slots + (qhs st'.2.2.2 - qhs st.2.2.2) + (qhs σ' - qhs st'.2.2.2) = slots + (qhs σ' - qhs st.2.2.2) := by omega
 rw [e1, e2] at X'
 exact ⟨T', locs', X', R', F', fun fs hf => S₁ _ (S' fs hf)⟩
theorem QTri.pure {st st' : QSt} (h : QTri l Z n0 ad m st' v σ') (hσ : st'.2.2.2 = st.2.2.2)
  (hs : ∀ (p : Program) (e : Env) (R : Room) (s : State) (mid : MethodId) (args : Array Value) (below : List Frame) (meth : Method) (c : Code) (T : State) (locs : List Loc) (cells slots : Nat) (C : Array Slot),
   QCx Z p R s mid meth c m → Stand p l e R s mid args below meth c T locs cells slots → QRep Z n0 ad T.heap st.2.2.2 → QLocOk ad st.2.1 C → C.size = c.maxLocals →
   ∃ T₁ C₁, Stand p l e R s mid args below meth c T₁ locs cells slots ∧ T₁.heap = T.heap ∧ QLocOk ad st'.2.1 C₁ ∧ C₁.size = c.maxLocals ∧
    ∀ target, Steps p.tables e below (T₁.setTop (mkF mid st'.1 C₁ (st'.2.2.1.map (qv ad)))) target → Steps p.tables e below (T.setTop (mkF mid st.1 C (st.2.2.1.map (qv ad)))) target) :
  QTri l Z n0 ad m st v σ' := by
 refine QTri.gen h (by rw [hσ]; exact Nat.le_refl _) (by rw [hσ]; exact Nat.le_refl _) fun p e R s mid args below meth c T locs cells slots C hcx X hR hF hL hC hn hc hsl => ?_
 obtain ⟨T₁, C₁, X₁, hh, L₁, C1, S₁⟩ := hs p e R s mid args below meth c T locs cells slots C hcx X hR hL hC
 refine ⟨T₁, locs, C₁, ?_, by rw [hσ, hh]; exact hR, hF, L₁, C1, S₁⟩
 rw [hσ, Nat.sub_self, Nat.sub_self]
 exact X₁
theorem QTri.frame {pc pc' : Nat} {L L' : QLoc} {S S' : List Value} {σ : QHeap} (h : QTri l Z n0 ad m (pc', L', S', σ) v σ')
  (hs : ∀ (p : Program) (e : Env) (R : Room) (s : State) (mid : MethodId) (args : Array Value) (below : List Frame) (meth : Method) (c : Code) (T : State) (locs : List Loc) (cells slots : Nat) (C : Array Slot),
   QCx Z p R s mid meth c m → Stand p l e R s mid args below meth c T locs cells slots → QRep Z n0 ad T.heap σ → QLocOk ad L C → C.size = c.maxLocals →
   ∃ C₁, QLocOk ad L' C₁ ∧ C₁.size = c.maxLocals ∧ ∀ target, Steps p.tables e below (T.setTop (mkF mid pc' C₁ (S'.map (qv ad)))) target → Steps p.tables e below (T.setTop (mkF mid pc C (S.map (qv ad)))) target) :
  QTri l Z n0 ad m (pc, L, S, σ) v σ' :=
 QTri.pure h rfl fun p e R s mid args below meth c T locs cells slots C hcx X hR hL hC => by
  obtain ⟨C₁, h1, h2, h3⟩ := hs p e R s mid args below meth c T locs cells slots C hcx X hR hL hC
  exact ⟨T, C₁, X, rfl, h1, h2, h3⟩
theorem QTri.stack {pc pc' : Nat} {L : QLoc} {S S' : List Value} {σ : QHeap} (h : QTri l Z n0 ad m (pc', L, S', σ) v σ')
  (hs : ∀ (p : Program) (e : Env) (R : Room) (s : State) (mid : MethodId) (args : Array Value) (below : List Frame) (meth : Method) (c : Code) (T : State) (locs : List Loc) (cells slots : Nat) (C : Array Slot) (target : State),
   p.tables.exec = Jvm.exec → Z.Warmed39 s.vm → c.code = pBytes m → s.vm.findClass (kName (pK m)) = some mid.cls → Stand p l e R s mid args below meth c T locs cells slots → QRep Z n0 ad T.heap σ → QLocOk ad L C →
   Steps p.tables e below (T.setTop (mkF mid pc' C (S'.map (qv ad)))) target → Steps p.tables e below (T.setTop (mkF mid pc C (S.map (qv ad)))) target) :
  QTri l Z n0 ad m (pc, L, S, σ) v σ' :=
 QTri.frame h fun p e R s mid args below meth c T locs cells slots C hcx X hR hL hC => ⟨C, hL, hC, fun target k => hs p e R s mid args below meth c T locs cells slots C target hcx.1 hcx.2.1 hcx.2.2.1 hcx.2.2.2.2.2.1 X hR hL k⟩
theorem qload_inv {pc : Nat} {L : QLoc} {S : List Value} {σ : QHeap} {k : Nat} {ok : Value → Bool} {st' : QSt} (h : qload pc L S σ k ok = some st') : ∃ v, lget L k = some v ∧ ok v = true ∧ st' = (pc, L, v :: S, σ) := by
 unfold qload at h
 split at h
 ·rename_i v hv
  cases ho : ok v with
  | true => rw [ho] at h; cases h; exact ⟨v, hv, ho, rfl⟩
  | false => rw [ho] at h; cases h
 ·cases h
theorem qstore_inv {pc : Nat} {L : QLoc} {S : List Value} {σ : QHeap} {k : Nat} {ok : Value → Bool} {st' : QSt} (h : qstore pc L S σ k ok = some st') : ∃ v S' L', S = v :: S' ∧ ok v = true ∧ lput L k v = some L' ∧ st' = (pc, L', S', σ) := by
 unfold qstore at h
 split at h
 ·rename_i v S'
  cases ho : ok v with
  | true =>
   rw [ho] at h
   simp only [cond_true] at h
   split at h
   ·rename_i L' hL'
    cases h; exact ⟨v, S', L', rfl, ho, hL', rfl⟩
   ·cases h
  | false => rw [ho] at h; cases h
 ·cases h
theorem qbin_inv {pc : Nat} {L : QLoc} {S : List Value} {σ : QHeap} {f : Int32 → Int32 → Int32} {st' : QSt} (h : qbin pc L S σ f = some st') : ∃ x y S', S = .int y :: .int x :: S' ∧ st' = (pc, L, .int (f x y) :: S', σ) := by
 unfold qbin at h
 split at h
 ·cases h; exact ⟨_, _, _, rfl, rfl⟩
 ·cases h
theorem qbino_inv {pc : Nat} {L : QLoc} {S : List Value} {σ : QHeap} {f : Int32 → Int32 → Option Int32} {st' : QSt} (h : qbino pc L S σ f = some st') : ∃ x y z S', S = .int y :: .int x :: S' ∧ f x y = some z ∧ st' = (pc, L, .int z :: S', σ) := by
 unfold qbino at h
 split at h
 ·obtain ⟨z, hz, h⟩ := Option.bind_eq_some_iff.mp h
  cases h; exact ⟨_, _, _, _, rfl, hz, rfl⟩
 ·cases h
theorem qbinJ_inv {pc : Nat} {L : QLoc} {S : List Value} {σ : QHeap} {f : Int64 → Int64 → Int64} {st' : QSt} (h : qbinJ pc L S σ f = some st') : ∃ x y S', S = .long y :: .long x :: S' ∧ st' = (pc, L, .long (f x y) :: S', σ) := by
 unfold qbinJ at h
 split at h
 ·cases h; exact ⟨_, _, _, rfl, rfl⟩
 ·cases h
theorem qshJ_inv {pc : Nat} {L : QLoc} {S : List Value} {σ : QHeap} {f : Int64 → Int32 → Int64} {st' : QSt} (h : qshJ pc L S σ f = some st') : ∃ x y S', S = .int y :: .long x :: S' ∧ st' = (pc, L, .long (f x y) :: S', σ) := by
 unfold qshJ at h
 split at h
 ·cases h; exact ⟨_, _, _, rfl, rfl⟩
 ·cases h
theorem quni_inv {pc : Nat} {L : QLoc} {S : List Value} {σ : QHeap} {f : Int32 → Value} {st' : QSt} (h : quni pc L S σ f = some st') : ∃ x S', S = .int x :: S' ∧ st' = (pc, L, f x :: S', σ) := by
 unfold quni at h
 split at h
 ·cases h; exact ⟨_, _, rfl, rfl⟩
 ·cases h
theorem quniJ_inv {pc : Nat} {L : QLoc} {S : List Value} {σ : QHeap} {f : Int64 → Value} {st' : QSt} (h : quniJ pc L S σ f = some st') : ∃ x S', S = .long x :: S' ∧ st' = (pc, L, f x :: S', σ) := by
 unfold quniJ at h
 split at h
 ·cases h; exact ⟨_, _, rfl, rfl⟩
 ·cases h
theorem qif_inv {pc : Nat} {L : QLoc} {S : List Value} {σ : QHeap} {cd : ClassFile.Cond} {t : Nat} {st' : QSt} (h : qif pc L S σ cd t = some st') : ∃ x S', S = .int x :: S' ∧ st' = (bif ifCond.holds cd x then t else pc, L, S', σ) := by
 unfold qif at h
 split at h
 ·cases h; exact ⟨_, _, rfl, rfl⟩
 ·cases h
theorem qicmp_inv {pc : Nat} {L : QLoc} {S : List Value} {σ : QHeap} {cd : ClassFile.Cond} {t : Nat} {st' : QSt} (h : qicmp pc L S σ cd t = some st') : ∃ x y S', S = .int y :: .int x :: S' ∧ st' = (bif if_icmp.holds cd x y then t else pc, L, S', σ) := by
 unfold qicmp at h
 split at h
 ·cases h; exact ⟨_, _, _, rfl, rfl⟩
 ·cases h
theorem qget_inv {pc : Nat} {L : QLoc} {S : List Value} {σ : QHeap} {k : Nat} {st' : QSt} (h : qget pc L S σ k = some st') : ∃ a S' vs v, S = .ref a :: S' ∧ hget σ a = some (.inl vs) ∧ vget vs k = some v ∧ st' = (pc, L, v :: S', σ) := by
 unfold qget at h
 split at h
 ·split at h
  ·split at h
   ·cases h; exact ⟨_, _, _, _, rfl, by assumption, by assumption, rfl⟩
   ·cases h
  ·cases h
 ·cases h
theorem qput_inv {pc : Nat} {L : QLoc} {S : List Value} {σ : QHeap} {k : Nat} {st' : QSt} (h : qput pc L S σ k = some st') : ∃ v a S' vs w, S = v :: .ref a :: S' ∧ hget σ a = some (.inl vs) ∧ k0 ≤ a ∧ k < vs.length ∧ qfit (fTy k) v = some w ∧ st' = (pc, L, S', σ.set a (.inl (vs.set k w))) := by
 unfold qput at h
 split at h
 ·rename_i v a S'
  split at h
  ·rename_i vs hvs
   cases hbb : (Nat.ble k0 a && Nat.ble (k + 1) vs.length) with
   | false => rw [hbb] at h; cases h
   | true =>
    rw [hbb] at h
    simp only [cond_true] at h
    obtain ⟨u, hu, h⟩ := Option.bind_eq_some_iff.mp h
    cases h
    obtain ⟨b1, b2⟩ := Bool.and_eq_true_iff.mp hbb
    exact ⟨v, a, S', vs, u, rfl, hvs, Nat.le_of_ble_eq_true b1, Nat.le_of_ble_eq_true b2, hu, rfl⟩
  ·cases h
 ·cases h
theorem qald_inv {pc : Nat} {L : QLoc} {S : List Value} {σ : QHeap} {ok : FieldType → Bool} {st' : QSt} (h : qald pc L S σ ok = some st') : ∃ j a S' ty xs v, S = .int j :: .ref a :: S' ∧ hget σ a = some (.inr (.inl (ty, xs))) ∧ ok ty = true ∧ aget xs j = some v ∧ st' = (pc, L, .int v :: S', σ) := by
 unfold qald at h
 split at h
 ·rename_i j a S'
  split at h
  ·rename_i x hx
   cases ht : ok x.1 with
   | false => rw [ht] at h; cases h
   | true =>
    rw [ht] at h
    simp only [cond_true] at h
    obtain ⟨u, hu, h⟩ := Option.bind_eq_some_iff.mp h
    cases h
    exact ⟨j, a, S', x.1, x.2, u, rfl, hx, ht, hu, rfl⟩
  ·cases h
 ·cases h
theorem qaldJ_inv {pc : Nat} {L : QLoc} {S : List Value} {σ : QHeap} {st' : QSt} (h : qaldJ pc L S σ = some st') : ∃ j a S' xs v, S = .int j :: .ref a :: S' ∧ hget σ a = some (.inr (.inr xs)) ∧ aget xs j = some v ∧ st' = (pc, L, .long v :: S', σ) := by
 unfold qaldJ at h
 split at h
 ·rename_i j a S'
  split at h
  ·rename_i x hx
   obtain ⟨u, hu, h⟩ := Option.bind_eq_some_iff.mp h
   cases h
   exact ⟨j, a, S', x, u, rfl, hx, hu, rfl⟩
  ·cases h
 ·cases h
theorem qast_inv {pc : Nat} {L : QLoc} {S : List Value} {σ : QHeap} {ok : FieldType → Bool} {st' : QSt} (h : qast pc L S σ ok = some st') : ∃ v j a S' ty xs ys, S = .int v :: .int j :: .ref a :: S' ∧ hget σ a = some (.inr (.inl (ty, xs))) ∧ ok ty = true ∧ k0 ≤ a ∧ aset xs j (qnar ty v) = some ys ∧ st' = (pc, L, S', σ.set a (.inr (.inl (ty, ys)))) := by
 unfold qast at h
 split at h
 ·rename_i v j a S'
  split at h
  ·rename_i x hx
   cases ht : (ok x.1 && Nat.ble k0 a) with
   | false => rw [ht] at h; cases h
   | true =>
    rw [ht] at h
    simp only [cond_true] at h
    obtain ⟨u, hu, h⟩ := Option.bind_eq_some_iff.mp h
    cases h
    obtain ⟨b1, b2⟩ := Bool.and_eq_true_iff.mp ht
    exact ⟨v, j, a, S', x.1, x.2, u, rfl, hx, b1, Nat.le_of_ble_eq_true b2, hu, rfl⟩
  ·cases h
 ·cases h
theorem qastJ_inv {pc : Nat} {L : QLoc} {S : List Value} {σ : QHeap} {st' : QSt} (h : qastJ pc L S σ = some st') : ∃ v j a S' xs ys, S = .long v :: .int j :: .ref a :: S' ∧ hget σ a = some (.inr (.inr xs)) ∧ k0 ≤ a ∧ aset xs j v = some ys ∧ st' = (pc, L, S', σ.set a (.inr (.inr ys))) := by
 unfold qastJ at h
 split at h
 ·rename_i v j a S'
  split at h
  ·rename_i x hx
   cases ht : (Nat.ble k0 a) with
   | false => rw [ht] at h; cases h
   | true =>
    rw [ht] at h
    simp only [cond_true] at h
    obtain ⟨u, hu, h⟩ := Option.bind_eq_some_iff.mp h
    cases h
    exact ⟨v, j, a, S', x, u, rfl, hx, Nat.le_of_ble_eq_true ht, hu, rfl⟩
  ·cases h
 ·cases h
theorem qlen_inv {pc : Nat} {L : QLoc} {S : List Value} {σ : QHeap} {st' : QSt} (h : qlen pc L S σ = some st') : ∃ a S' n, S = .ref a :: S' ∧ ((∃ ty xs, hget σ a = some (.inr (.inl (ty, xs))) ∧ n = xs.length) ∨ ∃ xs, hget σ a = some (.inr (.inr xs)) ∧ n = xs.length) ∧ st' = (pc, L, .int n.toInt32 :: S', σ) := by
 unfold qlen at h
 split at h
 ·rename_i a S'
  split at h
  ·rename_i x hx
   cases h; exact ⟨a, S', _, rfl, Or.inl ⟨x.1, x.2, hx, rfl⟩, rfl⟩
  ·rename_i x hx
   cases h; exact ⟨a, S', _, rfl, Or.inr ⟨x, hx, rfl⟩, rfl⟩
  ·cases h
 ·cases h
theorem isI_inv {v : Value} (h : isI v = true) : ∃ x, v = .int x := by cases v <;> simp [isI] at h; exact ⟨_, rfl⟩
theorem isJ_inv {v : Value} (h : isJ v = true) : ∃ x, v = .long x := by cases v <;> simp [isJ] at h; exact ⟨_, rfl⟩
theorem isR_inv {v : Value} (h : isR v = true) : ∃ x, v = .ref x := by cases v <;> simp [isR] at h; exact ⟨_, rfl⟩
theorem aget_inv {α : Type} {xs : List α} {j : Int32} {x : α} (h : aget xs j = some x) : ¬ j < 0 ∧ xs[j.toNatClampNeg]? = some x := by
 unfold aget at h
 split at h
 ·cases h
 ·rename_i q; exact ⟨q, h⟩
theorem aset_inv {α : Type} {xs ys : List α} {j : Int32} {x : α} (h : aset xs j x = some ys) : ¬ j < 0 ∧ j.toNatClampNeg < xs.length ∧ ys = xs.set j.toNatClampNeg x := by
 unfold aset at h
 split at h
 ·cases h
 ·rename_i q
  split at h
  ·rename_i q2; cases h; exact ⟨q, q2, rfl⟩
  ·cases h
theorem qnew_inv {n : Int32} {k : Nat} (h : qnew n = some k) : ¬ n < 0 ∧ n.toNatClampNeg = k ∧ k ≤ 67108864 := by
 unfold qnew at h
 split at h
 ·cases h
 ·rename_i q
  split at h
  ·rename_i q2; cases h; exact ⟨q, rfl, q2⟩
  ·cases h
theorem QCellOk.other {h h' : Heap} {a b : Addr} {sl : Nat} {w : Value} {c : QCell} (H : QCellOk Z ad h b c) (W : Wr h h' a sl w) (ne : b ≠ a) : QCellOk Z ad h' b c := by
 rcases c with vs | ⟨ty, xs⟩ | xs
 ·obtain ⟨h1, h2, h3⟩ := H
  exact ⟨h1.wr W, h2, fun k u hk hu => (h3 k u hk hu).other W (Or.inl ne)⟩
 ·obtain ⟨c, h1, h2⟩ := H
  exact ⟨c, h1.other W ne, h2⟩
 ·obtain ⟨c, h1, h2⟩ := H
  exact ⟨c, h1.other W ne, h2⟩
theorem QCellOk.ext {h h' : Heap} {b : Addr} {c : QCell} (H : QCellOk Z ad h b c) (E : Ext h h') : QCellOk Z ad h' b c := by
 rcases c with vs | ⟨ty, xs⟩ | xs
 ·obtain ⟨h1, h2, h3⟩ := H
  exact ⟨h1.ext E, h2, fun k u hk hu => (h3 k u hk hu).ext E⟩
 ·obtain ⟨c, h1, h2⟩ := H
  exact ⟨c, h1.ext E, h2⟩
 ·obtain ⟨c, h1, h2⟩ := H
  exact ⟨c, h1.ext E, h2⟩
theorem QRep.set {h h' : Heap} {σ : QHeap} {a : Nat} {sl : Nat} {w : Value} {c d : QCell} (H : QRep Z n0 ad h σ) (Ad : QAd n0 ad) (W : Wr h h' (ad a) sl w) (hc : hget σ a = some c) (hd : QCellOk Z ad h' (ad a) d) : QRep Z n0 ad h' (σ.set a d) := by
 obtain ⟨h1, h2, h3⟩ := H
 refine ⟨by rw [List.length_set]; exact h1, by rw [W.size, h2]; simp, fun k e he => ?_⟩
 rw [hget_set hc] at he
 split at he
 ·rename_i q; cases he; rw [q]; exact hd
 ·rename_i q; exact (h3 k e he).other W fun z => q (Ad.2 _ _ z)
theorem QRep.push {h h' : Heap} {σ : QHeap} {c : QCell} (H : QRep Z n0 ad h σ) (Ad : QAd n0 ad) (E : Ext h h') (hs : h'.size = h.size + 1) (hc : QCellOk Z ad h' h.size c) : QRep Z n0 ad h' (σ ++ [c]) := by
 obtain ⟨h1, h2, h3⟩ := H
 have h11 := h1.1
 refine ⟨⟨by simp; omega, fun k hk => h1.2 k (by simp at hk; omega)⟩, by rw [hs, h2]; simp; omega, fun k e he => ?_⟩
 rw [hget_eq] at he
 rcases Nat.lt_or_ge k σ.length with q | q
 ·rw [List.getElem?_append_left q, ← hget_eq] at he
  exact (h3 k e he).ext E
 ·rw [List.getElem?_append_right q] at he
  obtain rfl : k = σ.length := by
   rcases Nat.lt_or_ge (k - σ.length) 1 with z | z
   ·omega
   ·rw [List.getElem?_eq_none (by simpa using z)] at he; cases he
  simp at he
  rw [← he, h1.2 _ (Nat.le_refl _), ← h2]
  exact hc
theorem mem_of_contains {α : Type} [BEq α] [LawfulBEq α] {L : List α} {a : α} (h : L.contains a = true) : a ∈ L := by simpa using h
theorem lkF_lt : ∀ t ∈ lkF, t.2.2 < nF := by decide +kernel
theorem laid_of (W : QW Z a0) {k : Nat} (hk : k < nF) : Laid Z a0 cName cName (fNm k) (fDs k) := by
 have q := (qw_lay W) k hk
 cases hf : fFin k with
 | true => rw [hf] at q; exact Or.inr q
 | false => rw [hf] at q; exact Or.inl q
theorem qfit_inv {ty : FieldType} {v w : Value} (h : qfit ty v = some w) : v = w ∧ narrow ty (qv ad w) = qv ad w ∧ fits ty (qv ad w) = true := by
 unfold qfit at h
 split at h
 ·cases h; exact ⟨rfl, rfl, rfl⟩
 ·rename_i x
  obtain ⟨y, hy, h⟩ := Option.bind_eq_some_iff.mp h
  cases h
  unfold qboo at hy
  split at hy
  ·rename_i e; cases hy; subst e; exact ⟨rfl, rfl, rfl⟩
  ·split at hy
   ·rename_i e; cases hy; subst e; exact ⟨rfl, rfl, rfl⟩
   ·cases hy
 ·cases h; exact ⟨rfl, rfl, rfl⟩
 ·cases h; exact ⟨rfl, rfl, rfl⟩
 ·cases h
theorem vget_set {vs : List Value} {k j : Nat} {w : Value} (hk : k < vs.length) : vget (vs.set k w) j = if j = k then some w else vget vs j := by
 simp only [vget_eq, List.getElem?_set]
 by_cases e : k = j
 ·subst e; simp [hk]
 ·simp [e, Ne.symm e]
theorem ald_in {α : Type} {f : α → Value} {xs : List α} {c : Cell} {j : Int32} {x : α} (hc : c.slots = (xs.map f).toArray) (h : aget xs j = some x) : ¬ (j < 0 ∨ c.slots.size ≤ j.toNatClampNeg) ∧ c.slots[j.toNatClampNeg]? = some (f x) := by
 obtain ⟨h1, h2⟩ := aget_inv h
 have h3 := (List.getElem?_eq_some_iff.mp h2).1
 refine ⟨fun q => ?_, by rw [hc]; simp [h2]⟩
 rcases q with q | q
 ·exact h1 q
 ·rw [hc] at q; simp at q; omega
theorem ast_in {α : Type} {f : α → Value} {xs ys : List α} {c : Cell} {j : Int32} {x : α} (hc : c.slots = (xs.map f).toArray) (h : aset xs j x = some ys) : ¬ (j < 0 ∨ c.slots.size ≤ j.toNatClampNeg) ∧ (c.setSlot j.toNatClampNeg (f x)).slots = (ys.map f).toArray := by
 obtain ⟨h1, h2, rfl⟩ := aset_inv h
 refine ⟨fun q => ?_, by simp [Cell.setSlot, hc, List.map_set]⟩
 rcases q with q | q
 ·exact h1 q
 ·rw [hc] at q; simp at q; omega
theorem qgrow {σ : QHeap} {c : QCell} : qhs (σ ++ [c]) - qhs σ = qsz c := by rw [qhs_app]; simp [qhs]
set_option maxHeartbeats 4000000 in
theorem QTri.newArr (Ad : QAd n0 ad) (W : QW Z a0) {pc aux : Nat} {L : QLoc} {S : List Value} {σ : QHeap} {aty : ArrayType} {n : Int32} {k : Nat} {c : QCell} (hk : qnew n = some k) (hc : pCode m pc = some (.newarray aty, aux)) (hz : qsz c = k)
  (hq : ∀ (h' : Heap) (a : Addr) (cA : ClassId), Arr Z h' a (newA cA (newarray.typeOf aty) n) (newarray.typeOf aty) → QCellOk Z ad h' a c)
  (h : QTri l Z n0 ad m (pc + 2, L, .ref σ.length :: S, σ ++ [c]) v σ') : QTri l Z n0 ad m (pc, L, .int n :: S, σ) v σ' := by
 have hd : decode (pBytes m) pc = .ok (.newarray aty, 2) := pDecN hc rfl
 obtain ⟨n1, n2, n3⟩ := qnew_inv hk
 refine QTri.gen h (by simp) (by simp [qhs_app]) fun p e R s mid args below meth c' T locs cells slots C hcx X hR hF hL hC hn hc1 hsl => ?_
 obtain ⟨hx, hZ, hby, hml, hret, hown, hnm, hfr, hlo⟩ := hcx
 have hd2 : decode c'.code pc = .ok (.newarray aty, 2) := by rw [hby]; exact hd
 simp only [List.length_append, List.length_singleton, Nat.add_sub_cancel_left, qgrow, hz] at hc1 hsl ⊢
 obtain ⟨T₁, h₁, cA, X₁, e₁, E₁, A₁, st⟩ := newP X hx hZ (aty := aty) (qw_arr W (newarray.typeOf aty) (mem_of_contains (show aTys.contains (newarray.typeOf aty) = true from pRest hc))) rfl (g := mkF mid pc C (.int n :: S.map (qv ad))) rfl hd2 rfl n1 (cap := k) (by omega) (by omega) hc1 hsl
 have hsz : h₁.size = T.heap.size + 1 := by
  have q1 := X₁.heapSize
  have q2 : T.heap.size < h₁.size := A₁.lt
  have q3 := hR.2.1
  rw [e₁] at q1
  have : n0 + (σ.length - k0) = s.heap.size + cells := hn
  have q3' : T.heap.size = n0 + (σ.length - k0) := q3
  omega
 refine ⟨T₁, locs, C, X₁, ?_, hF, hL, hC, fun target q => ?_⟩
 ·rw [e₁]; exact QRep.push hR Ad E₁ hsz (hq _ _ _ A₁)
 ·refine st _ ?_
  have e2 : ad σ.length = T.heap.size := by rw [hR.1.2 _ (Nat.le_refl _)]; exact hR.2.1.symm
  simp only [List.map_cons, qv, e2] at q
  exact q
set_option maxHeartbeats 4000000 in
theorem QTri.getfield (W : QW Z a0) {pc idx aux : Nat} {L : QLoc} {S : List Value} {σ : QHeap} {st' : QSt} (h : QTri l Z n0 ad m st' v σ') (hc : pCode m pc = some (.getfield idx, aux)) (hs : qget (pc + 3) L S σ aux = some st') : QTri l Z n0 ad m (pc, L, S, σ) v σ' := by
 have hd : decode (pBytes m) pc = .ok (.getfield idx, 3) := pDecN hc rfl
 obtain ⟨a, S', vs, w, rfl, hvs, hw, rfl⟩ := qget_inv hs
 have hm := mem_of_contains (show lkF.contains (pK m, idx, aux) = true from pRest hc)
 have hlt := lkF_lt _ hm
 refine QTri.pure h rfl fun p e R s mid args below meth c T locs cells slots C hcx X hR hL hC => ?_
 obtain ⟨hx, hZ, hby, hml, hret, hown, hnm, hfr, hlo⟩ := hcx
 have hd2 : decode c.code pc = .ok (.getfield idx, 3) := by rw [hby]; exact hd
 have F := (hR.2.2 _ _ hvs).2.2 aux w hlt hw
 obtain ⟨T₁, X₁, e₁, st⟩ := getF X hx hZ hown (host := "") (index := idx) (Or.inl (qw_fl W (pK m, idx, aux) hm)) Via.refl rfl F (g := mkF mid pc C (List.map (qv ad) (.ref a :: S'))) rfl rfl hd2
 exact ⟨T₁, C, X₁, e₁, hL, hC, st⟩
set_option maxHeartbeats 4000000 in
theorem QTri.putfield (Ad : QAd n0 ad) (W : QW Z a0) {pc idx aux : Nat} {L : QLoc} {S : List Value} {σ : QHeap} {st' : QSt} (h : QTri l Z n0 ad m st' v σ') (hc : pCode m pc = some (.putfield idx, aux)) (hs : qput (pc + 3) L S σ aux = some st') : QTri l Z n0 ad m (pc, L, S, σ) v σ' := by
 have hd : decode (pBytes m) pc = .ok (.putfield idx, 3) := pDecN hc rfl
 obtain ⟨w, a, S', vs, u, rfl, hvs, b1, b2, hu, rfl⟩ := qput_inv hs
 obtain ⟨r1, r2⟩ := Bool.and_eq_true_iff.mp (show (lkF.contains (pK m, idx, aux) && (!fFin aux || (pK m == 1 && pNm m == "<init>"))) = true from pRest hc)
 have hm := mem_of_contains r1
 have hlt := lkF_lt _ hm
 obtain ⟨rfl, q2, q3⟩ := qfit_inv (ad := ad) hu
 have hsz : qhs (σ.set a (Sum.inl (vs.set aux w))) = qhs σ := qhs_set hvs rfl
 refine QTri.gen h (by simp) (by show qhs σ ≤ qhs (σ.set a (Sum.inl (vs.set aux w))); rw [hsz]; exact Nat.le_refl _) fun p e R s mid args below meth c T locs cells slots C hcx X hR hF hL hC hn hc1 hsl => ?_
 obtain ⟨hx, hZ, hby, hml, hret, hown, hnm, hfr, hlo⟩ := hcx
 have hd2 : decode c.code pc = .ok (.putfield idx, 3) := by rw [hby]; exact hd
 obtain ⟨E, l1, Fs⟩ := hR.2.2 _ _ hvs
 obtain ⟨old, hold⟩ : ∃ old, vget vs aux = some old := by rw [vget_eq]; exact ⟨_, List.getElem?_eq_getElem b2⟩
 have lay : (Cond.lays cName cName (fNm aux) (fDs aux)).before a0 Z = true ∨ ((Cond.laysFinal cName cName (fNm aux) (fDs aux)).before a0 Z = true ∧ kName (pK m) = cName ∧ meth.name = "<init>") := by
  have q := (qw_lay W) aux hlt
  cases hf : fFin aux with
  | false => rw [hf] at q; exact Or.inl q
  | true =>
   rw [hf] at q r2
   simp at r2
   exact Or.inr ⟨q, by rw [r2.1]; exact kOne, by rw [hnm]; exact r2.2⟩
 obtain ⟨T₁, h₁, X₁, e₁, W₁, st⟩ := putF X hx hZ hown (host := "") (index := idx) (Or.inl (qw_fl W (pK m, idx, aux) hm)) Via.refl rfl (Fs aux old hlt hold) E lay ((qw_inst W)) (fPrs aux hlt) q2 q3 (g := mkF mid pc C (List.map (qv ad) (w :: .ref a :: S'))) rfl rfl hd2
 refine ⟨T₁, _, C, ?_, ?_, Fr.snoc X₁ hF (Ad.1 a b1), hL, hC, st⟩
 ·show Stand _ _ _ _ _ _ _ _ _ _ _ _ (cells + ((σ.set a (Sum.inl (vs.set aux w))).length - σ.length)) (slots + (qhs (σ.set a (Sum.inl (vs.set aux w))) - qhs σ))
  rw [hsz, Nat.sub_self, List.length_set, Nat.sub_self]
  exact X₁
 ·rw [e₁]
  refine QRep.set hR Ad W₁ hvs ⟨E.wr W₁, by simpa using l1, fun k u hk hu => ?_⟩
  rw [vget_set b2] at hu
  split at hu
  ·rename_i e; cases hu; rw [e]; exact (Fs aux old hlt hold).same W₁
  ·rename_i ne
   exact (Fs k u hk hu).other W₁ (Or.inr (slot_ne (laid_of W hk) (laid_of W hlt) (fun z => ne (fInj _ hk _ hlt z)) (fPrs _ hk) (fPrs _ hlt)))
theorem tyI_inv {ty : FieldType} (h : tyI ty = true) : ty = .int := by cases ty <;> simp [tyI] at h; rfl
theorem tyB_inv {ty : FieldType} (h : tyB ty = true) : ty = .boolean ∨ ty = .byte := by cases ty <;> simp [tyB] at h <;> simp
set_option maxHeartbeats 4000000 in
theorem QTri.iaload {pc aux : Nat} {L : QLoc} {S : List Value} {σ : QHeap} {st' : QSt} (h : QTri l Z n0 ad m st' v σ') (hc : pCode m pc = some (.iaload, aux)) (hs : qald (pc + 1) L S σ tyI = some st') : QTri l Z n0 ad m (pc, L, S, σ) v σ' := by
 have hd : decode (pBytes m) pc = .ok (.iaload, 1) := pDecN hc rfl
 obtain ⟨j, a, S', ty, xs, w, rfl, hx1, ht, hw, rfl⟩ := qald_inv hs
 obtain rfl := tyI_inv ht
 refine QTri.stack h fun p e R s mid args below meth c T locs cells slots C target hx hZ hby hown X hR hL k => ?_
 have hd2 : decode c.code pc = .ok (.iaload, 1) := by rw [hby]; exact hd
 obtain ⟨cl, A, hsl⟩ := hR.2.2 _ _ hx1
 obtain ⟨i1, i2⟩ := ald_in hsl hw
 exact X.iaload hx A.1 (State.isArrayOf_alike hZ.alike A.2.1) A.2.2 i1 i2 (g := mkF mid pc C (List.map (qv ad) (.int j :: .ref a :: S'))) rfl rfl hd2 _ k
set_option maxHeartbeats 4000000 in
theorem QTri.baload {pc aux : Nat} {L : QLoc} {S : List Value} {σ : QHeap} {st' : QSt} (h : QTri l Z n0 ad m st' v σ') (hc : pCode m pc = some (.baload, aux)) (hs : qald (pc + 1) L S σ tyB = some st') : QTri l Z n0 ad m (pc, L, S, σ) v σ' := by
 have hd : decode (pBytes m) pc = .ok (.baload, 1) := pDecN hc rfl
 obtain ⟨j, a, S', ty, xs, w, rfl, hx1, ht, hw, rfl⟩ := qald_inv hs
 refine QTri.stack h fun p e R s mid args below meth c T locs cells slots C target hx hZ hby hown X hR hL k => ?_
 have hd2 : decode c.code pc = .ok (.baload, 1) := by rw [hby]; exact hd
 obtain ⟨cl, A, hsl⟩ := hR.2.2 _ _ hx1
 obtain ⟨i1, i2⟩ := ald_in hsl hw
 rcases tyB_inv ht with rfl | rfl
 ·exact X.baloadBooleans hx A.1 (State.isArrayOf_alike hZ.alike A.2.1) A.2.2 i1 i2 (g := mkF mid pc C (List.map (qv ad) (.int j :: .ref a :: S'))) rfl rfl hd2 _ k
 ·exact X.baloadBytes hx A.1 (State.isArrayOf_alike hZ.alike A.2.1) A.2.2 i1 i2 (g := mkF mid pc C (List.map (qv ad) (.int j :: .ref a :: S'))) rfl rfl hd2 _ k
set_option maxHeartbeats 4000000 in
theorem QTri.laload {pc aux : Nat} {L : QLoc} {S : List Value} {σ : QHeap} {st' : QSt} (h : QTri l Z n0 ad m st' v σ') (hc : pCode m pc = some (.laload, aux)) (hs : qaldJ (pc + 1) L S σ = some st') : QTri l Z n0 ad m (pc, L, S, σ) v σ' := by
 have hd : decode (pBytes m) pc = .ok (.laload, 1) := pDecN hc rfl
 obtain ⟨j, a, S', xs, w, rfl, hx1, hw, rfl⟩ := qaldJ_inv hs
 refine QTri.stack h fun p e R s mid args below meth c T locs cells slots C target hx hZ hby hown X hR hL k => ?_
 have hd2 : decode c.code pc = .ok (.laload, 1) := by rw [hby]; exact hd
 obtain ⟨cl, A, hsl⟩ := hR.2.2 _ _ hx1
 obtain ⟨i1, i2⟩ := ald_in hsl hw
 exact X.laload hx A.1 (State.isArrayOf_alike hZ.alike A.2.1) A.2.2 i1 i2 (g := mkF mid pc C (List.map (qv ad) (.int j :: .ref a :: S'))) rfl rfl hd2 _ k
theorem QTri.stored (Ad : QAd n0 ad) {pc : Nat} {L : QLoc} {S S' : List Value} {σ : QHeap} {a j : Nat} {w : Value} {c d : QCell} (hx1 : hget σ a = some c) (b1 : k0 ≤ a) (hz : qsz d = qsz c) (h : QTri l Z n0 ad m (pc + 1, L, S', σ.set a d) v σ')
  (hs : ∀ (p : Program) (e : Env) (R : Room) (s : State) (mid : MethodId) (args : Array Value) (below : List Frame) (meth : Method) (c : Code) (T : State) (locs : List Loc) (cells slots : Nat) (C : Array Slot),
   QCx Z p R s mid meth c m → Stand p l e R s mid args below meth c T locs cells slots → QRep Z n0 ad T.heap σ →
   ∃ T' h', Stand p l e R s mid args below meth c T' (locs ++ [⟨ad a, j⟩]) cells slots ∧ T'.heap = h' ∧ Wr T.heap h' (ad a) j w ∧ QCellOk Z ad h' (ad a) d ∧ ∀ target, Steps p.tables e below (T'.setTop (mkF mid (pc + 1) C (S'.map (qv ad)))) target → Steps p.tables e below (T.setTop (mkF mid pc C (S.map (qv ad)))) target) :
  QTri l Z n0 ad m (pc, L, S, σ) v σ' := by
 have hsz : qhs (σ.set a d) = qhs σ := qhs_set hx1 hz
 refine QTri.gen h (by simp) (by show qhs σ ≤ qhs (σ.set a d); rw [hsz]; exact Nat.le_refl _) fun p e R s mid args below meth c T locs cells slots C hcx X hR hF hL hC hn hc1 hsl => ?_
 obtain ⟨T₁, h₁, X₁, e₁, W₁, Q₁, st⟩ := hs p e R s mid args below meth c T locs cells slots C hcx X hR
 refine ⟨T₁, _, C, ?_, ?_, Fr.snoc X₁ hF (Ad.1 a b1), hL, hC, st⟩
 ·show Stand _ _ _ _ _ _ _ _ _ _ _ _ (cells + ((σ.set a d).length - σ.length)) (slots + (qhs (σ.set a d) - qhs σ))
  rw [hsz, Nat.sub_self, List.length_set, Nat.sub_self]
  exact X₁
 ·rw [e₁]
  exact QRep.set hR Ad W₁ hx1 Q₁
set_option maxHeartbeats 4000000 in
theorem QTri.iastore (Ad : QAd n0 ad) {pc aux : Nat} {L : QLoc} {S : List Value} {σ : QHeap} {st' : QSt} (h : QTri l Z n0 ad m st' v σ') (hc : pCode m pc = some (.iastore, aux)) (hs : qast (pc + 1) L S σ tyI = some st') : QTri l Z n0 ad m (pc, L, S, σ) v σ' := by
 have hd : decode (pBytes m) pc = .ok (.iastore, 1) := pDecN hc rfl
 obtain ⟨w, j, a, S', ty, xs, ys, rfl, hx1, ht, b1, hw, rfl⟩ := qast_inv hs
 obtain rfl := tyI_inv ht
 refine QTri.stored Ad (j := j.toNatClampNeg) (w := .int w) hx1 b1 (by rw [(aset_inv hw).2.2]; simp [qsz]) h fun p e R s mid args below meth c T locs cells slots C hcx X hR => ?_
 have hd2 : decode c.code pc = .ok (.iastore, 1) := by rw [hcx.2.2.1]; exact hd
 obtain ⟨cl, A, hsl⟩ := hR.2.2 _ _ hx1
 obtain ⟨i1, i2⟩ := ast_in hsl hw
 obtain ⟨T₁, h₁, X₁, e₁, W₁, st⟩ := stI X hcx.1 hcx.2.1 rfl A i1 (g := mkF mid pc C (List.map (qv ad) (.int w :: .int j :: .ref a :: S'))) rfl rfl hd2
 exact ⟨T₁, h₁, X₁, e₁, W₁, ⟨_, A.same W₁, i2⟩, st⟩
set_option maxHeartbeats 4000000 in
theorem QTri.bastore (Ad : QAd n0 ad) {pc aux : Nat} {L : QLoc} {S : List Value} {σ : QHeap} {st' : QSt} (h : QTri l Z n0 ad m st' v σ') (hc : pCode m pc = some (.bastore, aux)) (hs : qast (pc + 1) L S σ tyB = some st') : QTri l Z n0 ad m (pc, L, S, σ) v σ' := by
 have hd : decode (pBytes m) pc = .ok (.bastore, 1) := pDecN hc rfl
 obtain ⟨w, j, a, S', ty, xs, ys, rfl, hx1, ht, b1, hw, rfl⟩ := qast_inv hs
 refine QTri.stored Ad (j := j.toNatClampNeg) (w := .int (qnar ty w)) hx1 b1 (by rw [(aset_inv hw).2.2]; simp [qsz]) h fun p e R s mid args below meth c T locs cells slots C hcx X hR => ?_
 have hd2 : decode c.code pc = .ok (.bastore, 1) := by rw [hcx.2.2.1]; exact hd
 obtain ⟨cl, A, hsl⟩ := hR.2.2 _ _ hx1
 obtain ⟨i1, i2⟩ := ast_in hsl hw
 rcases tyB_inv ht with rfl | rfl
 ·obtain ⟨T₁, h₁, X₁, e₁, W₁, st⟩ := stZ X hcx.1 hcx.2.1 rfl A i1 (g := mkF mid pc C (List.map (qv ad) (.int w :: .int j :: .ref a :: S'))) rfl rfl hd2
  exact ⟨T₁, h₁, X₁, e₁, W₁, ⟨_, A.same W₁, i2⟩, st⟩
 ·obtain ⟨T₁, h₁, X₁, e₁, W₁, st⟩ := stB X hcx.1 hcx.2.1 rfl A i1 (g := mkF mid pc C (List.map (qv ad) (.int w :: .int j :: .ref a :: S'))) rfl rfl hd2
  exact ⟨T₁, h₁, X₁, e₁, W₁, ⟨_, A.same W₁, i2⟩, st⟩
set_option maxHeartbeats 4000000 in
theorem QTri.lastore (Ad : QAd n0 ad) {pc aux : Nat} {L : QLoc} {S : List Value} {σ : QHeap} {st' : QSt} (h : QTri l Z n0 ad m st' v σ') (hc : pCode m pc = some (.lastore, aux)) (hs : qastJ (pc + 1) L S σ = some st') : QTri l Z n0 ad m (pc, L, S, σ) v σ' := by
 have hd : decode (pBytes m) pc = .ok (.lastore, 1) := pDecN hc rfl
 obtain ⟨w, j, a, S', xs, ys, rfl, hx1, b1, hw, rfl⟩ := qastJ_inv hs
 refine QTri.stored Ad (j := j.toNatClampNeg) (w := .long w) hx1 b1 (by rw [(aset_inv hw).2.2]; simp [qsz]) h fun p e R s mid args below meth c T locs cells slots C hcx X hR => ?_
 have hd2 : decode c.code pc = .ok (.lastore, 1) := by rw [hcx.2.2.1]; exact hd
 obtain ⟨cl, A, hsl⟩ := hR.2.2 _ _ hx1
 obtain ⟨i1, i2⟩ := ast_in hsl hw
 obtain ⟨T₁, h₁, X₁, e₁, W₁, st⟩ := stJ X hcx.1 hcx.2.1 rfl A i1 (g := mkF mid pc C (List.map (qv ad) (.long w :: .int j :: .ref a :: S'))) rfl rfl hd2
 exact ⟨T₁, h₁, X₁, e₁, W₁, ⟨_, A.same W₁, i2⟩, st⟩
set_option maxHeartbeats 4000000 in
theorem QTri.alen {pc aux : Nat} {L : QLoc} {S : List Value} {σ : QHeap} {st' : QSt} (h : QTri l Z n0 ad m st' v σ') (hc : pCode m pc = some (.arraylength, aux)) (hs : qlen (pc + 1) L S σ = some st') : QTri l Z n0 ad m (pc, L, S, σ) v σ' := by
 have hd : decode (pBytes m) pc = .ok (.arraylength, 1) := pDecN hc rfl
 obtain ⟨a, S', n, rfl, hx1, rfl⟩ := qlen_inv hs
 refine QTri.stack h fun p e R s mid args below meth c T locs cells slots C target hx hZ hby hown X hR hL k => ?_
 have hd2 : decode c.code pc = .ok (.arraylength, 1) := by rw [hby]; exact hd
 rcases hx1 with ⟨ty, xs, hx1, rfl⟩ | ⟨xs, hx1, rfl⟩
 ·obtain ⟨cl, A, hsl⟩ := hR.2.2 _ _ hx1
  have e1 : cl.slots.size = xs.length := by rw [hsl]; simp
  rw [← e1] at k
  exact X.arraylength hx A.1 (State.isArrayOf_alike hZ.alike A.2.1) (g := mkF mid pc C (List.map (qv ad) (.ref a :: S'))) rfl rfl hd2 _ k
 ·obtain ⟨cl, A, hsl⟩ := hR.2.2 _ _ hx1
  have e1 : cl.slots.size = xs.length := by rw [hsl]; simp
  rw [← e1] at k
  exact X.arraylength hx A.1 (State.isArrayOf_alike hZ.alike A.2.1) (g := mkF mid pc C (List.map (qv ad) (.ref a :: S'))) rfl rfl hd2 _ k
set_option maxHeartbeats 4000000 in
theorem QTri.newObj (Ad : QAd n0 ad) (W : QW Z a0) {pc idx aux : Nat} {L : QLoc} {S : List Value} {σ : QHeap} (h : QTri l Z n0 ad m (pc + 3, L, .ref σ.length :: S, σ ++ [.inl cDef]) v σ') (hc : pCode m pc = some (.new idx, aux)) : QTri l Z n0 ad m (pc, L, S, σ) v σ' := by
 have hd : decode (pBytes m) pc = .ok (.new idx, 3) := pDecN hc rfl
 have hm := mem_of_contains (show lkN.contains (pK m, idx) = true from pRest hc)
 refine QTri.gen h (by simp) (by simp [qhs_app]) fun p e R s mid args below meth c T locs cells slots C hcx X hR hF hL hC hn hc1 hsl => ?_
 obtain ⟨hx, hZ, hby, hml, hret, hown, hnm, hfr, hlo⟩ := hcx
 have hd2 : decode c.code pc = .ok (.new idx, 3) := by rw [hby]; exact hd
 simp only [List.length_append, List.length_singleton, Nat.add_sub_cancel_left, qgrow, qsz] at hc1 hsl ⊢
 obtain ⟨T₁, h₁, X₁, e₁, E₁, A₁, D₁, -, st⟩ := newO X hx hZ hown (index := idx) (qw_nw W (pK m, idx) hm) ((qw_inst W)) ((qw_init W)) rfl (g := mkF mid pc C (S.map (qv ad))) rfl hd2 hc1 hsl
 have hsz : h₁.size = T.heap.size + 1 := by
  have q1 := X₁.heapSize
  have q2 : T.heap.size < h₁.size := A₁.lt
  have q3 : T.heap.size = n0 + (σ.length - k0) := hR.2.1
  rw [e₁] at q1
  have : n0 + (σ.length - k0) = s.heap.size + cells := hn
  omega
 refine ⟨T₁, locs, C, X₁, ?_, hF, hL, hC, fun target q => ?_⟩
 ·rw [e₁]
  refine QRep.push hR Ad E₁ hsz ⟨A₁, cDefL, fun k u hk hu => ?_⟩
  rw [cDefs k hk] at hu
  cases hu
  have e3 : qv ad (defaultValue (fTy k)) = defaultValue (fTy k) := by
   cases hq : defaultValue (fTy k) with
   | ref a => exact absurd hq (fDef k hk a)
   | _ => rfl
  rw [e3]
  exact D₁ (laid_of W hk) (fPrs k hk)
 ·refine st _ ?_
  have e2 : ad σ.length = T.heap.size := by rw [hR.1.2 _ (Nat.le_refl _)]; exact hR.2.1.symm
  simp only [List.map_cons, qv, e2] at q
  exact q
set_option maxHeartbeats 8000000 in
theorem QTri.step (Ad : QAd n0 ad) (W : QW Z a0) {st st' : QSt} (h : QTri l Z n0 ad m st' v σ') (hs : qstep m st = some st') : QTri l Z n0 ad m st v σ' := by
 obtain ⟨pc, L, S, σ⟩ := st
 unfold qstep at hs
 dsimp only at hs
 split at hs
 rotate_left
 ·cases hs
 rename_i i aux hc
 have hd := pDecN hc rfl
 have hr := pRest hc
 unfold qexec at hs
 split at hs
 ·-- aload_n
  obtain ⟨w, h1, h2, rfl⟩ := qload_inv hs
  obtain ⟨a, rfl⟩ := isR_inv h2
  exact QTri.stack h fun p e R s mid args below meth c T locs cells slots C target hx hZ hby hown X hR hL k => XS.aloadN X.here hx rfl (hb hby hd) (hL.2.1 _ _ h1) rfl k
 ·obtain ⟨w, h1, h2, rfl⟩ := qload_inv hs
  obtain ⟨a, rfl⟩ := isR_inv h2
  exact QTri.stack h fun p e R s mid args below meth c T locs cells slots C target hx hZ hby hown X hR hL k => XS.aload X.here hx rfl (hb hby hd) (hL.2.1 _ _ h1) rfl k
 ·obtain ⟨w, h1, h2, rfl⟩ := qload_inv hs
  obtain ⟨a, rfl⟩ := isI_inv h2
  exact QTri.stack h fun p e R s mid args below meth c T locs cells slots C target hx hZ hby hown X hR hL k => XS.iloadN X.here hx rfl (hb hby hd) (hL.2.1 _ _ h1) k
 ·obtain ⟨w, h1, h2, rfl⟩ := qload_inv hs
  obtain ⟨a, rfl⟩ := isI_inv h2
  exact QTri.stack h fun p e R s mid args below meth c T locs cells slots C target hx hZ hby hown X hR hL k => XS.iload X.here hx rfl (hb hby hd) (hL.2.1 _ _ h1) k
 ·obtain ⟨w, h1, h2, rfl⟩ := qload_inv hs
  obtain ⟨a, rfl⟩ := isJ_inv h2
  exact QTri.stack h fun p e R s mid args below meth c T locs cells slots C target hx hZ hby hown X hR hL k => XT.lloadN X.here hx rfl (hb hby hd) (hL.2.1 _ _ h1) k
 ·obtain ⟨w, h1, h2, rfl⟩ := qload_inv hs
  obtain ⟨a, rfl⟩ := isJ_inv h2
  exact QTri.stack h fun p e R s mid args below meth c T locs cells slots C target hx hZ hby hown X hR hL k => XT.lload X.here hx rfl (hb hby hd) (hL.2.1 _ _ h1) k
 ·cases hs -- iconst
  exact QTri.stack h fun p e R s mid args below meth c T locs cells slots C target hx hZ hby hown X hR hL k => XS.iconst X.here hx rfl (hb hby hd) k
 ·cases hs
  exact QTri.stack h fun p e R s mid args below meth c T locs cells slots C target hx hZ hby hown X hR hL k => XS.bipush X.here hx rfl (hb hby hd) k
 ·cases hs
  exact QTri.stack h fun p e R s mid args below meth c T locs cells slots C target hx hZ hby hown X hR hL k => XS.sipush X.here hx rfl (hb hby hd) k
 ·cases hs
  exact QTri.stack h fun p e R s mid args below meth c T locs cells slots C target hx hZ hby hown X hR hL k => XT.lconst X.here hx rfl (hb hby hd) k
 ·-- ldc
  unfold qldc at hs
  split at hs
  ·rename_i w hw
   cases hs
   obtain ⟨x, hx1, hx2⟩ := qw_cI W (pK m, _, aux) (mem_of_contains (show lkC.contains (pK m, _, aux) = true from hr))
   rw [show vget cK aux = some w from hw] at hx1
   cases hx1
   exact QTri.stack h fun p e R s mid args below meth c T locs cells slots C target hx hZ hby hown X hR hL k => X.ldcI hx hown (mv hZ hx2) rfl (hb hby hd) k
  ·cases hs
 ·unfold qldc at hs
  split at hs
  ·rename_i w hw
   cases hs
   obtain ⟨x, hx1, hx2⟩ := qw_cJ W (pK m, _, aux) (mem_of_contains (show lkD.contains (pK m, _, aux) = true from hr))
   rw [show vget cK aux = some w from hw] at hx1
   cases hx1
   exact QTri.stack h fun p e R s mid args below meth c T locs cells slots C target hx hZ hby hown X hR hL k => X.ldc2J hx hown (mv hZ hx2) rfl (hb hby hd) k
  ·cases hs
 ·-- istore_n
  obtain ⟨w, S', L', rfl, h2, h3, rfl⟩ := qstore_inv hs
  obtain ⟨a, rfl⟩ := isI_inv h2
  exact QTri.frame h fun p e R s mid args below meth c T locs cells slots C hcx X hR hL hC => by
   obtain ⟨D, d1, d2, d3⟩ := store_ok hL h3
   exact ⟨D, d2, d3.trans hC, fun target k => XS.istoreN X.here hcx.1 rfl (hb hcx.2.2.1 hd) rfl d1 k⟩
 ·obtain ⟨w, S', L', rfl, h2, h3, rfl⟩ := qstore_inv hs
  obtain ⟨a, rfl⟩ := isI_inv h2
  exact QTri.frame h fun p e R s mid args below meth c T locs cells slots C hcx X hR hL hC => by
   obtain ⟨D, d1, d2, d3⟩ := store_ok hL h3
   exact ⟨D, d2, d3.trans hC, fun target k => XS.istore X.here hcx.1 rfl (hb hcx.2.2.1 hd) rfl d1 k⟩
 ·obtain ⟨w, S', L', rfl, h2, h3, rfl⟩ := qstore_inv hs
  obtain ⟨a, rfl⟩ := isJ_inv h2
  exact QTri.frame h fun p e R s mid args below meth c T locs cells slots C hcx X hR hL hC => by
   obtain ⟨D, d1, d2, d3⟩ := store_ok hL h3
   exact ⟨D, d2, d3.trans hC, fun target k => XT.lstoreN X.here hcx.1 rfl (hb hcx.2.2.1 hd) rfl d1 k⟩
 ·obtain ⟨w, S', L', rfl, h2, h3, rfl⟩ := qstore_inv hs
  obtain ⟨a, rfl⟩ := isJ_inv h2
  exact QTri.frame h fun p e R s mid args below meth c T locs cells slots C hcx X hR hL hC => by
   obtain ⟨D, d1, d2, d3⟩ := store_ok hL h3
   exact ⟨D, d2, d3.trans hC, fun target k => XT.lstore X.here hcx.1 rfl (hb hcx.2.2.1 hd) rfl d1 k⟩
 ·obtain ⟨w, S', L', rfl, h2, h3, rfl⟩ := qstore_inv hs
  obtain ⟨a, rfl⟩ := isR_inv h2
  exact QTri.frame h fun p e R s mid args below meth c T locs cells slots C hcx X hR hL hC => by
   obtain ⟨D, d1, d2, d3⟩ := store_ok hL h3
   exact ⟨D, d2, d3.trans hC, fun target k => XS.astoreN X.here hcx.1 rfl (hb hcx.2.2.1 hd) rfl rfl d1 k⟩
 ·obtain ⟨w, S', L', rfl, h2, h3, rfl⟩ := qstore_inv hs
  obtain ⟨a, rfl⟩ := isR_inv h2
  exact QTri.frame h fun p e R s mid args below meth c T locs cells slots C hcx X hR hL hC => by
   obtain ⟨D, d1, d2, d3⟩ := store_ok hL h3
   exact ⟨D, d2, d3.trans hC, fun target k => XS.astore X.here hcx.1 rfl (hb hcx.2.2.1 hd) rfl rfl d1 k⟩
 ·-- iinc
  unfold qinc at hs
  split at hs
  ·rename_i x hx1
   split at hs
   ·rename_i L' hL'
    cases hs
    exact QTri.frame h fun p e R s mid args below meth c T locs cells slots C hcx X hR hL hC => by
     obtain ⟨D, d1, d2, d3⟩ := store_ok hL hL'
     exact ⟨D, d2, d3.trans hC, fun target k => XS.iinc X.here hcx.1 rfl (hb hcx.2.2.1 hd) (hL.2.1 _ _ hx1) d1 k⟩
   ·cases hs
  ·cases hs
 ·obtain ⟨x, y, S', rfl, rfl⟩ := qbin_inv hs -- iadd
  exact QTri.stack h fun p e R s mid args below meth c T locs cells slots C target hx hZ hby hown X hR hL k => XS.iadd X.here hx rfl (hb hby hd) rfl k
 ·obtain ⟨x, y, S', rfl, rfl⟩ := qbin_inv hs
  exact QTri.stack h fun p e R s mid args below meth c T locs cells slots C target hx hZ hby hown X hR hL k => XS.isub X.here hx rfl (hb hby hd) rfl k
 ·obtain ⟨x, y, S', rfl, rfl⟩ := qbin_inv hs
  exact QTri.stack h fun p e R s mid args below meth c T locs cells slots C target hx hZ hby hown X hR hL k => XS.imul X.here hx rfl (hb hby hd) rfl k
 ·obtain ⟨x, y, S', rfl, rfl⟩ := qbin_inv hs
  exact QTri.stack h fun p e R s mid args below meth c T locs cells slots C target hx hZ hby hown X hR hL k => XS.iand X.here hx rfl (hb hby hd) rfl k
 ·obtain ⟨x, y, S', rfl, rfl⟩ := qbin_inv hs
  exact QTri.stack h fun p e R s mid args below meth c T locs cells slots C target hx hZ hby hown X hR hL k => XT.ior X.here hx rfl (hb hby hd) rfl k
 ·obtain ⟨x, y, S', rfl, rfl⟩ := qbin_inv hs
  exact QTri.stack h fun p e R s mid args below meth c T locs cells slots C target hx hZ hby hown X hR hL k => XT.ixor X.here hx rfl (hb hby hd) rfl k
 ·obtain ⟨x, y, S', rfl, rfl⟩ := qbin_inv hs
  exact QTri.stack h fun p e R s mid args below meth c T locs cells slots C target hx hZ hby hown X hR hL k => XT.ishl X.here hx rfl (hb hby hd) rfl k
 ·obtain ⟨x, y, S', rfl, rfl⟩ := qbin_inv hs
  exact QTri.stack h fun p e R s mid args below meth c T locs cells slots C target hx hZ hby hown X hR hL k => XT.ishr X.here hx rfl (hb hby hd) rfl k
 ·obtain ⟨x, y, S', rfl, rfl⟩ := qbin_inv hs
  exact QTri.stack h fun p e R s mid args below meth c T locs cells slots C target hx hZ hby hown X hR hL k => XT.iushr X.here hx rfl (hb hby hd) rfl k
 ·obtain ⟨x, y, z, S', rfl, hz, rfl⟩ := qbino_inv hs -- idiv
  unfold qdiv at hz
  split at hz
  ·cases hz
  ·rename_i hy
   cases hz
   exact QTri.stack h fun p e R s mid args below meth c T locs cells slots C target hx hZ hby hown X hR hL k => XS.idiv X.here hx rfl (hb hby hd) rfl hy k
 ·obtain ⟨x, y, z, S', rfl, hz, rfl⟩ := qbino_inv hs
  unfold qrem at hz
  split at hz
  ·cases hz
  ·rename_i hy
   cases hz
   exact QTri.stack h fun p e R s mid args below meth c T locs cells slots C target hx hZ hby hown X hR hL k => iremM X hx rfl (hb hby hd) rfl hy k
 ·obtain ⟨x, S', rfl, rfl⟩ := quni_inv hs -- ineg
  exact QTri.stack h fun p e R s mid args below meth c T locs cells slots C target hx hZ hby hown X hR hL k => XS.ineg X.here hx rfl (hb hby hd) rfl k
 ·obtain ⟨x, S', rfl, rfl⟩ := quni_inv hs
  exact QTri.stack h fun p e R s mid args below meth c T locs cells slots C target hx hZ hby hown X hR hL k => XT.i2l X.here hx rfl (hb hby hd) rfl k
 ·obtain ⟨x, S', rfl, rfl⟩ := quni_inv hs
  exact QTri.stack h fun p e R s mid args below meth c T locs cells slots C target hx hZ hby hown X hR hL k => XT.i2b X.here hx rfl (hb hby hd) rfl k
 ·obtain ⟨x, S', rfl, rfl⟩ := quniJ_inv hs
  exact QTri.stack h fun p e R s mid args below meth c T locs cells slots C target hx hZ hby hown X hR hL k => XT.l2i X.here hx rfl (hb hby hd) rfl k
 ·obtain ⟨x, S', rfl, rfl⟩ := quniJ_inv hs
  exact QTri.stack h fun p e R s mid args below meth c T locs cells slots C target hx hZ hby hown X hR hL k => XT.lneg X.here hx rfl (hb hby hd) rfl k
 ·obtain ⟨x, y, S', rfl, rfl⟩ := qbinJ_inv hs
  exact QTri.stack h fun p e R s mid args below meth c T locs cells slots C target hx hZ hby hown X hR hL k => XT.ladd X.here hx rfl (hb hby hd) rfl k
 ·obtain ⟨x, y, S', rfl, rfl⟩ := qbinJ_inv hs
  exact QTri.stack h fun p e R s mid args below meth c T locs cells slots C target hx hZ hby hown X hR hL k => XT.lsub X.here hx rfl (hb hby hd) rfl k
 ·obtain ⟨x, y, S', rfl, rfl⟩ := qbinJ_inv hs
  exact QTri.stack h fun p e R s mid args below meth c T locs cells slots C target hx hZ hby hown X hR hL k => XT.lmul X.here hx rfl (hb hby hd) rfl k
 ·obtain ⟨x, y, S', rfl, rfl⟩ := qbinJ_inv hs
  exact QTri.stack h fun p e R s mid args below meth c T locs cells slots C target hx hZ hby hown X hR hL k => XT.land X.here hx rfl (hb hby hd) rfl k
 ·obtain ⟨x, y, S', rfl, rfl⟩ := qbinJ_inv hs
  exact QTri.stack h fun p e R s mid args below meth c T locs cells slots C target hx hZ hby hown X hR hL k => XT.lor X.here hx rfl (hb hby hd) rfl k
 ·obtain ⟨x, y, S', rfl, rfl⟩ := qbinJ_inv hs
  exact QTri.stack h fun p e R s mid args below meth c T locs cells slots C target hx hZ hby hown X hR hL k => XT.lxor X.here hx rfl (hb hby hd) rfl k
 ·obtain ⟨x, y, S', rfl, rfl⟩ := qshJ_inv hs
  exact QTri.stack h fun p e R s mid args below meth c T locs cells slots C target hx hZ hby hown X hR hL k => XT.lshl X.here hx rfl (hb hby hd) rfl k
 ·obtain ⟨x, y, S', rfl, rfl⟩ := qshJ_inv hs
  exact QTri.stack h fun p e R s mid args below meth c T locs cells slots C target hx hZ hby hown X hR hL k => XT.lshr X.here hx rfl (hb hby hd) rfl k
 ·obtain ⟨x, y, S', rfl, rfl⟩ := qshJ_inv hs
  exact QTri.stack h fun p e R s mid args below meth c T locs cells slots C target hx hZ hby hown X hR hL k => XT.lushr X.here hx rfl (hb hby hd) rfl k
 ·split at hs -- lcmp
  ·cases hs
   exact QTri.stack h fun p e R s mid args below meth c T locs cells slots C target hx hZ hby hown X hR hL k => XT.lcmp X.here hx rfl (hb hby hd) rfl k
  ·cases hs
 ·cases hs -- goto
  obtain ⟨t1, t2⟩ := qtgt_spec hr
  exact QTri.stack h fun p e R s mid args below meth c T locs cells slots C target hx hZ hby hown X hR hL k => XS.goto X.here hx rfl rfl (hb hby hd) t1 t2 k
 ·obtain ⟨x, S', rfl, rfl⟩ := qif_inv hs
  obtain ⟨t1, t2⟩ := qtgt_spec hr
  cases hh : ifCond.holds _ x with
  | true => rw [hh] at h; exact QTri.stack h fun p e R s mid args below meth c T locs cells slots C target hx hZ hby hown X hR hL k => XS.ifYes X.here hx rfl rfl (hb hby hd) rfl hh t1 t2 k
  | false => rw [hh] at h; exact QTri.stack h fun p e R s mid args below meth c T locs cells slots C target hx hZ hby hown X hR hL k => XS.ifNo X.here hx rfl (hb hby hd) rfl hh k
 ·obtain ⟨x, y, S', rfl, rfl⟩ := qicmp_inv hs
  obtain ⟨t1, t2⟩ := qtgt_spec hr
  cases hh : if_icmp.holds _ x y with
  | true => rw [hh] at h; exact QTri.stack h fun p e R s mid args below meth c T locs cells slots C target hx hZ hby hown X hR hL k => XS.icmpYes X.here hx rfl rfl (hb hby hd) rfl hh t1 t2 k
  | false => rw [hh] at h; exact QTri.stack h fun p e R s mid args below meth c T locs cells slots C target hx hZ hby hown X hR hL k => XS.icmpNo X.here hx rfl (hb hby hd) rfl hh k
 ·unfold qdup at hs
  split at hs
  ·cases hs
   exact QTri.stack h fun p e R s mid args below meth c T locs cells slots C target hx hZ hby hown X hR hL k => XS.dup X.here hx rfl (hb hby hd) rfl rfl k
  ·cases hs
   exact QTri.stack h fun p e R s mid args below meth c T locs cells slots C target hx hZ hby hown X hR hL k => XS.dup X.here hx rfl (hb hby hd) rfl rfl k
  ·cases hs
 ·unfold qdup2 at hs
  split at hs
  ·cases hs
   exact QTri.stack h fun p e R s mid args below meth c T locs cells slots C target hx hZ hby hown X hR hL k => XT.dup2 X.here hx rfl (hb hby hd) rfl rfl rfl k
  ·cases hs
   exact QTri.stack h fun p e R s mid args below meth c T locs cells slots C target hx hZ hby hown X hR hL k => XT.dup2 X.here hx rfl (hb hby hd) rfl rfl rfl k
  ·cases hs
   exact QTri.stack h fun p e R s mid args below meth c T locs cells slots C target hx hZ hby hown X hR hL k => XT.dup2L X.here hx rfl (hb hby hd) rfl k
  ·cases hs
 ·unfold qpop at hs
  split at hs
  ·cases hs
   exact QTri.stack h fun p e R s mid args below meth c T locs cells slots C target hx hZ hby hown X hR hL k => XT.pop X.here hx rfl (hb hby hd) rfl rfl k
  ·cases hs
   exact QTri.stack h fun p e R s mid args below meth c T locs cells slots C target hx hZ hby hown X hR hL k => XT.pop X.here hx rfl (hb hby hd) rfl rfl k
  ·cases hs
 ·exact QTri.getfield W h hc hs
 ·exact QTri.putfield Ad W h hc hs
 ·exact QTri.iaload h hc hs
 ·exact QTri.baload h hc hs
 ·exact QTri.laload h hc hs
 ·exact QTri.iastore Ad h hc hs
 ·exact QTri.bastore Ad h hc hs
 ·exact QTri.lastore Ad h hc hs
 ·exact QTri.alen h hc hs
 ·-- newarray
  unfold qnewA at hs
  split at hs
  ·split at hs
   ·obtain ⟨k, hk, hs⟩ := Option.bind_eq_some_iff.mp hs
    cases hs
    exact QTri.newArr (c := .inr (.inl (.int, List.replicate k 0))) Ad W hk hc (by simp [qsz]) (fun h' a cA A => ⟨_, A, by simp [newA, (qnew_inv hk).2.1]; exact Or.inr rfl⟩) h
   ·obtain ⟨k, hk, hs⟩ := Option.bind_eq_some_iff.mp hs
    cases hs
    exact QTri.newArr (c := .inr (.inl (.boolean, List.replicate k 0))) Ad W hk hc (by simp [qsz]) (fun h' a cA A => ⟨_, A, by simp [newA, (qnew_inv hk).2.1]; exact Or.inr rfl⟩) h
   ·obtain ⟨k, hk, hs⟩ := Option.bind_eq_some_iff.mp hs
    cases hs
    exact QTri.newArr (c := .inr (.inl (.byte, List.replicate k 0))) Ad W hk hc (by simp [qsz]) (fun h' a cA A => ⟨_, A, by simp [newA, (qnew_inv hk).2.1]; exact Or.inr rfl⟩) h
   ·obtain ⟨k, hk, hs⟩ := Option.bind_eq_some_iff.mp hs
    cases hs
    exact QTri.newArr (c := .inr (.inr (List.replicate k 0))) Ad W hk hc (by simp [qsz]) (fun h' a cA A => ⟨_, A, by simp [newA, (qnew_inv hk).2.1]; exact Or.inr rfl⟩) h
   ·cases hs
  ·cases hs
 ·cases hs; exact QTri.newObj Ad W h hc
 ·cases hs
theorem QTri.steps (Ad : QAd n0 ad) (W : QW Z a0) : ∀ (n : Nat) {st st' : QSt}, qsteps m n st = some st' → QTri l Z n0 ad m st' v σ' → QTri l Z n0 ad m st v σ'
 | 0, st, st', h, k => by cases h; exact k
 | n + 1, st, st', h, k => by
  simp only [qsteps] at h
  split at h
  ·rename_i st₁ h1
   exact QTri.step Ad W (QTri.steps Ad W n h k) h1
  ·cases h
def lmask : List Bool → QLoc → QLoc
 | b :: t, x :: u => (bif b then x else none) :: lmask t u
 | _, L => L.map fun _ => none
theorem lmask_len : ∀ (b : List Bool) (L : QLoc), (lmask b L).length = L.length
 | [], L => by simp [lmask]
 | _ :: _, [] => by simp [lmask]
 | _ :: t, _ :: u => by simp [lmask, lmask_len t u]
theorem lmask_get : ∀ (b : List Bool) (L : QLoc) (k : Nat) (v : Value), lget (lmask b L) k = some v → lget L k = some v
 | [], L, k, v, h => by
  simp only [lmask, lget_eq, List.getElem?_map] at h
  cases hq : L[k]? <;> simp [hq] at h
 | _ :: _, [], k, v, h => by simp [lmask, lget] at h
 | b :: t, x :: u, 0, v, h => by
  simp only [lmask, lget] at h ⊢
  cases b
  ·cases h
  ·exact h
 | b :: t, x :: u, k + 1, v, h => by
  simp only [lmask, lget] at h ⊢
  exact lmask_get t u k v h
theorem QTri.mask {pc : Nat} {L : QLoc} {S : List Value} {σ : QHeap} (b : List Bool) (h : QTri l Z n0 ad m (pc, lmask b L, S, σ) v σ') : QTri l Z n0 ad m (pc, L, S, σ) v σ' :=
 QTri.frame h fun p e R s mid args below meth c T locs cells slots C hcx X hR hL hC => ⟨C, ⟨by rw [lmask_len]; exact hL.1, fun k u hk => hL.2.1 k u (lmask_get b L k u hk), hL.2.2⟩, hC, fun target k => k⟩
theorem QTri.ret0 {pc aux : Nat} {L : QLoc} {σ : QHeap} (hc : pCode m pc = some (.return_, aux)) (hr : pRet m = none) : QTri l Z n0 ad m (pc, L, [], σ) none σ :=
 have hd : decode (pBytes m) pc = .ok (.return_, 1) := pDecN hc rfl
 ⟨Nat.le_refl _, Nat.le_refl _, fun p e R s mid args below meth c T locs cells slots C hcx X hR hF hL hC hn hc1 hsl => ⟨T, locs, by simpa using X, hR, hF, fun fs hf => X.returnOut hcx.1 (hcx.2.2.2.2.1.trans hr) (hb hcx.2.2.1 hd) hf⟩⟩
theorem QTri.retI {pc aux : Nat} {L : QLoc} {S : List Value} {σ : QHeap} {x : Int32} (hc : pCode m pc = some (.ireturn, aux)) (hr : pRet m = some .int) : QTri l Z n0 ad m (pc, L, .int x :: S, σ) (some (.int x)) σ :=
 have hd : decode (pBytes m) pc = .ok (.ireturn, 1) := pDecN hc rfl
 ⟨Nat.le_refl _, Nat.le_refl _, fun p e R s mid args below meth c T locs cells slots C hcx X hR hF hL hC hn hc1 hsl => ⟨T, locs, by simpa using X, hR, hF, fun fs hf => Jvm.RoadKit.retI X hcx.1 (hcx.2.2.2.2.1.trans hr) (hb hcx.2.2.1 hd) hf⟩⟩
theorem QTri.retZ {pc aux : Nat} {L : QLoc} {S : List Value} {σ : QHeap} {x : Int32} (hc : pCode m pc = some (.ireturn, aux)) (hr : pRet m = some .boolean) : QTri l Z n0 ad m (pc, L, .int x :: S, σ) (some (.int (x &&& 1))) σ :=
 have hd : decode (pBytes m) pc = .ok (.ireturn, 1) := pDecN hc rfl
 ⟨Nat.le_refl _, Nat.le_refl _, fun p e R s mid args below meth c T locs cells slots C hcx X hR hF hL hC hn hc1 hsl => ⟨T, locs, by simpa using X, hR, hF, fun fs hf => retN X hcx.1 (t := .boolean) (hcx.2.2.2.2.1.trans hr) (by simp) (hb hcx.2.2.1 hd) hf⟩⟩
theorem QTri.retJ {pc aux : Nat} {L : QLoc} {S : List Value} {σ : QHeap} {x : Int64} (hc : pCode m pc = some (.lreturn, aux)) (hr : pRet m = some .long) : QTri l Z n0 ad m (pc, L, .long x :: S, σ) (some (.long x)) σ :=
 have hd : decode (pBytes m) pc = .ok (.lreturn, 1) := pDecN hc rfl
 ⟨Nat.le_refl _, Nat.le_refl _, fun p e R s mid args below meth c T locs cells slots C hcx X hR hF hL hC hn hc1 hsl => ⟨T, locs, by simpa using X, hR, hF, fun fs hf => retOut X hcx.1 (t := .long) (hcx.2.2.2.2.1.trans hr) rfl (Or.inr (Or.inl ⟨rfl, rfl, _, rfl⟩)) (hb hcx.2.2.1 hd) hf⟩⟩
def LOk (ad : Nat → Addr) (L : QLoc) (C : List Slot) : Prop :=
 L.length = C.length ∧ (∀ k v, lget L k = some v → C[k]? = some (.val (qv ad v))) ∧ (∀ k w, C[k]? = some (.val w) → w.category = 2 → C[k + 1]? = some .second) ∧ ∀ k, C[k]? = some .second → ∃ j w, k = j + 1 ∧ C[j]? = some (.val w) ∧ w.category = 2
theorem LOk.base (ad : Nat → Addr) (n : Nat) : LOk ad (List.replicate n none) (List.replicate n .unset) := by
 refine ⟨by simp, fun k u h => ?_, fun k w h => ?_, fun k h => ?_⟩
 ·rw [lget_eq] at h
  rcases Nat.lt_or_ge k n with q | q
  ·simp [List.getElem?_replicate, q] at h
  ·simp [List.getElem?_eq_none, q] at h
 ·rcases Nat.lt_or_ge k n with q | q
  ·simp [List.getElem?_replicate, q] at h
  ·simp [List.getElem?_eq_none, q] at h
 ·rcases Nat.lt_or_ge k n with q | q
  ·simp [List.getElem?_replicate, q] at h
  ·simp [List.getElem?_eq_none, q] at h
theorem LOk.one {L : QLoc} {C : List Slot} (H : LOk ad L C) {u : Value} (hu : u.category = 1) : LOk ad (some u :: L) (.val (qv ad u) :: C) := by
 obtain ⟨h1, h2, h3, h4⟩ := H
 refine ⟨by simp [h1], fun k w h => ?_, fun k w h hw => ?_, fun k h => ?_⟩
 ·cases k with
  | zero => simp only [lget] at h; cases h; simp
  | succ k => simp only [lget] at h; simpa using h2 k w h
 ·cases k with
  | zero => simp at h; rw [← h, qv_cat, hu] at hw; cases hw
  | succ k => simpa using h3 k w (by simpa using h) hw
 ·cases k with
  | zero => simp at h
  | succ k =>
   obtain ⟨j, w, z1, z2, z3⟩ := h4 k (by simpa using h)
   exact ⟨j + 1, w, by omega, by simpa using z2, z3⟩
theorem LOk.two {L : QLoc} {C : List Slot} (H : LOk ad L C) {u : Value} (hu : u.category = 2) : LOk ad (some u :: none :: L) (.val (qv ad u) :: .second :: C) := by
 obtain ⟨h1, h2, h3, h4⟩ := H
 refine ⟨by simp [h1], fun k w h => ?_, fun k w h hw => ?_, fun k h => ?_⟩
 ·rcases k with _ | _ | k
  ·simp only [lget] at h; cases h; simp
  ·simp [lget] at h
  ·simp only [lget] at h; simpa using h2 k w h
 ·rcases k with _ | _ | k
  ·simp
  ·simp at h
  ·simpa using h3 k w (by simpa using h) hw
 ·rcases k with _ | _ | k
  ·simp at h
  ·exact ⟨0, qv ad u, rfl, by simp, by rw [qv_cat]; exact hu⟩
  ·obtain ⟨j, w, z1, z2, z3⟩ := h4 k (by simpa using h)
   exact ⟨j + 2, w, by omega, by simpa using z2, z3⟩
def slotsOf (u : Value) : List Slot := if u.category = 2 then [.val u, .second] else [.val u]
theorem fold_slots : ∀ (as : List Value) (acc : Array Slot), (as.foldl (fun acc v => if v.category = 2 then (acc.push (.val v)).push .second else acc.push (.val v)) acc).toList = acc.toList ++ as.flatMap slotsOf
 | [], acc => by simp
 | u :: t, acc => by
  rw [List.foldl_cons, fold_slots t]
  by_cases hc : u.category = 2 <;> simp [slotsOf, hc]
theorem slots_len : ∀ (as : List Value), (as.flatMap slotsOf).length = (as.map fun v => v.category).sum
 | [] => rfl
 | u :: t => by
  rw [List.flatMap_cons, List.length_append, slots_len t, List.map_cons, List.sum_cons]
  cases u <;> simp [slotsOf, Value.category]
theorem cats_qv (as : List Value) : ((as.map (qv ad)).map fun v => v.category).sum = (as.map fun v => v.category).sum := by
 rw [List.map_map]
 congr 1
 exact List.map_congr_left fun x _ => qv_cat ad x
theorem entry_list : ∀ (as : List Value) (n : Nat), LOk ad ((as.flatMap fun v => match v with | .long x => [some (.long x), none] | .double x => [some (.double x), none] | v => [some v]) ++ List.replicate n none) ((as.map (qv ad)).flatMap slotsOf ++ List.replicate n .unset)
 | [], n => by simpa using LOk.base ad n
 | u :: t, n => by
  have ih := entry_list t n
  cases u with
  | long x => exact LOk.two ih rfl
  | double x => exact LOk.two ih rfl
  | int x => exact LOk.one ih rfl
  | float x => exact LOk.one ih rfl
  | null => exact LOk.one ih rfl
  | ref x => exact LOk.one ih rfl
  | retAddr x => exact LOk.one ih rfl
theorem qentry_ok (as : List Value) (mx : Nat) (h : (as.map fun v => v.category).sum ≤ mx) : QLocOk ad (qentry as mx) (argsToLocals (as.map (qv ad)).toArray mx) ∧ (argsToLocals (as.map (qv ad)).toArray mx).size = mx := by
 have e : (argsToLocals (as.map (qv ad)).toArray mx).toList = (as.map (qv ad)).flatMap slotsOf ++ List.replicate (mx - (as.map fun v => v.category).sum) .unset := by
  unfold argsToLocals
  have q := fold_slots (as.map (qv ad)) #[]
  simp only [List.foldl_toArray', Array.toList_append, Array.toList_replicate]
  have q2 : ((as.map (qv ad)).foldl (fun (acc : Array Slot) (v : Value) => if v.category = 2 then (acc.push (.val v)).push .second else acc.push (.val v)) #[]).size = (as.map fun v => v.category).sum := by
   rw [← Array.length_toList, q]
   simp only [List.nil_append]
   rw [slots_len, cats_qv]
  rw [q, q2]
  simp
 have H := entry_list (ad := ad) as (mx - (as.map fun v => v.category).sum)
 rw [← e] at H
 obtain ⟨h1, h2, h3, h4⟩ := H
 have hs : (argsToLocals (as.map (qv ad)).toArray mx).size = mx := by
  rw [← Array.length_toList, e, List.length_append, slots_len, cats_qv, List.length_replicate]
  omega
 refine ⟨⟨h1.trans Array.length_toList, fun k u hk => ?_, fun k w hk hw => ?_, fun k hk => ?_⟩, hs⟩
 ·have := h2 k u hk; rwa [Array.getElem?_toList] at this
 ·have := h3 k w (by rw [Array.getElem?_toList]; exact hk) hw; rwa [Array.getElem?_toList] at this
 ·obtain ⟨j, w, z1, z2, z3⟩ := h4 k (by rw [Array.getElem?_toList]; exact hk)
  exact ⟨j, w, z1, by rwa [Array.getElem?_toList] at z2, z3⟩
set_option maxHeartbeats 4000000 in
theorem QTri.met {k : Nat} {as : List Value} {σ σ₁ : QHeap} {w : Option Value} {h0 : Heap} (hk : k < pN) (h : QTri l Z n0 ad k (0, qentry as (pMaxL k), [], σ) w σ₁) (hR : QRep Z n0 ad h0 σ) (hlen : (as.map fun v => v.category).sum ≤ pMaxL k) (hret : pRet k = none → w = none) (ws : List Jvm.Cond) {rm : Room}
  (r1 : pFr k ≤ rm.frames) (r2 : pLo k ≤ rm.locals) (r3 : σ₁.length - σ.length ≤ rm.cells) (r4 : qhs σ₁ - qhs σ ≤ rm.slots) :
  MetFree l (pName k) (head1 (Jvm.Cond.code (pName k) (pBytes k) (pMaxL k) (pRet k) :: ws) rm) (fun a U => a = (as.map (qv ad)).toArray ∧ Z.Warmed39 U.vm ∧ U.heap = h0) (fun _ _ _ _ _ => True)
   (fun _ U o U' => ∃ v L, o = .returned v ∧ (v = w.map (qv ad) ∧ QRep Z n0 ad U'.heap σ₁ ∧ Fr n0 L) ∧ FrameEnd U o U' L (σ₁.length - σ.length) (qhs σ₁ - qhs σ)) := by
 refine MetFree.of_bodySF (plainFor_of_name (kPlain _ (pKlt k hk))) hisR ?_
 intro p e s mid args below meth c s₁ Bd hml0 hP hK
 obtain ⟨rfl, hZ, hh⟩ := hP
 have e0 : s₁.heap = h0 := by rw [← hh, Bd.state]; rfl
 obtain ⟨hl1, hl2⟩ := qentry_ok (ad := ad) as (pMaxL k) hlen
 have hX : Stand p l e rm s mid (as.map (qv ad)).toArray below meth c s₁ [] 0 0 := Stand.of_body Bd
 obtain ⟨T', locs', X', R', F', S'⟩ := h.2.2 p e rm s mid _ below meth c s₁ [] 0 0 _ ⟨Bd.exec, hZ, Bd.bytes, hml0, Bd.returns, findClass_of_methodNamed Bd.named, (name_of_methodNamed Bd.named Bd.method).1, r1, r2⟩ hX (by rw [e0]; exact hR) (Fr.nil _) hl1 (hl2.trans hml0.symm) (by rw [hh, Nat.add_zero]; exact hR.2.1.symm) (by rw [Nat.zero_add]; exact r3) (by rw [Nat.zero_add]; exact r4)
 obtain ⟨fs, hr, hrun, hended, hW, hsame⟩ := X'.leave (v := w.map (qv ad)) (fun q => by rw [hret (Bd.returns.symm.trans q)]; rfl)
 refine ⟨_, _, S' fs hr, hrun, hended, _, _, rfl, ⟨rfl, R', F'⟩, ⟨_, rfl⟩, hW, ?_⟩
 simp only [Nat.zero_add] at hsame
 exact hsame
theorem QTri.room {k : Nat} {σ σ₁ : QHeap} {rest : List Value} {R : Room} (hroom : (Nat.ble (pFr k + 1) (pFr m) && Nat.ble ((rest.map fun v => v.category).sum + (pMaxL k + 11) + pLo k) (pLo m)) = true) (hfr : pFr m ≤ R.frames) (hlo : pLo m ≤ R.locals) :
  pFr k + 1 ≤ R.frames ∧ (rest.map fun v => v.category).sum + (pMaxL k + 11) + pLo k ≤ R.locals := by
 obtain ⟨q1, q2⟩ := Bool.and_eq_true_iff.mp hroom
 exact ⟨Nat.le_trans (Nat.le_of_ble_eq_true q1) hfr, Nat.le_trans (Nat.le_of_ble_eq_true q2) hlo⟩
theorem sig_len {k : Nat} (hk : k < pN) {as : List Value} (hna : as.length = pNA k) : ∀ sig, parseMethodDescriptor (pName k).desc = some sig → (as.map (qv ad)).length = sig.parameters.length := fun sig hs => by
 have q := pSig k hk
 rw [show parseMethodDescriptor (pDs k) = some sig from hs] at q
 simp at q
 simp [hna, q]
theorem ret_map (w : Option Value) (rest : List Value) : (w.toList ++ rest).map (qv ad) = (w.map (qv ad)).toList ++ rest.map (qv ad) := by cases w <;> simp
theorem QTri.after {as0 : List Value} {pc : Nat} {L : QLoc} {S rest : List Value} {σ σ₁ : QHeap} {w : Option Value} {k : Nat} (hcal : QTri l Z n0 ad k (0, qentry as0 (pMaxL k), [], σ) w σ₁) (h : QTri l Z n0 ad m (pc + 3, L, w.toList ++ rest, σ₁) v σ')
  (hs : ∀ (p : Program) (e : Env) (R : Room) (s : State) (mid : MethodId) (args : Array Value) (below : List Frame) (meth : Method) (c : Code) (T : State) (locs : List Loc) (cells slots : Nat) (C : Array Slot),
   QCx Z p R s mid meth c m → Stand p l e R s mid args below meth c T locs cells slots → QRep Z n0 ad T.heap σ → C.size = c.maxLocals → cells + (σ₁.length - σ.length) ≤ R.cells → slots + (qhs σ₁ - qhs σ) ≤ R.slots →
   ∃ T₁ Lc, Stand p l e R s mid args below meth c T₁ (locs ++ Lc) (cells + (σ₁.length - σ.length)) (slots + (qhs σ₁ - qhs σ)) ∧ QRep Z n0 ad T₁.heap σ₁ ∧ Fr n0 Lc ∧
    ∀ target, Steps p.tables e below (T₁.setTop (mkF mid (pc + 3) C ((w.map (qv ad)).toList ++ rest.map (qv ad)))) target → Steps p.tables e below (T.setTop (mkF mid pc C (S.map (qv ad)))) target) :
  QTri l Z n0 ad m (pc, L, S, σ) v σ' := by
 refine QTri.gen h hcal.1 hcal.2.1 fun p e R s mid args below meth c T locs cells slots C hcx X hR hF hL hC hn hc1 hsl => ?_
 obtain ⟨T₁, Lc, X₁, R₁, F₁, st⟩ := hs p e R s mid args below meth c T locs cells slots C hcx X hR hC hc1 hsl
 refine ⟨T₁, locs ++ Lc, C, X₁, R₁, hF.app F₁, hL, hC, fun target q => st target ?_⟩
 rw [← ret_map]
 exact q
set_option maxHeartbeats 4000000 in
theorem QTri.callV (W : QW Z a0) {pc idx k a : Nat} {L : QLoc} {S as rest vs : List Value} {σ σ₁ : QHeap} {w : Option Value} (hc : pCode m pc = some (.invokevirtual idx, k)) (hm : (lkV.contains (pK m, idx, k) && mV.contains k) = true) (hcell : hget σ a = some (.inl vs)) (hS : S = as.reverse ++ .ref a :: rest)
  (hna : as.length = pNA k) (hlen : Nat.ble (((Value.ref a :: as).map fun v => v.category).sum) (pMaxL k) = true) (hroom : (Nat.ble (pFr k + 1) (pFr m) && Nat.ble ((rest.map fun v => v.category).sum + (pMaxL k + 11) + pLo k) (pLo m)) = true) (hrb : (w.isNone || (pRet k).isSome) = true)
  (hcal : QTri l Z n0 ad k (0, qentry (.ref a :: as) (pMaxL k), [], σ) w σ₁) (h : QTri l Z n0 ad m (pc + 3, L, w.toList ++ rest, σ₁) v σ') : QTri l Z n0 ad m (pc, L, S, σ) v σ' := by
 have hd : decode (pBytes m) pc = .ok (.invokevirtual idx, 3) := pDecN hc rfl
 subst hS
 obtain ⟨m1, m2⟩ := Bool.and_eq_true_iff.mp hm
 have m1 := mem_of_contains m1
 have m2 := mem_of_contains m2
 have hkA := (mVlt k m2).1
 have hkN := mAlt k hkA
 have hret : pRet k = none → w = none := fun q => by
  rw [q] at hrb
  cases w with
  | none => rfl
  | some w => simp at hrb
 refine QTri.after hcal h fun p e R s mid args below meth c T locs cells slots C hcx X hR hC hc1 hsl => ?_
 obtain ⟨hx, hZ, hby, hml, hret', hown, hnm, hfr, hlo⟩ := hcx
 have hd2 : decode c.code pc = .ok (.invokevirtual idx, 3) := by rw [hby]; exact hd
 obtain ⟨f1, f2⟩ := QTri.room (σ := σ) (σ₁ := σ₁) hroom hfr hlo
 obtain ⟨cq, kq, q1, q2, q3⟩ := isOf hZ rfl (hR.2.2 _ _ hcell).1
 obtain ⟨w1, w2, w3⟩ := (qw_vi W) k m2
 obtain ⟨c1, c2⟩ := (qw_cod W) k hkA
 obtain ⟨_, _, ⟨T₁, L₁, k₁, n₁⟩, -, X₁, ⟨Lc, ⟨rfl, hR1, hF1⟩, l₁, y₁, z₁⟩, st⟩ := X.virtualBack hx (own := kName (pK m)) (index := idx) (y := pName k) (z := pName k) hown (mvT hZ (qw_ml W (pK m, idx, k) m1)) (mvT hZ w1) (notFace_of_selects (args := #[]) (mvT hZ w2)) (mvT hZ w2) (mvT hZ w3) (pOwn _ (pKlt k hkN))
  (backOf (W := (rest.map fun v => v.category).sum) (rm := ⟨pFr k, σ₁.length - σ.length, qhs σ₁ - qhs σ, pLo k⟩) (Q := fun v h L => v = Option.map (qv ad) w ∧ QRep Z n0 ad h σ₁ ∧ Fr n0 L) (QTri.met hkN hcal hR (Nat.le_of_ble_eq_true hlen) hret [] (Nat.le_refl _) (Nat.le_refl _) (Nat.le_refl _) (Nat.le_refl _)) hZ c1 c2 f1 f2) q1 q3 (g := mkF mid pc C (List.map (qv ad) (as.reverse ++ .ref a :: rest))) rfl hC (Steps.refl _) (argsL := as.map (qv ad)) (rest := rest.map (qv ad)) (sig_len hkN hna) (by simp [qv]) (by show 2 * 0 + _ ≤ _; rw [cats_qv]; omega) hd2 (fun _ _ => ⟨rfl, rfl, hc1, hsl⟩)
 dsimp only [Pt.U, Pt.locs, Pt.cells, Pt.slots] at X₁ l₁ y₁ z₁ st hR1
 subst l₁ y₁ z₁
 exact ⟨T₁, Lc, X₁, hR1, hF1, fun target q => st.trans q⟩
set_option maxHeartbeats 4000000 in
theorem QTri.callI (W : QW Z a0) {pc idx k a : Nat} {L : QLoc} {S as rest : List Value} {σ σ₁ : QHeap} (hc : pCode m pc = some (.invokespecial idx, k)) (hm : (lkV.contains (pK m, idx, k) && mI.contains k) = true) (hS : S = as.reverse ++ .ref a :: rest)
  (hna : as.length = pNA k) (hlen : Nat.ble (((Value.ref a :: as).map fun v => v.category).sum) (pMaxL k) = true) (hroom : (Nat.ble (pFr k + 1) (pFr m) && Nat.ble ((rest.map fun v => v.category).sum + (pMaxL k + 11) + pLo k) (pLo m)) = true)
  (hcal : QTri l Z n0 ad k (0, qentry (.ref a :: as) (pMaxL k), [], σ) none σ₁) (h : QTri l Z n0 ad m (pc + 3, L, rest, σ₁) v σ') : QTri l Z n0 ad m (pc, L, S, σ) v σ' := by
 have hd : decode (pBytes m) pc = .ok (.invokespecial idx, 3) := pDecN hc rfl
 subst hS
 obtain ⟨m1, m2⟩ := Bool.and_eq_true_iff.mp hm
 have m1 := mem_of_contains m1
 have m2 := mem_of_contains m2
 obtain ⟨hkA, -, hin, hrt⟩ := mIlt k m2
 have hkN := mAlt k hkA
 refine QTri.after (w := none) hcal h fun p e R s mid args below meth c T locs cells slots C hcx X hR hC hc1 hsl => ?_
 obtain ⟨hx, hZ, hby, hml, hret', hown, hnm, hfr, hlo⟩ := hcx
 have hd2 : decode c.code pc = .ok (.invokespecial idx, 3) := by rw [hby]; exact hd
 obtain ⟨f1, f2⟩ := QTri.room (σ := σ) (σ₁ := σ₁) hroom hfr hlo
 obtain ⟨c1, c2⟩ := (qw_cod W) k hkA
 have c1' := c1
 rw [hrt] at c1'
 obtain ⟨_, _, ⟨T₁, L₁, k₁, n₁⟩, -, X₁, ⟨Lc, ⟨rfl, hR1, hF1⟩, l₁, y₁, z₁⟩, st⟩ := X.specialBack hx (own := kName (pK m)) (index := idx) (y := pName k) hin hown (mvT hZ (qw_ml W (pK m, idx, k) m1)) (mvT hZ ((qw_ini W) k m2)) (mvT hZ c1') (pOwn _ (pKlt k hkN))
  (backOf (W := (rest.map fun v => v.category).sum) (rm := ⟨pFr k, σ₁.length - σ.length, qhs σ₁ - qhs σ, pLo k⟩) (Q := fun v h L => v = Option.map (qv ad) none ∧ QRep Z n0 ad h σ₁ ∧ Fr n0 L) (QTri.met hkN hcal hR (Nat.le_of_ble_eq_true hlen) (fun _ => rfl) [] (Nat.le_refl _) (Nat.le_refl _) (Nat.le_refl _) (Nat.le_refl _)) hZ c1 c2 f1 f2) (g := mkF mid pc C (List.map (qv ad) (as.reverse ++ .ref a :: rest))) rfl hC (Steps.refl _) (a := ad a) (argsL := as.map (qv ad)) (rest := rest.map (qv ad)) (sig_len hkN hna) (by simp [qv]) (by show 2 * 0 + _ ≤ _; rw [cats_qv]; omega) hd2 (fun _ _ => ⟨rfl, rfl, hc1, hsl⟩)
 dsimp only [Pt.U, Pt.locs, Pt.cells, Pt.slots] at X₁ l₁ y₁ z₁ st hR1
 subst l₁ y₁ z₁
 exact ⟨T₁, Lc, X₁, hR1, hF1, fun target q => st.trans q⟩
set_option maxHeartbeats 4000000 in
theorem QTri.callP (W : QW Z a0) {pc idx k a : Nat} {L : QLoc} {S as rest vs : List Value} {σ σ₁ : QHeap} {w : Option Value} (hc : pCode m pc = some (.invokevirtual idx, k)) (hm : (lkV.contains (pK m, idx, k) && mP.contains k) = true) (hcell : hget σ a = some (.inl vs)) (hS : S = as.reverse ++ .ref a :: rest)
  (hna : as.length = pNA k) (hlen : Nat.ble (((Value.ref a :: as).map fun v => v.category).sum) (pMaxL k) = true) (hroom : (Nat.ble (pFr k + 1) (pFr m) && Nat.ble ((rest.map fun v => v.category).sum + (pMaxL k + 11) + pLo k) (pLo m)) = true) (hrb : (w.isNone || (pRet k).isSome) = true)
  (hcal : QTri l Z n0 ad k (0, qentry (.ref a :: as) (pMaxL k), [], σ) w σ₁) (h : QTri l Z n0 ad m (pc + 3, L, w.toList ++ rest, σ₁) v σ') : QTri l Z n0 ad m (pc, L, S, σ) v σ' := by
 have hd : decode (pBytes m) pc = .ok (.invokevirtual idx, 3) := pDecN hc rfl
 subst hS
 obtain ⟨m1, m2⟩ := Bool.and_eq_true_iff.mp hm
 have m1 := mem_of_contains m1
 have m2 := mem_of_contains m2
 obtain ⟨hkA, hk1⟩ := mPlt k m2
 have hkN := mAlt k hkA
 have hret : pRet k = none → w = none := fun q => by
  rw [q] at hrb
  cases w with
  | none => rfl
  | some w => simp at hrb
 refine QTri.after hcal h fun p e R s mid args below meth c T locs cells slots C hcx X hR hC hc1 hsl => ?_
 obtain ⟨hx, hZ, hby, hml, hret', hown, hnm, hfr, hlo⟩ := hcx
 have hd2 : decode c.code pc = .ok (.invokevirtual idx, 3) := by rw [hby]; exact hd
 obtain ⟨f1, f2⟩ := QTri.room (σ := σ) (σ₁ := σ₁) hroom hfr hlo
 obtain ⟨cell, h1, h2⟩ := (hR.2.2 _ _ hcell).1.cell
 obtain ⟨w1, w2⟩ := (qw_pr W) k m2
 obtain ⟨c1, c2⟩ := (qw_cod W) k hkA
 have hpr : s.PrivateAt (pName k) := Cond.privateMethod_at (mvP hZ w2 (args := #[]))
 obtain ⟨cC, kC, i1, i2, i3, i4⟩ := Cond.instantiable_spec (args := #[]) (mvT hZ (qw_inst W))
 have hsel : (Cond.selects (pName k).cls (pName k) (pName k)).before args s = true := selects_self_of_private (c := cC) (k := kC) (by show s.vm.findClass (kName (pK k)) = _; rw [hk1]; exact i1) i2 (by have q := i4.1; cases hq : kC.isInterface with | false => rfl | true => rw [hq] at q; simp at q) hpr (mvT hZ w1) (pOwn _ (pKlt k hkN))
 obtain ⟨_, _, ⟨T₁, L₁, k₁, n₁⟩, -, X₁, ⟨Lc, ⟨rfl, hR1, hF1⟩, l₁, y₁, z₁⟩, st⟩ := X.privateBack hx (own := kName (pK m)) (index := idx) (y := pName k) hown (mvT hZ (qw_ml W (pK m, idx, k) m1)) (mvT hZ w1) hsel hpr (mvT hZ c1) (pOwn _ (pKlt k hkN))
  (backOf (W := (rest.map fun v => v.category).sum) (rm := ⟨pFr k, σ₁.length - σ.length, qhs σ₁ - qhs σ, pLo k⟩) (Q := fun v h L => v = Option.map (qv ad) w ∧ QRep Z n0 ad h σ₁ ∧ Fr n0 L) (QTri.met hkN hcal hR (Nat.le_of_ble_eq_true hlen) hret [] (Nat.le_refl _) (Nat.le_refl _) (Nat.le_refl _) (Nat.le_refl _)) hZ c1 c2 f1 f2) (g := mkF mid pc C (List.map (qv ad) (as.reverse ++ .ref a :: rest))) rfl hC (Steps.refl _) (a := ad a) h1 h2 (argsL := as.map (qv ad)) (rest := rest.map (qv ad)) (sig_len hkN hna) (by simp [qv]) (by show 2 * 0 + _ ≤ _; rw [cats_qv]; omega) hd2 (fun _ _ => ⟨rfl, rfl, hc1, hsl⟩)
 dsimp only [Pt.U, Pt.locs, Pt.cells, Pt.slots] at X₁ l₁ y₁ z₁ st hR1
 subst l₁ y₁ z₁
 exact ⟨T₁, Lc, X₁, hR1, hF1, fun target q => st.trans q⟩
set_option maxHeartbeats 4000000 in
theorem QTri.callS (W : QW Z a0) {pc idx k : Nat} {L : QLoc} {S as rest : List Value} {σ σ₁ : QHeap} {w : Option Value} (hc : pCode m pc = some (.invokestatic idx, k)) (hm : (lkV.contains (pK m, idx, k) && mS.contains k) = true) (hS : S = as.reverse ++ rest)
  (hna : as.length = pNA k) (hlen : Nat.ble ((as.map fun v => v.category).sum) (pMaxL k) = true) (hroom : (Nat.ble (pFr k + 1) (pFr m) && Nat.ble ((rest.map fun v => v.category).sum + (pMaxL k + 11) + pLo k) (pLo m)) = true) (hrb : (w.isNone || (pRet k).isSome) = true)
  (hcal : QTri l Z n0 ad k (0, qentry as (pMaxL k), [], σ) w σ₁) (h : QTri l Z n0 ad m (pc + 3, L, w.toList ++ rest, σ₁) v σ') : QTri l Z n0 ad m (pc, L, S, σ) v σ' := by
 have hd : decode (pBytes m) pc = .ok (.invokestatic idx, 3) := pDecN hc rfl
 subst hS
 obtain ⟨m1, m2⟩ := Bool.and_eq_true_iff.mp hm
 have m1 := mem_of_contains m1
 have m2 := mem_of_contains m2
 have hkA := mSlt k m2
 have hkN := mAlt k hkA
 have hret : pRet k = none → w = none := fun q => by
  rw [q] at hrb
  cases w with
  | none => rfl
  | some w => simp at hrb
 refine QTri.after hcal h fun p e R s mid args below meth c T locs cells slots C hcx X hR hC hc1 hsl => ?_
 obtain ⟨hx, hZ, hby, hml, hret', hown, hnm, hfr, hlo⟩ := hcx
 have hd2 : decode c.code pc = .ok (.invokestatic idx, 3) := by rw [hby]; exact hd
 obtain ⟨f1, f2⟩ := QTri.room (σ := σ) (σ₁ := σ₁) hroom hfr hlo
 obtain ⟨c1, c2⟩ := (qw_cod W) k hkA
 obtain ⟨_, _, ⟨T₁, L₁, k₁, n₁⟩, -, X₁, ⟨Lc, ⟨rfl, hR1, hF1⟩, l₁, y₁, z₁⟩, st⟩ := Jvm.LawKit.callS X hx (own := kName (pK m)) (index := idx) (y := pName k) hown (mvT hZ (qw_ml W (pK m, idx, k) m1)) (mvT hZ ((qw_st W) k m2)) (mvT hZ c2) (mvT hZ c1) (pOwn _ (pKlt k hkN))
  (backOf (W := (rest.map fun v => v.category).sum) (rm := ⟨pFr k, σ₁.length - σ.length, qhs σ₁ - qhs σ, pLo k⟩) (Q := fun v h L => v = Option.map (qv ad) w ∧ QRep Z n0 ad h σ₁ ∧ Fr n0 L) (QTri.met hkN hcal hR (Nat.le_of_ble_eq_true hlen) hret [] (Nat.le_refl _) (Nat.le_refl _) (Nat.le_refl _) (Nat.le_refl _)) hZ c1 c2 f1 f2) (g := mkF mid pc C (List.map (qv ad) (as.reverse ++ rest))) rfl hC (argsL := as.map (qv ad)) (rest := rest.map (qv ad)) (sig_len hkN hna) (by simp) (by show 2 * 0 + _ ≤ _; rw [cats_qv]; omega) hd2 (fun _ _ => ⟨rfl, rfl, hc1, hsl⟩)
 dsimp only [Pt.U, Pt.locs, Pt.cells, Pt.slots] at X₁ l₁ y₁ z₁ st hR1
 subst l₁ y₁ z₁
 exact ⟨T₁, Lc, X₁, hR1, hF1, fun target q => st target q⟩
set_option maxHeartbeats 4000000 in
theorem QTri.callO (W : QW Z a0) {pc idx k a : Nat} {L : QLoc} {rest : List Value} {σ : QHeap} (hc : pCode m pc = some (.invokespecial idx, k)) (hm : lkO.contains (pK m, idx) = true) (hroom : (Nat.ble 1 (pFr m) && Nat.ble ((rest.map fun v => v.category).sum + 12) (pLo m)) = true)
  (h : QTri l Z n0 ad m (pc + 3, L, rest, σ) v σ') : QTri l Z n0 ad m (pc, L, .ref a :: rest, σ) v σ' :=
 have hd : decode (pBytes m) pc = .ok (.invokespecial idx, 3) := pDecN hc rfl
 QTri.pure h rfl fun p e R s mid args below meth c T locs cells slots C hcx X hR hL hC => by
  obtain ⟨hx, hZ, hby, hml, hret', hown, hnm, hfr, hlo⟩ := hcx
  have hd2 : decode c.code pc = .ok (.invokespecial idx, 3) := by rw [hby]; exact hd
  obtain ⟨q1, q2⟩ := Bool.and_eq_true_iff.mp hroom
  obtain ⟨T₁, X₁, e₁, st⟩ := initO X hx hZ hown (idx := idx) (qw_mo W (pK m, idx) (mem_of_contains hm)) ((qw_oi W)) ((qw_oc W)) rfl (g := mkF mid pc C (List.map (qv ad) (.ref a :: rest))) rfl hC rfl hd2 (Nat.le_trans (Nat.le_of_ble_eq_true q1) hfr) (W := (rest.map fun v => v.category).sum) (by show 2 * 0 + _ ≤ _; rw [cats_qv]; omega) (Nat.le_trans (Nat.le_of_ble_eq_true q2) hlo)
  exact ⟨T₁, C, X₁, e₁, hL, hC, st⟩
theorem QTri.brT (Ad : QAd n0 ad) (W : QW Z a0) {st : QSt} {t f : Nat} {L : QLoc} {S : List Value} {σ : QHeap} {b : Bool} (hs : qstep m st = some (bif b then t else f, L, S, σ)) (hb : b = true) (h : QTri l Z n0 ad m (t, L, S, σ) v σ') : QTri l Z n0 ad m st v σ' := by
 subst hb; exact QTri.step Ad W h hs
theorem QTri.brF (Ad : QAd n0 ad) (W : QW Z a0) {st : QSt} {t f : Nat} {L : QLoc} {S : List Value} {σ : QHeap} {b : Bool} (hs : qstep m st = some (bif b then t else f, L, S, σ)) (hb : b = false) (h : QTri l Z n0 ad m (f, L, S, σ) v σ') : QTri l Z n0 ad m st v σ' := by
 subst hb; exact QTri.step Ad W h hs
theorem QTri.bnd {α : Type} (Ad : QAd n0 ad) (W : QW Z a0) {st : QSt} {x : Option α} {f : α → QSt} {a : α} (hs : qstep m st = x.bind fun v => some (f v)) (hx : x = some a) (h : QTri l Z n0 ad m (f a) v σ') : QTri l Z n0 ad m st v σ' :=
 QTri.step Ad W h (by rw [hs, hx]; rfl)
theorem QTri.bndB (Ad : QAd n0 ad) (W : QW Z a0) {st : QSt} {x y : Int32} {g : Value → QSt} (hs : qstep m st = ((qboo x).bind fun y => some (Value.int y)).bind fun w => some (g w)) (hx : qboo x = some y) (h : QTri l Z n0 ad m (g (.int y)) v σ') : QTri l Z n0 ad m st v σ' :=
 QTri.step Ad W h (by rw [hs, hx]; rfl)
end Triples
theorem qite {α : Type} {c : Prop} [Decidable c] {a b : Option α} {r : α} (h : (if c then a else b) = some r) : (c ∧ a = some r) ∨ (¬ c ∧ b = some r) := by
 by_cases hc : c
 ·exact Or.inl ⟨hc, by rwa [if_pos hc] at h⟩
 ·exact Or.inr ⟨hc, by rwa [if_neg hc] at h⟩
def qN : Nat := 4000
def loopN {V E : Type} (B : V → Option (E ⊕ V)) : Nat → V → Option E
 | 0, _ => none
 | n + 1, v => match B v with
  | none => none
  | some (.inl e) => some e
  | some (.inr v') => loopN B n v'
theorem loopN_tri {V E : Type} {B : V → Option (E ⊕ V)} {T : V → Prop} {KE : E → Prop} (hB : ∀ v r, B v = some r → (∀ e, r = .inl e → KE e) → (∀ v', r = .inr v' → T v') → T v) : ∀ (n : Nat) (v : V) (e : E), loopN B n v = some e → KE e → T v
 | 0, _, _, h, _ => by cases h
 | n + 1, v, e, h, k => by
  simp only [loopN] at h
  split at h
  ·cases h
  ·rename_i e' he
   cases h
   exact hB v _ he (fun e q => by cases q; exact k) (fun v' q => by cases q)
  ·rename_i v' he
   exact hB v _ he (fun e q => by cases q) (fun v'' q => by cases q; exact loopN_tri hB n v' e h k)
theorem loopN_inv {V E : Type} {B : V → Option (E ⊕ V)} (I : V → Prop) (P : E → Prop) (μ : V → Nat) (hB : ∀ v, I v → (∃ e, B v = some (.inl e) ∧ P e) ∨ ∃ v', B v = some (.inr v') ∧ I v' ∧ μ v' < μ v) : ∀ (n : Nat) (v : V), I v → μ v < n → ∃ e, loopN B n v = some e ∧ P e
 | 0, _, _, h => absurd h (Nat.not_lt_zero _)
 | n + 1, v, hv, hm => by
  rcases hB v hv with ⟨e, h1, h2⟩ | ⟨v', h1, h2, h3⟩
  ·exact ⟨e, by simp only [loopN, h1], h2⟩
  ·obtain ⟨e, g1, g2⟩ := loopN_inv I P μ hB n v' h2 (by omega)
   exact ⟨e, by simp only [loopN, h1]; exact g1, g2⟩
theorem qfn {α : Type} {P : α → Prop} : ∀ t ∈ ([] : List α), P t := fun _ h => nomatch h
theorem qfc {α : Type} {P : α → Prop} {a : α} {t : List α} (h : P a) (ht : ∀ x ∈ t, P x) : ∀ x ∈ a :: t, P x := fun x hx => by rcases List.mem_cons.mp hx with rfl | q; exact h; exact ht x q
theorem QW_ok {Z : State} {a0 : Array Value} (hw : ∀ d ∈ tables_1, d.before a0 Z = true) : QW Z a0 := by
  have w0 : ∀ k ∈ List.range nF, bif fFin k then (Jvm.Cond.laysFinal cName cName (fNm k) (fDs k)).before a0 Z = true else (Jvm.Cond.lays cName cName (fNm k) (fDs k)).before a0 Z = true :=
    show ∀ k ∈ [0, 1, 2, 3, 4, 5, 6, 7, 8, 9, 10, 11, 12, 13, 14, 15, 16, 17, 18, 19, 20, 21, 22, 23, 24, 25], bif fFin k then (Jvm.Cond.laysFinal cName cName (fNm k) (fDs k)).before a0 Z = true else (Jvm.Cond.lays cName cName (fNm k) (fDs k)).before a0 Z = true from
    (qfc (hw _ (List.mem_of_getElem? (i := 11) rfl)) (qfc (hw _ (List.mem_of_getElem? (i := 14) rfl)) (qfc (hw _ (List.mem_of_getElem? (i := 16) rfl)) (qfc (hw _ (List.mem_of_getElem? (i := 18) rfl)) (qfc (hw _ (List.mem_of_getElem? (i := 20) rfl)) (qfc (hw _ (List.mem_of_getElem? (i := 22) rfl)) (qfc (hw _ (List.mem_of_getElem? (i := 24) rfl)) (qfc (hw _ (List.mem_of_getElem? (i := 26) rfl)) (qfc (hw _ (List.mem_of_getElem? (i := 28) rfl)) (qfc (hw _ (List.mem_of_getElem? (i := 30) rfl)) (qfc (hw _ (List.mem_of_getElem? (i := 32) rfl)) (qfc (hw _ (List.mem_of_getElem? (i := 34) rfl)) (qfc (hw _ (List.mem_of_getElem? (i := 36) rfl)) (qfc (hw _ (List.mem_of_getElem? (i := 38) rfl)) (qfc (hw _ (List.mem_of_getElem? (i := 40) rfl)) (qfc (hw _ (List.mem_of_getElem? (i := 42) rfl)) (qfc (hw _ (List.mem_of_getElem? (i := 44) rfl)) (qfc (hw _ (List.mem_of_getElem? (i := 46) rfl)) (qfc (hw _ (List.mem_of_getElem? (i := 48) rfl)) (qfc (hw _ (List.mem_of_getElem? (i := 54) rfl)) (qfc (hw _ (List.mem_of_getElem? (i := 56) rfl)) (qfc (hw _ (List.mem_of_getElem? (i := 58) rfl)) (qfc (hw _ (List.mem_of_getElem? (i := 60) rfl)) (qfc (hw _ (List.mem_of_getElem? (i := 67) rfl)) (qfc (hw _ (List.mem_of_getElem? (i := 145) rfl)) (qfc (hw _ (List.mem_of_getElem? (i := 151) rfl)) qfn))))))))))))))))))))))))))
  refine ⟨?_, ?_, ?_, ?_, ?_, ?_, ?_, ?_, ?_, ?_, ?_, ?_, ?_, (fun k hk => w0 k (List.mem_range.mpr hk)), ?_, ?_, ?_⟩
  · exact (qfc (hw _ (List.mem_of_getElem? (i := 10) rfl)) (qfc (hw _ (List.mem_of_getElem? (i := 13) rfl)) (qfc (hw _ (List.mem_of_getElem? (i := 15) rfl)) (qfc (hw _ (List.mem_of_getElem? (i := 17) rfl)) (qfc (hw _ (List.mem_of_getElem? (i := 19) rfl)) (qfc (hw _ (List.mem_of_getElem? (i := 21) rfl)) (qfc (hw _ (List.mem_of_getElem? (i := 23) rfl)) (qfc (hw _ (List.mem_of_getElem? (i := 25) rfl)) (qfc (hw _ (List.mem_of_getElem? (i := 27) rfl)) (qfc (hw _ (List.mem_of_getElem? (i := 29) rfl)) (qfc (hw _ (List.mem_of_getElem? (i := 31) rfl)) (qfc (hw _ (List.mem_of_getElem? (i := 33) rfl)) (qfc (hw _ (List.mem_of_getElem? (i := 35) rfl)) (qfc (hw _ (List.mem_of_getElem? (i := 37) rfl)) (qfc (hw _ (List.mem_of_getElem? (i := 39) rfl)) (qfc (hw _ (List.mem_of_getElem? (i := 41) rfl)) (qfc (hw _ (List.mem_of_getElem? (i := 43) rfl)) (qfc (hw _ (List.mem_of_getElem? (i := 45) rfl)) (qfc (hw _ (List.mem_of_getElem? (i := 47) rfl)) (qfc (hw _ (List.mem_of_getElem? (i := 53) rfl)) (qfc (hw _ (List.mem_of_getElem? (i := 55) rfl)) (qfc (hw _ (List.mem_of_getElem? (i := 57) rfl)) (qfc (hw _ (List.mem_of_getElem? (i := 59) rfl)) (qfc (hw _ (List.mem_of_getElem? (i := 66) rfl)) (qfc (hw _ (List.mem_of_getElem? (i := 144) rfl)) (qfc (hw _ (List.mem_of_getElem? (i := 150) rfl)) qfn))))))))))))))))))))))))))
  · exact (qfc (hw _ (List.mem_of_getElem? (i := 0) rfl)) qfn)
  · exact qfn
  · exact qfn
  · exact (qfc (hw _ (List.mem_of_getElem? (i := 3) rfl)) (qfc (hw _ (List.mem_of_getElem? (i := 49) rfl)) (qfc (hw _ (List.mem_of_getElem? (i := 61) rfl)) (qfc (hw _ (List.mem_of_getElem? (i := 68) rfl)) (qfc (hw _ (List.mem_of_getElem? (i := 72) rfl)) (qfc (hw _ (List.mem_of_getElem? (i := 76) rfl)) (qfc (hw _ (List.mem_of_getElem? (i := 80) rfl)) (qfc (hw _ (List.mem_of_getElem? (i := 84) rfl)) (qfc (hw _ (List.mem_of_getElem? (i := 88) rfl)) (qfc (hw _ (List.mem_of_getElem? (i := 92) rfl)) (qfc (hw _ (List.mem_of_getElem? (i := 96) rfl)) (qfc (hw _ (List.mem_of_getElem? (i := 100) rfl)) (qfc (hw _ (List.mem_of_getElem? (i := 104) rfl)) (qfc (hw _ (List.mem_of_getElem? (i := 108) rfl)) (qfc (hw _ (List.mem_of_getElem? (i := 112) rfl)) (qfc (hw _ (List.mem_of_getElem? (i := 117) rfl)) (qfc (hw _ (List.mem_of_getElem? (i := 121) rfl)) (qfc (hw _ (List.mem_of_getElem? (i := 125) rfl)) (qfc (hw _ (List.mem_of_getElem? (i := 130) rfl)) (qfc (hw _ (List.mem_of_getElem? (i := 135) rfl)) (qfc (hw _ (List.mem_of_getElem? (i := 140) rfl)) (qfc (hw _ (List.mem_of_getElem? (i := 146) rfl)) (qfc (hw _ (List.mem_of_getElem? (i := 152) rfl)) (qfc (hw _ (List.mem_of_getElem? (i := 156) rfl)) (qfc (hw _ (List.mem_of_getElem? (i := 160) rfl)) (qfc (hw _ (List.mem_of_getElem? (i := 164) rfl)) (qfc (hw _ (List.mem_of_getElem? (i := 168) rfl)) (qfc (hw _ (List.mem_of_getElem? (i := 172) rfl)) (qfc (hw _ (List.mem_of_getElem? (i := 176) rfl)) (qfc (hw _ (List.mem_of_getElem? (i := 181) rfl)) (qfc (hw _ (List.mem_of_getElem? (i := 186) rfl)) (qfc (hw _ (List.mem_of_getElem? (i := 191) rfl)) (qfc (hw _ (List.mem_of_getElem? (i := 196) rfl)) qfn)))))))))))))))))))))))))))))))))
  · exact (qfc (hw _ (List.mem_of_getElem? (i := 6) rfl)) qfn)
  · exact (qfc ⟨(hw _ (List.mem_of_getElem? (i := 62) rfl)), (hw _ (List.mem_of_getElem? (i := 64) rfl)), (hw _ (List.mem_of_getElem? (i := 63) rfl))⟩ (qfc ⟨(hw _ (List.mem_of_getElem? (i := 113) rfl)), (hw _ (List.mem_of_getElem? (i := 115) rfl)), (hw _ (List.mem_of_getElem? (i := 114) rfl))⟩ (qfc ⟨(hw _ (List.mem_of_getElem? (i := 126) rfl)), (hw _ (List.mem_of_getElem? (i := 128) rfl)), (hw _ (List.mem_of_getElem? (i := 127) rfl))⟩ (qfc ⟨(hw _ (List.mem_of_getElem? (i := 131) rfl)), (hw _ (List.mem_of_getElem? (i := 133) rfl)), (hw _ (List.mem_of_getElem? (i := 132) rfl))⟩ (qfc ⟨(hw _ (List.mem_of_getElem? (i := 136) rfl)), (hw _ (List.mem_of_getElem? (i := 138) rfl)), (hw _ (List.mem_of_getElem? (i := 137) rfl))⟩ (qfc ⟨(hw _ (List.mem_of_getElem? (i := 177) rfl)), (hw _ (List.mem_of_getElem? (i := 179) rfl)), (hw _ (List.mem_of_getElem? (i := 178) rfl))⟩ (qfc ⟨(hw _ (List.mem_of_getElem? (i := 182) rfl)), (hw _ (List.mem_of_getElem? (i := 184) rfl)), (hw _ (List.mem_of_getElem? (i := 183) rfl))⟩ (qfc ⟨(hw _ (List.mem_of_getElem? (i := 187) rfl)), (hw _ (List.mem_of_getElem? (i := 189) rfl)), (hw _ (List.mem_of_getElem? (i := 188) rfl))⟩ (qfc ⟨(hw _ (List.mem_of_getElem? (i := 192) rfl)), (hw _ (List.mem_of_getElem? (i := 194) rfl)), (hw _ (List.mem_of_getElem? (i := 193) rfl))⟩ (qfc ⟨(hw _ (List.mem_of_getElem? (i := 197) rfl)), (hw _ (List.mem_of_getElem? (i := 199) rfl)), (hw _ (List.mem_of_getElem? (i := 198) rfl))⟩ qfn))))))))))
  · exact (qfc ⟨(hw _ (List.mem_of_getElem? (i := 50) rfl)), (hw _ (List.mem_of_getElem? (i := 51) rfl))⟩ (qfc ⟨(hw _ (List.mem_of_getElem? (i := 69) rfl)), (hw _ (List.mem_of_getElem? (i := 70) rfl))⟩ (qfc ⟨(hw _ (List.mem_of_getElem? (i := 73) rfl)), (hw _ (List.mem_of_getElem? (i := 74) rfl))⟩ (qfc ⟨(hw _ (List.mem_of_getElem? (i := 77) rfl)), (hw _ (List.mem_of_getElem? (i := 78) rfl))⟩ (qfc ⟨(hw _ (List.mem_of_getElem? (i := 81) rfl)), (hw _ (List.mem_of_getElem? (i := 82) rfl))⟩ (qfc ⟨(hw _ (List.mem_of_getElem? (i := 85) rfl)), (hw _ (List.mem_of_getElem? (i := 86) rfl))⟩ (qfc ⟨(hw _ (List.mem_of_getElem? (i := 89) rfl)), (hw _ (List.mem_of_getElem? (i := 90) rfl))⟩ (qfc ⟨(hw _ (List.mem_of_getElem? (i := 93) rfl)), (hw _ (List.mem_of_getElem? (i := 94) rfl))⟩ (qfc ⟨(hw _ (List.mem_of_getElem? (i := 97) rfl)), (hw _ (List.mem_of_getElem? (i := 98) rfl))⟩ (qfc ⟨(hw _ (List.mem_of_getElem? (i := 101) rfl)), (hw _ (List.mem_of_getElem? (i := 102) rfl))⟩ (qfc ⟨(hw _ (List.mem_of_getElem? (i := 105) rfl)), (hw _ (List.mem_of_getElem? (i := 106) rfl))⟩ (qfc ⟨(hw _ (List.mem_of_getElem? (i := 109) rfl)), (hw _ (List.mem_of_getElem? (i := 110) rfl))⟩ (qfc ⟨(hw _ (List.mem_of_getElem? (i := 118) rfl)), (hw _ (List.mem_of_getElem? (i := 119) rfl))⟩ (qfc ⟨(hw _ (List.mem_of_getElem? (i := 122) rfl)), (hw _ (List.mem_of_getElem? (i := 123) rfl))⟩ (qfc ⟨(hw _ (List.mem_of_getElem? (i := 141) rfl)), (hw _ (List.mem_of_getElem? (i := 142) rfl))⟩ (qfc ⟨(hw _ (List.mem_of_getElem? (i := 147) rfl)), (hw _ (List.mem_of_getElem? (i := 148) rfl))⟩ (qfc ⟨(hw _ (List.mem_of_getElem? (i := 153) rfl)), (hw _ (List.mem_of_getElem? (i := 154) rfl))⟩ (qfc ⟨(hw _ (List.mem_of_getElem? (i := 157) rfl)), (hw _ (List.mem_of_getElem? (i := 158) rfl))⟩ (qfc ⟨(hw _ (List.mem_of_getElem? (i := 161) rfl)), (hw _ (List.mem_of_getElem? (i := 162) rfl))⟩ (qfc ⟨(hw _ (List.mem_of_getElem? (i := 165) rfl)), (hw _ (List.mem_of_getElem? (i := 166) rfl))⟩ (qfc ⟨(hw _ (List.mem_of_getElem? (i := 169) rfl)), (hw _ (List.mem_of_getElem? (i := 170) rfl))⟩ (qfc ⟨(hw _ (List.mem_of_getElem? (i := 173) rfl)), (hw _ (List.mem_of_getElem? (i := 174) rfl))⟩ qfn))))))))))))))))))))))
  · exact qfn
  · exact (qfc (hw _ (List.mem_of_getElem? (i := 4) rfl)) qfn)
  · exact (qfc ⟨(hw _ (List.mem_of_getElem? (i := 5) rfl)), (hw _ (List.mem_of_getElem? (i := 2) rfl))⟩ (qfc ⟨(hw _ (List.mem_of_getElem? (i := 52) rfl)), (hw _ (List.mem_of_getElem? (i := 2) rfl))⟩ (qfc ⟨(hw _ (List.mem_of_getElem? (i := 65) rfl)), (hw _ (List.mem_of_getElem? (i := 2) rfl))⟩ (qfc ⟨(hw _ (List.mem_of_getElem? (i := 71) rfl)), (hw _ (List.mem_of_getElem? (i := 2) rfl))⟩ (qfc ⟨(hw _ (List.mem_of_getElem? (i := 75) rfl)), (hw _ (List.mem_of_getElem? (i := 2) rfl))⟩ (qfc ⟨(hw _ (List.mem_of_getElem? (i := 79) rfl)), (hw _ (List.mem_of_getElem? (i := 2) rfl))⟩ (qfc ⟨(hw _ (List.mem_of_getElem? (i := 83) rfl)), (hw _ (List.mem_of_getElem? (i := 2) rfl))⟩ (qfc ⟨(hw _ (List.mem_of_getElem? (i := 87) rfl)), (hw _ (List.mem_of_getElem? (i := 2) rfl))⟩ (qfc ⟨(hw _ (List.mem_of_getElem? (i := 91) rfl)), (hw _ (List.mem_of_getElem? (i := 2) rfl))⟩ (qfc ⟨(hw _ (List.mem_of_getElem? (i := 95) rfl)), (hw _ (List.mem_of_getElem? (i := 2) rfl))⟩ (qfc ⟨(hw _ (List.mem_of_getElem? (i := 99) rfl)), (hw _ (List.mem_of_getElem? (i := 2) rfl))⟩ (qfc ⟨(hw _ (List.mem_of_getElem? (i := 103) rfl)), (hw _ (List.mem_of_getElem? (i := 2) rfl))⟩ (qfc ⟨(hw _ (List.mem_of_getElem? (i := 107) rfl)), (hw _ (List.mem_of_getElem? (i := 2) rfl))⟩ (qfc ⟨(hw _ (List.mem_of_getElem? (i := 111) rfl)), (hw _ (List.mem_of_getElem? (i := 2) rfl))⟩ (qfc ⟨(hw _ (List.mem_of_getElem? (i := 116) rfl)), (hw _ (List.mem_of_getElem? (i := 2) rfl))⟩ (qfc ⟨(hw _ (List.mem_of_getElem? (i := 120) rfl)), (hw _ (List.mem_of_getElem? (i := 2) rfl))⟩ (qfc ⟨(hw _ (List.mem_of_getElem? (i := 124) rfl)), (hw _ (List.mem_of_getElem? (i := 2) rfl))⟩ (qfc ⟨(hw _ (List.mem_of_getElem? (i := 129) rfl)), (hw _ (List.mem_of_getElem? (i := 2) rfl))⟩ (qfc ⟨(hw _ (List.mem_of_getElem? (i := 134) rfl)), (hw _ (List.mem_of_getElem? (i := 2) rfl))⟩ (qfc ⟨(hw _ (List.mem_of_getElem? (i := 139) rfl)), (hw _ (List.mem_of_getElem? (i := 2) rfl))⟩ (qfc ⟨(hw _ (List.mem_of_getElem? (i := 143) rfl)), (hw _ (List.mem_of_getElem? (i := 2) rfl))⟩ (qfc ⟨(hw _ (List.mem_of_getElem? (i := 149) rfl)), (hw _ (List.mem_of_getElem? (i := 2) rfl))⟩ (qfc ⟨(hw _ (List.mem_of_getElem? (i := 155) rfl)), (hw _ (List.mem_of_getElem? (i := 2) rfl))⟩ (qfc ⟨(hw _ (List.mem_of_getElem? (i := 159) rfl)), (hw _ (List.mem_of_getElem? (i := 2) rfl))⟩ (qfc ⟨(hw _ (List.mem_of_getElem? (i := 163) rfl)), (hw _ (List.mem_of_getElem? (i := 2) rfl))⟩ (qfc ⟨(hw _ (List.mem_of_getElem? (i := 167) rfl)), (hw _ (List.mem_of_getElem? (i := 2) rfl))⟩ (qfc ⟨(hw _ (List.mem_of_getElem? (i := 171) rfl)), (hw _ (List.mem_of_getElem? (i := 2) rfl))⟩ (qfc ⟨(hw _ (List.mem_of_getElem? (i := 175) rfl)), (hw _ (List.mem_of_getElem? (i := 2) rfl))⟩ (qfc ⟨(hw _ (List.mem_of_getElem? (i := 180) rfl)), (hw _ (List.mem_of_getElem? (i := 2) rfl))⟩ (qfc ⟨(hw _ (List.mem_of_getElem? (i := 185) rfl)), (hw _ (List.mem_of_getElem? (i := 2) rfl))⟩ (qfc ⟨(hw _ (List.mem_of_getElem? (i := 190) rfl)), (hw _ (List.mem_of_getElem? (i := 2) rfl))⟩ (qfc ⟨(hw _ (List.mem_of_getElem? (i := 195) rfl)), (hw _ (List.mem_of_getElem? (i := 2) rfl))⟩ (qfc ⟨(hw _ (List.mem_of_getElem? (i := 200) rfl)), (hw _ (List.mem_of_getElem? (i := 2) rfl))⟩ qfn)))))))))))))))))))))))))))))))))
  · exact (hw _ (List.mem_of_getElem? (i := 7) rfl))
  · exact (hw _ (List.mem_of_getElem? (i := 8) rfl))
  · exact (hw _ (List.mem_of_getElem? (i := 1) rfl))
  · exact (hw _ (List.mem_of_getElem? (i := 2) rfl))
  · exact (qfc (hw _ (List.mem_of_getElem? (i := 9) rfl)) (qfc (hw _ (List.mem_of_getElem? (i := 12) rfl)) qfn))
abbrev Ob := List Int32 × List Int32 × List Int32 × List Int32 × List Int32 × List Int32 × List Int32 × List Int32 × List Int32 × List Int32 × List Int32 × List Int32 × List Int32 × List Int32 × List Int32 × List Int32 × List Int32 × List Int32 × List Int32 × Int32 × Int32 × Int32 × Int32 × Int32 × Int32 × Int32
def f_srcPayload (o : Ob) : List Int32 := o.1
def f_pend (o : Ob) : List Int32 := o.2.1
def f_queue (o : Ob) : List Int32 := o.2.2.1
def f_stats (o : Ob) : List Int32 := o.2.2.2.1
def f_state (o : Ob) : List Int32 := o.2.2.2.2.1
def f_timer (o : Ob) : List Int32 := o.2.2.2.2.2.1
def f_rxVal (o : Ob) : List Int32 := o.2.2.2.2.2.2.1
def f_rxNext (o : Ob) : List Int32 := o.2.2.2.2.2.2.2.1
def f_rxLead (o : Ob) : List Int32 := o.2.2.2.2.2.2.2.2.1
def f_rxTrail (o : Ob) : List Int32 := o.2.2.2.2.2.2.2.2.2.1
def f_lossLeft (o : Ob) : List Int32 := o.2.2.2.2.2.2.2.2.2.2.1
def f_dups (o : Ob) : List Int32 := o.2.2.2.2.2.2.2.2.2.2.2.1
def f_drops (o : Ob) : List Int32 := o.2.2.2.2.2.2.2.2.2.2.2.2.1
def f_delSeq (o : Ob) : List Int32 := o.2.2.2.2.2.2.2.2.2.2.2.2.2.1
def f_delVal (o : Ob) : List Int32 := o.2.2.2.2.2.2.2.2.2.2.2.2.2.2.1
def f_delLen (o : Ob) : List Int32 := o.2.2.2.2.2.2.2.2.2.2.2.2.2.2.2.1
def f_lostLog (o : Ob) : List Int32 := o.2.2.2.2.2.2.2.2.2.2.2.2.2.2.2.2.1
def f_lostLen (o : Ob) : List Int32 := o.2.2.2.2.2.2.2.2.2.2.2.2.2.2.2.2.2.1
def f_nakBuf (o : Ob) : List Int32 := o.2.2.2.2.2.2.2.2.2.2.2.2.2.2.2.2.2.2.1
def f_win (o : Ob) : Int32 := o.2.2.2.2.2.2.2.2.2.2.2.2.2.2.2.2.2.2.2.1
def f_back (o : Ob) : Int32 := o.2.2.2.2.2.2.2.2.2.2.2.2.2.2.2.2.2.2.2.2.1
def f_repair (o : Ob) : Int32 := o.2.2.2.2.2.2.2.2.2.2.2.2.2.2.2.2.2.2.2.2.2.1
def f_period (o : Ob) : Int32 := o.2.2.2.2.2.2.2.2.2.2.2.2.2.2.2.2.2.2.2.2.2.2.1
def f_nextSeq (o : Ob) : Int32 := o.2.2.2.2.2.2.2.2.2.2.2.2.2.2.2.2.2.2.2.2.2.2.2.1
def f_qLen (o : Ob) : Int32 := o.2.2.2.2.2.2.2.2.2.2.2.2.2.2.2.2.2.2.2.2.2.2.2.2.1
def f_nakLen (o : Ob) : Int32 := o.2.2.2.2.2.2.2.2.2.2.2.2.2.2.2.2.2.2.2.2.2.2.2.2.2
def s_srcPayload (o : Ob) (v : List Int32) : Ob := (v, o.2.1, o.2.2.1, o.2.2.2.1, o.2.2.2.2.1, o.2.2.2.2.2.1, o.2.2.2.2.2.2.1, o.2.2.2.2.2.2.2.1, o.2.2.2.2.2.2.2.2.1, o.2.2.2.2.2.2.2.2.2.1, o.2.2.2.2.2.2.2.2.2.2.1, o.2.2.2.2.2.2.2.2.2.2.2.1, o.2.2.2.2.2.2.2.2.2.2.2.2.1, o.2.2.2.2.2.2.2.2.2.2.2.2.2.1, o.2.2.2.2.2.2.2.2.2.2.2.2.2.2.1, o.2.2.2.2.2.2.2.2.2.2.2.2.2.2.2.1, o.2.2.2.2.2.2.2.2.2.2.2.2.2.2.2.2.1, o.2.2.2.2.2.2.2.2.2.2.2.2.2.2.2.2.2.1, o.2.2.2.2.2.2.2.2.2.2.2.2.2.2.2.2.2.2.1, o.2.2.2.2.2.2.2.2.2.2.2.2.2.2.2.2.2.2.2.1, o.2.2.2.2.2.2.2.2.2.2.2.2.2.2.2.2.2.2.2.2.1, o.2.2.2.2.2.2.2.2.2.2.2.2.2.2.2.2.2.2.2.2.2.1, o.2.2.2.2.2.2.2.2.2.2.2.2.2.2.2.2.2.2.2.2.2.2.1, o.2.2.2.2.2.2.2.2.2.2.2.2.2.2.2.2.2.2.2.2.2.2.2.1, o.2.2.2.2.2.2.2.2.2.2.2.2.2.2.2.2.2.2.2.2.2.2.2.2.1, o.2.2.2.2.2.2.2.2.2.2.2.2.2.2.2.2.2.2.2.2.2.2.2.2.2)
def s_pend (o : Ob) (v : List Int32) : Ob := (o.1, v, o.2.2.1, o.2.2.2.1, o.2.2.2.2.1, o.2.2.2.2.2.1, o.2.2.2.2.2.2.1, o.2.2.2.2.2.2.2.1, o.2.2.2.2.2.2.2.2.1, o.2.2.2.2.2.2.2.2.2.1, o.2.2.2.2.2.2.2.2.2.2.1, o.2.2.2.2.2.2.2.2.2.2.2.1, o.2.2.2.2.2.2.2.2.2.2.2.2.1, o.2.2.2.2.2.2.2.2.2.2.2.2.2.1, o.2.2.2.2.2.2.2.2.2.2.2.2.2.2.1, o.2.2.2.2.2.2.2.2.2.2.2.2.2.2.2.1, o.2.2.2.2.2.2.2.2.2.2.2.2.2.2.2.2.1, o.2.2.2.2.2.2.2.2.2.2.2.2.2.2.2.2.2.1, o.2.2.2.2.2.2.2.2.2.2.2.2.2.2.2.2.2.2.1, o.2.2.2.2.2.2.2.2.2.2.2.2.2.2.2.2.2.2.2.1, o.2.2.2.2.2.2.2.2.2.2.2.2.2.2.2.2.2.2.2.2.1, o.2.2.2.2.2.2.2.2.2.2.2.2.2.2.2.2.2.2.2.2.2.1, o.2.2.2.2.2.2.2.2.2.2.2.2.2.2.2.2.2.2.2.2.2.2.1, o.2.2.2.2.2.2.2.2.2.2.2.2.2.2.2.2.2.2.2.2.2.2.2.1, o.2.2.2.2.2.2.2.2.2.2.2.2.2.2.2.2.2.2.2.2.2.2.2.2.1, o.2.2.2.2.2.2.2.2.2.2.2.2.2.2.2.2.2.2.2.2.2.2.2.2.2)
def s_queue (o : Ob) (v : List Int32) : Ob := (o.1, o.2.1, v, o.2.2.2.1, o.2.2.2.2.1, o.2.2.2.2.2.1, o.2.2.2.2.2.2.1, o.2.2.2.2.2.2.2.1, o.2.2.2.2.2.2.2.2.1, o.2.2.2.2.2.2.2.2.2.1, o.2.2.2.2.2.2.2.2.2.2.1, o.2.2.2.2.2.2.2.2.2.2.2.1, o.2.2.2.2.2.2.2.2.2.2.2.2.1, o.2.2.2.2.2.2.2.2.2.2.2.2.2.1, o.2.2.2.2.2.2.2.2.2.2.2.2.2.2.1, o.2.2.2.2.2.2.2.2.2.2.2.2.2.2.2.1, o.2.2.2.2.2.2.2.2.2.2.2.2.2.2.2.2.1, o.2.2.2.2.2.2.2.2.2.2.2.2.2.2.2.2.2.1, o.2.2.2.2.2.2.2.2.2.2.2.2.2.2.2.2.2.2.1, o.2.2.2.2.2.2.2.2.2.2.2.2.2.2.2.2.2.2.2.1, o.2.2.2.2.2.2.2.2.2.2.2.2.2.2.2.2.2.2.2.2.1, o.2.2.2.2.2.2.2.2.2.2.2.2.2.2.2.2.2.2.2.2.2.1, o.2.2.2.2.2.2.2.2.2.2.2.2.2.2.2.2.2.2.2.2.2.2.1, o.2.2.2.2.2.2.2.2.2.2.2.2.2.2.2.2.2.2.2.2.2.2.2.1, o.2.2.2.2.2.2.2.2.2.2.2.2.2.2.2.2.2.2.2.2.2.2.2.2.1, o.2.2.2.2.2.2.2.2.2.2.2.2.2.2.2.2.2.2.2.2.2.2.2.2.2)
def s_stats (o : Ob) (v : List Int32) : Ob := (o.1, o.2.1, o.2.2.1, v, o.2.2.2.2.1, o.2.2.2.2.2.1, o.2.2.2.2.2.2.1, o.2.2.2.2.2.2.2.1, o.2.2.2.2.2.2.2.2.1, o.2.2.2.2.2.2.2.2.2.1, o.2.2.2.2.2.2.2.2.2.2.1, o.2.2.2.2.2.2.2.2.2.2.2.1, o.2.2.2.2.2.2.2.2.2.2.2.2.1, o.2.2.2.2.2.2.2.2.2.2.2.2.2.1, o.2.2.2.2.2.2.2.2.2.2.2.2.2.2.1, o.2.2.2.2.2.2.2.2.2.2.2.2.2.2.2.1, o.2.2.2.2.2.2.2.2.2.2.2.2.2.2.2.2.1, o.2.2.2.2.2.2.2.2.2.2.2.2.2.2.2.2.2.1, o.2.2.2.2.2.2.2.2.2.2.2.2.2.2.2.2.2.2.1, o.2.2.2.2.2.2.2.2.2.2.2.2.2.2.2.2.2.2.2.1, o.2.2.2.2.2.2.2.2.2.2.2.2.2.2.2.2.2.2.2.2.1, o.2.2.2.2.2.2.2.2.2.2.2.2.2.2.2.2.2.2.2.2.2.1, o.2.2.2.2.2.2.2.2.2.2.2.2.2.2.2.2.2.2.2.2.2.2.1, o.2.2.2.2.2.2.2.2.2.2.2.2.2.2.2.2.2.2.2.2.2.2.2.1, o.2.2.2.2.2.2.2.2.2.2.2.2.2.2.2.2.2.2.2.2.2.2.2.2.1, o.2.2.2.2.2.2.2.2.2.2.2.2.2.2.2.2.2.2.2.2.2.2.2.2.2)
def s_state (o : Ob) (v : List Int32) : Ob := (o.1, o.2.1, o.2.2.1, o.2.2.2.1, v, o.2.2.2.2.2.1, o.2.2.2.2.2.2.1, o.2.2.2.2.2.2.2.1, o.2.2.2.2.2.2.2.2.1, o.2.2.2.2.2.2.2.2.2.1, o.2.2.2.2.2.2.2.2.2.2.1, o.2.2.2.2.2.2.2.2.2.2.2.1, o.2.2.2.2.2.2.2.2.2.2.2.2.1, o.2.2.2.2.2.2.2.2.2.2.2.2.2.1, o.2.2.2.2.2.2.2.2.2.2.2.2.2.2.1, o.2.2.2.2.2.2.2.2.2.2.2.2.2.2.2.1, o.2.2.2.2.2.2.2.2.2.2.2.2.2.2.2.2.1, o.2.2.2.2.2.2.2.2.2.2.2.2.2.2.2.2.2.1, o.2.2.2.2.2.2.2.2.2.2.2.2.2.2.2.2.2.2.1, o.2.2.2.2.2.2.2.2.2.2.2.2.2.2.2.2.2.2.2.1, o.2.2.2.2.2.2.2.2.2.2.2.2.2.2.2.2.2.2.2.2.1, o.2.2.2.2.2.2.2.2.2.2.2.2.2.2.2.2.2.2.2.2.2.1, o.2.2.2.2.2.2.2.2.2.2.2.2.2.2.2.2.2.2.2.2.2.2.1, o.2.2.2.2.2.2.2.2.2.2.2.2.2.2.2.2.2.2.2.2.2.2.2.1, o.2.2.2.2.2.2.2.2.2.2.2.2.2.2.2.2.2.2.2.2.2.2.2.2.1, o.2.2.2.2.2.2.2.2.2.2.2.2.2.2.2.2.2.2.2.2.2.2.2.2.2)
def s_timer (o : Ob) (v : List Int32) : Ob := (o.1, o.2.1, o.2.2.1, o.2.2.2.1, o.2.2.2.2.1, v, o.2.2.2.2.2.2.1, o.2.2.2.2.2.2.2.1, o.2.2.2.2.2.2.2.2.1, o.2.2.2.2.2.2.2.2.2.1, o.2.2.2.2.2.2.2.2.2.2.1, o.2.2.2.2.2.2.2.2.2.2.2.1, o.2.2.2.2.2.2.2.2.2.2.2.2.1, o.2.2.2.2.2.2.2.2.2.2.2.2.2.1, o.2.2.2.2.2.2.2.2.2.2.2.2.2.2.1, o.2.2.2.2.2.2.2.2.2.2.2.2.2.2.2.1, o.2.2.2.2.2.2.2.2.2.2.2.2.2.2.2.2.1, o.2.2.2.2.2.2.2.2.2.2.2.2.2.2.2.2.2.1, o.2.2.2.2.2.2.2.2.2.2.2.2.2.2.2.2.2.2.1, o.2.2.2.2.2.2.2.2.2.2.2.2.2.2.2.2.2.2.2.1, o.2.2.2.2.2.2.2.2.2.2.2.2.2.2.2.2.2.2.2.2.1, o.2.2.2.2.2.2.2.2.2.2.2.2.2.2.2.2.2.2.2.2.2.1, o.2.2.2.2.2.2.2.2.2.2.2.2.2.2.2.2.2.2.2.2.2.2.1, o.2.2.2.2.2.2.2.2.2.2.2.2.2.2.2.2.2.2.2.2.2.2.2.1, o.2.2.2.2.2.2.2.2.2.2.2.2.2.2.2.2.2.2.2.2.2.2.2.2.1, o.2.2.2.2.2.2.2.2.2.2.2.2.2.2.2.2.2.2.2.2.2.2.2.2.2)
def s_rxVal (o : Ob) (v : List Int32) : Ob := (o.1, o.2.1, o.2.2.1, o.2.2.2.1, o.2.2.2.2.1, o.2.2.2.2.2.1, v, o.2.2.2.2.2.2.2.1, o.2.2.2.2.2.2.2.2.1, o.2.2.2.2.2.2.2.2.2.1, o.2.2.2.2.2.2.2.2.2.2.1, o.2.2.2.2.2.2.2.2.2.2.2.1, o.2.2.2.2.2.2.2.2.2.2.2.2.1, o.2.2.2.2.2.2.2.2.2.2.2.2.2.1, o.2.2.2.2.2.2.2.2.2.2.2.2.2.2.1, o.2.2.2.2.2.2.2.2.2.2.2.2.2.2.2.1, o.2.2.2.2.2.2.2.2.2.2.2.2.2.2.2.2.1, o.2.2.2.2.2.2.2.2.2.2.2.2.2.2.2.2.2.1, o.2.2.2.2.2.2.2.2.2.2.2.2.2.2.2.2.2.2.1, o.2.2.2.2.2.2.2.2.2.2.2.2.2.2.2.2.2.2.2.1, o.2.2.2.2.2.2.2.2.2.2.2.2.2.2.2.2.2.2.2.2.1, o.2.2.2.2.2.2.2.2.2.2.2.2.2.2.2.2.2.2.2.2.2.1, o.2.2.2.2.2.2.2.2.2.2.2.2.2.2.2.2.2.2.2.2.2.2.1, o.2.2.2.2.2.2.2.2.2.2.2.2.2.2.2.2.2.2.2.2.2.2.2.1, o.2.2.2.2.2.2.2.2.2.2.2.2.2.2.2.2.2.2.2.2.2.2.2.2.1, o.2.2.2.2.2.2.2.2.2.2.2.2.2.2.2.2.2.2.2.2.2.2.2.2.2)
def s_rxNext (o : Ob) (v : List Int32) : Ob := (o.1, o.2.1, o.2.2.1, o.2.2.2.1, o.2.2.2.2.1, o.2.2.2.2.2.1, o.2.2.2.2.2.2.1, v, o.2.2.2.2.2.2.2.2.1, o.2.2.2.2.2.2.2.2.2.1, o.2.2.2.2.2.2.2.2.2.2.1, o.2.2.2.2.2.2.2.2.2.2.2.1, o.2.2.2.2.2.2.2.2.2.2.2.2.1, o.2.2.2.2.2.2.2.2.2.2.2.2.2.1, o.2.2.2.2.2.2.2.2.2.2.2.2.2.2.1, o.2.2.2.2.2.2.2.2.2.2.2.2.2.2.2.1, o.2.2.2.2.2.2.2.2.2.2.2.2.2.2.2.2.1, o.2.2.2.2.2.2.2.2.2.2.2.2.2.2.2.2.2.1, o.2.2.2.2.2.2.2.2.2.2.2.2.2.2.2.2.2.2.1, o.2.2.2.2.2.2.2.2.2.2.2.2.2.2.2.2.2.2.2.1, o.2.2.2.2.2.2.2.2.2.2.2.2.2.2.2.2.2.2.2.2.1, o.2.2.2.2.2.2.2.2.2.2.2.2.2.2.2.2.2.2.2.2.2.1, o.2.2.2.2.2.2.2.2.2.2.2.2.2.2.2.2.2.2.2.2.2.2.1, o.2.2.2.2.2.2.2.2.2.2.2.2.2.2.2.2.2.2.2.2.2.2.2.1, o.2.2.2.2.2.2.2.2.2.2.2.2.2.2.2.2.2.2.2.2.2.2.2.2.1, o.2.2.2.2.2.2.2.2.2.2.2.2.2.2.2.2.2.2.2.2.2.2.2.2.2)
def s_rxLead (o : Ob) (v : List Int32) : Ob := (o.1, o.2.1, o.2.2.1, o.2.2.2.1, o.2.2.2.2.1, o.2.2.2.2.2.1, o.2.2.2.2.2.2.1, o.2.2.2.2.2.2.2.1, v, o.2.2.2.2.2.2.2.2.2.1, o.2.2.2.2.2.2.2.2.2.2.1, o.2.2.2.2.2.2.2.2.2.2.2.1, o.2.2.2.2.2.2.2.2.2.2.2.2.1, o.2.2.2.2.2.2.2.2.2.2.2.2.2.1, o.2.2.2.2.2.2.2.2.2.2.2.2.2.2.1, o.2.2.2.2.2.2.2.2.2.2.2.2.2.2.2.1, o.2.2.2.2.2.2.2.2.2.2.2.2.2.2.2.2.1, o.2.2.2.2.2.2.2.2.2.2.2.2.2.2.2.2.2.1, o.2.2.2.2.2.2.2.2.2.2.2.2.2.2.2.2.2.2.1, o.2.2.2.2.2.2.2.2.2.2.2.2.2.2.2.2.2.2.2.1, o.2.2.2.2.2.2.2.2.2.2.2.2.2.2.2.2.2.2.2.2.1, o.2.2.2.2.2.2.2.2.2.2.2.2.2.2.2.2.2.2.2.2.2.1, o.2.2.2.2.2.2.2.2.2.2.2.2.2.2.2.2.2.2.2.2.2.2.1, o.2.2.2.2.2.2.2.2.2.2.2.2.2.2.2.2.2.2.2.2.2.2.2.1, o.2.2.2.2.2.2.2.2.2.2.2.2.2.2.2.2.2.2.2.2.2.2.2.2.1, o.2.2.2.2.2.2.2.2.2.2.2.2.2.2.2.2.2.2.2.2.2.2.2.2.2)
def s_rxTrail (o : Ob) (v : List Int32) : Ob := (o.1, o.2.1, o.2.2.1, o.2.2.2.1, o.2.2.2.2.1, o.2.2.2.2.2.1, o.2.2.2.2.2.2.1, o.2.2.2.2.2.2.2.1, o.2.2.2.2.2.2.2.2.1, v, o.2.2.2.2.2.2.2.2.2.2.1, o.2.2.2.2.2.2.2.2.2.2.2.1, o.2.2.2.2.2.2.2.2.2.2.2.2.1, o.2.2.2.2.2.2.2.2.2.2.2.2.2.1, o.2.2.2.2.2.2.2.2.2.2.2.2.2.2.1, o.2.2.2.2.2.2.2.2.2.2.2.2.2.2.2.1, o.2.2.2.2.2.2.2.2.2.2.2.2.2.2.2.2.1, o.2.2.2.2.2.2.2.2.2.2.2.2.2.2.2.2.2.1, o.2.2.2.2.2.2.2.2.2.2.2.2.2.2.2.2.2.2.1, o.2.2.2.2.2.2.2.2.2.2.2.2.2.2.2.2.2.2.2.1, o.2.2.2.2.2.2.2.2.2.2.2.2.2.2.2.2.2.2.2.2.1, o.2.2.2.2.2.2.2.2.2.2.2.2.2.2.2.2.2.2.2.2.2.1, o.2.2.2.2.2.2.2.2.2.2.2.2.2.2.2.2.2.2.2.2.2.2.1, o.2.2.2.2.2.2.2.2.2.2.2.2.2.2.2.2.2.2.2.2.2.2.2.1, o.2.2.2.2.2.2.2.2.2.2.2.2.2.2.2.2.2.2.2.2.2.2.2.2.1, o.2.2.2.2.2.2.2.2.2.2.2.2.2.2.2.2.2.2.2.2.2.2.2.2.2)
def s_lossLeft (o : Ob) (v : List Int32) : Ob := (o.1, o.2.1, o.2.2.1, o.2.2.2.1, o.2.2.2.2.1, o.2.2.2.2.2.1, o.2.2.2.2.2.2.1, o.2.2.2.2.2.2.2.1, o.2.2.2.2.2.2.2.2.1, o.2.2.2.2.2.2.2.2.2.1, v, o.2.2.2.2.2.2.2.2.2.2.2.1, o.2.2.2.2.2.2.2.2.2.2.2.2.1, o.2.2.2.2.2.2.2.2.2.2.2.2.2.1, o.2.2.2.2.2.2.2.2.2.2.2.2.2.2.1, o.2.2.2.2.2.2.2.2.2.2.2.2.2.2.2.1, o.2.2.2.2.2.2.2.2.2.2.2.2.2.2.2.2.1, o.2.2.2.2.2.2.2.2.2.2.2.2.2.2.2.2.2.1, o.2.2.2.2.2.2.2.2.2.2.2.2.2.2.2.2.2.2.1, o.2.2.2.2.2.2.2.2.2.2.2.2.2.2.2.2.2.2.2.1, o.2.2.2.2.2.2.2.2.2.2.2.2.2.2.2.2.2.2.2.2.1, o.2.2.2.2.2.2.2.2.2.2.2.2.2.2.2.2.2.2.2.2.2.1, o.2.2.2.2.2.2.2.2.2.2.2.2.2.2.2.2.2.2.2.2.2.2.1, o.2.2.2.2.2.2.2.2.2.2.2.2.2.2.2.2.2.2.2.2.2.2.2.1, o.2.2.2.2.2.2.2.2.2.2.2.2.2.2.2.2.2.2.2.2.2.2.2.2.1, o.2.2.2.2.2.2.2.2.2.2.2.2.2.2.2.2.2.2.2.2.2.2.2.2.2)
def s_dups (o : Ob) (v : List Int32) : Ob := (o.1, o.2.1, o.2.2.1, o.2.2.2.1, o.2.2.2.2.1, o.2.2.2.2.2.1, o.2.2.2.2.2.2.1, o.2.2.2.2.2.2.2.1, o.2.2.2.2.2.2.2.2.1, o.2.2.2.2.2.2.2.2.2.1, o.2.2.2.2.2.2.2.2.2.2.1, v, o.2.2.2.2.2.2.2.2.2.2.2.2.1, o.2.2.2.2.2.2.2.2.2.2.2.2.2.1, o.2.2.2.2.2.2.2.2.2.2.2.2.2.2.1, o.2.2.2.2.2.2.2.2.2.2.2.2.2.2.2.1, o.2.2.2.2.2.2.2.2.2.2.2.2.2.2.2.2.1, o.2.2.2.2.2.2.2.2.2.2.2.2.2.2.2.2.2.1, o.2.2.2.2.2.2.2.2.2.2.2.2.2.2.2.2.2.2.1, o.2.2.2.2.2.2.2.2.2.2.2.2.2.2.2.2.2.2.2.1, o.2.2.2.2.2.2.2.2.2.2.2.2.2.2.2.2.2.2.2.2.1, o.2.2.2.2.2.2.2.2.2.2.2.2.2.2.2.2.2.2.2.2.2.1, o.2.2.2.2.2.2.2.2.2.2.2.2.2.2.2.2.2.2.2.2.2.2.1, o.2.2.2.2.2.2.2.2.2.2.2.2.2.2.2.2.2.2.2.2.2.2.2.1, o.2.2.2.2.2.2.2.2.2.2.2.2.2.2.2.2.2.2.2.2.2.2.2.2.1, o.2.2.2.2.2.2.2.2.2.2.2.2.2.2.2.2.2.2.2.2.2.2.2.2.2)
def s_drops (o : Ob) (v : List Int32) : Ob := (o.1, o.2.1, o.2.2.1, o.2.2.2.1, o.2.2.2.2.1, o.2.2.2.2.2.1, o.2.2.2.2.2.2.1, o.2.2.2.2.2.2.2.1, o.2.2.2.2.2.2.2.2.1, o.2.2.2.2.2.2.2.2.2.1, o.2.2.2.2.2.2.2.2.2.2.1, o.2.2.2.2.2.2.2.2.2.2.2.1, v, o.2.2.2.2.2.2.2.2.2.2.2.2.2.1, o.2.2.2.2.2.2.2.2.2.2.2.2.2.2.1, o.2.2.2.2.2.2.2.2.2.2.2.2.2.2.2.1, o.2.2.2.2.2.2.2.2.2.2.2.2.2.2.2.2.1, o.2.2.2.2.2.2.2.2.2.2.2.2.2.2.2.2.2.1, o.2.2.2.2.2.2.2.2.2.2.2.2.2.2.2.2.2.2.1, o.2.2.2.2.2.2.2.2.2.2.2.2.2.2.2.2.2.2.2.1, o.2.2.2.2.2.2.2.2.2.2.2.2.2.2.2.2.2.2.2.2.1, o.2.2.2.2.2.2.2.2.2.2.2.2.2.2.2.2.2.2.2.2.2.1, o.2.2.2.2.2.2.2.2.2.2.2.2.2.2.2.2.2.2.2.2.2.2.1, o.2.2.2.2.2.2.2.2.2.2.2.2.2.2.2.2.2.2.2.2.2.2.2.1, o.2.2.2.2.2.2.2.2.2.2.2.2.2.2.2.2.2.2.2.2.2.2.2.2.1, o.2.2.2.2.2.2.2.2.2.2.2.2.2.2.2.2.2.2.2.2.2.2.2.2.2)
def s_delSeq (o : Ob) (v : List Int32) : Ob := (o.1, o.2.1, o.2.2.1, o.2.2.2.1, o.2.2.2.2.1, o.2.2.2.2.2.1, o.2.2.2.2.2.2.1, o.2.2.2.2.2.2.2.1, o.2.2.2.2.2.2.2.2.1, o.2.2.2.2.2.2.2.2.2.1, o.2.2.2.2.2.2.2.2.2.2.1, o.2.2.2.2.2.2.2.2.2.2.2.1, o.2.2.2.2.2.2.2.2.2.2.2.2.1, v, o.2.2.2.2.2.2.2.2.2.2.2.2.2.2.1, o.2.2.2.2.2.2.2.2.2.2.2.2.2.2.2.1, o.2.2.2.2.2.2.2.2.2.2.2.2.2.2.2.2.1, o.2.2.2.2.2.2.2.2.2.2.2.2.2.2.2.2.2.1, o.2.2.2.2.2.2.2.2.2.2.2.2.2.2.2.2.2.2.1, o.2.2.2.2.2.2.2.2.2.2.2.2.2.2.2.2.2.2.2.1, o.2.2.2.2.2.2.2.2.2.2.2.2.2.2.2.2.2.2.2.2.1, o.2.2.2.2.2.2.2.2.2.2.2.2.2.2.2.2.2.2.2.2.2.1, o.2.2.2.2.2.2.2.2.2.2.2.2.2.2.2.2.2.2.2.2.2.2.1, o.2.2.2.2.2.2.2.2.2.2.2.2.2.2.2.2.2.2.2.2.2.2.2.1, o.2.2.2.2.2.2.2.2.2.2.2.2.2.2.2.2.2.2.2.2.2.2.2.2.1, o.2.2.2.2.2.2.2.2.2.2.2.2.2.2.2.2.2.2.2.2.2.2.2.2.2)
def s_delVal (o : Ob) (v : List Int32) : Ob := (o.1, o.2.1, o.2.2.1, o.2.2.2.1, o.2.2.2.2.1, o.2.2.2.2.2.1, o.2.2.2.2.2.2.1, o.2.2.2.2.2.2.2.1, o.2.2.2.2.2.2.2.2.1, o.2.2.2.2.2.2.2.2.2.1, o.2.2.2.2.2.2.2.2.2.2.1, o.2.2.2.2.2.2.2.2.2.2.2.1, o.2.2.2.2.2.2.2.2.2.2.2.2.1, o.2.2.2.2.2.2.2.2.2.2.2.2.2.1, v, o.2.2.2.2.2.2.2.2.2.2.2.2.2.2.2.1, o.2.2.2.2.2.2.2.2.2.2.2.2.2.2.2.2.1, o.2.2.2.2.2.2.2.2.2.2.2.2.2.2.2.2.2.1, o.2.2.2.2.2.2.2.2.2.2.2.2.2.2.2.2.2.2.1, o.2.2.2.2.2.2.2.2.2.2.2.2.2.2.2.2.2.2.2.1, o.2.2.2.2.2.2.2.2.2.2.2.2.2.2.2.2.2.2.2.2.1, o.2.2.2.2.2.2.2.2.2.2.2.2.2.2.2.2.2.2.2.2.2.1, o.2.2.2.2.2.2.2.2.2.2.2.2.2.2.2.2.2.2.2.2.2.2.1, o.2.2.2.2.2.2.2.2.2.2.2.2.2.2.2.2.2.2.2.2.2.2.2.1, o.2.2.2.2.2.2.2.2.2.2.2.2.2.2.2.2.2.2.2.2.2.2.2.2.1, o.2.2.2.2.2.2.2.2.2.2.2.2.2.2.2.2.2.2.2.2.2.2.2.2.2)
def s_delLen (o : Ob) (v : List Int32) : Ob := (o.1, o.2.1, o.2.2.1, o.2.2.2.1, o.2.2.2.2.1, o.2.2.2.2.2.1, o.2.2.2.2.2.2.1, o.2.2.2.2.2.2.2.1, o.2.2.2.2.2.2.2.2.1, o.2.2.2.2.2.2.2.2.2.1, o.2.2.2.2.2.2.2.2.2.2.1, o.2.2.2.2.2.2.2.2.2.2.2.1, o.2.2.2.2.2.2.2.2.2.2.2.2.1, o.2.2.2.2.2.2.2.2.2.2.2.2.2.1, o.2.2.2.2.2.2.2.2.2.2.2.2.2.2.1, v, o.2.2.2.2.2.2.2.2.2.2.2.2.2.2.2.2.1, o.2.2.2.2.2.2.2.2.2.2.2.2.2.2.2.2.2.1, o.2.2.2.2.2.2.2.2.2.2.2.2.2.2.2.2.2.2.1, o.2.2.2.2.2.2.2.2.2.2.2.2.2.2.2.2.2.2.2.1, o.2.2.2.2.2.2.2.2.2.2.2.2.2.2.2.2.2.2.2.2.1, o.2.2.2.2.2.2.2.2.2.2.2.2.2.2.2.2.2.2.2.2.2.1, o.2.2.2.2.2.2.2.2.2.2.2.2.2.2.2.2.2.2.2.2.2.2.1, o.2.2.2.2.2.2.2.2.2.2.2.2.2.2.2.2.2.2.2.2.2.2.2.1, o.2.2.2.2.2.2.2.2.2.2.2.2.2.2.2.2.2.2.2.2.2.2.2.2.1, o.2.2.2.2.2.2.2.2.2.2.2.2.2.2.2.2.2.2.2.2.2.2.2.2.2)
def s_lostLog (o : Ob) (v : List Int32) : Ob := (o.1, o.2.1, o.2.2.1, o.2.2.2.1, o.2.2.2.2.1, o.2.2.2.2.2.1, o.2.2.2.2.2.2.1, o.2.2.2.2.2.2.2.1, o.2.2.2.2.2.2.2.2.1, o.2.2.2.2.2.2.2.2.2.1, o.2.2.2.2.2.2.2.2.2.2.1, o.2.2.2.2.2.2.2.2.2.2.2.1, o.2.2.2.2.2.2.2.2.2.2.2.2.1, o.2.2.2.2.2.2.2.2.2.2.2.2.2.1, o.2.2.2.2.2.2.2.2.2.2.2.2.2.2.1, o.2.2.2.2.2.2.2.2.2.2.2.2.2.2.2.1, v, o.2.2.2.2.2.2.2.2.2.2.2.2.2.2.2.2.2.1, o.2.2.2.2.2.2.2.2.2.2.2.2.2.2.2.2.2.2.1, o.2.2.2.2.2.2.2.2.2.2.2.2.2.2.2.2.2.2.2.1, o.2.2.2.2.2.2.2.2.2.2.2.2.2.2.2.2.2.2.2.2.1, o.2.2.2.2.2.2.2.2.2.2.2.2.2.2.2.2.2.2.2.2.2.1, o.2.2.2.2.2.2.2.2.2.2.2.2.2.2.2.2.2.2.2.2.2.2.1, o.2.2.2.2.2.2.2.2.2.2.2.2.2.2.2.2.2.2.2.2.2.2.2.1, o.2.2.2.2.2.2.2.2.2.2.2.2.2.2.2.2.2.2.2.2.2.2.2.2.1, o.2.2.2.2.2.2.2.2.2.2.2.2.2.2.2.2.2.2.2.2.2.2.2.2.2)
def s_lostLen (o : Ob) (v : List Int32) : Ob := (o.1, o.2.1, o.2.2.1, o.2.2.2.1, o.2.2.2.2.1, o.2.2.2.2.2.1, o.2.2.2.2.2.2.1, o.2.2.2.2.2.2.2.1, o.2.2.2.2.2.2.2.2.1, o.2.2.2.2.2.2.2.2.2.1, o.2.2.2.2.2.2.2.2.2.2.1, o.2.2.2.2.2.2.2.2.2.2.2.1, o.2.2.2.2.2.2.2.2.2.2.2.2.1, o.2.2.2.2.2.2.2.2.2.2.2.2.2.1, o.2.2.2.2.2.2.2.2.2.2.2.2.2.2.1, o.2.2.2.2.2.2.2.2.2.2.2.2.2.2.2.1, o.2.2.2.2.2.2.2.2.2.2.2.2.2.2.2.2.1, v, o.2.2.2.2.2.2.2.2.2.2.2.2.2.2.2.2.2.2.1, o.2.2.2.2.2.2.2.2.2.2.2.2.2.2.2.2.2.2.2.1, o.2.2.2.2.2.2.2.2.2.2.2.2.2.2.2.2.2.2.2.2.1, o.2.2.2.2.2.2.2.2.2.2.2.2.2.2.2.2.2.2.2.2.2.1, o.2.2.2.2.2.2.2.2.2.2.2.2.2.2.2.2.2.2.2.2.2.2.1, o.2.2.2.2.2.2.2.2.2.2.2.2.2.2.2.2.2.2.2.2.2.2.2.1, o.2.2.2.2.2.2.2.2.2.2.2.2.2.2.2.2.2.2.2.2.2.2.2.2.1, o.2.2.2.2.2.2.2.2.2.2.2.2.2.2.2.2.2.2.2.2.2.2.2.2.2)
def s_nakBuf (o : Ob) (v : List Int32) : Ob := (o.1, o.2.1, o.2.2.1, o.2.2.2.1, o.2.2.2.2.1, o.2.2.2.2.2.1, o.2.2.2.2.2.2.1, o.2.2.2.2.2.2.2.1, o.2.2.2.2.2.2.2.2.1, o.2.2.2.2.2.2.2.2.2.1, o.2.2.2.2.2.2.2.2.2.2.1, o.2.2.2.2.2.2.2.2.2.2.2.1, o.2.2.2.2.2.2.2.2.2.2.2.2.1, o.2.2.2.2.2.2.2.2.2.2.2.2.2.1, o.2.2.2.2.2.2.2.2.2.2.2.2.2.2.1, o.2.2.2.2.2.2.2.2.2.2.2.2.2.2.2.1, o.2.2.2.2.2.2.2.2.2.2.2.2.2.2.2.2.1, o.2.2.2.2.2.2.2.2.2.2.2.2.2.2.2.2.2.1, v, o.2.2.2.2.2.2.2.2.2.2.2.2.2.2.2.2.2.2.2.1, o.2.2.2.2.2.2.2.2.2.2.2.2.2.2.2.2.2.2.2.2.1, o.2.2.2.2.2.2.2.2.2.2.2.2.2.2.2.2.2.2.2.2.2.1, o.2.2.2.2.2.2.2.2.2.2.2.2.2.2.2.2.2.2.2.2.2.2.1, o.2.2.2.2.2.2.2.2.2.2.2.2.2.2.2.2.2.2.2.2.2.2.2.1, o.2.2.2.2.2.2.2.2.2.2.2.2.2.2.2.2.2.2.2.2.2.2.2.2.1, o.2.2.2.2.2.2.2.2.2.2.2.2.2.2.2.2.2.2.2.2.2.2.2.2.2)
def s_win (o : Ob) (v : Int32) : Ob := (o.1, o.2.1, o.2.2.1, o.2.2.2.1, o.2.2.2.2.1, o.2.2.2.2.2.1, o.2.2.2.2.2.2.1, o.2.2.2.2.2.2.2.1, o.2.2.2.2.2.2.2.2.1, o.2.2.2.2.2.2.2.2.2.1, o.2.2.2.2.2.2.2.2.2.2.1, o.2.2.2.2.2.2.2.2.2.2.2.1, o.2.2.2.2.2.2.2.2.2.2.2.2.1, o.2.2.2.2.2.2.2.2.2.2.2.2.2.1, o.2.2.2.2.2.2.2.2.2.2.2.2.2.2.1, o.2.2.2.2.2.2.2.2.2.2.2.2.2.2.2.1, o.2.2.2.2.2.2.2.2.2.2.2.2.2.2.2.2.1, o.2.2.2.2.2.2.2.2.2.2.2.2.2.2.2.2.2.1, o.2.2.2.2.2.2.2.2.2.2.2.2.2.2.2.2.2.2.1, v, o.2.2.2.2.2.2.2.2.2.2.2.2.2.2.2.2.2.2.2.2.1, o.2.2.2.2.2.2.2.2.2.2.2.2.2.2.2.2.2.2.2.2.2.1, o.2.2.2.2.2.2.2.2.2.2.2.2.2.2.2.2.2.2.2.2.2.2.1, o.2.2.2.2.2.2.2.2.2.2.2.2.2.2.2.2.2.2.2.2.2.2.2.1, o.2.2.2.2.2.2.2.2.2.2.2.2.2.2.2.2.2.2.2.2.2.2.2.2.1, o.2.2.2.2.2.2.2.2.2.2.2.2.2.2.2.2.2.2.2.2.2.2.2.2.2)
def s_back (o : Ob) (v : Int32) : Ob := (o.1, o.2.1, o.2.2.1, o.2.2.2.1, o.2.2.2.2.1, o.2.2.2.2.2.1, o.2.2.2.2.2.2.1, o.2.2.2.2.2.2.2.1, o.2.2.2.2.2.2.2.2.1, o.2.2.2.2.2.2.2.2.2.1, o.2.2.2.2.2.2.2.2.2.2.1, o.2.2.2.2.2.2.2.2.2.2.2.1, o.2.2.2.2.2.2.2.2.2.2.2.2.1, o.2.2.2.2.2.2.2.2.2.2.2.2.2.1, o.2.2.2.2.2.2.2.2.2.2.2.2.2.2.1, o.2.2.2.2.2.2.2.2.2.2.2.2.2.2.2.1, o.2.2.2.2.2.2.2.2.2.2.2.2.2.2.2.2.1, o.2.2.2.2.2.2.2.2.2.2.2.2.2.2.2.2.2.1, o.2.2.2.2.2.2.2.2.2.2.2.2.2.2.2.2.2.2.1, o.2.2.2.2.2.2.2.2.2.2.2.2.2.2.2.2.2.2.2.1, v, o.2.2.2.2.2.2.2.2.2.2.2.2.2.2.2.2.2.2.2.2.2.1, o.2.2.2.2.2.2.2.2.2.2.2.2.2.2.2.2.2.2.2.2.2.2.1, o.2.2.2.2.2.2.2.2.2.2.2.2.2.2.2.2.2.2.2.2.2.2.2.1, o.2.2.2.2.2.2.2.2.2.2.2.2.2.2.2.2.2.2.2.2.2.2.2.2.1, o.2.2.2.2.2.2.2.2.2.2.2.2.2.2.2.2.2.2.2.2.2.2.2.2.2)
def s_repair (o : Ob) (v : Int32) : Ob := (o.1, o.2.1, o.2.2.1, o.2.2.2.1, o.2.2.2.2.1, o.2.2.2.2.2.1, o.2.2.2.2.2.2.1, o.2.2.2.2.2.2.2.1, o.2.2.2.2.2.2.2.2.1, o.2.2.2.2.2.2.2.2.2.1, o.2.2.2.2.2.2.2.2.2.2.1, o.2.2.2.2.2.2.2.2.2.2.2.1, o.2.2.2.2.2.2.2.2.2.2.2.2.1, o.2.2.2.2.2.2.2.2.2.2.2.2.2.1, o.2.2.2.2.2.2.2.2.2.2.2.2.2.2.1, o.2.2.2.2.2.2.2.2.2.2.2.2.2.2.2.1, o.2.2.2.2.2.2.2.2.2.2.2.2.2.2.2.2.1, o.2.2.2.2.2.2.2.2.2.2.2.2.2.2.2.2.2.1, o.2.2.2.2.2.2.2.2.2.2.2.2.2.2.2.2.2.2.1, o.2.2.2.2.2.2.2.2.2.2.2.2.2.2.2.2.2.2.2.1, o.2.2.2.2.2.2.2.2.2.2.2.2.2.2.2.2.2.2.2.2.1, v, o.2.2.2.2.2.2.2.2.2.2.2.2.2.2.2.2.2.2.2.2.2.2.1, o.2.2.2.2.2.2.2.2.2.2.2.2.2.2.2.2.2.2.2.2.2.2.2.1, o.2.2.2.2.2.2.2.2.2.2.2.2.2.2.2.2.2.2.2.2.2.2.2.2.1, o.2.2.2.2.2.2.2.2.2.2.2.2.2.2.2.2.2.2.2.2.2.2.2.2.2)
def s_period (o : Ob) (v : Int32) : Ob := (o.1, o.2.1, o.2.2.1, o.2.2.2.1, o.2.2.2.2.1, o.2.2.2.2.2.1, o.2.2.2.2.2.2.1, o.2.2.2.2.2.2.2.1, o.2.2.2.2.2.2.2.2.1, o.2.2.2.2.2.2.2.2.2.1, o.2.2.2.2.2.2.2.2.2.2.1, o.2.2.2.2.2.2.2.2.2.2.2.1, o.2.2.2.2.2.2.2.2.2.2.2.2.1, o.2.2.2.2.2.2.2.2.2.2.2.2.2.1, o.2.2.2.2.2.2.2.2.2.2.2.2.2.2.1, o.2.2.2.2.2.2.2.2.2.2.2.2.2.2.2.1, o.2.2.2.2.2.2.2.2.2.2.2.2.2.2.2.2.1, o.2.2.2.2.2.2.2.2.2.2.2.2.2.2.2.2.2.1, o.2.2.2.2.2.2.2.2.2.2.2.2.2.2.2.2.2.2.1, o.2.2.2.2.2.2.2.2.2.2.2.2.2.2.2.2.2.2.2.1, o.2.2.2.2.2.2.2.2.2.2.2.2.2.2.2.2.2.2.2.2.1, o.2.2.2.2.2.2.2.2.2.2.2.2.2.2.2.2.2.2.2.2.2.1, v, o.2.2.2.2.2.2.2.2.2.2.2.2.2.2.2.2.2.2.2.2.2.2.2.1, o.2.2.2.2.2.2.2.2.2.2.2.2.2.2.2.2.2.2.2.2.2.2.2.2.1, o.2.2.2.2.2.2.2.2.2.2.2.2.2.2.2.2.2.2.2.2.2.2.2.2.2)
def s_nextSeq (o : Ob) (v : Int32) : Ob := (o.1, o.2.1, o.2.2.1, o.2.2.2.1, o.2.2.2.2.1, o.2.2.2.2.2.1, o.2.2.2.2.2.2.1, o.2.2.2.2.2.2.2.1, o.2.2.2.2.2.2.2.2.1, o.2.2.2.2.2.2.2.2.2.1, o.2.2.2.2.2.2.2.2.2.2.1, o.2.2.2.2.2.2.2.2.2.2.2.1, o.2.2.2.2.2.2.2.2.2.2.2.2.1, o.2.2.2.2.2.2.2.2.2.2.2.2.2.1, o.2.2.2.2.2.2.2.2.2.2.2.2.2.2.1, o.2.2.2.2.2.2.2.2.2.2.2.2.2.2.2.1, o.2.2.2.2.2.2.2.2.2.2.2.2.2.2.2.2.1, o.2.2.2.2.2.2.2.2.2.2.2.2.2.2.2.2.2.1, o.2.2.2.2.2.2.2.2.2.2.2.2.2.2.2.2.2.2.1, o.2.2.2.2.2.2.2.2.2.2.2.2.2.2.2.2.2.2.2.1, o.2.2.2.2.2.2.2.2.2.2.2.2.2.2.2.2.2.2.2.2.1, o.2.2.2.2.2.2.2.2.2.2.2.2.2.2.2.2.2.2.2.2.2.1, o.2.2.2.2.2.2.2.2.2.2.2.2.2.2.2.2.2.2.2.2.2.2.1, v, o.2.2.2.2.2.2.2.2.2.2.2.2.2.2.2.2.2.2.2.2.2.2.2.2.1, o.2.2.2.2.2.2.2.2.2.2.2.2.2.2.2.2.2.2.2.2.2.2.2.2.2)
def s_qLen (o : Ob) (v : Int32) : Ob := (o.1, o.2.1, o.2.2.1, o.2.2.2.1, o.2.2.2.2.1, o.2.2.2.2.2.1, o.2.2.2.2.2.2.1, o.2.2.2.2.2.2.2.1, o.2.2.2.2.2.2.2.2.1, o.2.2.2.2.2.2.2.2.2.1, o.2.2.2.2.2.2.2.2.2.2.1, o.2.2.2.2.2.2.2.2.2.2.2.1, o.2.2.2.2.2.2.2.2.2.2.2.2.1, o.2.2.2.2.2.2.2.2.2.2.2.2.2.1, o.2.2.2.2.2.2.2.2.2.2.2.2.2.2.1, o.2.2.2.2.2.2.2.2.2.2.2.2.2.2.2.1, o.2.2.2.2.2.2.2.2.2.2.2.2.2.2.2.2.1, o.2.2.2.2.2.2.2.2.2.2.2.2.2.2.2.2.2.1, o.2.2.2.2.2.2.2.2.2.2.2.2.2.2.2.2.2.2.1, o.2.2.2.2.2.2.2.2.2.2.2.2.2.2.2.2.2.2.2.1, o.2.2.2.2.2.2.2.2.2.2.2.2.2.2.2.2.2.2.2.2.1, o.2.2.2.2.2.2.2.2.2.2.2.2.2.2.2.2.2.2.2.2.2.1, o.2.2.2.2.2.2.2.2.2.2.2.2.2.2.2.2.2.2.2.2.2.2.1, o.2.2.2.2.2.2.2.2.2.2.2.2.2.2.2.2.2.2.2.2.2.2.2.1, v, o.2.2.2.2.2.2.2.2.2.2.2.2.2.2.2.2.2.2.2.2.2.2.2.2.2)
def s_nakLen (o : Ob) (v : Int32) : Ob := (o.1, o.2.1, o.2.2.1, o.2.2.2.1, o.2.2.2.2.1, o.2.2.2.2.2.1, o.2.2.2.2.2.2.1, o.2.2.2.2.2.2.2.1, o.2.2.2.2.2.2.2.2.1, o.2.2.2.2.2.2.2.2.2.1, o.2.2.2.2.2.2.2.2.2.2.1, o.2.2.2.2.2.2.2.2.2.2.2.1, o.2.2.2.2.2.2.2.2.2.2.2.2.1, o.2.2.2.2.2.2.2.2.2.2.2.2.2.1, o.2.2.2.2.2.2.2.2.2.2.2.2.2.2.1, o.2.2.2.2.2.2.2.2.2.2.2.2.2.2.2.1, o.2.2.2.2.2.2.2.2.2.2.2.2.2.2.2.2.1, o.2.2.2.2.2.2.2.2.2.2.2.2.2.2.2.2.2.1, o.2.2.2.2.2.2.2.2.2.2.2.2.2.2.2.2.2.2.1, o.2.2.2.2.2.2.2.2.2.2.2.2.2.2.2.2.2.2.2.1, o.2.2.2.2.2.2.2.2.2.2.2.2.2.2.2.2.2.2.2.2.1, o.2.2.2.2.2.2.2.2.2.2.2.2.2.2.2.2.2.2.2.2.2.1, o.2.2.2.2.2.2.2.2.2.2.2.2.2.2.2.2.2.2.2.2.2.2.1, o.2.2.2.2.2.2.2.2.2.2.2.2.2.2.2.2.2.2.2.2.2.2.2.1, o.2.2.2.2.2.2.2.2.2.2.2.2.2.2.2.2.2.2.2.2.2.2.2.2.1, v)
theorem fs (o : Ob) : f_srcPayload o = o.1 ∧ f_pend o = o.2.1 ∧ f_queue o = o.2.2.1 ∧ f_stats o = o.2.2.2.1 ∧ f_state o = o.2.2.2.2.1 ∧ f_timer o = o.2.2.2.2.2.1 ∧ f_rxVal o = o.2.2.2.2.2.2.1 ∧ f_rxNext o = o.2.2.2.2.2.2.2.1 ∧ f_rxLead o = o.2.2.2.2.2.2.2.2.1 ∧ f_rxTrail o = o.2.2.2.2.2.2.2.2.2.1 ∧ f_lossLeft o = o.2.2.2.2.2.2.2.2.2.2.1 ∧ f_dups o = o.2.2.2.2.2.2.2.2.2.2.2.1 ∧ f_drops o = o.2.2.2.2.2.2.2.2.2.2.2.2.1 ∧ f_delSeq o = o.2.2.2.2.2.2.2.2.2.2.2.2.2.1 ∧ f_delVal o = o.2.2.2.2.2.2.2.2.2.2.2.2.2.2.1 ∧ f_delLen o = o.2.2.2.2.2.2.2.2.2.2.2.2.2.2.2.1 ∧ f_lostLog o = o.2.2.2.2.2.2.2.2.2.2.2.2.2.2.2.2.1 ∧ f_lostLen o = o.2.2.2.2.2.2.2.2.2.2.2.2.2.2.2.2.2.1 ∧ f_nakBuf o = o.2.2.2.2.2.2.2.2.2.2.2.2.2.2.2.2.2.2.1 ∧ f_win o = o.2.2.2.2.2.2.2.2.2.2.2.2.2.2.2.2.2.2.2.1 ∧ f_back o = o.2.2.2.2.2.2.2.2.2.2.2.2.2.2.2.2.2.2.2.2.1 ∧ f_repair o = o.2.2.2.2.2.2.2.2.2.2.2.2.2.2.2.2.2.2.2.2.2.1 ∧ f_period o = o.2.2.2.2.2.2.2.2.2.2.2.2.2.2.2.2.2.2.2.2.2.2.1 ∧ f_nextSeq o = o.2.2.2.2.2.2.2.2.2.2.2.2.2.2.2.2.2.2.2.2.2.2.2.1 ∧ f_qLen o = o.2.2.2.2.2.2.2.2.2.2.2.2.2.2.2.2.2.2.2.2.2.2.2.2.1 ∧ f_nakLen o = o.2.2.2.2.2.2.2.2.2.2.2.2.2.2.2.2.2.2.2.2.2.2.2.2.2 := by simp only [f_srcPayload, f_pend, f_queue, f_stats, f_state, f_timer, f_rxVal, f_rxNext, f_rxLead, f_rxTrail, f_lossLeft, f_dups, f_drops, f_delSeq, f_delVal, f_delLen, f_lostLog, f_lostLen, f_nakBuf, f_win, f_back, f_repair, f_period, f_nextSeq, f_qLen, f_nakLen, and_self]
def ob0 : Ob := ([], [], [], [], [], [], [], [], [], [], [], [], [], [], [], [], [], [], [], 0, 0, 0, 0, 0, 0, 0)
section Walks
variable {l : Launch} {Z : State} {n0 : Nat} {ad : Nat → Addr} {a0 : Array Value}
set_option maxRecDepth 20000
set_option maxHeartbeats 2000000
abbrev tt : Bool := true
abbrev ff : Bool := false
open QTri renaming steps → zS, brT → zT, brF → zF, bnd → zB, mask → zM
open Option (bind_eq_some_iff)
open Classical (em)
def H0 (o0 : Ob) : QHeap := [.inl [.ref 1, .ref 2, .ref 3, .ref 4, .ref 5, .ref 6, .ref 7, .ref 8, .ref 9, .ref 10, .ref 11, .ref 12, .ref 13, .ref 14, .ref 15, .ref 16, .ref 17, .ref 18, .ref 19, .int (f_win o0), .int (f_back o0), .int (f_repair o0), .int (f_period o0), .int (f_nextSeq o0), .int (f_qLen o0), .int (f_nakLen o0)], .inr (.inl (.int, (f_srcPayload o0))), .inr (.inl (.boolean, (f_pend o0))), .inr (.inl (.int, (f_queue o0))), .inr (.inl (.int, (f_stats o0))), .inr (.inl (.int, (f_state o0))), .inr (.inl (.int, (f_timer o0))), .inr (.inl (.int, (f_rxVal o0))), .inr (.inl (.int, (f_rxNext o0))), .inr (.inl (.int, (f_rxLead o0))), .inr (.inl (.int, (f_rxTrail o0))), .inr (.inl (.int, (f_lossLeft o0))), .inr (.inl (.int, (f_dups o0))), .inr (.inl (.int, (f_drops o0))), .inr (.inl (.int, (f_delSeq o0))), .inr (.inl (.int, (f_delVal o0))), .inr (.inl (.int, (f_delLen o0))), .inr (.inl (.int, (f_lostLog o0))), .inr (.inl (.int, (f_lostLen o0))), .inr (.inl (.int, (f_nakBuf o0)))]
def H0v (a0_0 : List Int32) (a0_1 : List Int32) (a0_2 : List Int32) (a0_3 : List Int32) (a0_4 : List Int32) (a0_5 : List Int32) (a0_6 : List Int32) (a0_7 : List Int32) (a0_8 : List Int32) (a0_9 : List Int32) (a0_10 : List Int32) (a0_11 : List Int32) (a0_12 : List Int32) (a0_13 : List Int32) (a0_14 : List Int32) (a0_15 : List Int32) (a0_16 : List Int32) (a0_17 : List Int32) (a0_18 : List Int32) (a0_19 : Int32) (a0_20 : Int32) (a0_21 : Int32) (a0_22 : Int32) (a0_23 : Int32) (a0_24 : Int32) (a0_25 : Int32) : QHeap := [.inl [.ref 1, .ref 2, .ref 3, .ref 4, .ref 5, .ref 6, .ref 7, .ref 8, .ref 9, .ref 10, .ref 11, .ref 12, .ref 13, .ref 14, .ref 15, .ref 16, .ref 17, .ref 18, .ref 19, .int a0_19, .int a0_20, .int a0_21, .int a0_22, .int a0_23, .int a0_24, .int a0_25], .inr (.inl (.int, a0_0)), .inr (.inl (.boolean, a0_1)), .inr (.inl (.int, a0_2)), .inr (.inl (.int, a0_3)), .inr (.inl (.int, a0_4)), .inr (.inl (.int, a0_5)), .inr (.inl (.int, a0_6)), .inr (.inl (.int, a0_7)), .inr (.inl (.int, a0_8)), .inr (.inl (.int, a0_9)), .inr (.inl (.int, a0_10)), .inr (.inl (.int, a0_11)), .inr (.inl (.int, a0_12)), .inr (.inl (.int, a0_13)), .inr (.inl (.int, a0_14)), .inr (.inl (.int, a0_15)), .inr (.inl (.int, a0_16)), .inr (.inl (.int, a0_17)), .inr (.inl (.int, a0_18))]
def H0x0 (o0 : Ob) (a0_0 : List Int32) (a0_1 : List Int32) (a0_2 : List Int32) (a0_3 : List Int32) (a0_4 : List Int32) (a0_5 : List Int32) (a0_6 : List Int32) (a0_7 : List Int32) (a0_8 : List Int32) (a0_9 : List Int32) (a0_10 : List Int32) (a0_11 : List Int32) (a0_12 : List Int32) (a0_13 : List Int32) (a0_14 : List Int32) (a0_15 : List Int32) (a0_16 : List Int32) (a0_17 : List Int32) (a0_18 : List Int32) : QHeap := H0v a0_0 a0_1 a0_2 a0_3 a0_4 a0_5 a0_6 a0_7 a0_8 a0_9 a0_10 a0_11 a0_12 a0_13 a0_14 a0_15 a0_16 a0_17 a0_18 (f_win o0) (f_back o0) (f_repair o0) (f_period o0) (f_nextSeq o0) (f_qLen o0) (f_nakLen o0)
/-- clamp(III)I -/
def F2 (x1 : Int32) (x2 : Int32) (x3 : Int32) : Option (Int32) :=
 (if x1 < x2 then some x2 else (if x3 < x1 then some x3 else some x1))
theorem tF2 (Ad : QAd n0 ad) (W : QW Z a0) {a : Nat} {σ : QHeap} (x1 : Int32) (x2 : Int32) (x3 : Int32) {r : Int32} (h : F2 x1 x2 x3 = some r) : QTri l Z n0 ad 2 (0, qentry [.ref a, .int x1, .int x2, .int x3] (pMaxL 2), [], σ) (some (Value.int r)) σ := by
 unfold F2 at h
 refine zS Ad W 2 (st' := (2, [vR a, vI x1, vI x2, vI x3], [.int x2, .int x1], σ)) rfl ?_
 rcases qite h with ⟨hc1, h⟩ | ⟨hc1, h⟩
 ·refine zF Ad W (t := 7) (f := 5) rfl (XT.ii_ge_f hc1) ?_
  refine zS Ad W 1 (st' := (6, [vR a, vI x1, vI x2, vI x3], [.int x2], σ)) rfl ?_
  obtain rfl := Option.some.inj h
  exact QTri.retI rfl rfl
 ·refine zT Ad W (t := 7) (f := 5) rfl (XT.ii_ge_t hc1) ?_
  refine zS Ad W 2 (st' := (9, [vR a, vI x1, vI x2, vI x3], [.int x3, .int x1], σ)) rfl ?_
  rcases qite h with ⟨hc2, h⟩ | ⟨hc2, h⟩
  ·refine zF Ad W (t := 14) (f := 12) rfl (XT.ii_le_f hc2) ?_
   refine zS Ad W 1 (st' := (13, [vR a, vI x1, vI x2, vI x3], [.int x3], σ)) rfl ?_
   obtain rfl := Option.some.inj h
   exact QTri.retI rfl rfl
  ·refine zT Ad W (t := 14) (f := 12) rfl (XT.ii_le_t hc2) ?_
   refine zS Ad W 1 (st' := (15, [vR a, vI x1, vI x2, vI x3], [.int x1], σ)) rfl ?_
   obtain rfl := Option.some.inj h
   exact QTri.retI rfl rfl
def H0x1 (o0 : Ob) (a0_0 : List Int32) (a0_1 : List Int32) (a0_2 : List Int32) (a0_3 : List Int32) (a0_4 : List Int32) (a0_5 : List Int32) (a0_6 : List Int32) (a0_7 : List Int32) (a0_8 : List Int32) (a0_9 : List Int32) (a0_10 : List Int32) (a0_11 : List Int32) (a0_12 : List Int32) (a0_13 : List Int32) (a0_14 : List Int32) (a0_15 : List Int32) (a0_16 : List Int32) (a0_17 : List Int32) (a0_18 : List Int32) (a0_19 : Int32) : QHeap := H0v a0_0 a0_1 a0_2 a0_3 a0_4 a0_5 a0_6 a0_7 a0_8 a0_9 a0_10 a0_11 a0_12 a0_13 a0_14 a0_15 a0_16 a0_17 a0_18 a0_19 (f_back o0) (f_repair o0) (f_period o0) (f_nextSeq o0) (f_qLen o0) (f_nakLen o0)
def H0x2 (o0 : Ob) (a0_0 : List Int32) (a0_1 : List Int32) (a0_2 : List Int32) (a0_3 : List Int32) (a0_4 : List Int32) (a0_5 : List Int32) (a0_6 : List Int32) (a0_7 : List Int32) (a0_8 : List Int32) (a0_9 : List Int32) (a0_10 : List Int32) (a0_11 : List Int32) (a0_12 : List Int32) (a0_13 : List Int32) (a0_14 : List Int32) (a0_15 : List Int32) (a0_16 : List Int32) (a0_17 : List Int32) (a0_18 : List Int32) (a0_19 : Int32) (a0_20 : Int32) : QHeap := H0v a0_0 a0_1 a0_2 a0_3 a0_4 a0_5 a0_6 a0_7 a0_8 a0_9 a0_10 a0_11 a0_12 a0_13 a0_14 a0_15 a0_16 a0_17 a0_18 a0_19 a0_20 (f_repair o0) (f_period o0) (f_nextSeq o0) (f_qLen o0) (f_nakLen o0)
def H0x3 (o0 : Ob) (a0_0 : List Int32) (a0_1 : List Int32) (a0_2 : List Int32) (a0_3 : List Int32) (a0_4 : List Int32) (a0_5 : List Int32) (a0_6 : List Int32) (a0_7 : List Int32) (a0_8 : List Int32) (a0_9 : List Int32) (a0_10 : List Int32) (a0_11 : List Int32) (a0_12 : List Int32) (a0_13 : List Int32) (a0_14 : List Int32) (a0_15 : List Int32) (a0_16 : List Int32) (a0_17 : List Int32) (a0_18 : List Int32) (a0_19 : Int32) (a0_20 : Int32) (a0_21 : Int32) : QHeap := H0v a0_0 a0_1 a0_2 a0_3 a0_4 a0_5 a0_6 a0_7 a0_8 a0_9 a0_10 a0_11 a0_12 a0_13 a0_14 a0_15 a0_16 a0_17 a0_18 a0_19 a0_20 a0_21 (f_period o0) (f_nextSeq o0) (f_qLen o0) (f_nakLen o0)
def H0x4 (o0 : Ob) (a0_0 : List Int32) (a0_1 : List Int32) (a0_2 : List Int32) (a0_3 : List Int32) (a0_4 : List Int32) (a0_5 : List Int32) (a0_6 : List Int32) (a0_7 : List Int32) (a0_8 : List Int32) (a0_9 : List Int32) (a0_10 : List Int32) (a0_11 : List Int32) (a0_12 : List Int32) (a0_13 : List Int32) (a0_14 : List Int32) (a0_15 : List Int32) (a0_16 : List Int32) (a0_17 : List Int32) (a0_18 : List Int32) (a0_19 : Int32) (a0_20 : Int32) (a0_21 : Int32) (a0_22 : Int32) : QHeap := H0v a0_0 a0_1 a0_2 a0_3 a0_4 a0_5 a0_6 a0_7 a0_8 a0_9 a0_10 a0_11 a0_12 a0_13 a0_14 a0_15 a0_16 a0_17 a0_18 a0_19 a0_20 a0_21 a0_22 (f_nextSeq o0) (f_qLen o0) (f_nakLen o0)
def H0x5 (o0 : Ob) (a0_8 : List Int32) : QHeap := H0v (f_srcPayload o0) (f_pend o0) (f_queue o0) (f_stats o0) (f_state o0) (f_timer o0) (f_rxVal o0) (f_rxNext o0) a0_8 (f_rxTrail o0) (f_lossLeft o0) (f_dups o0) (f_drops o0) (f_delSeq o0) (f_delVal o0) (f_delLen o0) (f_lostLog o0) (f_lostLen o0) (f_nakBuf o0) (f_win o0) (f_back o0) (f_repair o0) (f_period o0) (f_nextSeq o0) (f_qLen o0) (f_nakLen o0)
def B1_207 (v : Int32 × Ob) : Option (((Ob)) ⊕ (Int32 × Ob)) :=
  (if v.1 < (4 : Int32) then (aset (f_rxLead v.2) v.1 (-1 : Int32)).bind fun y9 => some (.inr ((v.1 + (1 : Int32)), (s_rxLead v.2 y9))) else some (.inl v.2))
theorem tB1_207 (Ad : QAd n0 ad) (W : QW Z a0) (v : Int32 × Ob) {r : ((Ob)) ⊕ (Int32 × Ob)} {u : Option Value} {τ : QHeap} (h : B1_207 v = some r) (hx0 : ∀ x : Ob, r = .inl x → u = (none : Option Value) ∧ τ = (H0 x)) (hc : ∀ x : Int32 × Ob, r = .inr x → QTri l Z n0 ad 1 (207, [vR 0, none, none, none, none, vI x.1], [], (H0 x.2)) u τ) : QTri l Z n0 ad 1 (207, [vR 0, none, none, none, none, vI v.1], [], (H0 v.2)) u τ := by
 unfold B1_207 at h
 refine zS Ad W 2 (st' := (210, [vR 0, none, none, none, none, vI v.1], [.int (4:Int32), .int v.1], (H0 v.2))) rfl ?_
 rcases qite h with ⟨hc8, h⟩ | ⟨hc8, h⟩
 ·refine zF Ad W (t := 227) (f := 213) rfl (XT.ii_ge_f hc8) ?_
  refine zS Ad W 4 (st' := (220, [vR 0, none, none, none, none, vI v.1], [.int (-1:Int32), .int v.1, .ref 9], (H0 v.2))) rfl ?_
  obtain ⟨y9, hy9, h⟩ := bind_eq_some_iff.mp h
  refine zB Ad W (f := fun y9 => (221, [vR 0, none, none, none, none, vI v.1], [], (H0x5 v.2 y9))) rfl hy9 ?_
  refine zS Ad W 2 (st' := (207, [vR 0, none, none, none, none, vI (v.1 + (1:Int32))], [], (H0x5 v.2 y9))) rfl ?_
  have E10 : ((H0x5 v.2 y9) : QHeap) = (H0 (s_rxLead v.2 y9)) := by simp only [fs, H0, H0v, H0x5, s_rxLead]
  rw [E10]
  obtain rfl := Option.some.inj h
  exact zM [tt,ff,ff,ff,ff,tt] (hc ((v.1 + (1:Int32)), (s_rxLead v.2 y9)) rfl)
 ·refine zT Ad W (t := 227) (f := 213) rfl (XT.ii_ge_t hc8) ?_
  obtain rfl := Option.some.inj h
  obtain ⟨rfl, rfl⟩ := hx0 v.2 rfl
  exact QTri.ret0 rfl rfl
/-- init(IIII)V -/
def F1 (x1 : Int32) (x2 : Int32) (x3 : Int32) (x4 : Int32) : Option (Ob) :=
 (F2 x1 (2:Int32) (16:Int32)).bind fun r3 => (F2 x2 (1:Int32) (8:Int32)).bind fun r4 => (F2 x3 (1:Int32) (8:Int32)).bind fun r5 => (F2 x4 (0:Int32) (16:Int32)).bind fun r6 => (loopN (B1_207) qN ((0:Int32), (s_period (s_repair (s_back (s_win (s_nakBuf (s_lostLen (s_lostLog (s_delLen (s_delVal (s_delSeq (s_drops (s_dups (s_lossLeft (s_rxTrail (s_rxLead (s_rxNext (s_rxVal (s_timer (s_state (s_stats (s_queue (s_pend (s_srcPayload ob0 (List.replicate 32 0)) (List.replicate 32 0)) (List.replicate 64 0)) (List.replicate 10 0)) (List.replicate 128 0)) (List.replicate 128 0)) (List.replicate 128 0)) (List.replicate 4 0)) (List.replicate 4 0)) (List.replicate 4 0)) (List.replicate 4 0)) (List.replicate 4 0)) (List.replicate 4 0)) (List.replicate 128 0)) (List.replicate 128 0)) (List.replicate 4 0)) (List.replicate 128 0)) (List.replicate 4 0)) (List.replicate 128 0)) r3) r4) r5) r6))).bind fun e11 => some e11
theorem tF1 (Ad : QAd n0 ad) (W : QW Z a0) (x1 : Int32) (x2 : Int32) (x3 : Int32) (x4 : Int32) {r : Ob} (h : F1 x1 x2 x3 x4 = some r) : QTri l Z n0 ad 1 (0, qentry [.ref 0, .int x1, .int x2, .int x3, .int x4] (pMaxL 1), [], [.inl [.null, .null, .null, .null, .null, .null, .null, .null, .null, .null, .null, .null, .null, .null, .null, .null, .null, .null, .null, .int (f_win ob0), .int (f_back ob0), .int (f_repair ob0), .int (f_period ob0), .int (f_nextSeq ob0), .int (f_qLen ob0), .int (f_nakLen ob0)]]) (none : Option Value) (H0 r) := by
 unfold F1 at h
 refine zS Ad W 1 (st' := (1, [vR 0, vI x1, vI x2, vI x3, vI x4, none], [.ref 0], [.inl [.null, .null, .null, .null, .null, .null, .null, .null, .null, .null, .null, .null, .null, .null, .null, .null, .null, .null, .null, .int (f_win ob0), .int (f_back ob0), .int (f_repair ob0), .int (f_period ob0), .int (f_nextSeq ob0), .int (f_qLen ob0), .int (f_nakLen ob0)]])) rfl ?_
 refine QTri.callO W rfl rfl rfl ?_
 refine zS Ad W 3 (st' := (9, [vR 0, vI x1, vI x2, vI x3, vI x4, none], [.ref 1, .ref 0], [.inl [.null, .null, .null, .null, .null, .null, .null, .null, .null, .null, .null, .null, .null, .null, .null, .null, .null, .null, .null, .int (f_win ob0), .int (f_back ob0), .int (f_repair ob0), .int (f_period ob0), .int (f_nextSeq ob0), .int (f_qLen ob0), .int (f_nakLen ob0)], .inr (.inl (.int, (List.replicate 32 0)))])) rfl ?_
 refine zS Ad W 1 (st' := (12, [vR 0, vI x1, vI x2, vI x3, vI x4, none], [], [.inl [.ref 1, .null, .null, .null, .null, .null, .null, .null, .null, .null, .null, .null, .null, .null, .null, .null, .null, .null, .null, .int (f_win ob0), .int (f_back ob0), .int (f_repair ob0), .int (f_period ob0), .int (f_nextSeq ob0), .int (f_qLen ob0), .int (f_nakLen ob0)], .inr (.inl (.int, (List.replicate 32 0)))])) rfl ?_
 refine zS Ad W 3 (st' := (17, [vR 0, vI x1, vI x2, vI x3, vI x4, none], [.ref 2, .ref 0], [.inl [.ref 1, .null, .null, .null, .null, .null, .null, .null, .null, .null, .null, .null, .null, .null, .null, .null, .null, .null, .null, .int (f_win ob0), .int (f_back ob0), .int (f_repair ob0), .int (f_period ob0), .int (f_nextSeq ob0), .int (f_qLen ob0), .int (f_nakLen ob0)], .inr (.inl (.int, (List.replicate 32 0))), .inr (.inl (.boolean, (List.replicate 32 0)))])) rfl ?_
 refine zS Ad W 1 (st' := (20, [vR 0, vI x1, vI x2, vI x3, vI x4, none], [], [.inl [.ref 1, .ref 2, .null, .null, .null, .null, .null, .null, .null, .null, .null, .null, .null, .null, .null, .null, .null, .null, .null, .int (f_win ob0), .int (f_back ob0), .int (f_repair ob0), .int (f_period ob0), .int (f_nextSeq ob0), .int (f_qLen ob0), .int (f_nakLen ob0)], .inr (.inl (.int, (List.replicate 32 0))), .inr (.inl (.boolean, (List.replicate 32 0)))])) rfl ?_
 refine zS Ad W 3 (st' := (25, [vR 0, vI x1, vI x2, vI x3, vI x4, none], [.ref 3, .ref 0], [.inl [.ref 1, .ref 2, .null, .null, .null, .null, .null, .null, .null, .null, .null, .null, .null, .null, .null, .null, .null, .null, .null, .int (f_win ob0), .int (f_back ob0), .int (f_repair ob0), .int (f_period ob0), .int (f_nextSeq ob0), .int (f_qLen ob0), .int (f_nakLen ob0)], .inr (.inl (.int, (List.replicate 32 0))), .inr (.inl (.boolean, (List.replicate 32 0))), .inr (.inl (.int, (List.replicate 64 0)))])) rfl ?_
 refine zS Ad W 1 (st' := (28, [vR 0, vI x1, vI x2, vI x3, vI x4, none], [], [.inl [.ref 1, .ref 2, .ref 3, .null, .null, .null, .null, .null, .null, .null, .null, .null, .null, .null, .null, .null, .null, .null, .null, .int (f_win ob0), .int (f_back ob0), .int (f_repair ob0), .int (f_period ob0), .int (f_nextSeq ob0), .int (f_qLen ob0), .int (f_nakLen ob0)], .inr (.inl (.int, (List.replicate 32 0))), .inr (.inl (.boolean, (List.replicate 32 0))), .inr (.inl (.int, (List.replicate 64 0)))])) rfl ?_
 refine zS Ad W 3 (st' := (33, [vR 0, vI x1, vI x2, vI x3, vI x4, none], [.ref 4, .ref 0], [.inl [.ref 1, .ref 2, .ref 3, .null, .null, .null, .null, .null, .null, .null, .null, .null, .null, .null, .null, .null, .null, .null, .null, .int (f_win ob0), .int (f_back ob0), .int (f_repair ob0), .int (f_period ob0), .int (f_nextSeq ob0), .int (f_qLen ob0), .int (f_nakLen ob0)], .inr (.inl (.int, (List.replicate 32 0))), .inr (.inl (.boolean, (List.replicate 32 0))), .inr (.inl (.int, (List.replicate 64 0))), .inr (.inl (.int, (List.replicate 10 0)))])) rfl ?_
 refine zS Ad W 1 (st' := (36, [vR 0, vI x1, vI x2, vI x3, vI x4, none], [], [.inl [.ref 1, .ref 2, .ref 3, .ref 4, .null, .null, .null, .null, .null, .null, .null, .null, .null, .null, .null, .null, .null, .null, .null, .int (f_win ob0), .int (f_back ob0), .int (f_repair ob0), .int (f_period ob0), .int (f_nextSeq ob0), .int (f_qLen ob0), .int (f_nakLen ob0)], .inr (.inl (.int, (List.replicate 32 0))), .inr (.inl (.boolean, (List.replicate 32 0))), .inr (.inl (.int, (List.replicate 64 0))), .inr (.inl (.int, (List.replicate 10 0)))])) rfl ?_
 refine zS Ad W 3 (st' := (42, [vR 0, vI x1, vI x2, vI x3, vI x4, none], [.ref 5, .ref 0], [.inl [.ref 1, .ref 2, .ref 3, .ref 4, .null, .null, .null, .null, .null, .null, .null, .null, .null, .null, .null, .null, .null, .null, .null, .int (f_win ob0), .int (f_back ob0), .int (f_repair ob0), .int (f_period ob0), .int (f_nextSeq ob0), .int (f_qLen ob0), .int (f_nakLen ob0)], .inr (.inl (.int, (List.replicate 32 0))), .inr (.inl (.boolean, (List.replicate 32 0))), .inr (.inl (.int, (List.replicate 64 0))), .inr (.inl (.int, (List.replicate 10 0))), .inr (.inl (.int, (List.replicate 128 0)))])) rfl ?_
 refine zS Ad W 1 (st' := (45, [vR 0, vI x1, vI x2, vI x3, vI x4, none], [], [.inl [.ref 1, .ref 2, .ref 3, .ref 4, .ref 5, .null, .null, .null, .null, .null, .null, .null, .null, .null, .null, .null, .null, .null, .null, .int (f_win ob0), .int (f_back ob0), .int (f_repair ob0), .int (f_period ob0), .int (f_nextSeq ob0), .int (f_qLen ob0), .int (f_nakLen ob0)], .inr (.inl (.int, (List.replicate 32 0))), .inr (.inl (.boolean, (List.replicate 32 0))), .inr (.inl (.int, (List.replicate 64 0))), .inr (.inl (.int, (List.replicate 10 0))), .inr (.inl (.int, (List.replicate 128 0)))])) rfl ?_
 refine zS Ad W 3 (st' := (51, [vR 0, vI x1, vI x2, vI x3, vI x4, none], [.ref 6, .ref 0], [.inl [.ref 1, .ref 2, .ref 3, .ref 4, .ref 5, .null, .null, .null, .null, .null, .null, .null, .null, .null, .null, .null, .null, .null, .null, .int (f_win ob0), .int (f_back ob0), .int (f_repair ob0), .int (f_period ob0), .int (f_nextSeq ob0), .int (f_qLen ob0), .int (f_nakLen ob0)], .inr (.inl (.int, (List.replicate 32 0))), .inr (.inl (.boolean, (List.replicate 32 0))), .inr (.inl (.int, (List.replicate 64 0))), .inr (.inl (.int, (List.replicate 10 0))), .inr (.inl (.int, (List.replicate 128 0))), .inr (.inl (.int, (List.replicate 128 0)))])) rfl ?_
 refine zS Ad W 1 (st' := (54, [vR 0, vI x1, vI x2, vI x3, vI x4, none], [], [.inl [.ref 1, .ref 2, .ref 3, .ref 4, .ref 5, .ref 6, .null, .null, .null, .null, .null, .null, .null, .null, .null, .null, .null, .null, .null, .int (f_win ob0), .int (f_back ob0), .int (f_repair ob0), .int (f_period ob0), .int (f_nextSeq ob0), .int (f_qLen ob0), .int (f_nakLen ob0)], .inr (.inl (.int, (List.replicate 32 0))), .inr (.inl (.boolean, (List.replicate 32 0))), .inr (.inl (.int, (List.replicate 64 0))), .inr (.inl (.int, (List.replicate 10 0))), .inr (.inl (.int, (List.replicate 128 0))), .inr (.inl (.int, (List.replicate 128 0)))])) rfl ?_
 refine zS Ad W 3 (st' := (60, [vR 0, vI x1, vI x2, vI x3, vI x4, none], [.ref 7, .ref 0], [.inl [.ref 1, .ref 2, .ref 3, .ref 4, .ref 5, .ref 6, .null, .null, .null, .null, .null, .null, .null, .null, .null, .null, .null, .null, .null, .int (f_win ob0), .int (f_back ob0), .int (f_repair ob0), .int (f_period ob0), .int (f_nextSeq ob0), .int (f_qLen ob0), .int (f_nakLen ob0)], .inr (.inl (.int, (List.replicate 32 0))), .inr (.inl (.boolean, (List.replicate 32 0))), .inr (.inl (.int, (List.replicate 64 0))), .inr (.inl (.int, (List.replicate 10 0))), .inr (.inl (.int, (List.replicate 128 0))), .inr (.inl (.int, (List.replicate 128 0))), .inr (.inl (.int, (List.replicate 128 0)))])) rfl ?_
 refine zS Ad W 1 (st' := (63, [vR 0, vI x1, vI x2, vI x3, vI x4, none], [], [.inl [.ref 1, .ref 2, .ref 3, .ref 4, .ref 5, .ref 6, .ref 7, .null, .null, .null, .null, .null, .null, .null, .null, .null, .null, .null, .null, .int (f_win ob0), .int (f_back ob0), .int (f_repair ob0), .int (f_period ob0), .int (f_nextSeq ob0), .int (f_qLen ob0), .int (f_nakLen ob0)], .inr (.inl (.int, (List.replicate 32 0))), .inr (.inl (.boolean, (List.replicate 32 0))), .inr (.inl (.int, (List.replicate 64 0))), .inr (.inl (.int, (List.replicate 10 0))), .inr (.inl (.int, (List.replicate 128 0))), .inr (.inl (.int, (List.replicate 128 0))), .inr (.inl (.int, (List.replicate 128 0)))])) rfl ?_
 refine zS Ad W 3 (st' := (67, [vR 0, vI x1, vI x2, vI x3, vI x4, none], [.ref 8, .ref 0], [.inl [.ref 1, .ref 2, .ref 3, .ref 4, .ref 5, .ref 6, .ref 7, .null, .null, .null, .null, .null, .null, .null, .null, .null, .null, .null, .null, .int (f_win ob0), .int (f_back ob0), .int (f_repair ob0), .int (f_period ob0), .int (f_nextSeq ob0), .int (f_qLen ob0), .int (f_nakLen ob0)], .inr (.inl (.int, (List.replicate 32 0))), .inr (.inl (.boolean, (List.replicate 32 0))), .inr (.inl (.int, (List.replicate 64 0))), .inr (.inl (.int, (List.replicate 10 0))), .inr (.inl (.int, (List.replicate 128 0))), .inr (.inl (.int, (List.replicate 128 0))), .inr (.inl (.int, (List.replicate 128 0))), .inr (.inl (.int, (List.replicate 4 0)))])) rfl ?_
 refine zS Ad W 1 (st' := (70, [vR 0, vI x1, vI x2, vI x3, vI x4, none], [], [.inl [.ref 1, .ref 2, .ref 3, .ref 4, .ref 5, .ref 6, .ref 7, .ref 8, .null, .null, .null, .null, .null, .null, .null, .null, .null, .null, .null, .int (f_win ob0), .int (f_back ob0), .int (f_repair ob0), .int (f_period ob0), .int (f_nextSeq ob0), .int (f_qLen ob0), .int (f_nakLen ob0)], .inr (.inl (.int, (List.replicate 32 0))), .inr (.inl (.boolean, (List.replicate 32 0))), .inr (.inl (.int, (List.replicate 64 0))), .inr (.inl (.int, (List.replicate 10 0))), .inr (.inl (.int, (List.replicate 128 0))), .inr (.inl (.int, (List.replicate 128 0))), .inr (.inl (.int, (List.replicate 128 0))), .inr (.inl (.int, (List.replicate 4 0)))])) rfl ?_
 refine zS Ad W 3 (st' := (74, [vR 0, vI x1, vI x2, vI x3, vI x4, none], [.ref 9, .ref 0], [.inl [.ref 1, .ref 2, .ref 3, .ref 4, .ref 5, .ref 6, .ref 7, .ref 8, .null, .null, .null, .null, .null, .null, .null, .null, .null, .null, .null, .int (f_win ob0), .int (f_back ob0), .int (f_repair ob0), .int (f_period ob0), .int (f_nextSeq ob0), .int (f_qLen ob0), .int (f_nakLen ob0)], .inr (.inl (.int, (List.replicate 32 0))), .inr (.inl (.boolean, (List.replicate 32 0))), .inr (.inl (.int, (List.replicate 64 0))), .inr (.inl (.int, (List.replicate 10 0))), .inr (.inl (.int, (List.replicate 128 0))), .inr (.inl (.int, (List.replicate 128 0))), .inr (.inl (.int, (List.replicate 128 0))), .inr (.inl (.int, (List.replicate 4 0))), .inr (.inl (.int, (List.replicate 4 0)))])) rfl ?_
 refine zS Ad W 1 (st' := (77, [vR 0, vI x1, vI x2, vI x3, vI x4, none], [], [.inl [.ref 1, .ref 2, .ref 3, .ref 4, .ref 5, .ref 6, .ref 7, .ref 8, .ref 9, .null, .null, .null, .null, .null, .null, .null, .null, .null, .null, .int (f_win ob0), .int (f_back ob0), .int (f_repair ob0), .int (f_period ob0), .int (f_nextSeq ob0), .int (f_qLen ob0), .int (f_nakLen ob0)], .inr (.inl (.int, (List.replicate 32 0))), .inr (.inl (.boolean, (List.replicate 32 0))), .inr (.inl (.int, (List.replicate 64 0))), .inr (.inl (.int, (List.replicate 10 0))), .inr (.inl (.int, (List.replicate 128 0))), .inr (.inl (.int, (List.replicate 128 0))), .inr (.inl (.int, (List.replicate 128 0))), .inr (.inl (.int, (List.replicate 4 0))), .inr (.inl (.int, (List.replicate 4 0)))])) rfl ?_
 refine zS Ad W 3 (st' := (81, [vR 0, vI x1, vI x2, vI x3, vI x4, none], [.ref 10, .ref 0], [.inl [.ref 1, .ref 2, .ref 3, .ref 4, .ref 5, .ref 6, .ref 7, .ref 8, .ref 9, .null, .null, .null, .null, .null, .null, .null, .null, .null, .null, .int (f_win ob0), .int (f_back ob0), .int (f_repair ob0), .int (f_period ob0), .int (f_nextSeq ob0), .int (f_qLen ob0), .int (f_nakLen ob0)], .inr (.inl (.int, (List.replicate 32 0))), .inr (.inl (.boolean, (List.replicate 32 0))), .inr (.inl (.int, (List.replicate 64 0))), .inr (.inl (.int, (List.replicate 10 0))), .inr (.inl (.int, (List.replicate 128 0))), .inr (.inl (.int, (List.replicate 128 0))), .inr (.inl (.int, (List.replicate 128 0))), .inr (.inl (.int, (List.replicate 4 0))), .inr (.inl (.int, (List.replicate 4 0))), .inr (.inl (.int, (List.replicate 4 0)))])) rfl ?_
 refine zS Ad W 1 (st' := (84, [vR 0, vI x1, vI x2, vI x3, vI x4, none], [], [.inl [.ref 1, .ref 2, .ref 3, .ref 4, .ref 5, .ref 6, .ref 7, .ref 8, .ref 9, .ref 10, .null, .null, .null, .null, .null, .null, .null, .null, .null, .int (f_win ob0), .int (f_back ob0), .int (f_repair ob0), .int (f_period ob0), .int (f_nextSeq ob0), .int (f_qLen ob0), .int (f_nakLen ob0)], .inr (.inl (.int, (List.replicate 32 0))), .inr (.inl (.boolean, (List.replicate 32 0))), .inr (.inl (.int, (List.replicate 64 0))), .inr (.inl (.int, (List.replicate 10 0))), .inr (.inl (.int, (List.replicate 128 0))), .inr (.inl (.int, (List.replicate 128 0))), .inr (.inl (.int, (List.replicate 128 0))), .inr (.inl (.int, (List.replicate 4 0))), .inr (.inl (.int, (List.replicate 4 0))), .inr (.inl (.int, (List.replicate 4 0)))])) rfl ?_
 refine zS Ad W 3 (st' := (88, [vR 0, vI x1, vI x2, vI x3, vI x4, none], [.ref 11, .ref 0], [.inl [.ref 1, .ref 2, .ref 3, .ref 4, .ref 5, .ref 6, .ref 7, .ref 8, .ref 9, .ref 10, .null, .null, .null, .null, .null, .null, .null, .null, .null, .int (f_win ob0), .int (f_back ob0), .int (f_repair ob0), .int (f_period ob0), .int (f_nextSeq ob0), .int (f_qLen ob0), .int (f_nakLen ob0)], .inr (.inl (.int, (List.replicate 32 0))), .inr (.inl (.boolean, (List.replicate 32 0))), .inr (.inl (.int, (List.replicate 64 0))), .inr (.inl (.int, (List.replicate 10 0))), .inr (.inl (.int, (List.replicate 128 0))), .inr (.inl (.int, (List.replicate 128 0))), .inr (.inl (.int, (List.replicate 128 0))), .inr (.inl (.int, (List.replicate 4 0))), .inr (.inl (.int, (List.replicate 4 0))), .inr (.inl (.int, (List.replicate 4 0))), .inr (.inl (.int, (List.replicate 4 0)))])) rfl ?_
 refine zS Ad W 1 (st' := (91, [vR 0, vI x1, vI x2, vI x3, vI x4, none], [], [.inl [.ref 1, .ref 2, .ref 3, .ref 4, .ref 5, .ref 6, .ref 7, .ref 8, .ref 9, .ref 10, .ref 11, .null, .null, .null, .null, .null, .null, .null, .null, .int (f_win ob0), .int (f_back ob0), .int (f_repair ob0), .int (f_period ob0), .int (f_nextSeq ob0), .int (f_qLen ob0), .int (f_nakLen ob0)], .inr (.inl (.int, (List.replicate 32 0))), .inr (.inl (.boolean, (List.replicate 32 0))), .inr (.inl (.int, (List.replicate 64 0))), .inr (.inl (.int, (List.replicate 10 0))), .inr (.inl (.int, (List.replicate 128 0))), .inr (.inl (.int, (List.replicate 128 0))), .inr (.inl (.int, (List.replicate 128 0))), .inr (.inl (.int, (List.replicate 4 0))), .inr (.inl (.int, (List.replicate 4 0))), .inr (.inl (.int, (List.replicate 4 0))), .inr (.inl (.int, (List.replicate 4 0)))])) rfl ?_
 refine zS Ad W 3 (st' := (95, [vR 0, vI x1, vI x2, vI x3, vI x4, none], [.ref 12, .ref 0], [.inl [.ref 1, .ref 2, .ref 3, .ref 4, .ref 5, .ref 6, .ref 7, .ref 8, .ref 9, .ref 10, .ref 11, .null, .null, .null, .null, .null, .null, .null, .null, .int (f_win ob0), .int (f_back ob0), .int (f_repair ob0), .int (f_period ob0), .int (f_nextSeq ob0), .int (f_qLen ob0), .int (f_nakLen ob0)], .inr (.inl (.int, (List.replicate 32 0))), .inr (.inl (.boolean, (List.replicate 32 0))), .inr (.inl (.int, (List.replicate 64 0))), .inr (.inl (.int, (List.replicate 10 0))), .inr (.inl (.int, (List.replicate 128 0))), .inr (.inl (.int, (List.replicate 128 0))), .inr (.inl (.int, (List.replicate 128 0))), .inr (.inl (.int, (List.replicate 4 0))), .inr (.inl (.int, (List.replicate 4 0))), .inr (.inl (.int, (List.replicate 4 0))), .inr (.inl (.int, (List.replicate 4 0))), .inr (.inl (.int, (List.replicate 4 0)))])) rfl ?_
 refine zS Ad W 1 (st' := (98, [vR 0, vI x1, vI x2, vI x3, vI x4, none], [], [.inl [.ref 1, .ref 2, .ref 3, .ref 4, .ref 5, .ref 6, .ref 7, .ref 8, .ref 9, .ref 10, .ref 11, .ref 12, .null, .null, .null, .null, .null, .null, .null, .int (f_win ob0), .int (f_back ob0), .int (f_repair ob0), .int (f_period ob0), .int (f_nextSeq ob0), .int (f_qLen ob0), .int (f_nakLen ob0)], .inr (.inl (.int, (List.replicate 32 0))), .inr (.inl (.boolean, (List.replicate 32 0))), .inr (.inl (.int, (List.replicate 64 0))), .inr (.inl (.int, (List.replicate 10 0))), .inr (.inl (.int, (List.replicate 128 0))), .inr (.inl (.int, (List.replicate 128 0))), .inr (.inl (.int, (List.replicate 128 0))), .inr (.inl (.int, (List.replicate 4 0))), .inr (.inl (.int, (List.replicate 4 0))), .inr (.inl (.int, (List.replicate 4 0))), .inr (.inl (.int, (List.replicate 4 0))), .inr (.inl (.int, (List.replicate 4 0)))])) rfl ?_
 refine zS Ad W 3 (st' := (102, [vR 0, vI x1, vI x2, vI x3, vI x4, none], [.ref 13, .ref 0], [.inl [.ref 1, .ref 2, .ref 3, .ref 4, .ref 5, .ref 6, .ref 7, .ref 8, .ref 9, .ref 10, .ref 11, .ref 12, .null, .null, .null, .null, .null, .null, .null, .int (f_win ob0), .int (f_back ob0), .int (f_repair ob0), .int (f_period ob0), .int (f_nextSeq ob0), .int (f_qLen ob0), .int (f_nakLen ob0)], .inr (.inl (.int, (List.replicate 32 0))), .inr (.inl (.boolean, (List.replicate 32 0))), .inr (.inl (.int, (List.replicate 64 0))), .inr (.inl (.int, (List.replicate 10 0))), .inr (.inl (.int, (List.replicate 128 0))), .inr (.inl (.int, (List.replicate 128 0))), .inr (.inl (.int, (List.replicate 128 0))), .inr (.inl (.int, (List.replicate 4 0))), .inr (.inl (.int, (List.replicate 4 0))), .inr (.inl (.int, (List.replicate 4 0))), .inr (.inl (.int, (List.replicate 4 0))), .inr (.inl (.int, (List.replicate 4 0))), .inr (.inl (.int, (List.replicate 4 0)))])) rfl ?_
 refine zS Ad W 1 (st' := (105, [vR 0, vI x1, vI x2, vI x3, vI x4, none], [], [.inl [.ref 1, .ref 2, .ref 3, .ref 4, .ref 5, .ref 6, .ref 7, .ref 8, .ref 9, .ref 10, .ref 11, .ref 12, .ref 13, .null, .null, .null, .null, .null, .null, .int (f_win ob0), .int (f_back ob0), .int (f_repair ob0), .int (f_period ob0), .int (f_nextSeq ob0), .int (f_qLen ob0), .int (f_nakLen ob0)], .inr (.inl (.int, (List.replicate 32 0))), .inr (.inl (.boolean, (List.replicate 32 0))), .inr (.inl (.int, (List.replicate 64 0))), .inr (.inl (.int, (List.replicate 10 0))), .inr (.inl (.int, (List.replicate 128 0))), .inr (.inl (.int, (List.replicate 128 0))), .inr (.inl (.int, (List.replicate 128 0))), .inr (.inl (.int, (List.replicate 4 0))), .inr (.inl (.int, (List.replicate 4 0))), .inr (.inl (.int, (List.replicate 4 0))), .inr (.inl (.int, (List.replicate 4 0))), .inr (.inl (.int, (List.replicate 4 0))), .inr (.inl (.int, (List.replicate 4 0)))])) rfl ?_
 refine zS Ad W 3 (st' := (111, [vR 0, vI x1, vI x2, vI x3, vI x4, none], [.ref 14, .ref 0], [.inl [.ref 1, .ref 2, .ref 3, .ref 4, .ref 5, .ref 6, .ref 7, .ref 8, .ref 9, .ref 10, .ref 11, .ref 12, .ref 13, .null, .null, .null, .null, .null, .null, .int (f_win ob0), .int (f_back ob0), .int (f_repair ob0), .int (f_period ob0), .int (f_nextSeq ob0), .int (f_qLen ob0), .int (f_nakLen ob0)], .inr (.inl (.int, (List.replicate 32 0))), .inr (.inl (.boolean, (List.replicate 32 0))), .inr (.inl (.int, (List.replicate 64 0))), .inr (.inl (.int, (List.replicate 10 0))), .inr (.inl (.int, (List.replicate 128 0))), .inr (.inl (.int, (List.replicate 128 0))), .inr (.inl (.int, (List.replicate 128 0))), .inr (.inl (.int, (List.replicate 4 0))), .inr (.inl (.int, (List.replicate 4 0))), .inr (.inl (.int, (List.replicate 4 0))), .inr (.inl (.int, (List.replicate 4 0))), .inr (.inl (.int, (List.replicate 4 0))), .inr (.inl (.int, (List.replicate 4 0))), .inr (.inl (.int, (List.replicate 128 0)))])) rfl ?_
 refine zS Ad W 1 (st' := (114, [vR 0, vI x1, vI x2, vI x3, vI x4, none], [], [.inl [.ref 1, .ref 2, .ref 3, .ref 4, .ref 5, .ref 6, .ref 7, .ref 8, .ref 9, .ref 10, .ref 11, .ref 12, .ref 13, .ref 14, .null, .null, .null, .null, .null, .int (f_win ob0), .int (f_back ob0), .int (f_repair ob0), .int (f_period ob0), .int (f_nextSeq ob0), .int (f_qLen ob0), .int (f_nakLen ob0)], .inr (.inl (.int, (List.replicate 32 0))), .inr (.inl (.boolean, (List.replicate 32 0))), .inr (.inl (.int, (List.replicate 64 0))), .inr (.inl (.int, (List.replicate 10 0))), .inr (.inl (.int, (List.replicate 128 0))), .inr (.inl (.int, (List.replicate 128 0))), .inr (.inl (.int, (List.replicate 128 0))), .inr (.inl (.int, (List.replicate 4 0))), .inr (.inl (.int, (List.replicate 4 0))), .inr (.inl (.int, (List.replicate 4 0))), .inr (.inl (.int, (List.replicate 4 0))), .inr (.inl (.int, (List.replicate 4 0))), .inr (.inl (.int, (List.replicate 4 0))), .inr (.inl (.int, (List.replicate 128 0)))])) rfl ?_
 refine zS Ad W 3 (st' := (120, [vR 0, vI x1, vI x2, vI x3, vI x4, none], [.ref 15, .ref 0], [.inl [.ref 1, .ref 2, .ref 3, .ref 4, .ref 5, .ref 6, .ref 7, .ref 8, .ref 9, .ref 10, .ref 11, .ref 12, .ref 13, .ref 14, .null, .null, .null, .null, .null, .int (f_win ob0), .int (f_back ob0), .int (f_repair ob0), .int (f_period ob0), .int (f_nextSeq ob0), .int (f_qLen ob0), .int (f_nakLen ob0)], .inr (.inl (.int, (List.replicate 32 0))), .inr (.inl (.boolean, (List.replicate 32 0))), .inr (.inl (.int, (List.replicate 64 0))), .inr (.inl (.int, (List.replicate 10 0))), .inr (.inl (.int, (List.replicate 128 0))), .inr (.inl (.int, (List.replicate 128 0))), .inr (.inl (.int, (List.replicate 128 0))), .inr (.inl (.int, (List.replicate 4 0))), .inr (.inl (.int, (List.replicate 4 0))), .inr (.inl (.int, (List.replicate 4 0))), .inr (.inl (.int, (List.replicate 4 0))), .inr (.inl (.int, (List.replicate 4 0))), .inr (.inl (.int, (List.replicate 4 0))), .inr (.inl (.int, (List.replicate 128 0))), .inr (.inl (.int, (List.replicate 128 0)))])) rfl ?_
 refine zS Ad W 1 (st' := (123, [vR 0, vI x1, vI x2, vI x3, vI x4, none], [], [.inl [.ref 1, .ref 2, .ref 3, .ref 4, .ref 5, .ref 6, .ref 7, .ref 8, .ref 9, .ref 10, .ref 11, .ref 12, .ref 13, .ref 14, .ref 15, .null, .null, .null, .null, .int (f_win ob0), .int (f_back ob0), .int (f_repair ob0), .int (f_period ob0), .int (f_nextSeq ob0), .int (f_qLen ob0), .int (f_nakLen ob0)], .inr (.inl (.int, (List.replicate 32 0))), .inr (.inl (.boolean, (List.replicate 32 0))), .inr (.inl (.int, (List.replicate 64 0))), .inr (.inl (.int, (List.replicate 10 0))), .inr (.inl (.int, (List.replicate 128 0))), .inr (.inl (.int, (List.replicate 128 0))), .inr (.inl (.int, (List.replicate 128 0))), .inr (.inl (.int, (List.replicate 4 0))), .inr (.inl (.int, (List.replicate 4 0))), .inr (.inl (.int, (List.replicate 4 0))), .inr (.inl (.int, (List.replicate 4 0))), .inr (.inl (.int, (List.replicate 4 0))), .inr (.inl (.int, (List.replicate 4 0))), .inr (.inl (.int, (List.replicate 128 0))), .inr (.inl (.int, (List.replicate 128 0)))])) rfl ?_
 refine zS Ad W 3 (st' := (127, [vR 0, vI x1, vI x2, vI x3, vI x4, none], [.ref 16, .ref 0], [.inl [.ref 1, .ref 2, .ref 3, .ref 4, .ref 5, .ref 6, .ref 7, .ref 8, .ref 9, .ref 10, .ref 11, .ref 12, .ref 13, .ref 14, .ref 15, .null, .null, .null, .null, .int (f_win ob0), .int (f_back ob0), .int (f_repair ob0), .int (f_period ob0), .int (f_nextSeq ob0), .int (f_qLen ob0), .int (f_nakLen ob0)], .inr (.inl (.int, (List.replicate 32 0))), .inr (.inl (.boolean, (List.replicate 32 0))), .inr (.inl (.int, (List.replicate 64 0))), .inr (.inl (.int, (List.replicate 10 0))), .inr (.inl (.int, (List.replicate 128 0))), .inr (.inl (.int, (List.replicate 128 0))), .inr (.inl (.int, (List.replicate 128 0))), .inr (.inl (.int, (List.replicate 4 0))), .inr (.inl (.int, (List.replicate 4 0))), .inr (.inl (.int, (List.replicate 4 0))), .inr (.inl (.int, (List.replicate 4 0))), .inr (.inl (.int, (List.replicate 4 0))), .inr (.inl (.int, (List.replicate 4 0))), .inr (.inl (.int, (List.replicate 128 0))), .inr (.inl (.int, (List.replicate 128 0))), .inr (.inl (.int, (List.replicate 4 0)))])) rfl ?_
 refine zS Ad W 1 (st' := (130, [vR 0, vI x1, vI x2, vI x3, vI x4, none], [], [.inl [.ref 1, .ref 2, .ref 3, .ref 4, .ref 5, .ref 6, .ref 7, .ref 8, .ref 9, .ref 10, .ref 11, .ref 12, .ref 13, .ref 14, .ref 15, .ref 16, .null, .null, .null, .int (f_win ob0), .int (f_back ob0), .int (f_repair ob0), .int (f_period ob0), .int (f_nextSeq ob0), .int (f_qLen ob0), .int (f_nakLen ob0)], .inr (.inl (.int, (List.replicate 32 0))), .inr (.inl (.boolean, (List.replicate 32 0))), .inr (.inl (.int, (List.replicate 64 0))), .inr (.inl (.int, (List.replicate 10 0))), .inr (.inl (.int, (List.replicate 128 0))), .inr (.inl (.int, (List.replicate 128 0))), .inr (.inl (.int, (List.replicate 128 0))), .inr (.inl (.int, (List.replicate 4 0))), .inr (.inl (.int, (List.replicate 4 0))), .inr (.inl (.int, (List.replicate 4 0))), .inr (.inl (.int, (List.replicate 4 0))), .inr (.inl (.int, (List.replicate 4 0))), .inr (.inl (.int, (List.replicate 4 0))), .inr (.inl (.int, (List.replicate 128 0))), .inr (.inl (.int, (List.replicate 128 0))), .inr (.inl (.int, (List.replicate 4 0)))])) rfl ?_
 refine zS Ad W 3 (st' := (136, [vR 0, vI x1, vI x2, vI x3, vI x4, none], [.ref 17, .ref 0], [.inl [.ref 1, .ref 2, .ref 3, .ref 4, .ref 5, .ref 6, .ref 7, .ref 8, .ref 9, .ref 10, .ref 11, .ref 12, .ref 13, .ref 14, .ref 15, .ref 16, .null, .null, .null, .int (f_win ob0), .int (f_back ob0), .int (f_repair ob0), .int (f_period ob0), .int (f_nextSeq ob0), .int (f_qLen ob0), .int (f_nakLen ob0)], .inr (.inl (.int, (List.replicate 32 0))), .inr (.inl (.boolean, (List.replicate 32 0))), .inr (.inl (.int, (List.replicate 64 0))), .inr (.inl (.int, (List.replicate 10 0))), .inr (.inl (.int, (List.replicate 128 0))), .inr (.inl (.int, (List.replicate 128 0))), .inr (.inl (.int, (List.replicate 128 0))), .inr (.inl (.int, (List.replicate 4 0))), .inr (.inl (.int, (List.replicate 4 0))), .inr (.inl (.int, (List.replicate 4 0))), .inr (.inl (.int, (List.replicate 4 0))), .inr (.inl (.int, (List.replicate 4 0))), .inr (.inl (.int, (List.replicate 4 0))), .inr (.inl (.int, (List.replicate 128 0))), .inr (.inl (.int, (List.replicate 128 0))), .inr (.inl (.int, (List.replicate 4 0))), .inr (.inl (.int, (List.replicate 128 0)))])) rfl ?_
 refine zS Ad W 1 (st' := (139, [vR 0, vI x1, vI x2, vI x3, vI x4, none], [], [.inl [.ref 1, .ref 2, .ref 3, .ref 4, .ref 5, .ref 6, .ref 7, .ref 8, .ref 9, .ref 10, .ref 11, .ref 12, .ref 13, .ref 14, .ref 15, .ref 16, .ref 17, .null, .null, .int (f_win ob0), .int (f_back ob0), .int (f_repair ob0), .int (f_period ob0), .int (f_nextSeq ob0), .int (f_qLen ob0), .int (f_nakLen ob0)], .inr (.inl (.int, (List.replicate 32 0))), .inr (.inl (.boolean, (List.replicate 32 0))), .inr (.inl (.int, (List.replicate 64 0))), .inr (.inl (.int, (List.replicate 10 0))), .inr (.inl (.int, (List.replicate 128 0))), .inr (.inl (.int, (List.replicate 128 0))), .inr (.inl (.int, (List.replicate 128 0))), .inr (.inl (.int, (List.replicate 4 0))), .inr (.inl (.int, (List.replicate 4 0))), .inr (.inl (.int, (List.replicate 4 0))), .inr (.inl (.int, (List.replicate 4 0))), .inr (.inl (.int, (List.replicate 4 0))), .inr (.inl (.int, (List.replicate 4 0))), .inr (.inl (.int, (List.replicate 128 0))), .inr (.inl (.int, (List.replicate 128 0))), .inr (.inl (.int, (List.replicate 4 0))), .inr (.inl (.int, (List.replicate 128 0)))])) rfl ?_
 refine zS Ad W 3 (st' := (143, [vR 0, vI x1, vI x2, vI x3, vI x4, none], [.ref 18, .ref 0], [.inl [.ref 1, .ref 2, .ref 3, .ref 4, .ref 5, .ref 6, .ref 7, .ref 8, .ref 9, .ref 10, .ref 11, .ref 12, .ref 13, .ref 14, .ref 15, .ref 16, .ref 17, .null, .null, .int (f_win ob0), .int (f_back ob0), .int (f_repair ob0), .int (f_period ob0), .int (f_nextSeq ob0), .int (f_qLen ob0), .int (f_nakLen ob0)], .inr (.inl (.int, (List.replicate 32 0))), .inr (.inl (.boolean, (List.replicate 32 0))), .inr (.inl (.int, (List.replicate 64 0))), .inr (.inl (.int, (List.replicate 10 0))), .inr (.inl (.int, (List.replicate 128 0))), .inr (.inl (.int, (List.replicate 128 0))), .inr (.inl (.int, (List.replicate 128 0))), .inr (.inl (.int, (List.replicate 4 0))), .inr (.inl (.int, (List.replicate 4 0))), .inr (.inl (.int, (List.replicate 4 0))), .inr (.inl (.int, (List.replicate 4 0))), .inr (.inl (.int, (List.replicate 4 0))), .inr (.inl (.int, (List.replicate 4 0))), .inr (.inl (.int, (List.replicate 128 0))), .inr (.inl (.int, (List.replicate 128 0))), .inr (.inl (.int, (List.replicate 4 0))), .inr (.inl (.int, (List.replicate 128 0))), .inr (.inl (.int, (List.replicate 4 0)))])) rfl ?_
 refine zS Ad W 1 (st' := (146, [vR 0, vI x1, vI x2, vI x3, vI x4, none], [], [.inl [.ref 1, .ref 2, .ref 3, .ref 4, .ref 5, .ref 6, .ref 7, .ref 8, .ref 9, .ref 10, .ref 11, .ref 12, .ref 13, .ref 14, .ref 15, .ref 16, .ref 17, .ref 18, .null, .int (f_win ob0), .int (f_back ob0), .int (f_repair ob0), .int (f_period ob0), .int (f_nextSeq ob0), .int (f_qLen ob0), .int (f_nakLen ob0)], .inr (.inl (.int, (List.replicate 32 0))), .inr (.inl (.boolean, (List.replicate 32 0))), .inr (.inl (.int, (List.replicate 64 0))), .inr (.inl (.int, (List.replicate 10 0))), .inr (.inl (.int, (List.replicate 128 0))), .inr (.inl (.int, (List.replicate 128 0))), .inr (.inl (.int, (List.replicate 128 0))), .inr (.inl (.int, (List.replicate 4 0))), .inr (.inl (.int, (List.replicate 4 0))), .inr (.inl (.int, (List.replicate 4 0))), .inr (.inl (.int, (List.replicate 4 0))), .inr (.inl (.int, (List.replicate 4 0))), .inr (.inl (.int, (List.replicate 4 0))), .inr (.inl (.int, (List.replicate 128 0))), .inr (.inl (.int, (List.replicate 128 0))), .inr (.inl (.int, (List.replicate 4 0))), .inr (.inl (.int, (List.replicate 128 0))), .inr (.inl (.int, (List.replicate 4 0)))])) rfl ?_
 refine zS Ad W 3 (st' := (152, [vR 0, vI x1, vI x2, vI x3, vI x4, none], [.ref 19, .ref 0], [.inl [.ref 1, .ref 2, .ref 3, .ref 4, .ref 5, .ref 6, .ref 7, .ref 8, .ref 9, .ref 10, .ref 11, .ref 12, .ref 13, .ref 14, .ref 15, .ref 16, .ref 17, .ref 18, .null, .int (f_win ob0), .int (f_back ob0), .int (f_repair ob0), .int (f_period ob0), .int (f_nextSeq ob0), .int (f_qLen ob0), .int (f_nakLen ob0)], .inr (.inl (.int, (List.replicate 32 0))), .inr (.inl (.boolean, (List.replicate 32 0))), .inr (.inl (.int, (List.replicate 64 0))), .inr (.inl (.int, (List.replicate 10 0))), .inr (.inl (.int, (List.replicate 128 0))), .inr (.inl (.int, (List.replicate 128 0))), .inr (.inl (.int, (List.replicate 128 0))), .inr (.inl (.int, (List.replicate 4 0))), .inr (.inl (.int, (List.replicate 4 0))), .inr (.inl (.int, (List.replicate 4 0))), .inr (.inl (.int, (List.replicate 4 0))), .inr (.inl (.int, (List.replicate 4 0))), .inr (.inl (.int, (List.replicate 4 0))), .inr (.inl (.int, (List.replicate 128 0))), .inr (.inl (.int, (List.replicate 128 0))), .inr (.inl (.int, (List.replicate 4 0))), .inr (.inl (.int, (List.replicate 128 0))), .inr (.inl (.int, (List.replicate 4 0))), .inr (.inl (.int, (List.replicate 128 0)))])) rfl ?_
 refine zS Ad W 1 (st' := (155, [vR 0, vI x1, vI x2, vI x3, vI x4, none], [], (H0x0 ob0 (List.replicate 32 0) (List.replicate 32 0) (List.replicate 64 0) (List.replicate 10 0) (List.replicate 128 0) (List.replicate 128 0) (List.replicate 128 0) (List.replicate 4 0) (List.replicate 4 0) (List.replicate 4 0) (List.replicate 4 0) (List.replicate 4 0) (List.replicate 4 0) (List.replicate 128 0) (List.replicate 128 0) (List.replicate 4 0) (List.replicate 128 0) (List.replicate 4 0) (List.replicate 128 0)))) rfl ?_
 refine zS Ad W 5 (st' := (161, [vR 0, vI x1, vI x2, vI x3, vI x4, none], [.int (16:Int32), .int (2:Int32), .int x1, .ref 0, .ref 0], (H0x0 ob0 (List.replicate 32 0) (List.replicate 32 0) (List.replicate 64 0) (List.replicate 10 0) (List.replicate 128 0) (List.replicate 128 0) (List.replicate 128 0) (List.replicate 4 0) (List.replicate 4 0) (List.replicate 4 0) (List.replicate 4 0) (List.replicate 4 0) (List.replicate 4 0) (List.replicate 128 0) (List.replicate 128 0) (List.replicate 4 0) (List.replicate 128 0) (List.replicate 4 0) (List.replicate 128 0)))) rfl ?_
 obtain ⟨r3, hr3, h⟩ := bind_eq_some_iff.mp h
 refine QTri.callP W (a := 0) (as := [.int x1, .int (2:Int32), .int (16:Int32)]) (rest := [.ref 0]) (w := (some (.int r3))) (σ₁ := (H0x0 ob0 (List.replicate 32 0) (List.replicate 32 0) (List.replicate 64 0) (List.replicate 10 0) (List.replicate 128 0) (List.replicate 128 0) (List.replicate 128 0) (List.replicate 4 0) (List.replicate 4 0) (List.replicate 4 0) (List.replicate 4 0) (List.replicate 4 0) (List.replicate 4 0) (List.replicate 128 0) (List.replicate 128 0) (List.replicate 4 0) (List.replicate 128 0) (List.replicate 4 0) (List.replicate 128 0))) rfl rfl rfl rfl rfl rfl rfl rfl (tF2 Ad W x1 (2:Int32) (16:Int32) hr3) ?_
 refine zS Ad W 1 (st' := (167, [vR 0, vI x1, vI x2, vI x3, vI x4, none], [], (H0x1 ob0 (List.replicate 32 0) (List.replicate 32 0) (List.replicate 64 0) (List.replicate 10 0) (List.replicate 128 0) (List.replicate 128 0) (List.replicate 128 0) (List.replicate 4 0) (List.replicate 4 0) (List.replicate 4 0) (List.replicate 4 0) (List.replicate 4 0) (List.replicate 4 0) (List.replicate 128 0) (List.replicate 128 0) (List.replicate 4 0) (List.replicate 128 0) (List.replicate 4 0) (List.replicate 128 0) r3))) rfl ?_
 refine zS Ad W 5 (st' := (173, [vR 0, vI x1, vI x2, vI x3, vI x4, none], [.int (8:Int32), .int (1:Int32), .int x2, .ref 0, .ref 0], (H0x1 ob0 (List.replicate 32 0) (List.replicate 32 0) (List.replicate 64 0) (List.replicate 10 0) (List.replicate 128 0) (List.replicate 128 0) (List.replicate 128 0) (List.replicate 4 0) (List.replicate 4 0) (List.replicate 4 0) (List.replicate 4 0) (List.replicate 4 0) (List.replicate 4 0) (List.replicate 128 0) (List.replicate 128 0) (List.replicate 4 0) (List.replicate 128 0) (List.replicate 4 0) (List.replicate 128 0) r3))) rfl ?_
 obtain ⟨r4, hr4, h⟩ := bind_eq_some_iff.mp h
 refine QTri.callP W (a := 0) (as := [.int x2, .int (1:Int32), .int (8:Int32)]) (rest := [.ref 0]) (w := (some (.int r4))) (σ₁ := (H0x1 ob0 (List.replicate 32 0) (List.replicate 32 0) (List.replicate 64 0) (List.replicate 10 0) (List.replicate 128 0) (List.replicate 128 0) (List.replicate 128 0) (List.replicate 4 0) (List.replicate 4 0) (List.replicate 4 0) (List.replicate 4 0) (List.replicate 4 0) (List.replicate 4 0) (List.replicate 128 0) (List.replicate 128 0) (List.replicate 4 0) (List.replicate 128 0) (List.replicate 4 0) (List.replicate 128 0) r3)) rfl rfl rfl rfl rfl rfl rfl rfl (tF2 Ad W x2 (1:Int32) (8:Int32) hr4) ?_
 refine zS Ad W 1 (st' := (179, [vR 0, vI x1, vI x2, vI x3, vI x4, none], [], (H0x2 ob0 (List.replicate 32 0) (List.replicate 32 0) (List.replicate 64 0) (List.replicate 10 0) (List.replicate 128 0) (List.replicate 128 0) (List.replicate 128 0) (List.replicate 4 0) (List.replicate 4 0) (List.replicate 4 0) (List.replicate 4 0) (List.replicate 4 0) (List.replicate 4 0) (List.replicate 128 0) (List.replicate 128 0) (List.replicate 4 0) (List.replicate 128 0) (List.replicate 4 0) (List.replicate 128 0) r3 r4))) rfl ?_
 refine zS Ad W 5 (st' := (185, [vR 0, vI x1, vI x2, vI x3, vI x4, none], [.int (8:Int32), .int (1:Int32), .int x3, .ref 0, .ref 0], (H0x2 ob0 (List.replicate 32 0) (List.replicate 32 0) (List.replicate 64 0) (List.replicate 10 0) (List.replicate 128 0) (List.replicate 128 0) (List.replicate 128 0) (List.replicate 4 0) (List.replicate 4 0) (List.replicate 4 0) (List.replicate 4 0) (List.replicate 4 0) (List.replicate 4 0) (List.replicate 128 0) (List.replicate 128 0) (List.replicate 4 0) (List.replicate 128 0) (List.replicate 4 0) (List.replicate 128 0) r3 r4))) rfl ?_
 obtain ⟨r5, hr5, h⟩ := bind_eq_some_iff.mp h
 refine QTri.callP W (a := 0) (as := [.int x3, .int (1:Int32), .int (8:Int32)]) (rest := [.ref 0]) (w := (some (.int r5))) (σ₁ := (H0x2 ob0 (List.replicate 32 0) (List.replicate 32 0) (List.replicate 64 0) (List.replicate 10 0) (List.replicate 128 0) (List.replicate 128 0) (List.replicate 128 0) (List.replicate 4 0) (List.replicate 4 0) (List.replicate 4 0) (List.replicate 4 0) (List.replicate 4 0) (List.replicate 4 0) (List.replicate 128 0) (List.replicate 128 0) (List.replicate 4 0) (List.replicate 128 0) (List.replicate 4 0) (List.replicate 128 0) r3 r4)) rfl rfl rfl rfl rfl rfl rfl rfl (tF2 Ad W x3 (1:Int32) (8:Int32) hr5) ?_
 refine zS Ad W 1 (st' := (191, [vR 0, vI x1, vI x2, vI x3, vI x4, none], [], (H0x3 ob0 (List.replicate 32 0) (List.replicate 32 0) (List.replicate 64 0) (List.replicate 10 0) (List.replicate 128 0) (List.replicate 128 0) (List.replicate 128 0) (List.replicate 4 0) (List.replicate 4 0) (List.replicate 4 0) (List.replicate 4 0) (List.replicate 4 0) (List.replicate 4 0) (List.replicate 128 0) (List.replicate 128 0) (List.replicate 4 0) (List.replicate 128 0) (List.replicate 4 0) (List.replicate 128 0) r3 r4 r5))) rfl ?_
 refine zS Ad W 5 (st' := (198, [vR 0, vI x1, vI x2, vI x3, vI x4, none], [.int (16:Int32), .int (0:Int32), .int x4, .ref 0, .ref 0], (H0x3 ob0 (List.replicate 32 0) (List.replicate 32 0) (List.replicate 64 0) (List.replicate 10 0) (List.replicate 128 0) (List.replicate 128 0) (List.replicate 128 0) (List.replicate 4 0) (List.replicate 4 0) (List.replicate 4 0) (List.replicate 4 0) (List.replicate 4 0) (List.replicate 4 0) (List.replicate 128 0) (List.replicate 128 0) (List.replicate 4 0) (List.replicate 128 0) (List.replicate 4 0) (List.replicate 128 0) r3 r4 r5))) rfl ?_
 obtain ⟨r6, hr6, h⟩ := bind_eq_some_iff.mp h
 refine QTri.callP W (a := 0) (as := [.int x4, .int (0:Int32), .int (16:Int32)]) (rest := [.ref 0]) (w := (some (.int r6))) (σ₁ := (H0x3 ob0 (List.replicate 32 0) (List.replicate 32 0) (List.replicate 64 0) (List.replicate 10 0) (List.replicate 128 0) (List.replicate 128 0) (List.replicate 128 0) (List.replicate 4 0) (List.replicate 4 0) (List.replicate 4 0) (List.replicate 4 0) (List.replicate 4 0) (List.replicate 4 0) (List.replicate 128 0) (List.replicate 128 0) (List.replicate 4 0) (List.replicate 128 0) (List.replicate 4 0) (List.replicate 128 0) r3 r4 r5)) rfl rfl rfl rfl rfl rfl rfl rfl (tF2 Ad W x4 (0:Int32) (16:Int32) hr6) ?_
 refine zS Ad W 1 (st' := (204, [vR 0, vI x1, vI x2, vI x3, vI x4, none], [], (H0x4 ob0 (List.replicate 32 0) (List.replicate 32 0) (List.replicate 64 0) (List.replicate 10 0) (List.replicate 128 0) (List.replicate 128 0) (List.replicate 128 0) (List.replicate 4 0) (List.replicate 4 0) (List.replicate 4 0) (List.replicate 4 0) (List.replicate 4 0) (List.replicate 4 0) (List.replicate 128 0) (List.replicate 128 0) (List.replicate 4 0) (List.replicate 128 0) (List.replicate 4 0) (List.replicate 128 0) r3 r4 r5 r6))) rfl ?_
 refine zS Ad W 2 (st' := (207, [vR 0, vI x1, vI x2, vI x3, vI x4, vI (0:Int32)], [], (H0x4 ob0 (List.replicate 32 0) (List.replicate 32 0) (List.replicate 64 0) (List.replicate 10 0) (List.replicate 128 0) (List.replicate 128 0) (List.replicate 128 0) (List.replicate 4 0) (List.replicate 4 0) (List.replicate 4 0) (List.replicate 4 0) (List.replicate 4 0) (List.replicate 4 0) (List.replicate 128 0) (List.replicate 128 0) (List.replicate 4 0) (List.replicate 128 0) (List.replicate 4 0) (List.replicate 128 0) r3 r4 r5 r6))) rfl ?_
 have E7 : ((H0x4 ob0 (List.replicate 32 0) (List.replicate 32 0) (List.replicate 64 0) (List.replicate 10 0) (List.replicate 128 0) (List.replicate 128 0) (List.replicate 128 0) (List.replicate 4 0) (List.replicate 4 0) (List.replicate 4 0) (List.replicate 4 0) (List.replicate 4 0) (List.replicate 4 0) (List.replicate 128 0) (List.replicate 128 0) (List.replicate 4 0) (List.replicate 128 0) (List.replicate 4 0) (List.replicate 128 0) r3 r4 r5 r6) : QHeap) = (H0 (s_period (s_repair (s_back (s_win (s_nakBuf (s_lostLen (s_lostLog (s_delLen (s_delVal (s_delSeq (s_drops (s_dups (s_lossLeft (s_rxTrail (s_rxLead (s_rxNext (s_rxVal (s_timer (s_state (s_stats (s_queue (s_pend (s_srcPayload ob0 (List.replicate 32 0)) (List.replicate 32 0)) (List.replicate 64 0)) (List.replicate 10 0)) (List.replicate 128 0)) (List.replicate 128 0)) (List.replicate 128 0)) (List.replicate 4 0)) (List.replicate 4 0)) (List.replicate 4 0)) (List.replicate 4 0)) (List.replicate 4 0)) (List.replicate 4 0)) (List.replicate 128 0)) (List.replicate 128 0)) (List.replicate 4 0)) (List.replicate 128 0)) (List.replicate 4 0)) (List.replicate 128 0)) r3) r4) r5) r6)) := by simp only [fs, H0, H0v, H0x4, s_srcPayload, s_pend, s_queue, s_stats, s_state, s_timer, s_rxVal, s_rxNext, s_rxLead, s_rxTrail, s_lossLeft, s_dups, s_drops, s_delSeq, s_delVal, s_delLen, s_lostLog, s_lostLen, s_nakBuf, s_win, s_back, s_repair, s_period, ob0]
 rw [E7]
 obtain ⟨e11, he11, h⟩ := bind_eq_some_iff.mp h
 refine zM [tt,ff,ff,ff,ff,tt] (loopN_tri (B := B1_207) (T := fun lv12 => QTri l Z n0 ad 1 (207, [vR 0, none, none, none, none, vI lv12.1], [], (H0 lv12.2)) (none : Option Value) (H0 r)) (KE := fun e11a => (none : Option Value) = (none : Option Value) ∧ (H0 r) = (H0 e11a)) (fun lv12 r hB hE hC => tB1_207 Ad W  lv12 hB (fun x q => hE _ q) (fun x q => hC x q)) qN ((0:Int32), (s_period (s_repair (s_back (s_win (s_nakBuf (s_lostLen (s_lostLog (s_delLen (s_delVal (s_delSeq (s_drops (s_dups (s_lossLeft (s_rxTrail (s_rxLead (s_rxNext (s_rxVal (s_timer (s_state (s_stats (s_queue (s_pend (s_srcPayload ob0 (List.replicate 32 0)) (List.replicate 32 0)) (List.replicate 64 0)) (List.replicate 10 0)) (List.replicate 128 0)) (List.replicate 128 0)) (List.replicate 128 0)) (List.replicate 4 0)) (List.replicate 4 0)) (List.replicate 4 0)) (List.replicate 4 0)) (List.replicate 4 0)) (List.replicate 4 0)) (List.replicate 128 0)) (List.replicate 128 0)) (List.replicate 4 0)) (List.replicate 128 0)) (List.replicate 4 0)) (List.replicate 128 0)) r3) r4) r5) r6)) e11 he11 ?_)
 obtain rfl := Option.some.inj h
 exact ⟨rfl, rfl⟩
def H0x6 (o0 : Ob) (a0_0 : List Int32) : QHeap := H0v a0_0 (f_pend o0) (f_queue o0) (f_stats o0) (f_state o0) (f_timer o0) (f_rxVal o0) (f_rxNext o0) (f_rxLead o0) (f_rxTrail o0) (f_lossLeft o0) (f_dups o0) (f_drops o0) (f_delSeq o0) (f_delVal o0) (f_delLen o0) (f_lostLog o0) (f_lostLen o0) (f_nakBuf o0) (f_win o0) (f_back o0) (f_repair o0) (f_period o0) (f_nextSeq o0) (f_qLen o0) (f_nakLen o0)
def H0x7 (o0 : Ob) (a0_0 : List Int32) (a0_23 : Int32) : QHeap := H0v a0_0 (f_pend o0) (f_queue o0) (f_stats o0) (f_state o0) (f_timer o0) (f_rxVal o0) (f_rxNext o0) (f_rxLead o0) (f_rxTrail o0) (f_lossLeft o0) (f_dups o0) (f_drops o0) (f_delSeq o0) (f_delVal o0) (f_delLen o0) (f_lostLog o0) (f_lostLen o0) (f_nakBuf o0) (f_win o0) (f_back o0) (f_repair o0) (f_period o0) a0_23 (f_qLen o0) (f_nakLen o0)
def H0x8 (o0 : Ob) (a0_0 : List Int32) (a0_3 : List Int32) (a0_23 : Int32) : QHeap := H0v a0_0 (f_pend o0) (f_queue o0) a0_3 (f_state o0) (f_timer o0) (f_rxVal o0) (f_rxNext o0) (f_rxLead o0) (f_rxTrail o0) (f_lossLeft o0) (f_dups o0) (f_drops o0) (f_delSeq o0) (f_delVal o0) (f_delLen o0) (f_lostLog o0) (f_lostLen o0) (f_nakBuf o0) (f_win o0) (f_back o0) (f_repair o0) (f_period o0) a0_23 (f_qLen o0) (f_nakLen o0)
/-- lead()I -/
def F5 (o : Ob) : Option (Int32) :=
 some ((f_nextSeq o) - (1:Int32))
theorem tF5 (Ad : QAd n0 ad) (W : QW Z a0) (o : Ob) {r : Int32} (h : F5 o = some r) : QTri l Z n0 ad 5 (0, qentry [.ref 0] (pMaxL 5), [], (H0 o)) (some (Value.int r)) (H0 o) := by
 unfold F5 at h
 refine zS Ad W 4 (st' := (6, [vR 0], [.int ((f_nextSeq o) - (1:Int32))], (H0 o))) rfl ?_
 obtain rfl := Option.some.inj h
 exact QTri.retI rfl rfl
/-- trail()I -/
def F6 (o : Ob) : Option (Int32) :=
 (if ((f_nextSeq o) - (f_win o)) < (0:Int32) then some (0:Int32) else some ((f_nextSeq o) - (f_win o)))
theorem tF6 (Ad : QAd n0 ad) (W : QW Z a0) (o : Ob) {r : Int32} (h : F6 o = some r) : QTri l Z n0 ad 6 (0, qentry [.ref 0] (pMaxL 6), [], (H0 o)) (some (Value.int r)) (H0 o) := by
 unfold F6 at h
 refine zS Ad W 7 (st' := (11, [vR 0, vI ((f_nextSeq o) - (f_win o))], [.int ((f_nextSeq o) - (f_win o))], (H0 o))) rfl ?_
 rcases qite h with ⟨hc22, h⟩ | ⟨hc22, h⟩
 ·refine zF Ad W (t := 16) (f := 14) rfl (XT.i0_ge_f hc22) ?_
  refine zS Ad W 1 (st' := (15, [vR 0, vI ((f_nextSeq o) - (f_win o))], [.int (0:Int32)], (H0 o))) rfl ?_
  obtain rfl := Option.some.inj h
  exact QTri.retI rfl rfl
 ·refine zT Ad W (t := 16) (f := 14) rfl (XT.i0_ge_t hc22) ?_
  refine zS Ad W 1 (st' := (17, [vR 0, vI ((f_nextSeq o) - (f_win o))], [.int ((f_nextSeq o) - (f_win o))], (H0 o))) rfl ?_
  obtain rfl := Option.some.inj h
  exact QTri.retI rfl rfl
/-- validSeq(I)Z -/
def F10 (x1 : Int32) : Option (Int32) :=
 (if x1 < (0:Int32) then some (0:Int32) else (if x1 < (32:Int32) then some (1:Int32) else some (0:Int32)))
theorem tF10 (Ad : QAd n0 ad) (W : QW Z a0) {a : Nat} {σ : QHeap} (x1 : Int32) {r : Int32} (h : F10 x1 = some r) : QTri l Z n0 ad 10 (0, qentry [.ref a, .int x1] (pMaxL 10), [], σ) (some (Value.int r)) σ := by
 unfold F10 at h
 refine zS Ad W 1 (st' := (1, [vR a, vI x1], [.int x1], σ)) rfl ?_
 rcases qite h with ⟨hc25, h⟩ | ⟨hc25, h⟩
 ·refine zT Ad W (t := 14) (f := 4) rfl (XT.i0_lt_t hc25) ?_
  refine zS Ad W 1 (st' := (15, [vR a, vI x1], [.int (0:Int32)], σ)) rfl ?_
  obtain rfl := Option.some.inj h
  exact QTri.retZ rfl rfl
 ·refine zF Ad W (t := 14) (f := 4) rfl (XT.i0_lt_f hc25) ?_
  refine zS Ad W 2 (st' := (7, [vR a, vI x1], [.int (32:Int32), .int x1], σ)) rfl ?_
  rcases qite h with ⟨hc26, h⟩ | ⟨hc26, h⟩
  ·refine zF Ad W (t := 14) (f := 10) rfl (XT.ii_ge_f hc26) ?_
   refine zS Ad W 2 (st' := (15, [vR a, vI x1], [.int (1:Int32)], σ)) rfl ?_
   obtain rfl := Option.some.inj h
   exact QTri.retZ rfl rfl
  ·refine zT Ad W (t := 14) (f := 10) rfl (XT.ii_ge_t hc26) ?_
   refine zS Ad W 1 (st' := (15, [vR a, vI x1], [.int (0:Int32)], σ)) rfl ?_
   obtain rfl := Option.some.inj h
   exact QTri.retZ rfl rfl
def H0x9 (o0 : Ob) (a0_1 : List Int32) : QHeap := H0v (f_srcPayload o0) a0_1 (f_queue o0) (f_stats o0) (f_state o0) (f_timer o0) (f_rxVal o0) (f_rxNext o0) (f_rxLead o0) (f_rxTrail o0) (f_lossLeft o0) (f_dups o0) (f_drops o0) (f_delSeq o0) (f_delVal o0) (f_delLen o0) (f_lostLog o0) (f_lostLen o0) (f_nakBuf o0) (f_win o0) (f_back o0) (f_repair o0) (f_period o0) (f_nextSeq o0) (f_qLen o0) (f_nakLen o0)
def B7_23 (x3 : Int32) (v : Int32 × Ob) : Option (((Ob)) ⊕ (Int32 × Ob)) :=
  (if v.1 < x3 then (if v.1 < (32 : Int32) then (aset (f_pend v.2) v.1 (0 : Int32)).bind fun y31 => some (.inr ((v.1 + (1 : Int32)), (s_pend v.2 y31))) else some (.inl v.2)) else some (.inl v.2))
theorem tB7_23 (Ad : QAd n0 ad) (W : QW Z a0) (x3 : Int32) (v : Int32 × Ob) {r : ((Ob)) ⊕ (Int32 × Ob)} {u : Option Value} {τ : QHeap} (h : B7_23 x3 v = some r) (hx0 : ∀ x : Ob, r = .inl x → u = (none : Option Value) ∧ τ = (H0 x)) (hc : ∀ x : Int32 × Ob, r = .inr x → QTri l Z n0 ad 7 (23, [vR 0, none, none, vI x3, vI x.1], [], (H0 x.2)) u τ) : QTri l Z n0 ad 7 (23, [vR 0, none, none, vI x3, vI v.1], [], (H0 v.2)) u τ := by
 unfold B7_23 at h
 refine zS Ad W 2 (st' := (26, [vR 0, none, none, vI x3, vI v.1], [.int x3, .int v.1], (H0 v.2))) rfl ?_
 rcases qite h with ⟨hc29, h⟩ | ⟨hc29, h⟩
 ·refine zF Ad W (t := 50) (f := 29) rfl (XT.ii_ge_f hc29) ?_
  refine zS Ad W 2 (st' := (33, [vR 0, none, none, vI x3, vI v.1], [.int (32:Int32), .int v.1], (H0 v.2))) rfl ?_
  rcases qite h with ⟨hc30, h⟩ | ⟨hc30, h⟩
  ·refine zF Ad W (t := 50) (f := 36) rfl (XT.ii_ge_f hc30) ?_
   refine zS Ad W 4 (st' := (43, [vR 0, none, none, vI x3, vI v.1], [.int (0:Int32), .int v.1, .ref 2], (H0 v.2))) rfl ?_
   obtain ⟨y31, hy31, h⟩ := bind_eq_some_iff.mp h
   refine zB Ad W (f := fun y31 => (44, [vR 0, none, none, vI x3, vI v.1], [], (H0x9 v.2 y31))) rfl hy31 ?_
   refine zS Ad W 2 (st' := (23, [vR 0, none, none, vI x3, vI (v.1 + (1:Int32))], [], (H0x9 v.2 y31))) rfl ?_
   have E32 : ((H0x9 v.2 y31) : QHeap) = (H0 (s_pend v.2 y31)) := by simp only [fs, H0, H0v, H0x9, s_pend]
   rw [E32]
   obtain rfl := Option.some.inj h
   exact zM [tt,ff,ff,tt,tt] (hc ((v.1 + (1:Int32)), (s_pend v.2 y31)) rfl)
  ·refine zT Ad W (t := 50) (f := 36) rfl (XT.ii_ge_t hc30) ?_
   obtain rfl := Option.some.inj h
   obtain ⟨rfl, rfl⟩ := hx0 v.2 rfl
   exact QTri.ret0 rfl rfl
 ·refine zT Ad W (t := 50) (f := 29) rfl (XT.ii_ge_t hc29) ?_
  obtain rfl := Option.some.inj h
  obtain ⟨rfl, rfl⟩ := hx0 v.2 rfl
  exact QTri.ret0 rfl rfl
def J7_20 (o : Ob) (x3 : Int32) : Option (Ob) :=
  (loopN (B7_23 x3) qN ((0 : Int32), o)).bind fun e33 => some e33
theorem tJ7_20 (Ad : QAd n0 ad) (W : QW Z a0) (o : Ob) (x3 : Int32) {r : Ob} (h : J7_20 o x3 = some r) : QTri l Z n0 ad 7 (20, [vR 0, none, none, vI x3, none], [], (H0 o)) (none : Option Value) (H0 r) := by
 unfold J7_20 at h
 refine zS Ad W 2 (st' := (23, [vR 0, none, none, vI x3, vI (0:Int32)], [], (H0 o))) rfl ?_
 obtain ⟨e33, he33, h⟩ := bind_eq_some_iff.mp h
 refine zM [tt,ff,ff,tt,tt] (loopN_tri (B := B7_23 x3) (T := fun lv34 => QTri l Z n0 ad 7 (23, [vR 0, none, none, vI x3, vI lv34.1], [], (H0 lv34.2)) (none : Option Value) (H0 r)) (KE := fun e33a => (none : Option Value) = (none : Option Value) ∧ (H0 r) = (H0 e33a)) (fun lv34 r hB hE hC => tB7_23 Ad W x3 lv34 hB (fun x q => hE _ q) (fun x q => hC x q)) qN ((0:Int32), o) e33 he33 ?_)
 obtain rfl := Option.some.inj h
 exact ⟨rfl, rfl⟩
/-- aggregatorApply(III)V -/
def F7 (o : Ob) (x1 : Int32) (x2 : Int32) (x3 : Int32) : Option (Ob) :=
 (if x1 = (1:Int32) then (F10 x2).bind fun r27 => (if r27 = (0:Int32) then (J7_20 o x3) else (aset (f_pend o) x2 (0:Int32)).bind fun y35 => (J7_20 (s_pend o y35) x3)) else (J7_20 o x3))
theorem tF7 (Ad : QAd n0 ad) (W : QW Z a0) (o : Ob) (x1 : Int32) (x2 : Int32) (x3 : Int32) {r : Ob} (h : F7 o x1 x2 x3 = some r) : QTri l Z n0 ad 7 (0, qentry [.ref 0, .int x1, .int x2, .int x3] (pMaxL 7), [], (H0 o)) (none : Option Value) (H0 r) := by
 unfold F7 at h
 refine zS Ad W 2 (st' := (2, [vR 0, vI x1, vI x2, vI x3, none], [.int (1:Int32), .int x1], (H0 o))) rfl ?_
 rcases qite h with ⟨hc24, h⟩ | ⟨hc24, h⟩
 ·refine zF Ad W (t := 20) (f := 5) rfl (XT.ii_ne_f hc24) ?_
  refine zS Ad W 2 (st' := (7, [vR 0, vI x1, vI x2, vI x3, none], [.int x2, .ref 0], (H0 o))) rfl ?_
  obtain ⟨r27, hr27, h⟩ := bind_eq_some_iff.mp h
  refine QTri.callP W (a := 0) (as := [.int x2]) (rest := []) (w := (some (.int r27))) (σ₁ := (H0 o)) rfl rfl rfl rfl rfl rfl rfl rfl (tF10 Ad W x2 hr27) ?_
  rcases qite h with ⟨hc28, h⟩ | ⟨hc28, h⟩
  ·refine zT Ad W (t := 20) (f := 13) rfl (XT.i0_eq_t hc28) ?_
   exact zM [tt,ff,ff,tt,ff] (tJ7_20 Ad W o x3 h)
  ·refine zF Ad W (t := 20) (f := 13) rfl (XT.i0_eq_f hc28) ?_
   refine zS Ad W 4 (st' := (19, [vR 0, vI x1, vI x2, vI x3, none], [.int (0:Int32), .int x2, .ref 2], (H0 o))) rfl ?_
   obtain ⟨y35, hy35, h⟩ := bind_eq_some_iff.mp h
   refine zB Ad W (f := fun y35 => (20, [vR 0, vI x1, vI x2, vI x3, none], [], (H0x9 o y35))) rfl hy35 ?_
   have E36 : ((H0x9 o y35) : QHeap) = (H0 (s_pend o y35)) := by simp only [fs, H0, H0v, H0x9, s_pend]
   rw [E36]
   exact zM [tt,ff,ff,tt,ff] (tJ7_20 Ad W (s_pend o y35) x3 h)
 ·refine zT Ad W (t := 20) (f := 5) rfl (XT.ii_ne_t hc24) ?_
  exact zM [tt,ff,ff,tt,ff] (tJ7_20 Ad W o x3 h)
def H0x10 (o0 : Ob) (a0_10 : List Int32) : QHeap := H0v (f_srcPayload o0) (f_pend o0) (f_queue o0) (f_stats o0) (f_state o0) (f_timer o0) (f_rxVal o0) (f_rxNext o0) (f_rxLead o0) (f_rxTrail o0) a0_10 (f_dups o0) (f_drops o0) (f_delSeq o0) (f_delVal o0) (f_delLen o0) (f_lostLog o0) (f_lostLen o0) (f_nakBuf o0) (f_win o0) (f_back o0) (f_repair o0) (f_period o0) (f_nextSeq o0) (f_qLen o0) (f_nakLen o0)
def H0x11 (o0 : Ob) (a0_10 : List Int32) (a0_12 : List Int32) : QHeap := H0v (f_srcPayload o0) (f_pend o0) (f_queue o0) (f_stats o0) (f_state o0) (f_timer o0) (f_rxVal o0) (f_rxNext o0) (f_rxLead o0) (f_rxTrail o0) a0_10 (f_dups o0) a0_12 (f_delSeq o0) (f_delVal o0) (f_delLen o0) (f_lostLog o0) (f_lostLen o0) (f_nakBuf o0) (f_win o0) (f_back o0) (f_repair o0) (f_period o0) (f_nextSeq o0) (f_qLen o0) (f_nakLen o0)
def H0x12 (o0 : Ob) (a0_3 : List Int32) (a0_10 : List Int32) (a0_12 : List Int32) : QHeap := H0v (f_srcPayload o0) (f_pend o0) (f_queue o0) a0_3 (f_state o0) (f_timer o0) (f_rxVal o0) (f_rxNext o0) (f_rxLead o0) (f_rxTrail o0) a0_10 (f_dups o0) a0_12 (f_delSeq o0) (f_delVal o0) (f_delLen o0) (f_lostLog o0) (f_lostLen o0) (f_nakBuf o0) (f_win o0) (f_back o0) (f_repair o0) (f_period o0) (f_nextSeq o0) (f_qLen o0) (f_nakLen o0)
def H0x13 (o0 : Ob) (a0_4 : List Int32) : QHeap := H0v (f_srcPayload o0) (f_pend o0) (f_queue o0) (f_stats o0) a0_4 (f_timer o0) (f_rxVal o0) (f_rxNext o0) (f_rxLead o0) (f_rxTrail o0) (f_lossLeft o0) (f_dups o0) (f_drops o0) (f_delSeq o0) (f_delVal o0) (f_delLen o0) (f_lostLog o0) (f_lostLen o0) (f_nakBuf o0) (f_win o0) (f_back o0) (f_repair o0) (f_period o0) (f_nextSeq o0) (f_qLen o0) (f_nakLen o0)
/-- backoffOf(I)I -/
def F17 (o : Ob) (x1 : Int32) : Option (Int32) :=
 some ((f_back o) + x1)
theorem tF17 (Ad : QAd n0 ad) (W : QW Z a0) (o : Ob) (x1 : Int32) {r : Int32} (h : F17 o x1 = some r) : QTri l Z n0 ad 17 (0, qentry [.ref 0, .int x1] (pMaxL 17), [], (H0 o)) (some (Value.int r)) (H0 o) := by
 unfold F17 at h
 refine zS Ad W 4 (st' := (6, [vR 0, vI x1], [.int ((f_back o) + x1)], (H0 o))) rfl ?_
 obtain rfl := Option.some.inj h
 exact QTri.retI rfl rfl
def H0x14 (o0 : Ob) (a0_5 : List Int32) : QHeap := H0v (f_srcPayload o0) (f_pend o0) (f_queue o0) (f_stats o0) (f_state o0) a0_5 (f_rxVal o0) (f_rxNext o0) (f_rxLead o0) (f_rxTrail o0) (f_lossLeft o0) (f_dups o0) (f_drops o0) (f_delSeq o0) (f_delVal o0) (f_delLen o0) (f_lostLog o0) (f_lostLen o0) (f_nakBuf o0) (f_win o0) (f_back o0) (f_repair o0) (f_period o0) (f_nextSeq o0) (f_qLen o0) (f_nakLen o0)
def J11_70 (o : Ob) (x1 : Int32) (x2 : Int32) (x4 : Int32) : Option (((Ob)) ⊕ (Int32 × Ob)) :=
  some (.inr ((x4 + (1 : Int32)), o))
theorem tJ11_70 (Ad : QAd n0 ad) (W : QW Z a0) (o : Ob) (x1 : Int32) (x2 : Int32) (x4 : Int32) {r : ((Ob)) ⊕ (Int32 × Ob)} {u : Option Value} {τ : QHeap} (h : J11_70 o x1 x2 x4 = some r) (hx0 : ∀ x : Ob, r = .inl x → QTri l Z n0 ad 11 (76, [vR 0, vI x1, vI x2, none, none, none], [], (H0 x)) u τ) (hc : ∀ x : Int32 × Ob, r = .inr x → QTri l Z n0 ad 11 (18, [vR 0, vI x1, vI x2, none, vI x.1, none], [], (H0 x.2)) u τ) : QTri l Z n0 ad 11 (70, [vR 0, vI x1, vI x2, none, vI x4, none], [], (H0 o)) u τ := by
 unfold J11_70 at h
 refine zS Ad W 2 (st' := (18, [vR 0, vI x1, vI x2, none, vI (x4 + (1:Int32)), none], [], (H0 o))) rfl ?_
 obtain rfl := Option.some.inj h
 exact zM [tt,tt,tt,ff,tt,ff] (hc ((x4 + (1:Int32)), o) rfl)
def B11_18 (x1 : Int32) (x2 : Int32) (v : Int32 × Ob) : Option (((Ob)) ⊕ (Int32 × Ob)) :=
  (if x2 < v.1 then some (.inl v.2) else (if v.1 < (32 : Int32) then (aget (f_state v.2) ((x1 * (32 : Int32)) + v.1)).bind fun y57 => (if y57 = (0 : Int32) then (aset (f_state v.2) ((x1 * (32 : Int32)) + v.1) (1 : Int32)).bind fun y59 => (F17 (s_state v.2 y59) x1).bind fun r61 => (aset (f_timer (s_state v.2 y59)) ((x1 * (32 : Int32)) + v.1) r61).bind fun y62 => (J11_70 (s_timer (s_state v.2 y59) y62) x1 x2 v.1) else (J11_70 v.2 x1 x2 v.1)) else some (.inl v.2)))
theorem tB11_18 (Ad : QAd n0 ad) (W : QW Z a0) (x1 : Int32) (x2 : Int32) (v : Int32 × Ob) {r : ((Ob)) ⊕ (Int32 × Ob)} {u : Option Value} {τ : QHeap} (h : B11_18 x1 x2 v = some r) (hx0 : ∀ x : Ob, r = .inl x → QTri l Z n0 ad 11 (76, [vR 0, vI x1, vI x2, none, none, none], [], (H0 x)) u τ) (hc : ∀ x : Int32 × Ob, r = .inr x → QTri l Z n0 ad 11 (18, [vR 0, vI x1, vI x2, none, vI x.1, none], [], (H0 x.2)) u τ) : QTri l Z n0 ad 11 (18, [vR 0, vI x1, vI x2, none, vI v.1, none], [], (H0 v.2)) u τ := by
 unfold B11_18 at h
 refine zS Ad W 2 (st' := (21, [vR 0, vI x1, vI x2, none, vI v.1, none], [.int x2, .int v.1], (H0 v.2))) rfl ?_
 rcases qite h with ⟨hc55, h⟩ | ⟨hc55, h⟩
 ·refine zT Ad W (t := 76) (f := 24) rfl (XT.ii_gt_t hc55) ?_
  obtain rfl := Option.some.inj h
  exact zM [tt,tt,tt,ff,ff,ff] (hx0 v.2 rfl)
 ·refine zF Ad W (t := 76) (f := 24) rfl (XT.ii_gt_f hc55) ?_
  refine zS Ad W 2 (st' := (28, [vR 0, vI x1, vI x2, none, vI v.1, none], [.int (32:Int32), .int v.1], (H0 v.2))) rfl ?_
  rcases qite h with ⟨hc56, h⟩ | ⟨hc56, h⟩
  ·refine zF Ad W (t := 76) (f := 31) rfl (XT.ii_ge_f hc56) ?_
   refine zS Ad W 9 (st' := (46, [vR 0, vI x1, vI x2, none, vI v.1, vI ((x1 * (32:Int32)) + v.1)], [.int ((x1 * (32:Int32)) + v.1), .ref 5], (H0 v.2))) rfl ?_
   obtain ⟨y57, hy57, h⟩ := bind_eq_some_iff.mp h
   refine zB Ad W (f := fun y57 => (47, [vR 0, vI x1, vI x2, none, vI v.1, vI ((x1 * (32:Int32)) + v.1)], [.int y57], (H0 v.2))) rfl hy57 ?_
   rcases qite h with ⟨hc58, h⟩ | ⟨hc58, h⟩
   ·refine zF Ad W (t := 70) (f := 50) rfl (XT.i0_ne_f hc58) ?_
    refine zS Ad W 4 (st' := (57, [vR 0, vI x1, vI x2, none, vI v.1, vI ((x1 * (32:Int32)) + v.1)], [.int (1:Int32), .int ((x1 * (32:Int32)) + v.1), .ref 5], (H0 v.2))) rfl ?_
    obtain ⟨y59, hy59, h⟩ := bind_eq_some_iff.mp h
    refine zB Ad W (f := fun y59 => (58, [vR 0, vI x1, vI x2, none, vI v.1, vI ((x1 * (32:Int32)) + v.1)], [], (H0x13 v.2 y59))) rfl hy59 ?_
    refine zS Ad W 5 (st' := (66, [vR 0, vI x1, vI x2, none, vI v.1, vI ((x1 * (32:Int32)) + v.1)], [.int x1, .ref 0, .int ((x1 * (32:Int32)) + v.1), .ref 6], (H0x13 v.2 y59))) rfl ?_
    have E60 : ((H0x13 v.2 y59) : QHeap) = (H0 (s_state v.2 y59)) := by simp only [fs, H0, H0v, H0x13, s_state]
    rw [E60]
    obtain ⟨r61, hr61, h⟩ := bind_eq_some_iff.mp h
    refine QTri.callP W (a := 0) (as := [.int x1]) (rest := [.int ((x1 * (32:Int32)) + v.1), .ref 6]) (w := (some (.int r61))) (σ₁ := (H0 (s_state v.2 y59))) rfl rfl rfl rfl rfl rfl rfl rfl (tF17 Ad W (s_state v.2 y59) x1 hr61) ?_
    obtain ⟨y62, hy62, h⟩ := bind_eq_some_iff.mp h
    refine zB Ad W (f := fun y62 => (70, [vR 0, vI x1, vI x2, none, vI v.1, vI ((x1 * (32:Int32)) + v.1)], [], (H0x14 (s_state v.2 y59) y62))) rfl hy62 ?_
    have E63 : ((H0x14 (s_state v.2 y59) y62) : QHeap) = (H0 (s_timer (s_state v.2 y59) y62)) := (show ∀ b0 : Ob, ((H0x14 b0 y62) : QHeap) = (H0 (s_timer b0 y62)) from fun b0 => by simp only [fs, H0, H0v, H0x14, s_timer]) (s_state v.2 y59)
    rw [E63]
    exact zM [tt,tt,tt,ff,tt,ff] (tJ11_70 Ad W (s_timer (s_state v.2 y59) y62) x1 x2 v.1 h hx0 hc)
   ·refine zT Ad W (t := 70) (f := 50) rfl (XT.i0_ne_t hc58) ?_
    exact zM [tt,tt,tt,ff,tt,ff] (tJ11_70 Ad W v.2 x1 x2 v.1 h hx0 hc)
  ·refine zT Ad W (t := 76) (f := 31) rfl (XT.ii_ge_t hc56) ?_
   obtain rfl := Option.some.inj h
   exact zM [tt,tt,tt,ff,ff,ff] (hx0 v.2 rfl)
def J11_76 (o : Ob) (x1 : Int32) (x2 : Int32) : Option (Ob) :=
  (aget (f_rxLead o) x1).bind fun y66 => (if y66 < x2 then (aset (f_rxLead o) x1 x2).bind fun y68 => some (s_rxLead o y68) else some o)
theorem tJ11_76 (Ad : QAd n0 ad) (W : QW Z a0) (o : Ob) (x1 : Int32) (x2 : Int32) {r : Ob} (h : J11_76 o x1 x2 = some r) : QTri l Z n0 ad 11 (76, [vR 0, vI x1, vI x2, none, none, none], [], (H0 o)) (none : Option Value) (H0 r) := by
 unfold J11_76 at h
 refine zS Ad W 4 (st' := (82, [vR 0, vI x1, vI x2, none, none, none], [.int x1, .ref 9, .int x2], (H0 o))) rfl ?_
 obtain ⟨y66, hy66, h⟩ := bind_eq_some_iff.mp h
 refine zB Ad W (f := fun y66 => (83, [vR 0, vI x1, vI x2, none, none, none], [.int y66, .int x2], (H0 o))) rfl hy66 ?_
 rcases qite h with ⟨hc67, h⟩ | ⟨hc67, h⟩
 ·refine zF Ad W (t := 93) (f := 86) rfl (XT.ii_le_f hc67) ?_
  refine zS Ad W 4 (st' := (92, [vR 0, vI x1, vI x2, none, none, none], [.int x2, .int x1, .ref 9], (H0 o))) rfl ?_
  obtain ⟨y68, hy68, h⟩ := bind_eq_some_iff.mp h
  refine zB Ad W (f := fun y68 => (93, [vR 0, vI x1, vI x2, none, none, none], [], (H0x5 o y68))) rfl hy68 ?_
  have E69 : ((H0x5 o y68) : QHeap) = (H0 (s_rxLead o y68)) := by simp only [fs, H0, H0v, H0x5, s_rxLead]
  rw [E69]
  obtain rfl := Option.some.inj h
  exact QTri.ret0 rfl rfl
 ·refine zT Ad W (t := 93) (f := 86) rfl (XT.ii_le_t hc67) ?_
  obtain rfl := Option.some.inj h
  exact QTri.ret0 rfl rfl
/-- applyLead(II)V -/
def F11 (o : Ob) (x1 : Int32) (x2 : Int32) : Option (Ob) :=
 (aget (f_rxLead o) x1).bind fun y51 => (loopN (B11_18 x1 x2) qN ((if (y51 + (1:Int32)) < (0:Int32) then (0:Int32) else (y51 + (1:Int32))), o)).bind fun e64 => (J11_76 e64 x1 x2)
theorem tF11 (Ad : QAd n0 ad) (W : QW Z a0) (o : Ob) (x1 : Int32) (x2 : Int32) {r : Ob} (h : F11 o x1 x2 = some r) : QTri l Z n0 ad 11 (0, qentry [.ref 0, .int x1, .int x2] (pMaxL 11), [], (H0 o)) (none : Option Value) (H0 r) := by
 unfold F11 at h
 refine zS Ad W 3 (st' := (5, [vR 0, vI x1, vI x2, none, none, none], [.int x1, .ref 9], (H0 o))) rfl ?_
 obtain ⟨y51, hy51, h⟩ := bind_eq_some_iff.mp h
 refine zB Ad W (f := fun y51 => (6, [vR 0, vI x1, vI x2, none, none, none], [.int y51], (H0 o))) rfl hy51 ?_
 refine zS Ad W 4 (st' := (10, [vR 0, vI x1, vI x2, vI (y51 + (1:Int32)), none, none], [.int (y51 + (1:Int32))], (H0 o))) rfl ?_
 have K53 : ∀ z52 : Int32, z52 = (if (y51 + (1:Int32)) < (0:Int32) then (0:Int32) else (y51 + (1:Int32))) → QTri l Z n0 ad 11 (15, [vR 0, vI x1, vI x2, vI z52, none, none], [], (H0 o)) (none : Option Value) (H0 r) := by
  intro z52 ez52
  subst ez52
  refine zS Ad W 2 (st' := (18, [vR 0, vI x1, vI x2, vI (if (y51 + (1:Int32)) < (0:Int32) then (0:Int32) else (y51 + (1:Int32))), vI (if (y51 + (1:Int32)) < (0:Int32) then (0:Int32) else (y51 + (1:Int32))), none], [], (H0 o))) rfl ?_
  obtain ⟨e64, he64, h⟩ := bind_eq_some_iff.mp h
  refine zM [tt,tt,tt,ff,tt,ff] (loopN_tri (B := B11_18 x1 x2) (T := fun lv65 => QTri l Z n0 ad 11 (18, [vR 0, vI x1, vI x2, none, vI lv65.1, none], [], (H0 lv65.2)) (none : Option Value) (H0 r)) (KE := fun e64a => QTri l Z n0 ad 11 (76, [vR 0, vI x1, vI x2, none, none, none], [], (H0 e64a)) (none : Option Value) (H0 r)) (fun lv65 r hB hE hC => tB11_18 Ad W x1 x2 lv65 hB (fun x q => hE _ q) (fun x q => hC x q)) qN ((if (y51 + (1:Int32)) < (0:Int32) then (0:Int32) else (y51 + (1:Int32))), o) e64 he64 ?_)
  exact zM [tt,tt,tt,ff,ff,ff] (tJ11_76 Ad W e64 x1 x2 h)
 rcases em ((y51 + (1:Int32)) < (0:Int32)) with hc54 | hc54
 ·refine zF Ad W (t := 15) (f := 13) rfl (XT.i0_ge_f hc54) ?_
  refine zS Ad W 2 (st' := (15, [vR 0, vI x1, vI x2, vI (0:Int32), none, none], [], (H0 o))) rfl ?_
  exact zM [tt,tt,tt,tt,ff,ff] (K53 _ (if_pos hc54).symm)
 ·refine zT Ad W (t := 15) (f := 13) rfl (XT.i0_ge_t hc54) ?_
  exact zM [tt,tt,tt,tt,ff,ff] (K53 _ (if_neg hc54).symm)
def H0x15 (o0 : Ob) (a0_9 : List Int32) : QHeap := H0v (f_srcPayload o0) (f_pend o0) (f_queue o0) (f_stats o0) (f_state o0) (f_timer o0) (f_rxVal o0) (f_rxNext o0) (f_rxLead o0) a0_9 (f_lossLeft o0) (f_dups o0) (f_drops o0) (f_delSeq o0) (f_delVal o0) (f_delLen o0) (f_lostLog o0) (f_lostLen o0) (f_nakBuf o0) (f_win o0) (f_back o0) (f_repair o0) (f_period o0) (f_nextSeq o0) (f_qLen o0) (f_nakLen o0)
def J12_108 (o : Ob) (x1 : Int32) (x2 : Int32) (x4 : Int32) : Option (((Int32 × Int32) ⊕ (Ob)) ⊕ (Int32)) :=
  some (.inr (x4 + (1 : Int32)))
theorem tJ12_108 (Ad : QAd n0 ad) (W : QW Z a0) (o : Ob) (x1 : Int32) (x2 : Int32) (x4 : Int32) {r : ((Int32 × Int32) ⊕ (Ob)) ⊕ (Int32)} {u : Option Value} {τ : QHeap} (h : J12_108 o x1 x2 x4 = some r) (hx0 : ∀ x : Int32 × Int32, r = .inl (Sum.inl x) → QTri l Z n0 ad 12 (84, [vR 0, vI x1, none, none, vI x.1, vI x.2, none], [], (H0 o)) u τ) (hx1 : ∀ x : Ob, r = .inl (Sum.inr x) → u = (none : Option Value) ∧ τ = (H0 x)) (hc : ∀ x : Int32, r = .inr x → QTri l Z n0 ad 12 (34, [vR 0, vI x1, vI x2, none, vI x, none, none], [], (H0 o)) u τ) : QTri l Z n0 ad 12 (108, [vR 0, vI x1, vI x2, none, vI x4, none, none], [], (H0 o)) u τ := by
 unfold J12_108 at h
 refine zS Ad W 2 (st' := (34, [vR 0, vI x1, vI x2, none, vI (x4 + (1:Int32)), none, none], [], (H0 o))) rfl ?_
 obtain rfl := Option.some.inj h
 exact zM [tt,tt,tt,ff,tt,ff,ff] (hc (x4 + (1:Int32)) rfl)
def B12_34 (o : Ob) (x1 : Int32) (x2 : Int32) (v : Int32) : Option (((Int32 × Int32) ⊕ (Ob)) ⊕ (Int32)) :=
  (if v < x2 then (if v < (32 : Int32) then (aget (f_state o) ((x1 * (32 : Int32)) + v)).bind fun y81 => (if y81 = (4 : Int32) then (J12_108 o x1 x2 v) else (if y81 = (5 : Int32) then (J12_108 o x1 x2 v) else (if y81 = (6 : Int32) then (J12_108 o x1 x2 v) else some (.inl (Sum.inl (v, ((x1 * (32 : Int32)) + v))))))) else some (.inl (Sum.inr o))) else some (.inl (Sum.inr o)))
theorem tB12_34 (Ad : QAd n0 ad) (W : QW Z a0) (o : Ob) (x1 : Int32) (x2 : Int32) (v : Int32) {r : ((Int32 × Int32) ⊕ (Ob)) ⊕ (Int32)} {u : Option Value} {τ : QHeap} (h : B12_34 o x1 x2 v = some r) (hx0 : ∀ x : Int32 × Int32, r = .inl (Sum.inl x) → QTri l Z n0 ad 12 (84, [vR 0, vI x1, none, none, vI x.1, vI x.2, none], [], (H0 o)) u τ) (hx1 : ∀ x : Ob, r = .inl (Sum.inr x) → u = (none : Option Value) ∧ τ = (H0 x)) (hc : ∀ x : Int32, r = .inr x → QTri l Z n0 ad 12 (34, [vR 0, vI x1, vI x2, none, vI x, none, none], [], (H0 o)) u τ) : QTri l Z n0 ad 12 (34, [vR 0, vI x1, vI x2, none, vI v, none, none], [], (H0 o)) u τ := by
 unfold B12_34 at h
 refine zS Ad W 2 (st' := (37, [vR 0, vI x1, vI x2, none, vI v, none, none], [.int x2, .int v], (H0 o))) rfl ?_
 rcases qite h with ⟨hc79, h⟩ | ⟨hc79, h⟩
 ·refine zF Ad W (t := 114) (f := 40) rfl (XT.ii_ge_f hc79) ?_
  refine zS Ad W 2 (st' := (44, [vR 0, vI x1, vI x2, none, vI v, none, none], [.int (32:Int32), .int v], (H0 o))) rfl ?_
  rcases qite h with ⟨hc80, h⟩ | ⟨hc80, h⟩
  ·refine zF Ad W (t := 114) (f := 47) rfl (XT.ii_ge_f hc80) ?_
   refine zS Ad W 9 (st' := (62, [vR 0, vI x1, vI x2, none, vI v, vI ((x1 * (32:Int32)) + v), none], [.int ((x1 * (32:Int32)) + v), .ref 5], (H0 o))) rfl ?_
   obtain ⟨y81, hy81, h⟩ := bind_eq_some_iff.mp h
   refine zB Ad W (f := fun y81 => (63, [vR 0, vI x1, vI x2, none, vI v, vI ((x1 * (32:Int32)) + v), none], [.int y81], (H0 o))) rfl hy81 ?_
   refine zS Ad W 3 (st' := (68, [vR 0, vI x1, vI x2, none, vI v, vI ((x1 * (32:Int32)) + v), vI y81], [.int (4:Int32), .int y81], (H0 o))) rfl ?_
   rcases qite h with ⟨hc82, h⟩ | ⟨hc82, h⟩
   ·refine zT Ad W (t := 108) (f := 71) rfl (XT.ii_eq_t hc82) ?_
    exact zM [tt,tt,tt,ff,tt,ff,ff] (tJ12_108 Ad W o x1 x2 v h hx0 hx1 hc)
   ·refine zF Ad W (t := 108) (f := 71) rfl (XT.ii_eq_f hc82) ?_
    refine zS Ad W 2 (st' := (74, [vR 0, vI x1, vI x2, none, vI v, vI ((x1 * (32:Int32)) + v), vI y81], [.int (5:Int32), .int y81], (H0 o))) rfl ?_
    rcases qite h with ⟨hc83, h⟩ | ⟨hc83, h⟩
    ·refine zT Ad W (t := 108) (f := 77) rfl (XT.ii_eq_t hc83) ?_
     exact zM [tt,tt,tt,ff,tt,ff,ff] (tJ12_108 Ad W o x1 x2 v h hx0 hx1 hc)
    ·refine zF Ad W (t := 108) (f := 77) rfl (XT.ii_eq_f hc83) ?_
     refine zS Ad W 2 (st' := (81, [vR 0, vI x1, vI x2, none, vI v, vI ((x1 * (32:Int32)) + v), vI y81], [.int (6:Int32), .int y81], (H0 o))) rfl ?_
     rcases qite h with ⟨hc84, h⟩ | ⟨hc84, h⟩
     ·refine zT Ad W (t := 108) (f := 84) rfl (XT.ii_eq_t hc84) ?_
      exact zM [tt,tt,tt,ff,tt,ff,ff] (tJ12_108 Ad W o x1 x2 v h hx0 hx1 hc)
     ·refine zF Ad W (t := 108) (f := 84) rfl (XT.ii_eq_f hc84) ?_
      obtain rfl := Option.some.inj h
      exact zM [tt,tt,ff,ff,tt,tt,ff] (hx0 (v, ((x1 * (32:Int32)) + v)) rfl)
  ·refine zT Ad W (t := 114) (f := 47) rfl (XT.ii_ge_t hc80) ?_
   obtain rfl := Option.some.inj h
   obtain ⟨rfl, rfl⟩ := hx1 o rfl
   exact QTri.ret0 rfl rfl
 ·refine zT Ad W (t := 114) (f := 40) rfl (XT.ii_ge_t hc79) ?_
  obtain rfl := Option.some.inj h
  obtain ⟨rfl, rfl⟩ := hx1 o rfl
  exact QTri.ret0 rfl rfl
def H0x16 (o0 : Ob) (a0_4 : List Int32) (a0_5 : List Int32) : QHeap := H0v (f_srcPayload o0) (f_pend o0) (f_queue o0) (f_stats o0) a0_4 a0_5 (f_rxVal o0) (f_rxNext o0) (f_rxLead o0) (f_rxTrail o0) (f_lossLeft o0) (f_dups o0) (f_drops o0) (f_delSeq o0) (f_delVal o0) (f_delLen o0) (f_lostLog o0) (f_lostLen o0) (f_nakBuf o0) (f_win o0) (f_back o0) (f_repair o0) (f_period o0) (f_nextSeq o0) (f_qLen o0) (f_nakLen o0)
/-- applyTrail(II)V -/
def F12 (o : Ob) (x1 : Int32) (x2 : Int32) : Option (Ob) :=
 (aget (f_rxTrail o) x1).bind fun y71 => (if y71 < x2 then (aset (f_rxTrail o) x1 x2).bind fun y73 => (aget (f_rxNext o) x1).bind fun y74 => ((loopN (B12_34 (s_rxTrail o y73) x1 x2) qN (if y74 < (0:Int32) then (0:Int32) else y74)).bind fun e85 => match e85 with | .inl e85a => (aset (f_state (s_rxTrail o y73)) e85a.2 (6:Int32)).bind fun y87 => (aset (f_timer (s_rxTrail o y73)) e85a.2 (0:Int32)).bind fun y88 => none | .inr e85a => some e85a) else some o)
theorem tF12 (Ad : QAd n0 ad) (W : QW Z a0) (o : Ob) (x1 : Int32) (x2 : Int32) {r : Ob} (h : F12 o x1 x2 = some r) : QTri l Z n0 ad 12 (0, qentry [.ref 0, .int x1, .int x2] (pMaxL 12), [], (H0 o)) (none : Option Value) (H0 r) := by
 unfold F12 at h
 refine zS Ad W 4 (st' := (6, [vR 0, vI x1, vI x2, none, none, none, none], [.int x1, .ref 10, .int x2], (H0 o))) rfl ?_
 obtain ⟨y71, hy71, h⟩ := bind_eq_some_iff.mp h
 refine zB Ad W (f := fun y71 => (7, [vR 0, vI x1, vI x2, none, none, none, none], [.int y71, .int x2], (H0 o))) rfl hy71 ?_
 rcases qite h with ⟨hc72, h⟩ | ⟨hc72, h⟩
 ·refine zT Ad W (t := 11) (f := 10) rfl (XT.ii_gt_t hc72) ?_
  refine zS Ad W 4 (st' := (17, [vR 0, vI x1, vI x2, none, none, none, none], [.int x2, .int x1, .ref 10], (H0 o))) rfl ?_
  obtain ⟨y73, hy73, h⟩ := bind_eq_some_iff.mp h
  refine zB Ad W (f := fun y73 => (18, [vR 0, vI x1, vI x2, none, none, none, none], [], (H0x15 o y73))) rfl hy73 ?_
  refine zS Ad W 3 (st' := (23, [vR 0, vI x1, vI x2, none, none, none, none], [.int x1, .ref 8], (H0x15 o y73))) rfl ?_
  obtain ⟨y74, hy74, h⟩ := bind_eq_some_iff.mp h
  refine zB Ad W (f := fun y74 => (24, [vR 0, vI x1, vI x2, none, none, none, none], [.int y74], (H0x15 o y73))) rfl hy74 ?_
  refine zS Ad W 2 (st' := (26, [vR 0, vI x1, vI x2, vI y74, none, none, none], [.int y74], (H0x15 o y73))) rfl ?_
  have K76 : ∀ z75 : Int32, z75 = (if y74 < (0:Int32) then (0:Int32) else y74) → QTri l Z n0 ad 12 (31, [vR 0, vI x1, vI x2, vI z75, none, none, none], [], (H0x15 o y73)) (none : Option Value) (H0 r) := by
   intro z75 ez75
   subst ez75
   refine zS Ad W 2 (st' := (34, [vR 0, vI x1, vI x2, vI (if y74 < (0:Int32) then (0:Int32) else y74), vI (if y74 < (0:Int32) then (0:Int32) else y74), none, none], [], (H0x15 o y73))) rfl ?_
   have E78 : ((H0x15 o y73) : QHeap) = (H0 (s_rxTrail o y73)) := by simp only [fs, H0, H0v, H0x15, s_rxTrail]
   rw [E78]
   obtain ⟨e85, he85, h⟩ := bind_eq_some_iff.mp h
   refine zM [tt,tt,tt,ff,tt,ff,ff] (loopN_tri (B := B12_34 (s_rxTrail o y73) x1 x2) (T := fun lv86 => QTri l Z n0 ad 12 (34, [vR 0, vI x1, vI x2, none, vI lv86, none, none], [], (H0 (s_rxTrail o y73))) (none : Option Value) (H0 r)) (KE := fun e => match e with | .inl e85a => QTri l Z n0 ad 12 (84, [vR 0, vI x1, none, none, vI e85a.1, vI e85a.2, none], [], (H0 (s_rxTrail o y73))) (none : Option Value) (H0 r) | .inr e85a => (none : Option Value) = (none : Option Value) ∧ (H0 r) = (H0 e85a)) (fun lv86 r hB hE hC => tB12_34 Ad W (s_rxTrail o y73) x1 x2 lv86 hB (fun x q => hE _ q) (fun x q => hE _ q) (fun x q => hC x q)) qN (if y74 < (0:Int32) then (0:Int32) else y74) e85 he85 ?_)
   rcases e85 with e85a | e85a
   ·refine zS Ad W 4 (st' := (92, [vR 0, vI x1, none, none, vI e85a.1, vI e85a.2, none], [.int (6:Int32), .int e85a.2, .ref 5], (H0 (s_rxTrail o y73)))) rfl ?_
    obtain ⟨y87, hy87, h⟩ := bind_eq_some_iff.mp h
    refine zB Ad W (f := fun y87 => (93, [vR 0, vI x1, none, none, vI e85a.1, vI e85a.2, none], [], (H0x13 (s_rxTrail o y73) y87))) rfl hy87 ?_
    refine zS Ad W 4 (st' := (100, [vR 0, vI x1, none, none, vI e85a.1, vI e85a.2, none], [.int (0:Int32), .int e85a.2, .ref 6], (H0x13 (s_rxTrail o y73) y87))) rfl ?_
    obtain ⟨y88, hy88, h⟩ := bind_eq_some_iff.mp h
    refine zB Ad W (f := fun y88 => (101, [vR 0, vI x1, none, none, vI e85a.1, vI e85a.2, none], [], (H0x16 (s_rxTrail o y73) y87 y88))) rfl hy88 ?_
    cases h
   ·obtain rfl := Option.some.inj h
    exact ⟨rfl, rfl⟩
  rcases em (y74 < (0:Int32)) with hc77 | hc77
  ·refine zF Ad W (t := 31) (f := 29) rfl (XT.i0_ge_f hc77) ?_
   refine zS Ad W 2 (st' := (31, [vR 0, vI x1, vI x2, vI (0:Int32), none, none, none], [], (H0x15 o y73))) rfl ?_
   exact zM [tt,tt,tt,tt,ff,ff,ff] (K76 _ (if_pos hc77).symm)
  ·refine zT Ad W (t := 31) (f := 29) rfl (XT.i0_ge_t hc77) ?_
   exact zM [tt,tt,tt,tt,ff,ff,ff] (K76 _ (if_neg hc77).symm)
 ·refine zF Ad W (t := 11) (f := 10) rfl (XT.ii_gt_f hc72) ?_
  obtain rfl := Option.some.inj h
  exact QTri.ret0 rfl rfl
def H0x17 (o0 : Ob) (a0_13 : List Int32) : QHeap := H0v (f_srcPayload o0) (f_pend o0) (f_queue o0) (f_stats o0) (f_state o0) (f_timer o0) (f_rxVal o0) (f_rxNext o0) (f_rxLead o0) (f_rxTrail o0) (f_lossLeft o0) (f_dups o0) (f_drops o0) a0_13 (f_delVal o0) (f_delLen o0) (f_lostLog o0) (f_lostLen o0) (f_nakBuf o0) (f_win o0) (f_back o0) (f_repair o0) (f_period o0) (f_nextSeq o0) (f_qLen o0) (f_nakLen o0)
def H0x18 (o0 : Ob) (a0_13 : List Int32) (a0_14 : List Int32) : QHeap := H0v (f_srcPayload o0) (f_pend o0) (f_queue o0) (f_stats o0) (f_state o0) (f_timer o0) (f_rxVal o0) (f_rxNext o0) (f_rxLead o0) (f_rxTrail o0) (f_lossLeft o0) (f_dups o0) (f_drops o0) a0_13 a0_14 (f_delLen o0) (f_lostLog o0) (f_lostLen o0) (f_nakBuf o0) (f_win o0) (f_back o0) (f_repair o0) (f_period o0) (f_nextSeq o0) (f_qLen o0) (f_nakLen o0)
def H0x19 (o0 : Ob) (a0_13 : List Int32) (a0_14 : List Int32) (a0_15 : List Int32) : QHeap := H0v (f_srcPayload o0) (f_pend o0) (f_queue o0) (f_stats o0) (f_state o0) (f_timer o0) (f_rxVal o0) (f_rxNext o0) (f_rxLead o0) (f_rxTrail o0) (f_lossLeft o0) (f_dups o0) (f_drops o0) a0_13 a0_14 a0_15 (f_lostLog o0) (f_lostLen o0) (f_nakBuf o0) (f_win o0) (f_back o0) (f_repair o0) (f_period o0) (f_nextSeq o0) (f_qLen o0) (f_nakLen o0)
/-- appendDelivered(III)V -/
def F14 (o : Ob) (x1 : Int32) (x2 : Int32) (x3 : Int32) : Option (Ob) :=
 (aget (f_delLen o) x1).bind fun y97 => (if y97 < (32:Int32) then (aget (f_delLen o) x1).bind fun y99 => (aset (f_delSeq o) ((x1 * (32:Int32)) + y99) x2).bind fun y100 => (aset (f_delVal o) ((x1 * (32:Int32)) + y99) x3).bind fun y101 => (aget (f_delLen o) x1).bind fun y102 => (aset (f_delLen o) x1 (y102 + (1:Int32))).bind fun y103 => some (s_delLen (s_delVal (s_delSeq o y100) y101) y103) else some o)
theorem tF14 (Ad : QAd n0 ad) (W : QW Z a0) (o : Ob) (x1 : Int32) (x2 : Int32) (x3 : Int32) {r : Ob} (h : F14 o x1 x2 x3 = some r) : QTri l Z n0 ad 14 (0, qentry [.ref 0, .int x1, .int x2, .int x3] (pMaxL 14), [], (H0 o)) (none : Option Value) (H0 r) := by
 unfold F14 at h
 refine zS Ad W 3 (st' := (5, [vR 0, vI x1, vI x2, vI x3, none], [.int x1, .ref 16], (H0 o))) rfl ?_
 obtain ⟨y97, hy97, h⟩ := bind_eq_some_iff.mp h
 refine zB Ad W (f := fun y97 => (6, [vR 0, vI x1, vI x2, vI x3, none], [.int y97], (H0 o))) rfl hy97 ?_
 refine zS Ad W 1 (st' := (8, [vR 0, vI x1, vI x2, vI x3, none], [.int (32:Int32), .int y97], (H0 o))) rfl ?_
 rcases qite h with ⟨hc98, h⟩ | ⟨hc98, h⟩
 ·refine zF Ad W (t := 50) (f := 11) rfl (XT.ii_ge_f hc98) ?_
  refine zS Ad W 6 (st' := (20, [vR 0, vI x1, vI x2, vI x3, none], [.int x1, .ref 16, .int (x1 * (32:Int32))], (H0 o))) rfl ?_
  obtain ⟨y99, hy99, h⟩ := bind_eq_some_iff.mp h
  refine zB Ad W (f := fun y99 => (21, [vR 0, vI x1, vI x2, vI x3, none], [.int y99, .int (x1 * (32:Int32))], (H0 o))) rfl hy99 ?_
  refine zS Ad W 6 (st' := (31, [vR 0, vI x1, vI x2, vI x3, vI ((x1 * (32:Int32)) + y99)], [.int x2, .int ((x1 * (32:Int32)) + y99), .ref 14], (H0 o))) rfl ?_
  obtain ⟨y100, hy100, h⟩ := bind_eq_some_iff.mp h
  refine zB Ad W (f := fun y100 => (32, [vR 0, vI x1, vI x2, vI x3, vI ((x1 * (32:Int32)) + y99)], [], (H0x17 o y100))) rfl hy100 ?_
  refine zS Ad W 4 (st' := (39, [vR 0, vI x1, vI x2, vI x3, vI ((x1 * (32:Int32)) + y99)], [.int x3, .int ((x1 * (32:Int32)) + y99), .ref 15], (H0x17 o y100))) rfl ?_
  obtain ⟨y101, hy101, h⟩ := bind_eq_some_iff.mp h
  refine zB Ad W (f := fun y101 => (40, [vR 0, vI x1, vI x2, vI x3, vI ((x1 * (32:Int32)) + y99)], [], (H0x18 o y100 y101))) rfl hy101 ?_
  refine zS Ad W 4 (st' := (46, [vR 0, vI x1, vI x2, vI x3, vI ((x1 * (32:Int32)) + y99)], [.int x1, .ref 16, .int x1, .ref 16], (H0x18 o y100 y101))) rfl ?_
  obtain ⟨y102, hy102, h⟩ := bind_eq_some_iff.mp h
  refine zB Ad W (f := fun y102 => (47, [vR 0, vI x1, vI x2, vI x3, vI ((x1 * (32:Int32)) + y99)], [.int y102, .int x1, .ref 16], (H0x18 o y100 y101))) rfl hy102 ?_
  refine zS Ad W 2 (st' := (49, [vR 0, vI x1, vI x2, vI x3, vI ((x1 * (32:Int32)) + y99)], [.int (y102 + (1:Int32)), .int x1, .ref 16], (H0x18 o y100 y101))) rfl ?_
  obtain ⟨y103, hy103, h⟩ := bind_eq_some_iff.mp h
  refine zB Ad W (f := fun y103 => (50, [vR 0, vI x1, vI x2, vI x3, vI ((x1 * (32:Int32)) + y99)], [], (H0x19 o y100 y101 y103))) rfl hy103 ?_
  have E104 : ((H0x19 o y100 y101 y103) : QHeap) = (H0 (s_delLen (s_delVal (s_delSeq o y100) y101) y103)) := by simp only [fs, H0, H0v, H0x19, s_delSeq, s_delVal, s_delLen]
  rw [E104]
  obtain rfl := Option.some.inj h
  exact QTri.ret0 rfl rfl
 ·refine zT Ad W (t := 50) (f := 11) rfl (XT.ii_ge_t hc98) ?_
  obtain rfl := Option.some.inj h
  exact QTri.ret0 rfl rfl
def H0x20 (o0 : Ob) (a0_7 : List Int32) : QHeap := H0v (f_srcPayload o0) (f_pend o0) (f_queue o0) (f_stats o0) (f_state o0) (f_timer o0) (f_rxVal o0) a0_7 (f_rxLead o0) (f_rxTrail o0) (f_lossLeft o0) (f_dups o0) (f_drops o0) (f_delSeq o0) (f_delVal o0) (f_delLen o0) (f_lostLog o0) (f_lostLen o0) (f_nakBuf o0) (f_win o0) (f_back o0) (f_repair o0) (f_period o0) (f_nextSeq o0) (f_qLen o0) (f_nakLen o0)
def J13_73 (o : Ob) (x1 : Int32) (x2 : Int32) : Option (((Ob)) ⊕ (Int32 × Ob)) :=
  (aset (f_rxNext o) x1 (x2 + (1 : Int32))).bind fun y108 => some (.inr ((x2 + (1 : Int32)), (s_rxNext o y108)))
theorem tJ13_73 (Ad : QAd n0 ad) (W : QW Z a0) (o : Ob) (x1 : Int32) (x2 : Int32) {r : ((Ob)) ⊕ (Int32 × Ob)} {u : Option Value} {τ : QHeap} (h : J13_73 o x1 x2 = some r) (hx0 : ∀ x : Ob, r = .inl x → u = (none : Option Value) ∧ τ = (H0 x)) (hc : ∀ x : Int32 × Ob, r = .inr x → QTri l Z n0 ad 13 (7, [vR 0, vI x1, vI x.1, none, none], [], (H0 x.2)) u τ) : QTri l Z n0 ad 13 (73, [vR 0, vI x1, vI x2, none, none], [], (H0 o)) u τ := by
 unfold J13_73 at h
 refine zS Ad W 6 (st' := (81, [vR 0, vI x1, vI x2, none, none], [.int (x2 + (1:Int32)), .int x1, .ref 8], (H0 o))) rfl ?_
 obtain ⟨y108, hy108, h⟩ := bind_eq_some_iff.mp h
 refine zB Ad W (f := fun y108 => (82, [vR 0, vI x1, vI x2, none, none], [], (H0x20 o y108))) rfl hy108 ?_
 refine zS Ad W 2 (st' := (7, [vR 0, vI x1, vI (x2 + (1:Int32)), none, none], [], (H0x20 o y108))) rfl ?_
 have E109 : ((H0x20 o y108) : QHeap) = (H0 (s_rxNext o y108)) := by simp only [fs, H0, H0v, H0x20, s_rxNext]
 rw [E109]
 obtain rfl := Option.some.inj h
 exact zM [tt,tt,tt,ff,ff] (hc ((x2 + (1:Int32)), (s_rxNext o y108)) rfl)
def J13_48 (o : Ob) (x1 : Int32) (x2 : Int32) (x3 : Int32) (x4 : Int32) : Option (((Ob)) ⊕ (Int32 × Ob)) :=
  (if x4 = (4 : Int32) then (aget (f_rxVal o) x3).bind fun y96 => (F14 o x1 x2 y96).bind fun r105 => (aset (f_state r105) x3 (5 : Int32)).bind fun y106 => (J13_73 (s_state r105 y106) x1 x2) else (J13_73 o x1 x2))
theorem tJ13_48 (Ad : QAd n0 ad) (W : QW Z a0) (o : Ob) (x1 : Int32) (x2 : Int32) (x3 : Int32) (x4 : Int32) {r : ((Ob)) ⊕ (Int32 × Ob)} {u : Option Value} {τ : QHeap} (h : J13_48 o x1 x2 x3 x4 = some r) (hx0 : ∀ x : Ob, r = .inl x → u = (none : Option Value) ∧ τ = (H0 x)) (hc : ∀ x : Int32 × Ob, r = .inr x → QTri l Z n0 ad 13 (7, [vR 0, vI x1, vI x.1, none, none], [], (H0 x.2)) u τ) : QTri l Z n0 ad 13 (48, [vR 0, vI x1, vI x2, vI x3, vI x4], [], (H0 o)) u τ := by
 unfold J13_48 at h
 refine zS Ad W 2 (st' := (51, [vR 0, vI x1, vI x2, vI x3, vI x4], [.int (4:Int32), .int x4], (H0 o))) rfl ?_
 rcases qite h with ⟨hc95, h⟩ | ⟨hc95, h⟩
 ·refine zF Ad W (t := 73) (f := 54) rfl (XT.ii_ne_f hc95) ?_
  refine zS Ad W 6 (st' := (62, [vR 0, vI x1, vI x2, vI x3, vI x4], [.int x3, .ref 7, .int x2, .int x1, .ref 0], (H0 o))) rfl ?_
  obtain ⟨y96, hy96, h⟩ := bind_eq_some_iff.mp h
  refine zB Ad W (f := fun y96 => (63, [vR 0, vI x1, vI x2, vI x3, vI x4], [.int y96, .int x2, .int x1, .ref 0], (H0 o))) rfl hy96 ?_
  obtain ⟨r105, hr105, h⟩ := bind_eq_some_iff.mp h
  refine QTri.callP W (a := 0) (as := [.int x1, .int x2, .int y96]) (rest := []) (w := none) (σ₁ := (H0 r105)) rfl rfl rfl rfl rfl rfl rfl rfl (tF14 Ad W o x1 x2 y96 hr105) ?_
  refine zS Ad W 4 (st' := (72, [vR 0, vI x1, vI x2, vI x3, vI x4], [.int (5:Int32), .int x3, .ref 5], (H0 r105))) rfl ?_
  obtain ⟨y106, hy106, h⟩ := bind_eq_some_iff.mp h
  refine zB Ad W (f := fun y106 => (73, [vR 0, vI x1, vI x2, vI x3, vI x4], [], (H0x13 r105 y106))) rfl hy106 ?_
  have E107 : ((H0x13 r105 y106) : QHeap) = (H0 (s_state r105 y106)) := by simp only [fs, H0, H0v, H0x13, s_state]
  rw [E107]
  exact zM [tt,tt,tt,ff,ff] (tJ13_73 Ad W (s_state r105 y106) x1 x2 h hx0 hc)
 ·refine zT Ad W (t := 73) (f := 54) rfl (XT.ii_ne_t hc95) ?_
  exact zM [tt,tt,tt,ff,ff] (tJ13_73 Ad W o x1 x2 h hx0 hc)
def B13_7 (x1 : Int32) (v : Int32 × Ob) : Option (((Ob)) ⊕ (Int32 × Ob)) :=
  (if v.1 < (0 : Int32) then some (.inl v.2) else (if v.1 < (32 : Int32) then (aget (f_state v.2) ((x1 * (32 : Int32)) + v.1)).bind fun y93 => (if y93 = (4 : Int32) then (J13_48 v.2 x1 v.1 ((x1 * (32 : Int32)) + v.1) y93) else (if y93 = (6 : Int32) then (J13_48 v.2 x1 v.1 ((x1 * (32 : Int32)) + v.1) y93) else some (.inl v.2))) else some (.inl v.2)))
theorem tB13_7 (Ad : QAd n0 ad) (W : QW Z a0) (x1 : Int32) (v : Int32 × Ob) {r : ((Ob)) ⊕ (Int32 × Ob)} {u : Option Value} {τ : QHeap} (h : B13_7 x1 v = some r) (hx0 : ∀ x : Ob, r = .inl x → u = (none : Option Value) ∧ τ = (H0 x)) (hc : ∀ x : Int32 × Ob, r = .inr x → QTri l Z n0 ad 13 (7, [vR 0, vI x1, vI x.1, none, none], [], (H0 x.2)) u τ) : QTri l Z n0 ad 13 (7, [vR 0, vI x1, vI v.1, none, none], [], (H0 v.2)) u τ := by
 unfold B13_7 at h
 refine zS Ad W 1 (st' := (8, [vR 0, vI x1, vI v.1, none, none], [.int v.1], (H0 v.2))) rfl ?_
 rcases qite h with ⟨hc91, h⟩ | ⟨hc91, h⟩
 ·refine zT Ad W (t := 88) (f := 11) rfl (XT.i0_lt_t hc91) ?_
  obtain rfl := Option.some.inj h
  obtain ⟨rfl, rfl⟩ := hx0 v.2 rfl
  exact QTri.ret0 rfl rfl
 ·refine zF Ad W (t := 88) (f := 11) rfl (XT.i0_lt_f hc91) ?_
  refine zS Ad W 2 (st' := (14, [vR 0, vI x1, vI v.1, none, none], [.int (32:Int32), .int v.1], (H0 v.2))) rfl ?_
  rcases qite h with ⟨hc92, h⟩ | ⟨hc92, h⟩
  ·refine zF Ad W (t := 88) (f := 17) rfl (XT.ii_ge_f hc92) ?_
   refine zS Ad W 9 (st' := (29, [vR 0, vI x1, vI v.1, vI ((x1 * (32:Int32)) + v.1), none], [.int ((x1 * (32:Int32)) + v.1), .ref 5], (H0 v.2))) rfl ?_
   obtain ⟨y93, hy93, h⟩ := bind_eq_some_iff.mp h
   refine zB Ad W (f := fun y93 => (30, [vR 0, vI x1, vI v.1, vI ((x1 * (32:Int32)) + v.1), none], [.int y93], (H0 v.2))) rfl hy93 ?_
   refine zS Ad W 3 (st' := (35, [vR 0, vI x1, vI v.1, vI ((x1 * (32:Int32)) + v.1), vI y93], [.int (4:Int32), .int y93], (H0 v.2))) rfl ?_
   rcases qite h with ⟨hc94, h⟩ | ⟨hc94, h⟩
   ·refine zT Ad W (t := 48) (f := 38) rfl (XT.ii_eq_t hc94) ?_
    exact zM [tt,tt,tt,tt,tt] (tJ13_48 Ad W v.2 x1 v.1 ((x1 * (32:Int32)) + v.1) y93 h hx0 hc)
   ·refine zF Ad W (t := 48) (f := 38) rfl (XT.ii_eq_f hc94) ?_
    refine zS Ad W 2 (st' := (42, [vR 0, vI x1, vI v.1, vI ((x1 * (32:Int32)) + v.1), vI y93], [.int (6:Int32), .int y93], (H0 v.2))) rfl ?_
    rcases qite h with ⟨hc110, h⟩ | ⟨hc110, h⟩
    ·refine zT Ad W (t := 48) (f := 45) rfl (XT.ii_eq_t hc110) ?_
     exact zM [tt,tt,tt,tt,tt] (tJ13_48 Ad W v.2 x1 v.1 ((x1 * (32:Int32)) + v.1) y93 h hx0 hc)
    ·refine zF Ad W (t := 48) (f := 45) rfl (XT.ii_eq_f hc110) ?_
     refine zS Ad W 1 (st' := (88, [vR 0, vI x1, vI v.1, vI ((x1 * (32:Int32)) + v.1), vI y93], [], (H0 v.2))) rfl ?_
     obtain rfl := Option.some.inj h
     obtain ⟨rfl, rfl⟩ := hx0 v.2 rfl
     exact QTri.ret0 rfl rfl
  ·refine zT Ad W (t := 88) (f := 17) rfl (XT.ii_ge_t hc92) ?_
   obtain rfl := Option.some.inj h
   obtain ⟨rfl, rfl⟩ := hx0 v.2 rfl
   exact QTri.ret0 rfl rfl
/-- deliver(I)V -/
def F13 (o : Ob) (x1 : Int32) : Option (Ob) :=
 (aget (f_rxNext o) x1).bind fun y90 => (loopN (B13_7 x1) qN (y90, o)).bind fun e111 => some e111
theorem tF13 (Ad : QAd n0 ad) (W : QW Z a0) (o : Ob) (x1 : Int32) {r : Ob} (h : F13 o x1 = some r) : QTri l Z n0 ad 13 (0, qentry [.ref 0, .int x1] (pMaxL 13), [], (H0 o)) (none : Option Value) (H0 r) := by
 unfold F13 at h
 refine zS Ad W 3 (st' := (5, [vR 0, vI x1, none, none, none], [.int x1, .ref 8], (H0 o))) rfl ?_
 obtain ⟨y90, hy90, h⟩ := bind_eq_some_iff.mp h
 refine zB Ad W (f := fun y90 => (6, [vR 0, vI x1, none, none, none], [.int y90], (H0 o))) rfl hy90 ?_
 refine zS Ad W 1 (st' := (7, [vR 0, vI x1, vI y90, none, none], [], (H0 o))) rfl ?_
 obtain ⟨e111, he111, h⟩ := bind_eq_some_iff.mp h
 refine zM [tt,tt,tt,ff,ff] (loopN_tri (B := B13_7 x1) (T := fun lv112 => QTri l Z n0 ad 13 (7, [vR 0, vI x1, vI lv112.1, none, none], [], (H0 lv112.2)) (none : Option Value) (H0 r)) (KE := fun e111a => (none : Option Value) = (none : Option Value) ∧ (H0 r) = (H0 e111a)) (fun lv112 r hB hE hC => tB13_7 Ad W x1 lv112 hB (fun x q => hE _ q) (fun x q => hC x q)) qN (y90, o) e111 he111 ?_)
 obtain rfl := Option.some.inj h
 exact ⟨rfl, rfl⟩
def J9_76 (o : Ob) (x1 : Int32) (x4 : Int32) (x5 : Int32) : Option (Ob) :=
  (F11 o x1 x4).bind fun r70 => (F12 r70 x1 x5).bind fun r89 => (F13 r89 x1).bind fun r113 => some r113
theorem tJ9_76 (Ad : QAd n0 ad) (W : QW Z a0) (o : Ob) (x1 : Int32) (x4 : Int32) (x5 : Int32) {r : Ob} (h : J9_76 o x1 x4 x5 = some r) : QTri l Z n0 ad 9 (76, [vR 0, vI x1, none, none, vI x4, vI x5, none, none], [], (H0 o)) (none : Option Value) (H0 r) := by
 unfold J9_76 at h
 refine zS Ad W 3 (st' := (80, [vR 0, vI x1, none, none, vI x4, vI x5, none, none], [.int x4, .int x1, .ref 0], (H0 o))) rfl ?_
 obtain ⟨r70, hr70, h⟩ := bind_eq_some_iff.mp h
 refine QTri.callP W (a := 0) (as := [.int x1, .int x4]) (rest := []) (w := none) (σ₁ := (H0 r70)) rfl rfl rfl rfl rfl rfl rfl rfl (tF11 Ad W o x1 x4 hr70) ?_
 refine zS Ad W 3 (st' := (87, [vR 0, vI x1, none, none, vI x4, vI x5, none, none], [.int x5, .int x1, .ref 0], (H0 r70))) rfl ?_
 obtain ⟨r89, hr89, h⟩ := bind_eq_some_iff.mp h
 refine QTri.callP W (a := 0) (as := [.int x1, .int x5]) (rest := []) (w := none) (σ₁ := (H0 r89)) rfl rfl rfl rfl rfl rfl rfl rfl (tF12 Ad W r70 x1 x5 hr89) ?_
 refine zS Ad W 2 (st' := (92, [vR 0, vI x1, none, none, vI x4, vI x5, none, none], [.int x1, .ref 0], (H0 r89))) rfl ?_
 obtain ⟨r113, hr113, h⟩ := bind_eq_some_iff.mp h
 refine QTri.callP W (a := 0) (as := [.int x1]) (rest := []) (w := none) (σ₁ := (H0 r113)) rfl rfl rfl rfl rfl rfl rfl rfl (tF13 Ad W r89 x1 hr113) ?_
 obtain rfl := Option.some.inj h
 exact QTri.ret0 rfl rfl
def H0x21 (o0 : Ob) (a0_4 : List Int32) (a0_6 : List Int32) : QHeap := H0v (f_srcPayload o0) (f_pend o0) (f_queue o0) (f_stats o0) a0_4 (f_timer o0) a0_6 (f_rxNext o0) (f_rxLead o0) (f_rxTrail o0) (f_lossLeft o0) (f_dups o0) (f_drops o0) (f_delSeq o0) (f_delVal o0) (f_delLen o0) (f_lostLog o0) (f_lostLen o0) (f_nakBuf o0) (f_win o0) (f_back o0) (f_repair o0) (f_period o0) (f_nextSeq o0) (f_qLen o0) (f_nakLen o0)
def H0x22 (o0 : Ob) (a0_4 : List Int32) (a0_5 : List Int32) (a0_6 : List Int32) : QHeap := H0v (f_srcPayload o0) (f_pend o0) (f_queue o0) (f_stats o0) a0_4 a0_5 a0_6 (f_rxNext o0) (f_rxLead o0) (f_rxTrail o0) (f_lossLeft o0) (f_dups o0) (f_drops o0) (f_delSeq o0) (f_delVal o0) (f_delLen o0) (f_lostLog o0) (f_lostLen o0) (f_nakBuf o0) (f_win o0) (f_back o0) (f_repair o0) (f_period o0) (f_nextSeq o0) (f_qLen o0) (f_nakLen o0)
def J9_39 (o : Ob) (x1 : Int32) (x3 : Int32) (x4 : Int32) (x5 : Int32) (x6 : Int32) : Option (Ob) :=
  (aset (f_state o) x6 (4 : Int32)).bind fun y116 => (aset (f_rxVal o) x6 x3).bind fun y117 => (aset (f_timer o) x6 (0 : Int32)).bind fun y118 => (J9_76 (s_timer (s_rxVal (s_state o y116) y117) y118) x1 x4 x5)
theorem tJ9_39 (Ad : QAd n0 ad) (W : QW Z a0) (o : Ob) (x1 : Int32) (x3 : Int32) (x4 : Int32) (x5 : Int32) (x6 : Int32) {r : Ob} (h : J9_39 o x1 x3 x4 x5 x6 = some r) : QTri l Z n0 ad 9 (39, [vR 0, vI x1, none, vI x3, vI x4, vI x5, vI x6, none], [], (H0 o)) (none : Option Value) (H0 r) := by
 unfold J9_39 at h
 refine zS Ad W 4 (st' := (46, [vR 0, vI x1, none, vI x3, vI x4, vI x5, vI x6, none], [.int (4:Int32), .int x6, .ref 5], (H0 o))) rfl ?_
 obtain ⟨y116, hy116, h⟩ := bind_eq_some_iff.mp h
 refine zB Ad W (f := fun y116 => (47, [vR 0, vI x1, none, vI x3, vI x4, vI x5, vI x6, none], [], (H0x13 o y116))) rfl hy116 ?_
 refine zS Ad W 4 (st' := (54, [vR 0, vI x1, none, vI x3, vI x4, vI x5, vI x6, none], [.int x3, .int x6, .ref 7], (H0x13 o y116))) rfl ?_
 obtain ⟨y117, hy117, h⟩ := bind_eq_some_iff.mp h
 refine zB Ad W (f := fun y117 => (55, [vR 0, vI x1, none, vI x3, vI x4, vI x5, vI x6, none], [], (H0x21 o y116 y117))) rfl hy117 ?_
 refine zS Ad W 4 (st' := (62, [vR 0, vI x1, none, vI x3, vI x4, vI x5, vI x6, none], [.int (0:Int32), .int x6, .ref 6], (H0x21 o y116 y117))) rfl ?_
 obtain ⟨y118, hy118, h⟩ := bind_eq_some_iff.mp h
 refine zB Ad W (f := fun y118 => (63, [vR 0, vI x1, none, vI x3, vI x4, vI x5, vI x6, none], [], (H0x22 o y116 y118 y117))) rfl hy118 ?_
 refine zS Ad W 1 (st' := (76, [vR 0, vI x1, none, vI x3, vI x4, vI x5, vI x6, none], [], (H0x22 o y116 y118 y117))) rfl ?_
 have E119 : ((H0x22 o y116 y118 y117) : QHeap) = (H0 (s_timer (s_rxVal (s_state o y116) y117) y118)) := by simp only [fs, H0, H0v, H0x22, s_state, s_timer, s_rxVal]
 rw [E119]
 exact zM [tt,tt,ff,ff,tt,tt,ff,ff] (tJ9_76 Ad W (s_timer (s_rxVal (s_state o y116) y117) y118) x1 x4 x5 h)
/-- isWaiting(I)Z -/
def F24 (x1 : Int32) : Option (Int32) :=
 (if x1 = (1:Int32) then some (1:Int32) else (if x1 = (2:Int32) then some (1:Int32) else (if x1 = (3:Int32) then some (1:Int32) else some (0:Int32))))
theorem tF24 (Ad : QAd n0 ad) (W : QW Z a0) {a : Nat} {σ : QHeap} (x1 : Int32) {r : Int32} (h : F24 x1 = some r) : QTri l Z n0 ad 24 (0, qentry [.ref a, .int x1] (pMaxL 24), [], σ) (some (Value.int r)) σ := by
 unfold F24 at h
 refine zS Ad W 2 (st' := (2, [vR a, vI x1], [.int (1:Int32), .int x1], σ)) rfl ?_
 rcases qite h with ⟨hc120, h⟩ | ⟨hc120, h⟩
 ·refine zT Ad W (t := 15) (f := 5) rfl (XT.ii_eq_t hc120) ?_
  refine zS Ad W 2 (st' := (20, [vR a, vI x1], [.int (1:Int32)], σ)) rfl ?_
  obtain rfl := Option.some.inj h
  exact QTri.retZ rfl rfl
 ·refine zF Ad W (t := 15) (f := 5) rfl (XT.ii_eq_f hc120) ?_
  refine zS Ad W 2 (st' := (7, [vR a, vI x1], [.int (2:Int32), .int x1], σ)) rfl ?_
  rcases qite h with ⟨hc121, h⟩ | ⟨hc121, h⟩
  ·refine zT Ad W (t := 15) (f := 10) rfl (XT.ii_eq_t hc121) ?_
   refine zS Ad W 2 (st' := (20, [vR a, vI x1], [.int (1:Int32)], σ)) rfl ?_
   obtain rfl := Option.some.inj h
   exact QTri.retZ rfl rfl
  ·refine zF Ad W (t := 15) (f := 10) rfl (XT.ii_eq_f hc121) ?_
   refine zS Ad W 2 (st' := (12, [vR a, vI x1], [.int (3:Int32), .int x1], σ)) rfl ?_
   rcases qite h with ⟨hc122, h⟩ | ⟨hc122, h⟩
   ·refine zF Ad W (t := 19) (f := 15) rfl (XT.ii_ne_f hc122) ?_
    refine zS Ad W 2 (st' := (20, [vR a, vI x1], [.int (1:Int32)], σ)) rfl ?_
    obtain rfl := Option.some.inj h
    exact QTri.retZ rfl rfl
   ·refine zT Ad W (t := 19) (f := 15) rfl (XT.ii_ne_t hc122) ?_
    refine zS Ad W 1 (st' := (20, [vR a, vI x1], [.int (0:Int32)], σ)) rfl ?_
    obtain rfl := Option.some.inj h
    exact QTri.retZ rfl rfl
def H0x23 (o0 : Ob) (a0_11 : List Int32) : QHeap := H0v (f_srcPayload o0) (f_pend o0) (f_queue o0) (f_stats o0) (f_state o0) (f_timer o0) (f_rxVal o0) (f_rxNext o0) (f_rxLead o0) (f_rxTrail o0) (f_lossLeft o0) a0_11 (f_drops o0) (f_delSeq o0) (f_delVal o0) (f_delLen o0) (f_lostLog o0) (f_lostLen o0) (f_nakBuf o0) (f_win o0) (f_back o0) (f_repair o0) (f_period o0) (f_nextSeq o0) (f_qLen o0) (f_nakLen o0)
/-- applyData(IIIII)V -/
def F9 (o : Ob) (x1 : Int32) (x2 : Int32) (x3 : Int32) (x4 : Int32) (x5 : Int32) : Option (Ob) :=
 (F10 x2).bind fun r49 => (if r49 = (0:Int32) then (J9_76 o x1 x4 x5) else (aget (f_state o) ((x1 * (32:Int32)) + x2)).bind fun y114 => (if y114 = (0:Int32) then (J9_39 o x1 x3 x4 x5 ((x1 * (32:Int32)) + x2)) else (F24 y114).bind fun r123 => (if r123 = (0:Int32) then (aget (f_dups o) x1).bind fun y125 => (aset (f_dups o) x1 (y125 + (1:Int32))).bind fun y126 => (J9_76 (s_dups o y126) x1 x4 x5) else (J9_39 o x1 x3 x4 x5 ((x1 * (32:Int32)) + x2)))))
theorem tF9 (Ad : QAd n0 ad) (W : QW Z a0) (o : Ob) (x1 : Int32) (x2 : Int32) (x3 : Int32) (x4 : Int32) (x5 : Int32) {r : Ob} (h : F9 o x1 x2 x3 x4 x5 = some r) : QTri l Z n0 ad 9 (0, qentry [.ref 0, .int x1, .int x2, .int x3, .int x4, .int x5] (pMaxL 9), [], (H0 o)) (none : Option Value) (H0 r) := by
 unfold F9 at h
 refine zS Ad W 2 (st' := (2, [vR 0, vI x1, vI x2, vI x3, vI x4, vI x5, none, none], [.int x2, .ref 0], (H0 o))) rfl ?_
 obtain ⟨r49, hr49, h⟩ := bind_eq_some_iff.mp h
 refine QTri.callP W (a := 0) (as := [.int x2]) (rest := []) (w := (some (.int r49))) (σ₁ := (H0 o)) rfl rfl rfl rfl rfl rfl rfl rfl (tF10 Ad W x2 hr49) ?_
 rcases qite h with ⟨hc50, h⟩ | ⟨hc50, h⟩
 ·refine zT Ad W (t := 76) (f := 8) rfl (XT.i0_eq_t hc50) ?_
  exact zM [tt,tt,ff,ff,tt,tt,ff,ff] (tJ9_76 Ad W o x1 x4 x5 h)
 ·refine zF Ad W (t := 76) (f := 8) rfl (XT.i0_eq_f hc50) ?_
  refine zS Ad W 9 (st' := (22, [vR 0, vI x1, vI x2, vI x3, vI x4, vI x5, vI ((x1 * (32:Int32)) + x2), none], [.int ((x1 * (32:Int32)) + x2), .ref 5], (H0 o))) rfl ?_
  obtain ⟨y114, hy114, h⟩ := bind_eq_some_iff.mp h
  refine zB Ad W (f := fun y114 => (23, [vR 0, vI x1, vI x2, vI x3, vI x4, vI x5, vI ((x1 * (32:Int32)) + x2), none], [.int y114], (H0 o))) rfl hy114 ?_
  refine zS Ad W 2 (st' := (27, [vR 0, vI x1, vI x2, vI x3, vI x4, vI x5, vI ((x1 * (32:Int32)) + x2), vI y114], [.int y114], (H0 o))) rfl ?_
  rcases qite h with ⟨hc115, h⟩ | ⟨hc115, h⟩
  ·refine zT Ad W (t := 39) (f := 30) rfl (XT.i0_eq_t hc115) ?_
   exact zM [tt,tt,ff,tt,tt,tt,tt,ff] (tJ9_39 Ad W o x1 x3 x4 x5 ((x1 * (32:Int32)) + x2) h)
  ·refine zF Ad W (t := 39) (f := 30) rfl (XT.i0_eq_f hc115) ?_
   refine zS Ad W 2 (st' := (33, [vR 0, vI x1, vI x2, vI x3, vI x4, vI x5, vI ((x1 * (32:Int32)) + x2), vI y114], [.int y114, .ref 0], (H0 o))) rfl ?_
   obtain ⟨r123, hr123, h⟩ := bind_eq_some_iff.mp h
   refine QTri.callP W (a := 0) (as := [.int y114]) (rest := []) (w := (some (.int r123))) (σ₁ := (H0 o)) rfl rfl rfl rfl rfl rfl rfl rfl (tF24 Ad W y114 hr123) ?_
   rcases qite h with ⟨hc124, h⟩ | ⟨hc124, h⟩
   ·refine zT Ad W (t := 66) (f := 39) rfl (XT.i0_eq_t hc124) ?_
    refine zS Ad W 4 (st' := (72, [vR 0, vI x1, vI x2, vI x3, vI x4, vI x5, vI ((x1 * (32:Int32)) + x2), vI y114], [.int x1, .ref 12, .int x1, .ref 12], (H0 o))) rfl ?_
    obtain ⟨y125, hy125, h⟩ := bind_eq_some_iff.mp h
    refine zB Ad W (f := fun y125 => (73, [vR 0, vI x1, vI x2, vI x3, vI x4, vI x5, vI ((x1 * (32:Int32)) + x2), vI y114], [.int y125, .int x1, .ref 12], (H0 o))) rfl hy125 ?_
    refine zS Ad W 2 (st' := (75, [vR 0, vI x1, vI x2, vI x3, vI x4, vI x5, vI ((x1 * (32:Int32)) + x2), vI y114], [.int (y125 + (1:Int32)), .int x1, .ref 12], (H0 o))) rfl ?_
    obtain ⟨y126, hy126, h⟩ := bind_eq_some_iff.mp h
    refine zB Ad W (f := fun y126 => (76, [vR 0, vI x1, vI x2, vI x3, vI x4, vI x5, vI ((x1 * (32:Int32)) + x2), vI y114], [], (H0x23 o y126))) rfl hy126 ?_
    have E127 : ((H0x23 o y126) : QHeap) = (H0 (s_dups o y126)) := by simp only [fs, H0, H0v, H0x23, s_dups]
    rw [E127]
    exact zM [tt,tt,ff,ff,tt,tt,ff,ff] (tJ9_76 Ad W (s_dups o y126) x1 x4 x5 h)
   ·refine zF Ad W (t := 66) (f := 39) rfl (XT.i0_eq_f hc124) ?_
    exact zM [tt,tt,ff,tt,tt,tt,tt,ff] (tJ9_39 Ad W o x1 x3 x4 x5 ((x1 * (32:Int32)) + x2) h)
def J8_50 (o : Ob) (x1 : Int32) (x3 : Int32) (x4 : Int32) (x5 : Int32) (x6 : Int32) : Option (Ob) :=
  (F9 o x1 x3 x4 x5 x6).bind fun r128 => some r128
theorem tJ8_50 (Ad : QAd n0 ad) (W : QW Z a0) (o : Ob) (x1 : Int32) (x3 : Int32) (x4 : Int32) (x5 : Int32) (x6 : Int32) {r : Ob} (h : J8_50 o x1 x3 x4 x5 x6 = some r) : QTri l Z n0 ad 8 (50, [vR 0, vI x1, none, vI x3, vI x4, vI x5, vI x6], [], (H0 o)) (none : Option Value) (H0 r) := by
 unfold J8_50 at h
 refine zS Ad W 6 (st' := (59, [vR 0, vI x1, none, vI x3, vI x4, vI x5, vI x6], [.int x6, .int x5, .int x4, .int x3, .int x1, .ref 0], (H0 o))) rfl ?_
 obtain ⟨r128, hr128, h⟩ := bind_eq_some_iff.mp h
 refine QTri.callP W (a := 0) (as := [.int x1, .int x3, .int x4, .int x5, .int x6]) (rest := []) (w := none) (σ₁ := (H0 r128)) rfl rfl rfl rfl rfl rfl rfl rfl (tF9 Ad W o x1 x3 x4 x5 x6 hr128) ?_
 refine zS Ad W 1 (st' := (98, [vR 0, vI x1, none, vI x3, vI x4, vI x5, vI x6], [], (H0 r128))) rfl ?_
 obtain rfl := Option.some.inj h
 exact QTri.ret0 rfl rfl
def J28_36 (o : Ob) (x3 : Int32) : Option (Ob) :=
  (aset (f_state o) x3 (3 : Int32)).bind fun y138 => (aset (f_timer o) x3 (f_repair o)).bind fun y139 => some (s_timer (s_state o y138) y139)
theorem tJ28_36 (Ad : QAd n0 ad) (W : QW Z a0) (o : Ob) (x3 : Int32) {r : Ob} (h : J28_36 o x3 = some r) : QTri l Z n0 ad 28 (36, [vR 0, none, none, vI x3, none], [], (H0 o)) (none : Option Value) (H0 r) := by
 unfold J28_36 at h
 refine zS Ad W 4 (st' := (42, [vR 0, none, none, vI x3, none], [.int (3:Int32), .int x3, .ref 5], (H0 o))) rfl ?_
 obtain ⟨y138, hy138, h⟩ := bind_eq_some_iff.mp h
 refine zB Ad W (f := fun y138 => (43, [vR 0, none, none, vI x3, none], [], (H0x13 o y138))) rfl hy138 ?_
 refine zS Ad W 5 (st' := (52, [vR 0, none, none, vI x3, none], [.int (f_repair o), .int x3, .ref 6], (H0x13 o y138))) rfl ?_
 obtain ⟨y139, hy139, h⟩ := bind_eq_some_iff.mp h
 refine zB Ad W (f := fun y139 => (53, [vR 0, none, none, vI x3, none], [], (H0x16 o y138 y139))) rfl hy139 ?_
 have E140 : ((H0x16 o y138 y139) : QHeap) = (H0 (s_timer (s_state o y138) y139)) := by simp only [fs, H0, H0v, H0x16, s_state, s_timer]
 rw [E140]
 obtain rfl := Option.some.inj h
 exact QTri.ret0 rfl rfl
/-- applyNcf(II)V -/
def F28 (o : Ob) (x1 : Int32) (x2 : Int32) : Option (Ob) :=
 (F10 x2).bind fun r134 => (if r134 = (0:Int32) then some o else (aget (f_state o) ((x1 * (32:Int32)) + x2)).bind fun y136 => (if y136 = (1:Int32) then (J28_36 o ((x1 * (32:Int32)) + x2)) else (if y136 = (2:Int32) then (J28_36 o ((x1 * (32:Int32)) + x2)) else some o)))
theorem tF28 (Ad : QAd n0 ad) (W : QW Z a0) (o : Ob) (x1 : Int32) (x2 : Int32) {r : Ob} (h : F28 o x1 x2 = some r) : QTri l Z n0 ad 28 (0, qentry [.ref 0, .int x1, .int x2] (pMaxL 28), [], (H0 o)) (none : Option Value) (H0 r) := by
 unfold F28 at h
 refine zS Ad W 2 (st' := (2, [vR 0, vI x1, vI x2, none, none], [.int x2, .ref 0], (H0 o))) rfl ?_
 obtain ⟨r134, hr134, h⟩ := bind_eq_some_iff.mp h
 refine QTri.callP W (a := 0) (as := [.int x2]) (rest := []) (w := (some (.int r134))) (σ₁ := (H0 o)) rfl rfl rfl rfl rfl rfl rfl rfl (tF10 Ad W x2 hr134) ?_
 rcases qite h with ⟨hc135, h⟩ | ⟨hc135, h⟩
 ·refine zF Ad W (t := 9) (f := 8) rfl (XT.i0_ne_f hc135) ?_
  obtain rfl := Option.some.inj h
  exact QTri.ret0 rfl rfl
 ·refine zT Ad W (t := 9) (f := 8) rfl (XT.i0_ne_t hc135) ?_
  refine zS Ad W 9 (st' := (21, [vR 0, vI x1, vI x2, vI ((x1 * (32:Int32)) + x2), none], [.int ((x1 * (32:Int32)) + x2), .ref 5], (H0 o))) rfl ?_
  obtain ⟨y136, hy136, h⟩ := bind_eq_some_iff.mp h
  refine zB Ad W (f := fun y136 => (22, [vR 0, vI x1, vI x2, vI ((x1 * (32:Int32)) + x2), none], [.int y136], (H0 o))) rfl hy136 ?_
  refine zS Ad W 3 (st' := (27, [vR 0, vI x1, vI x2, vI ((x1 * (32:Int32)) + x2), vI y136], [.int (1:Int32), .int y136], (H0 o))) rfl ?_
  rcases qite h with ⟨hc137, h⟩ | ⟨hc137, h⟩
  ·refine zT Ad W (t := 36) (f := 30) rfl (XT.ii_eq_t hc137) ?_
   exact zM [tt,ff,ff,tt,ff] (tJ28_36 Ad W o ((x1 * (32:Int32)) + x2) h)
  ·refine zF Ad W (t := 36) (f := 30) rfl (XT.ii_eq_f hc137) ?_
   refine zS Ad W 2 (st' := (33, [vR 0, vI x1, vI x2, vI ((x1 * (32:Int32)) + x2), vI y136], [.int (2:Int32), .int y136], (H0 o))) rfl ?_
   rcases qite h with ⟨hc141, h⟩ | ⟨hc141, h⟩
   ·refine zF Ad W (t := 53) (f := 36) rfl (XT.ii_ne_f hc141) ?_
    exact zM [tt,ff,ff,tt,ff] (tJ28_36 Ad W o ((x1 * (32:Int32)) + x2) h)
   ·refine zT Ad W (t := 53) (f := 36) rfl (XT.ii_ne_t hc141) ?_
    obtain rfl := Option.some.inj h
    exact QTri.ret0 rfl rfl
/-- copyTo(IIIIII)V -/
def F8 (o : Ob) (x1 : Int32) (x2 : Int32) (x3 : Int32) (x4 : Int32) (x5 : Int32) (x6 : Int32) : Option (Ob) :=
 (aget (f_lossLeft o) x1).bind fun y39 => (if (0:Int32) < y39 then (aget (f_lossLeft o) x1).bind fun y41 => (aset (f_lossLeft o) x1 (y41 - (1:Int32))).bind fun y42 => (aget (f_drops o) x1).bind fun y43 => (aset (f_drops o) x1 (y43 + (1:Int32))).bind fun y44 => (aget (f_stats o) (9:Int32)).bind fun y45 => (aset (f_stats o) (9:Int32) (y45 + (1:Int32))).bind fun y46 => some (s_stats (s_drops (s_lossLeft o y42) y44) y46) else (if x2 = (0:Int32) then (J8_50 o x1 x3 x4 x5 x6) else (if x2 = (1:Int32) then (J8_50 o x1 x3 x4 x5 x6) else (if x2 = (2:Int32) then (F11 o x1 x5).bind fun r131 => (F12 r131 x1 x6).bind fun r132 => (F13 r132 x1).bind fun r133 => some r133 else (F28 o x1 x3).bind fun r142 => some r142))))
theorem tF8 (Ad : QAd n0 ad) (W : QW Z a0) (o : Ob) (x1 : Int32) (x2 : Int32) (x3 : Int32) (x4 : Int32) (x5 : Int32) (x6 : Int32) {r : Ob} (h : F8 o x1 x2 x3 x4 x5 x6 = some r) : QTri l Z n0 ad 8 (0, qentry [.ref 0, .int x1, .int x2, .int x3, .int x4, .int x5, .int x6] (pMaxL 8), [], (H0 o)) (none : Option Value) (H0 r) := by
 unfold F8 at h
 refine zS Ad W 3 (st' := (5, [vR 0, vI x1, vI x2, vI x3, vI x4, vI x5, vI x6], [.int x1, .ref 11], (H0 o))) rfl ?_
 obtain ⟨y39, hy39, h⟩ := bind_eq_some_iff.mp h
 refine zB Ad W (f := fun y39 => (6, [vR 0, vI x1, vI x2, vI x3, vI x4, vI x5, vI x6], [.int y39], (H0 o))) rfl hy39 ?_
 rcases qite h with ⟨hc40, h⟩ | ⟨hc40, h⟩
 ·refine zF Ad W (t := 41) (f := 9) rfl (XT.i0_le_f hc40) ?_
  refine zS Ad W 4 (st' := (15, [vR 0, vI x1, vI x2, vI x3, vI x4, vI x5, vI x6], [.int x1, .ref 11, .int x1, .ref 11], (H0 o))) rfl ?_
  obtain ⟨y41, hy41, h⟩ := bind_eq_some_iff.mp h
  refine zB Ad W (f := fun y41 => (16, [vR 0, vI x1, vI x2, vI x3, vI x4, vI x5, vI x6], [.int y41, .int x1, .ref 11], (H0 o))) rfl hy41 ?_
  refine zS Ad W 2 (st' := (18, [vR 0, vI x1, vI x2, vI x3, vI x4, vI x5, vI x6], [.int (y41 - (1:Int32)), .int x1, .ref 11], (H0 o))) rfl ?_
  obtain ⟨y42, hy42, h⟩ := bind_eq_some_iff.mp h
  refine zB Ad W (f := fun y42 => (19, [vR 0, vI x1, vI x2, vI x3, vI x4, vI x5, vI x6], [], (H0x10 o y42))) rfl hy42 ?_
  refine zS Ad W 4 (st' := (25, [vR 0, vI x1, vI x2, vI x3, vI x4, vI x5, vI x6], [.int x1, .ref 13, .int x1, .ref 13], (H0x10 o y42))) rfl ?_
  obtain ⟨y43, hy43, h⟩ := bind_eq_some_iff.mp h
  refine zB Ad W (f := fun y43 => (26, [vR 0, vI x1, vI x2, vI x3, vI x4, vI x5, vI x6], [.int y43, .int x1, .ref 13], (H0x10 o y42))) rfl hy43 ?_
  refine zS Ad W 2 (st' := (28, [vR 0, vI x1, vI x2, vI x3, vI x4, vI x5, vI x6], [.int (y43 + (1:Int32)), .int x1, .ref 13], (H0x10 o y42))) rfl ?_
  obtain ⟨y44, hy44, h⟩ := bind_eq_some_iff.mp h
  refine zB Ad W (f := fun y44 => (29, [vR 0, vI x1, vI x2, vI x3, vI x4, vI x5, vI x6], [], (H0x11 o y42 y44))) rfl hy44 ?_
  refine zS Ad W 4 (st' := (36, [vR 0, vI x1, vI x2, vI x3, vI x4, vI x5, vI x6], [.int (9:Int32), .ref 4, .int (9:Int32), .ref 4], (H0x11 o y42 y44))) rfl ?_
  obtain ⟨y45, hy45, h⟩ := bind_eq_some_iff.mp h
  refine zB Ad W (f := fun y45 => (37, [vR 0, vI x1, vI x2, vI x3, vI x4, vI x5, vI x6], [.int y45, .int (9:Int32), .ref 4], (H0x11 o y42 y44))) rfl hy45 ?_
  refine zS Ad W 2 (st' := (39, [vR 0, vI x1, vI x2, vI x3, vI x4, vI x5, vI x6], [.int (y45 + (1:Int32)), .int (9:Int32), .ref 4], (H0x11 o y42 y44))) rfl ?_
  obtain ⟨y46, hy46, h⟩ := bind_eq_some_iff.mp h
  refine zB Ad W (f := fun y46 => (40, [vR 0, vI x1, vI x2, vI x3, vI x4, vI x5, vI x6], [], (H0x12 o y46 y42 y44))) rfl hy46 ?_
  have E47 : ((H0x12 o y46 y42 y44) : QHeap) = (H0 (s_stats (s_drops (s_lossLeft o y42) y44) y46)) := by simp only [fs, H0, H0v, H0x12, s_stats, s_lossLeft, s_drops]
  rw [E47]
  obtain rfl := Option.some.inj h
  exact QTri.ret0 rfl rfl
 ·refine zT Ad W (t := 41) (f := 9) rfl (XT.i0_le_t hc40) ?_
  refine zS Ad W 1 (st' := (42, [vR 0, vI x1, vI x2, vI x3, vI x4, vI x5, vI x6], [.int x2], (H0 o))) rfl ?_
  rcases qite h with ⟨hc48, h⟩ | ⟨hc48, h⟩
  ·refine zT Ad W (t := 50) (f := 45) rfl (XT.i0_eq_t hc48) ?_
   exact zM [tt,tt,ff,tt,tt,tt,tt] (tJ8_50 Ad W o x1 x3 x4 x5 x6 h)
  ·refine zF Ad W (t := 50) (f := 45) rfl (XT.i0_eq_f hc48) ?_
   refine zS Ad W 2 (st' := (47, [vR 0, vI x1, vI x2, vI x3, vI x4, vI x5, vI x6], [.int (1:Int32), .int x2], (H0 o))) rfl ?_
   rcases qite h with ⟨hc129, h⟩ | ⟨hc129, h⟩
   ·refine zF Ad W (t := 65) (f := 50) rfl (XT.ii_ne_f hc129) ?_
    exact zM [tt,tt,ff,tt,tt,tt,tt] (tJ8_50 Ad W o x1 x3 x4 x5 x6 h)
   ·refine zT Ad W (t := 65) (f := 50) rfl (XT.ii_ne_t hc129) ?_
    refine zS Ad W 2 (st' := (67, [vR 0, vI x1, vI x2, vI x3, vI x4, vI x5, vI x6], [.int (2:Int32), .int x2], (H0 o))) rfl ?_
    rcases qite h with ⟨hc130, h⟩ | ⟨hc130, h⟩
    ·refine zF Ad W (t := 92) (f := 70) rfl (XT.ii_ne_f hc130) ?_
     refine zS Ad W 3 (st' := (74, [vR 0, vI x1, vI x2, vI x3, vI x4, vI x5, vI x6], [.int x5, .int x1, .ref 0], (H0 o))) rfl ?_
     obtain ⟨r131, hr131, h⟩ := bind_eq_some_iff.mp h
     refine QTri.callP W (a := 0) (as := [.int x1, .int x5]) (rest := []) (w := none) (σ₁ := (H0 r131)) rfl rfl rfl rfl rfl rfl rfl rfl (tF11 Ad W o x1 x5 hr131) ?_
     refine zS Ad W 3 (st' := (81, [vR 0, vI x1, vI x2, vI x3, vI x4, vI x5, vI x6], [.int x6, .int x1, .ref 0], (H0 r131))) rfl ?_
     obtain ⟨r132, hr132, h⟩ := bind_eq_some_iff.mp h
     refine QTri.callP W (a := 0) (as := [.int x1, .int x6]) (rest := []) (w := none) (σ₁ := (H0 r132)) rfl rfl rfl rfl rfl rfl rfl rfl (tF12 Ad W r131 x1 x6 hr132) ?_
     refine zS Ad W 2 (st' := (86, [vR 0, vI x1, vI x2, vI x3, vI x4, vI x5, vI x6], [.int x1, .ref 0], (H0 r132))) rfl ?_
     obtain ⟨r133, hr133, h⟩ := bind_eq_some_iff.mp h
     refine QTri.callP W (a := 0) (as := [.int x1]) (rest := []) (w := none) (σ₁ := (H0 r133)) rfl rfl rfl rfl rfl rfl rfl rfl (tF13 Ad W r132 x1 hr133) ?_
     refine zS Ad W 1 (st' := (98, [vR 0, vI x1, vI x2, vI x3, vI x4, vI x5, vI x6], [], (H0 r133))) rfl ?_
     obtain rfl := Option.some.inj h
     exact QTri.ret0 rfl rfl
    ·refine zT Ad W (t := 92) (f := 70) rfl (XT.ii_ne_t hc130) ?_
     refine zS Ad W 3 (st' := (95, [vR 0, vI x1, vI x2, vI x3, vI x4, vI x5, vI x6], [.int x3, .int x1, .ref 0], (H0 o))) rfl ?_
     obtain ⟨r142, hr142, h⟩ := bind_eq_some_iff.mp h
     refine QTri.callP W (a := 0) (as := [.int x1, .int x3]) (rest := []) (w := none) (σ₁ := (H0 r142)) rfl rfl rfl rfl rfl rfl rfl rfl (tF28 Ad W o x1 x3 hr142) ?_
     obtain rfl := Option.some.inj h
     exact QTri.ret0 rfl rfl
def B4_23 (x1 : Int32) (x2 : Int32) (x3 : Int32) (x4 : Int32) (x5 : Int32) (v : Int32 × Ob) : Option (((Ob)) ⊕ (Int32 × Ob)) :=
  (if v.1 < (4 : Int32) then (F8 v.2 v.1 x1 x2 x3 x4 x5).bind fun r143 => some (.inr ((v.1 + (1 : Int32)), r143)) else some (.inl v.2))
theorem tB4_23 (Ad : QAd n0 ad) (W : QW Z a0) (x1 : Int32) (x2 : Int32) (x3 : Int32) (x4 : Int32) (x5 : Int32) (v : Int32 × Ob) {r : ((Ob)) ⊕ (Int32 × Ob)} {u : Option Value} {τ : QHeap} (h : B4_23 x1 x2 x3 x4 x5 v = some r) (hx0 : ∀ x : Ob, r = .inl x → u = (none : Option Value) ∧ τ = (H0 x)) (hc : ∀ x : Int32 × Ob, r = .inr x → QTri l Z n0 ad 4 (23, [vR 0, vI x1, vI x2, vI x3, vI x4, vI x5, vI x.1], [], (H0 x.2)) u τ) : QTri l Z n0 ad 4 (23, [vR 0, vI x1, vI x2, vI x3, vI x4, vI x5, vI v.1], [], (H0 v.2)) u τ := by
 unfold B4_23 at h
 refine zS Ad W 2 (st' := (26, [vR 0, vI x1, vI x2, vI x3, vI x4, vI x5, vI v.1], [.int (4:Int32), .int v.1], (H0 v.2))) rfl ?_
 rcases qite h with ⟨hc38, h⟩ | ⟨hc38, h⟩
 ·refine zF Ad W (t := 48) (f := 29) rfl (XT.ii_ge_f hc38) ?_
  refine zS Ad W 7 (st' := (39, [vR 0, vI x1, vI x2, vI x3, vI x4, vI x5, vI v.1], [.int x5, .int x4, .int x3, .int x2, .int x1, .int v.1, .ref 0], (H0 v.2))) rfl ?_
  obtain ⟨r143, hr143, h⟩ := bind_eq_some_iff.mp h
  refine QTri.callP W (a := 0) (as := [.int v.1, .int x1, .int x2, .int x3, .int x4, .int x5]) (rest := []) (w := none) (σ₁ := (H0 r143)) rfl rfl rfl rfl rfl rfl rfl rfl (tF8 Ad W v.2 v.1 x1 x2 x3 x4 x5 hr143) ?_
  refine zS Ad W 2 (st' := (23, [vR 0, vI x1, vI x2, vI x3, vI x4, vI x5, vI (v.1 + (1:Int32))], [], (H0 r143))) rfl ?_
  obtain rfl := Option.some.inj h
  exact zM [tt,tt,tt,tt,tt,tt,tt] (hc ((v.1 + (1:Int32)), r143) rfl)
 ·refine zT Ad W (t := 48) (f := 29) rfl (XT.ii_ge_t hc38) ?_
  obtain rfl := Option.some.inj h
  obtain ⟨rfl, rfl⟩ := hx0 v.2 rfl
  exact QTri.ret0 rfl rfl
/-- multicastSource(III)V -/
def F4 (o : Ob) (x1 : Int32) (x2 : Int32) (x3 : Int32) : Option (Ob) :=
 (F5 o).bind fun r21 => (F6 o).bind fun r23 => (F7 o x1 x2 r23).bind fun r37 => (loopN (B4_23 x1 x2 x3 r21 r23) qN ((0:Int32), r37)).bind fun e144 => some e144
theorem tF4 (Ad : QAd n0 ad) (W : QW Z a0) (o : Ob) (x1 : Int32) (x2 : Int32) (x3 : Int32) {r : Ob} (h : F4 o x1 x2 x3 = some r) : QTri l Z n0 ad 4 (0, qentry [.ref 0, .int x1, .int x2, .int x3] (pMaxL 4), [], (H0 o)) (none : Option Value) (H0 r) := by
 unfold F4 at h
 refine zS Ad W 1 (st' := (1, [vR 0, vI x1, vI x2, vI x3, none, none, none], [.ref 0], (H0 o))) rfl ?_
 obtain ⟨r21, hr21, h⟩ := bind_eq_some_iff.mp h
 refine QTri.callP W (a := 0) (as := []) (rest := []) (w := (some (.int r21))) (σ₁ := (H0 o)) rfl rfl rfl rfl rfl rfl rfl rfl (tF5 Ad W o hr21) ?_
 refine zS Ad W 2 (st' := (7, [vR 0, vI x1, vI x2, vI x3, vI r21, none, none], [.ref 0], (H0 o))) rfl ?_
 obtain ⟨r23, hr23, h⟩ := bind_eq_some_iff.mp h
 refine QTri.callP W (a := 0) (as := []) (rest := []) (w := (some (.int r23))) (σ₁ := (H0 o)) rfl rfl rfl rfl rfl rfl rfl rfl (tF6 Ad W o hr23) ?_
 refine zS Ad W 5 (st' := (17, [vR 0, vI x1, vI x2, vI x3, vI r21, vI r23, none], [.int r23, .int x2, .int x1, .ref 0], (H0 o))) rfl ?_
 obtain ⟨r37, hr37, h⟩ := bind_eq_some_iff.mp h
 refine QTri.callP W (a := 0) (as := [.int x1, .int x2, .int r23]) (rest := []) (w := none) (σ₁ := (H0 r37)) rfl rfl rfl rfl rfl rfl rfl rfl (tF7 Ad W o x1 x2 r23 hr37) ?_
 refine zS Ad W 2 (st' := (23, [vR 0, vI x1, vI x2, vI x3, vI r21, vI r23, vI (0:Int32)], [], (H0 r37))) rfl ?_
 obtain ⟨e144, he144, h⟩ := bind_eq_some_iff.mp h
 refine zM [tt,tt,tt,tt,tt,tt,tt] (loopN_tri (B := B4_23 x1 x2 x3 r21 r23) (T := fun lv145 => QTri l Z n0 ad 4 (23, [vR 0, vI x1, vI x2, vI x3, vI r21, vI r23, vI lv145.1], [], (H0 lv145.2)) (none : Option Value) (H0 r)) (KE := fun e144a => (none : Option Value) = (none : Option Value) ∧ (H0 r) = (H0 e144a)) (fun lv145 r hB hE hC => tB4_23 Ad W x1 x2 x3 r21 r23 lv145 hB (fun x q => hE _ q) (fun x q => hC x q)) qN ((0:Int32), r37) e144 he144 ?_)
 obtain rfl := Option.some.inj h
 exact ⟨rfl, rfl⟩
/-- send(I)I -/
def F3 (o : Ob) (x1 : Int32) : Option (Int32 × Ob) :=
 (if x1 < (0:Int32) then some ((-1:Int32), o) else (if (255:Int32) < x1 then some ((-1:Int32), o) else (if (f_nextSeq o) < (32:Int32) then (aset (f_srcPayload o) (f_nextSeq o) x1).bind fun y17 => (aget (f_stats o) (1:Int32)).bind fun y18 => (aset (f_stats o) (1:Int32) (y18 + (1:Int32))).bind fun y19 => (F4 (s_stats (s_nextSeq (s_srcPayload o y17) ((f_nextSeq o) + (1:Int32))) y19) (0:Int32) (f_nextSeq o) x1).bind fun r146 => some ((f_nextSeq o), r146) else some ((-1:Int32), o))))
theorem tF3 (Ad : QAd n0 ad) (W : QW Z a0) (o : Ob) (x1 : Int32) {r : Int32 × Ob} (h : F3 o x1 = some r) : QTri l Z n0 ad 3 (0, qentry [.ref 0, .int x1] (pMaxL 3), [], (H0 o)) (some (Value.int r.1)) (H0 r.2) := by
 unfold F3 at h
 refine zS Ad W 1 (st' := (1, [vR 0, vI x1, none], [.int x1], (H0 o))) rfl ?_
 rcases qite h with ⟨hc14, h⟩ | ⟨hc14, h⟩
 ·refine zT Ad W (t := 11) (f := 4) rfl (XT.i0_lt_t hc14) ?_
  refine zS Ad W 1 (st' := (12, [vR 0, vI x1, none], [.int (-1:Int32)], (H0 o))) rfl ?_
  obtain rfl := Option.some.inj h
  exact QTri.retI rfl rfl
 ·refine zF Ad W (t := 11) (f := 4) rfl (XT.i0_lt_f hc14) ?_
  refine zS Ad W 2 (st' := (8, [vR 0, vI x1, none], [.int (255:Int32), .int x1], (H0 o))) rfl ?_
  rcases qite h with ⟨hc15, h⟩ | ⟨hc15, h⟩
  ·refine zF Ad W (t := 13) (f := 11) rfl (XT.ii_le_f hc15) ?_
   refine zS Ad W 1 (st' := (12, [vR 0, vI x1, none], [.int (-1:Int32)], (H0 o))) rfl ?_
   obtain rfl := Option.some.inj h
   exact QTri.retI rfl rfl
  ·refine zT Ad W (t := 13) (f := 11) rfl (XT.ii_le_t hc15) ?_
   refine zS Ad W 3 (st' := (19, [vR 0, vI x1, none], [.int (32:Int32), .int (f_nextSeq o)], (H0 o))) rfl ?_
   rcases qite h with ⟨hc16, h⟩ | ⟨hc16, h⟩
   ·refine zT Ad W (t := 24) (f := 22) rfl (XT.ii_lt_t hc16) ?_
    refine zS Ad W 7 (st' := (35, [vR 0, vI x1, vI (f_nextSeq o)], [.int x1, .int (f_nextSeq o), .ref 1], (H0 o))) rfl ?_
    obtain ⟨y17, hy17, h⟩ := bind_eq_some_iff.mp h
    refine zB Ad W (f := fun y17 => (36, [vR 0, vI x1, vI (f_nextSeq o)], [], (H0x6 o y17))) rfl hy17 ?_
    refine zS Ad W 6 (st' := (46, [vR 0, vI x1, vI (f_nextSeq o)], [], (H0x7 o y17 ((f_nextSeq o) + (1:Int32))))) rfl ?_
    refine zS Ad W 4 (st' := (52, [vR 0, vI x1, vI (f_nextSeq o)], [.int (1:Int32), .ref 4, .int (1:Int32), .ref 4], (H0x7 o y17 ((f_nextSeq o) + (1:Int32))))) rfl ?_
    obtain ⟨y18, hy18, h⟩ := bind_eq_some_iff.mp h
    refine zB Ad W (f := fun y18 => (53, [vR 0, vI x1, vI (f_nextSeq o)], [.int y18, .int (1:Int32), .ref 4], (H0x7 o y17 ((f_nextSeq o) + (1:Int32))))) rfl hy18 ?_
    refine zS Ad W 2 (st' := (55, [vR 0, vI x1, vI (f_nextSeq o)], [.int (y18 + (1:Int32)), .int (1:Int32), .ref 4], (H0x7 o y17 ((f_nextSeq o) + (1:Int32))))) rfl ?_
    obtain ⟨y19, hy19, h⟩ := bind_eq_some_iff.mp h
    refine zB Ad W (f := fun y19 => (56, [vR 0, vI x1, vI (f_nextSeq o)], [], (H0x8 o y17 y19 ((f_nextSeq o) + (1:Int32))))) rfl hy19 ?_
    refine zS Ad W 4 (st' := (60, [vR 0, vI x1, vI (f_nextSeq o)], [.int x1, .int (f_nextSeq o), .int (0:Int32), .ref 0], (H0x8 o y17 y19 ((f_nextSeq o) + (1:Int32))))) rfl ?_
    have E20 : ((H0x8 o y17 y19 ((f_nextSeq o) + (1:Int32))) : QHeap) = (H0 (s_stats (s_nextSeq (s_srcPayload o y17) ((f_nextSeq o) + (1:Int32))) y19)) := by simp only [fs, H0, H0v, H0x8, s_srcPayload, s_stats, s_nextSeq]
    rw [E20]
    obtain ⟨r146, hr146, h⟩ := bind_eq_some_iff.mp h
    refine QTri.callP W (a := 0) (as := [.int (0:Int32), .int (f_nextSeq o), .int x1]) (rest := []) (w := none) (σ₁ := (H0 r146)) rfl rfl rfl rfl rfl rfl rfl rfl (tF4 Ad W (s_stats (s_nextSeq (s_srcPayload o y17) ((f_nextSeq o) + (1:Int32))) y19) (0:Int32) (f_nextSeq o) x1 hr146) ?_
    refine zS Ad W 1 (st' := (64, [vR 0, vI x1, vI (f_nextSeq o)], [.int (f_nextSeq o)], (H0 r146))) rfl ?_
    obtain rfl := Option.some.inj h
    exact QTri.retI rfl rfl
   ·refine zF Ad W (t := 24) (f := 22) rfl (XT.ii_lt_f hc16) ?_
    refine zS Ad W 1 (st' := (23, [vR 0, vI x1, none], [.int (-1:Int32)], (H0 o))) rfl ?_
    obtain rfl := Option.some.inj h
    exact QTri.retI rfl rfl
/-- validRx(I)Z -/
def F16 (x1 : Int32) : Option (Int32) :=
 (if x1 < (0:Int32) then some (0:Int32) else (if x1 < (4:Int32) then some (1:Int32) else some (0:Int32)))
theorem tF16 (Ad : QAd n0 ad) (W : QW Z a0) {a : Nat} {σ : QHeap} (x1 : Int32) {r : Int32} (h : F16 x1 = some r) : QTri l Z n0 ad 16 (0, qentry [.ref a, .int x1] (pMaxL 16), [], σ) (some (Value.int r)) σ := by
 unfold F16 at h
 refine zS Ad W 1 (st' := (1, [vR a, vI x1], [.int x1], σ)) rfl ?_
 rcases qite h with ⟨hc149, h⟩ | ⟨hc149, h⟩
 ·refine zT Ad W (t := 13) (f := 4) rfl (XT.i0_lt_t hc149) ?_
  refine zS Ad W 1 (st' := (14, [vR a, vI x1], [.int (0:Int32)], σ)) rfl ?_
  obtain rfl := Option.some.inj h
  exact QTri.retZ rfl rfl
 ·refine zF Ad W (t := 13) (f := 4) rfl (XT.i0_lt_f hc149) ?_
  refine zS Ad W 2 (st' := (6, [vR a, vI x1], [.int (4:Int32), .int x1], σ)) rfl ?_
  rcases qite h with ⟨hc150, h⟩ | ⟨hc150, h⟩
  ·refine zF Ad W (t := 13) (f := 9) rfl (XT.ii_ge_f hc150) ?_
   refine zS Ad W 2 (st' := (14, [vR a, vI x1], [.int (1:Int32)], σ)) rfl ?_
   obtain rfl := Option.some.inj h
   exact QTri.retZ rfl rfl
  ·refine zT Ad W (t := 13) (f := 9) rfl (XT.ii_ge_t hc150) ?_
   refine zS Ad W 1 (st' := (14, [vR a, vI x1], [.int (0:Int32)], σ)) rfl ?_
   obtain rfl := Option.some.inj h
   exact QTri.retZ rfl rfl
/-- setLoss(II)Z -/
def F15 (o : Ob) (x1 : Int32) (x2 : Int32) : Option (Int32 × Ob) :=
 (F16 x1).bind fun r151 => (if r151 = (0:Int32) then some ((0:Int32), o) else (F2 x2 (0:Int32) (255:Int32)).bind fun r153 => (aset (f_lossLeft o) x1 r153).bind fun y154 => some ((1:Int32), (s_lossLeft o y154)))
theorem tF15 (Ad : QAd n0 ad) (W : QW Z a0) (o : Ob) (x1 : Int32) (x2 : Int32) {r : Int32 × Ob} (h : F15 o x1 x2 = some r) : QTri l Z n0 ad 15 (0, qentry [.ref 0, .int x1, .int x2] (pMaxL 15), [], (H0 o)) (some (Value.int r.1)) (H0 r.2) := by
 unfold F15 at h
 refine zS Ad W 2 (st' := (2, [vR 0, vI x1, vI x2], [.int x1, .ref 0], (H0 o))) rfl ?_
 obtain ⟨r151, hr151, h⟩ := bind_eq_some_iff.mp h
 refine QTri.callP W (a := 0) (as := [.int x1]) (rest := []) (w := (some (.int r151))) (σ₁ := (H0 o)) rfl rfl rfl rfl rfl rfl rfl rfl (tF16 Ad W x1 hr151) ?_
 rcases qite h with ⟨hc152, h⟩ | ⟨hc152, h⟩
 ·refine zF Ad W (t := 10) (f := 8) rfl (XT.i0_ne_f hc152) ?_
  refine zS Ad W 1 (st' := (9, [vR 0, vI x1, vI x2], [.int (0:Int32)], (H0 o))) rfl ?_
  obtain rfl := Option.some.inj h
  exact QTri.retZ rfl rfl
 ·refine zT Ad W (t := 10) (f := 8) rfl (XT.i0_ne_t hc152) ?_
  refine zS Ad W 7 (st' := (21, [vR 0, vI x1, vI x2], [.int (255:Int32), .int (0:Int32), .int x2, .ref 0, .int x1, .ref 11], (H0 o))) rfl ?_
  obtain ⟨r153, hr153, h⟩ := bind_eq_some_iff.mp h
  refine QTri.callP W (a := 0) (as := [.int x2, .int (0:Int32), .int (255:Int32)]) (rest := [.int x1, .ref 11]) (w := (some (.int r153))) (σ₁ := (H0 o)) rfl rfl rfl rfl rfl rfl rfl rfl (tF2 Ad W x2 (0:Int32) (255:Int32) hr153) ?_
  obtain ⟨y154, hy154, h⟩ := bind_eq_some_iff.mp h
  refine zB Ad W (f := fun y154 => (25, [vR 0, vI x1, vI x2], [], (H0x10 o y154))) rfl hy154 ?_
  refine zS Ad W 1 (st' := (26, [vR 0, vI x1, vI x2], [.int (1:Int32)], (H0x10 o y154))) rfl ?_
  have E155 : ((H0x10 o y154) : QHeap) = (H0 (s_lossLeft o y154)) := by simp only [fs, H0, H0v, H0x10, s_lossLeft]
  rw [E155]
  obtain rfl := Option.some.inj h
  exact QTri.retZ rfl rfl
/-- rxState(II)I -/
def F18 (o : Ob) (x1 : Int32) (x2 : Int32) : Option (Int32) :=
 (F16 x1).bind fun r162 => (if r162 = (0:Int32) then some (-1:Int32) else (F10 x2).bind fun r164 => (if r164 = (0:Int32) then some (-1:Int32) else (aget (f_state o) ((x1 * (32:Int32)) + x2)).bind fun y166 => some y166))
theorem tF18 (Ad : QAd n0 ad) (W : QW Z a0) (o : Ob) (x1 : Int32) (x2 : Int32) {r : Int32} (h : F18 o x1 x2 = some r) : QTri l Z n0 ad 18 (0, qentry [.ref 0, .int x1, .int x2] (pMaxL 18), [], (H0 o)) (some (Value.int r)) (H0 o) := by
 unfold F18 at h
 refine zS Ad W 2 (st' := (2, [vR 0, vI x1, vI x2], [.int x1, .ref 0], (H0 o))) rfl ?_
 obtain ⟨r162, hr162, h⟩ := bind_eq_some_iff.mp h
 refine QTri.callP W (a := 0) (as := [.int x1]) (rest := []) (w := (some (.int r162))) (σ₁ := (H0 o)) rfl rfl rfl rfl rfl rfl rfl rfl (tF16 Ad W x1 hr162) ?_
 rcases qite h with ⟨hc163, h⟩ | ⟨hc163, h⟩
 ·refine zT Ad W (t := 16) (f := 8) rfl (XT.i0_eq_t hc163) ?_
  refine zS Ad W 1 (st' := (17, [vR 0, vI x1, vI x2], [.int (-1:Int32)], (H0 o))) rfl ?_
  obtain rfl := Option.some.inj h
  exact QTri.retI rfl rfl
 ·refine zF Ad W (t := 16) (f := 8) rfl (XT.i0_eq_f hc163) ?_
  refine zS Ad W 2 (st' := (10, [vR 0, vI x1, vI x2], [.int x2, .ref 0], (H0 o))) rfl ?_
  obtain ⟨r164, hr164, h⟩ := bind_eq_some_iff.mp h
  refine QTri.callP W (a := 0) (as := [.int x2]) (rest := []) (w := (some (.int r164))) (σ₁ := (H0 o)) rfl rfl rfl rfl rfl rfl rfl rfl (tF10 Ad W x2 hr164) ?_
  rcases qite h with ⟨hc165, h⟩ | ⟨hc165, h⟩
  ·refine zF Ad W (t := 18) (f := 16) rfl (XT.i0_ne_f hc165) ?_
   refine zS Ad W 1 (st' := (17, [vR 0, vI x1, vI x2], [.int (-1:Int32)], (H0 o))) rfl ?_
   obtain rfl := Option.some.inj h
   exact QTri.retI rfl rfl
  ·refine zT Ad W (t := 18) (f := 16) rfl (XT.i0_ne_t hc165) ?_
   refine zS Ad W 7 (st' := (28, [vR 0, vI x1, vI x2], [.int ((x1 * (32:Int32)) + x2), .ref 5], (H0 o))) rfl ?_
   obtain ⟨y166, hy166, h⟩ := bind_eq_some_iff.mp h
   refine zB Ad W (f := fun y166 => (29, [vR 0, vI x1, vI x2], [.int y166], (H0 o))) rfl hy166 ?_
   obtain rfl := Option.some.inj h
   exact QTri.retI rfl rfl
/-- rxTimer(II)I -/
def F19 (o : Ob) (x1 : Int32) (x2 : Int32) : Option (Int32) :=
 (F16 x1).bind fun r169 => (if r169 = (0:Int32) then some (-1:Int32) else (F10 x2).bind fun r171 => (if r171 = (0:Int32) then some (-1:Int32) else (aget (f_timer o) ((x1 * (32:Int32)) + x2)).bind fun y173 => some y173))
theorem tF19 (Ad : QAd n0 ad) (W : QW Z a0) (o : Ob) (x1 : Int32) (x2 : Int32) {r : Int32} (h : F19 o x1 x2 = some r) : QTri l Z n0 ad 19 (0, qentry [.ref 0, .int x1, .int x2] (pMaxL 19), [], (H0 o)) (some (Value.int r)) (H0 o) := by
 unfold F19 at h
 refine zS Ad W 2 (st' := (2, [vR 0, vI x1, vI x2], [.int x1, .ref 0], (H0 o))) rfl ?_
 obtain ⟨r169, hr169, h⟩ := bind_eq_some_iff.mp h
 refine QTri.callP W (a := 0) (as := [.int x1]) (rest := []) (w := (some (.int r169))) (σ₁ := (H0 o)) rfl rfl rfl rfl rfl rfl rfl rfl (tF16 Ad W x1 hr169) ?_
 rcases qite h with ⟨hc170, h⟩ | ⟨hc170, h⟩
 ·refine zT Ad W (t := 16) (f := 8) rfl (XT.i0_eq_t hc170) ?_
  refine zS Ad W 1 (st' := (17, [vR 0, vI x1, vI x2], [.int (-1:Int32)], (H0 o))) rfl ?_
  obtain rfl := Option.some.inj h
  exact QTri.retI rfl rfl
 ·refine zF Ad W (t := 16) (f := 8) rfl (XT.i0_eq_f hc170) ?_
  refine zS Ad W 2 (st' := (10, [vR 0, vI x1, vI x2], [.int x2, .ref 0], (H0 o))) rfl ?_
  obtain ⟨r171, hr171, h⟩ := bind_eq_some_iff.mp h
  refine QTri.callP W (a := 0) (as := [.int x2]) (rest := []) (w := (some (.int r171))) (σ₁ := (H0 o)) rfl rfl rfl rfl rfl rfl rfl rfl (tF10 Ad W x2 hr171) ?_
  rcases qite h with ⟨hc172, h⟩ | ⟨hc172, h⟩
  ·refine zF Ad W (t := 18) (f := 16) rfl (XT.i0_ne_f hc172) ?_
   refine zS Ad W 1 (st' := (17, [vR 0, vI x1, vI x2], [.int (-1:Int32)], (H0 o))) rfl ?_
   obtain rfl := Option.some.inj h
   exact QTri.retI rfl rfl
  ·refine zT Ad W (t := 18) (f := 16) rfl (XT.i0_ne_t hc172) ?_
   refine zS Ad W 7 (st' := (28, [vR 0, vI x1, vI x2], [.int ((x1 * (32:Int32)) + x2), .ref 6], (H0 o))) rfl ?_
   obtain ⟨y173, hy173, h⟩ := bind_eq_some_iff.mp h
   refine zB Ad W (f := fun y173 => (29, [vR 0, vI x1, vI x2], [.int y173], (H0 o))) rfl hy173 ?_
   obtain rfl := Option.some.inj h
   exact QTri.retI rfl rfl
def H0x24 (o0 : Ob) (a0_3 : List Int32) : QHeap := H0v (f_srcPayload o0) (f_pend o0) (f_queue o0) a0_3 (f_state o0) (f_timer o0) (f_rxVal o0) (f_rxNext o0) (f_rxLead o0) (f_rxTrail o0) (f_lossLeft o0) (f_dups o0) (f_drops o0) (f_delSeq o0) (f_delVal o0) (f_delLen o0) (f_lostLog o0) (f_lostLen o0) (f_nakBuf o0) (f_win o0) (f_back o0) (f_repair o0) (f_period o0) (f_nextSeq o0) (f_qLen o0) (f_nakLen o0)
def J21_90 (o : Ob) (x1 : Int32) (x2 : Int32) : Option (((Ob)) ⊕ (Int32 × Ob)) :=
  some (.inr ((x2 + (1 : Int32)), o))
theorem tJ21_90 (Ad : QAd n0 ad) (W : QW Z a0) (o : Ob) (x1 : Int32) (x2 : Int32) {r : ((Ob)) ⊕ (Int32 × Ob)} {u : Option Value} {τ : QHeap} (h : J21_90 o x1 x2 = some r) (hx0 : ∀ x : Ob, r = .inl x → u = (none : Option Value) ∧ τ = (H0 x)) (hc : ∀ x : Int32 × Ob, r = .inr x → QTri l Z n0 ad 21 (7, [vR 0, vI x1, vI x.1, none, none], [], (H0 x.2)) u τ) : QTri l Z n0 ad 21 (90, [vR 0, vI x1, vI x2, none, none], [], (H0 o)) u τ := by
 unfold J21_90 at h
 refine zS Ad W 2 (st' := (7, [vR 0, vI x1, vI (x2 + (1:Int32)), none, none], [], (H0 o))) rfl ?_
 obtain rfl := Option.some.inj h
 exact zM [tt,tt,tt,ff,ff] (hc ((x2 + (1:Int32)), o) rfl)
def J21_52 (o : Ob) (x1 : Int32) (x2 : Int32) (x3 : Int32) (x4 : Int32) : Option (((Ob)) ⊕ (Int32 × Ob)) :=
  (aget (f_stats o) (2 : Int32)).bind fun y191 => (aset (f_stats o) (2 : Int32) (y191 + (1 : Int32))).bind fun y192 => (F4 (s_stats o y192) (1 : Int32) x3 x4).bind fun r194 => (J21_90 r194 x1 x2)
theorem tJ21_52 (Ad : QAd n0 ad) (W : QW Z a0) (o : Ob) (x1 : Int32) (x2 : Int32) (x3 : Int32) (x4 : Int32) {r : ((Ob)) ⊕ (Int32 × Ob)} {u : Option Value} {τ : QHeap} (h : J21_52 o x1 x2 x3 x4 = some r) (hx0 : ∀ x : Ob, r = .inl x → u = (none : Option Value) ∧ τ = (H0 x)) (hc : ∀ x : Int32 × Ob, r = .inr x → QTri l Z n0 ad 21 (7, [vR 0, vI x1, vI x.1, none, none], [], (H0 x.2)) u τ) : QTri l Z n0 ad 21 (52, [vR 0, vI x1, vI x2, vI x3, vI x4], [], (H0 o)) u τ := by
 unfold J21_52 at h
 refine zS Ad W 4 (st' := (58, [vR 0, vI x1, vI x2, vI x3, vI x4], [.int (2:Int32), .ref 4, .int (2:Int32), .ref 4], (H0 o))) rfl ?_
 obtain ⟨y191, hy191, h⟩ := bind_eq_some_iff.mp h
 refine zB Ad W (f := fun y191 => (59, [vR 0, vI x1, vI x2, vI x3, vI x4], [.int y191, .int (2:Int32), .ref 4], (H0 o))) rfl hy191 ?_
 refine zS Ad W 2 (st' := (61, [vR 0, vI x1, vI x2, vI x3, vI x4], [.int (y191 + (1:Int32)), .int (2:Int32), .ref 4], (H0 o))) rfl ?_
 obtain ⟨y192, hy192, h⟩ := bind_eq_some_iff.mp h
 refine zB Ad W (f := fun y192 => (62, [vR 0, vI x1, vI x2, vI x3, vI x4], [], (H0x24 o y192))) rfl hy192 ?_
 refine zS Ad W 4 (st' := (67, [vR 0, vI x1, vI x2, vI x3, vI x4], [.int x4, .int x3, .int (1:Int32), .ref 0], (H0x24 o y192))) rfl ?_
 have E193 : ((H0x24 o y192) : QHeap) = (H0 (s_stats o y192)) := by simp only [fs, H0, H0v, H0x24, s_stats]
 rw [E193]
 obtain ⟨r194, hr194, h⟩ := bind_eq_some_iff.mp h
 refine QTri.callP W (a := 0) (as := [.int (1:Int32), .int x3, .int x4]) (rest := []) (w := none) (σ₁ := (H0 r194)) rfl rfl rfl rfl rfl rfl rfl rfl (tF4 Ad W (s_stats o y192) (1:Int32) x3 x4 hr194) ?_
 refine zS Ad W 1 (st' := (90, [vR 0, vI x1, vI x2, vI x3, vI x4], [], (H0 r194))) rfl ?_
 exact zM [tt,tt,tt,ff,ff] (tJ21_90 Ad W r194 x1 x2 h hx0 hc)
def H0x25 (o0 : Ob) (a0_24 : Int32) : QHeap := H0v (f_srcPayload o0) (f_pend o0) (f_queue o0) (f_stats o0) (f_state o0) (f_timer o0) (f_rxVal o0) (f_rxNext o0) (f_rxLead o0) (f_rxTrail o0) (f_lossLeft o0) (f_dups o0) (f_drops o0) (f_delSeq o0) (f_delVal o0) (f_delLen o0) (f_lostLog o0) (f_lostLen o0) (f_nakBuf o0) (f_win o0) (f_back o0) (f_repair o0) (f_period o0) (f_nextSeq o0) a0_24 (f_nakLen o0)
def J21_96 (o : Ob) : Option (((Ob)) ⊕ (Int32 × Ob)) :=
  some (.inl (s_qLen o (0 : Int32)))
theorem tJ21_96 (Ad : QAd n0 ad) (W : QW Z a0) (x1 : Int32) (o : Ob) {r : ((Ob)) ⊕ (Int32 × Ob)} {u : Option Value} {τ : QHeap} (h : J21_96 o = some r) (hx0 : ∀ x : Ob, r = .inl x → u = (none : Option Value) ∧ τ = (H0 x)) (hc : ∀ x : Int32 × Ob, r = .inr x → QTri l Z n0 ad 21 (7, [vR 0, vI x1, vI x.1, none, none], [], (H0 x.2)) u τ) : QTri l Z n0 ad 21 (96, [vR 0, none, none, none, none], [], (H0 o)) u τ := by
 unfold J21_96 at h
 refine zS Ad W 3 (st' := (101, [vR 0, none, none, none, none], [], (H0x25 o (0:Int32)))) rfl ?_
 have E196 : ((H0x25 o (0:Int32)) : QHeap) = (H0 (s_qLen o (0:Int32))) := by simp only [fs, H0, H0v, H0x25, s_qLen]
 rw [E196]
 obtain rfl := Option.some.inj h
 obtain ⟨rfl, rfl⟩ := hx0 (s_qLen o (0:Int32)) rfl
 exact QTri.ret0 rfl rfl
def B21_7 (x1 : Int32) (v : Int32 × Ob) : Option (((Ob)) ⊕ (Int32 × Ob)) :=
  (if v.1 < (f_qLen v.2) then (if v.1 < (64 : Int32) then (aget (f_queue v.2) v.1).bind fun y183 => (if y183 < x1 then (aget (f_stats v.2) (3 : Int32)).bind fun y185 => (aset (f_stats v.2) (3 : Int32) (y185 + (1 : Int32))).bind fun y186 => (F4 (s_stats v.2 y186) (2 : Int32) (0 : Int32) (0 : Int32)).bind fun r188 => (J21_90 r188 x1 v.1) else (F10 y183).bind fun r189 => (if r189 = (0 : Int32) then (J21_52 v.2 x1 v.1 y183 (0 : Int32)) else (aget (f_srcPayload v.2) y183).bind fun y195 => (J21_52 v.2 x1 v.1 y183 y195))) else (J21_96 v.2)) else (J21_96 v.2))
theorem tB21_7 (Ad : QAd n0 ad) (W : QW Z a0) (x1 : Int32) (v : Int32 × Ob) {r : ((Ob)) ⊕ (Int32 × Ob)} {u : Option Value} {τ : QHeap} (h : B21_7 x1 v = some r) (hx0 : ∀ x : Ob, r = .inl x → u = (none : Option Value) ∧ τ = (H0 x)) (hc : ∀ x : Int32 × Ob, r = .inr x → QTri l Z n0 ad 21 (7, [vR 0, vI x1, vI x.1, none, none], [], (H0 x.2)) u τ) : QTri l Z n0 ad 21 (7, [vR 0, vI x1, vI v.1, none, none], [], (H0 v.2)) u τ := by
 unfold B21_7 at h
 refine zS Ad W 3 (st' := (12, [vR 0, vI x1, vI v.1, none, none], [.int (f_qLen v.2), .int v.1], (H0 v.2))) rfl ?_
 rcases qite h with ⟨hc181, h⟩ | ⟨hc181, h⟩
 ·refine zF Ad W (t := 96) (f := 15) rfl (XT.ii_ge_f hc181) ?_
  refine zS Ad W 2 (st' := (18, [vR 0, vI x1, vI v.1, none, none], [.int (64:Int32), .int v.1], (H0 v.2))) rfl ?_
  rcases qite h with ⟨hc182, h⟩ | ⟨hc182, h⟩
  ·refine zF Ad W (t := 96) (f := 21) rfl (XT.ii_ge_f hc182) ?_
   refine zS Ad W 3 (st' := (26, [vR 0, vI x1, vI v.1, none, none], [.int v.1, .ref 3], (H0 v.2))) rfl ?_
   obtain ⟨y183, hy183, h⟩ := bind_eq_some_iff.mp h
   refine zB Ad W (f := fun y183 => (27, [vR 0, vI x1, vI v.1, none, none], [.int y183], (H0 v.2))) rfl hy183 ?_
   refine zS Ad W 3 (st' := (30, [vR 0, vI x1, vI v.1, vI y183, none], [.int x1, .int y183], (H0 v.2))) rfl ?_
   rcases qite h with ⟨hc184, h⟩ | ⟨hc184, h⟩
   ·refine zT Ad W (t := 73) (f := 33) rfl (XT.ii_lt_t hc184) ?_
    refine zS Ad W 4 (st' := (79, [vR 0, vI x1, vI v.1, vI y183, none], [.int (3:Int32), .ref 4, .int (3:Int32), .ref 4], (H0 v.2))) rfl ?_
    obtain ⟨y185, hy185, h⟩ := bind_eq_some_iff.mp h
    refine zB Ad W (f := fun y185 => (80, [vR 0, vI x1, vI v.1, vI y183, none], [.int y185, .int (3:Int32), .ref 4], (H0 v.2))) rfl hy185 ?_
    refine zS Ad W 2 (st' := (82, [vR 0, vI x1, vI v.1, vI y183, none], [.int (y185 + (1:Int32)), .int (3:Int32), .ref 4], (H0 v.2))) rfl ?_
    obtain ⟨y186, hy186, h⟩ := bind_eq_some_iff.mp h
    refine zB Ad W (f := fun y186 => (83, [vR 0, vI x1, vI v.1, vI y183, none], [], (H0x24 v.2 y186))) rfl hy186 ?_
    refine zS Ad W 4 (st' := (87, [vR 0, vI x1, vI v.1, vI y183, none], [.int (0:Int32), .int (0:Int32), .int (2:Int32), .ref 0], (H0x24 v.2 y186))) rfl ?_
    have E187 : ((H0x24 v.2 y186) : QHeap) = (H0 (s_stats v.2 y186)) := by simp only [fs, H0, H0v, H0x24, s_stats]
    rw [E187]
    obtain ⟨r188, hr188, h⟩ := bind_eq_some_iff.mp h
    refine QTri.callP W (a := 0) (as := [.int (2:Int32), .int (0:Int32), .int (0:Int32)]) (rest := []) (w := none) (σ₁ := (H0 r188)) rfl rfl rfl rfl rfl rfl rfl rfl (tF4 Ad W (s_stats v.2 y186) (2:Int32) (0:Int32) (0:Int32) hr188) ?_
    exact zM [tt,tt,tt,ff,ff] (tJ21_90 Ad W r188 x1 v.1 h hx0 hc)
   ·refine zF Ad W (t := 73) (f := 33) rfl (XT.ii_lt_f hc184) ?_
    refine zS Ad W 4 (st' := (38, [vR 0, vI x1, vI v.1, vI y183, vI (0:Int32)], [.int y183, .ref 0], (H0 v.2))) rfl ?_
    obtain ⟨r189, hr189, h⟩ := bind_eq_some_iff.mp h
    refine QTri.callP W (a := 0) (as := [.int y183]) (rest := []) (w := (some (.int r189))) (σ₁ := (H0 v.2)) rfl rfl rfl rfl rfl rfl rfl rfl (tF10 Ad W y183 hr189) ?_
    rcases qite h with ⟨hc190, h⟩ | ⟨hc190, h⟩
    ·refine zT Ad W (t := 52) (f := 44) rfl (XT.i0_eq_t hc190) ?_
     exact zM [tt,tt,tt,tt,tt] (tJ21_52 Ad W v.2 x1 v.1 y183 (0:Int32) h hx0 hc)
    ·refine zF Ad W (t := 52) (f := 44) rfl (XT.i0_eq_f hc190) ?_
     refine zS Ad W 3 (st' := (49, [vR 0, vI x1, vI v.1, vI y183, vI (0:Int32)], [.int y183, .ref 1], (H0 v.2))) rfl ?_
     obtain ⟨y195, hy195, h⟩ := bind_eq_some_iff.mp h
     refine zB Ad W (f := fun y195 => (50, [vR 0, vI x1, vI v.1, vI y183, vI (0:Int32)], [.int y195], (H0 v.2))) rfl hy195 ?_
     refine zS Ad W 1 (st' := (52, [vR 0, vI x1, vI v.1, vI y183, vI y195], [], (H0 v.2))) rfl ?_
     exact zM [tt,tt,tt,tt,tt] (tJ21_52 Ad W v.2 x1 v.1 y183 y195 h hx0 hc)
  ·refine zT Ad W (t := 96) (f := 21) rfl (XT.ii_ge_t hc182) ?_
   exact zM [tt,ff,ff,ff,ff] (tJ21_96 Ad W x1 v.2 h hx0 hc)
 ·refine zT Ad W (t := 96) (f := 15) rfl (XT.ii_ge_t hc181) ?_
  exact zM [tt,ff,ff,ff,ff] (tJ21_96 Ad W x1 v.2 h hx0 hc)
/-- serveQueue()V -/
def F21 (o : Ob) : Option (Ob) :=
 (F6 o).bind fun r180 => (loopN (B21_7 r180) qN ((0:Int32), o)).bind fun e197 => some e197
theorem tF21 (Ad : QAd n0 ad) (W : QW Z a0) (o : Ob) {r : Ob} (h : F21 o = some r) : QTri l Z n0 ad 21 (0, qentry [.ref 0] (pMaxL 21), [], (H0 o)) (none : Option Value) (H0 r) := by
 unfold F21 at h
 refine zS Ad W 1 (st' := (1, [vR 0, none, none, none, none], [.ref 0], (H0 o))) rfl ?_
 obtain ⟨r180, hr180, h⟩ := bind_eq_some_iff.mp h
 refine QTri.callP W (a := 0) (as := []) (rest := []) (w := (some (.int r180))) (σ₁ := (H0 o)) rfl rfl rfl rfl rfl rfl rfl rfl (tF6 Ad W o hr180) ?_
 refine zS Ad W 3 (st' := (7, [vR 0, vI r180, vI (0:Int32), none, none], [], (H0 o))) rfl ?_
 obtain ⟨e197, he197, h⟩ := bind_eq_some_iff.mp h
 refine zM [tt,tt,tt,ff,ff] (loopN_tri (B := B21_7 r180) (T := fun lv198 => QTri l Z n0 ad 21 (7, [vR 0, vI r180, vI lv198.1, none, none], [], (H0 lv198.2)) (none : Option Value) (H0 r)) (KE := fun e197a => (none : Option Value) = (none : Option Value) ∧ (H0 r) = (H0 e197a)) (fun lv198 r hB hE hC => tB21_7 Ad W r180 lv198 hB (fun x q => hE _ q) (fun x q => hC x q)) qN ((0:Int32), o) e197 he197 ?_)
 obtain rfl := Option.some.inj h
 exact ⟨rfl, rfl⟩
def H0x26 (o0 : Ob) (a0_25 : Int32) : QHeap := H0v (f_srcPayload o0) (f_pend o0) (f_queue o0) (f_stats o0) (f_state o0) (f_timer o0) (f_rxVal o0) (f_rxNext o0) (f_rxLead o0) (f_rxTrail o0) (f_lossLeft o0) (f_dups o0) (f_drops o0) (f_delSeq o0) (f_delVal o0) (f_delLen o0) (f_lostLog o0) (f_lostLen o0) (f_nakBuf o0) (f_win o0) (f_back o0) (f_repair o0) (f_period o0) (f_nextSeq o0) (f_qLen o0) a0_25
def H0x27 (o0 : Ob) (a0_4 : List Int32) (a0_5 : List Int32) (a0_18 : List Int32) : QHeap := H0v (f_srcPayload o0) (f_pend o0) (f_queue o0) (f_stats o0) a0_4 a0_5 (f_rxVal o0) (f_rxNext o0) (f_rxLead o0) (f_rxTrail o0) (f_lossLeft o0) (f_dups o0) (f_drops o0) (f_delSeq o0) (f_delVal o0) (f_delLen o0) (f_lostLog o0) (f_lostLen o0) a0_18 (f_win o0) (f_back o0) (f_repair o0) (f_period o0) (f_nextSeq o0) (f_qLen o0) (f_nakLen o0)
def H0x28 (o0 : Ob) (a0_4 : List Int32) (a0_5 : List Int32) (a0_18 : List Int32) (a0_25 : Int32) : QHeap := H0v (f_srcPayload o0) (f_pend o0) (f_queue o0) (f_stats o0) a0_4 a0_5 (f_rxVal o0) (f_rxNext o0) (f_rxLead o0) (f_rxTrail o0) (f_lossLeft o0) (f_dups o0) (f_drops o0) (f_delSeq o0) (f_delVal o0) (f_delLen o0) (f_lostLog o0) (f_lostLen o0) a0_18 (f_win o0) (f_back o0) (f_repair o0) (f_period o0) (f_nextSeq o0) (f_qLen o0) a0_25
def J23_102 (o : Ob) : Option (Ob) :=
  (aget (f_stats o) (4 : Int32)).bind fun y224 => (aset (f_stats o) (4 : Int32) (y224 + (1 : Int32))).bind fun y225 => some (s_stats o y225)
theorem tJ23_102 (Ad : QAd n0 ad) (W : QW Z a0) (o : Ob) {r : Ob} (h : J23_102 o = some r) : QTri l Z n0 ad 23 (102, [vR 0, none, none, none, none], [], (H0 o)) (none : Option Value) (H0 r) := by
 unfold J23_102 at h
 refine zS Ad W 4 (st' := (108, [vR 0, none, none, none, none], [.int (4:Int32), .ref 4, .int (4:Int32), .ref 4], (H0 o))) rfl ?_
 obtain ⟨y224, hy224, h⟩ := bind_eq_some_iff.mp h
 refine zB Ad W (f := fun y224 => (109, [vR 0, none, none, none, none], [.int y224, .int (4:Int32), .ref 4], (H0 o))) rfl hy224 ?_
 refine zS Ad W 2 (st' := (111, [vR 0, none, none, none, none], [.int (y224 + (1:Int32)), .int (4:Int32), .ref 4], (H0 o))) rfl ?_
 obtain ⟨y225, hy225, h⟩ := bind_eq_some_iff.mp h
 refine zB Ad W (f := fun y225 => (112, [vR 0, none, none, none, none], [], (H0x24 o y225))) rfl hy225 ?_
 refine zS Ad W 1 (st' := (133, [vR 0, none, none, none, none], [], (H0x24 o y225))) rfl ?_
 have E226 : ((H0x24 o y225) : QHeap) = (H0 (s_stats o y225)) := by simp only [fs, H0, H0v, H0x24, s_stats]
 rw [E226]
 obtain rfl := Option.some.inj h
 exact QTri.ret0 rfl rfl
/-- stepTimer(II)V -/
def F23 (o : Ob) (x1 : Int32) (x2 : Int32) : Option (Ob) :=
 (aget (f_state o) ((x1 * (32:Int32)) + x2)).bind fun y211 => (F24 y211).bind fun r212 => (if r212 = (0:Int32) then some o else (aget (f_timer o) ((x1 * (32:Int32)) + x2)).bind fun y214 => (aset (f_timer o) ((x1 * (32:Int32)) + x2) (y214 - (1:Int32))).bind fun y215 => (aget y215 ((x1 * (32:Int32)) + x2)).bind fun y216 => (if y216 = (0:Int32) then (if y211 = (1:Int32) then (aset (f_state o) ((x1 * (32:Int32)) + x2) (2:Int32)).bind fun y219 => (aset y215 ((x1 * (32:Int32)) + x2) (f_repair o)).bind fun y220 => (if (f_nakLen o) < (128:Int32) then (aset (f_nakBuf o) (f_nakLen o) ((x1 * (32:Int32)) + x2)).bind fun y222 => (J23_102 (s_nakLen (s_nakBuf (s_timer (s_state o y219) y220) y222) ((f_nakLen o) + (1:Int32)))) else (J23_102 (s_timer (s_state o y219) y220))) else (aset (f_state o) ((x1 * (32:Int32)) + x2) (1:Int32)).bind fun y228 => (F17 (s_state (s_timer o y215) y228) x1).bind fun r230 => (aset (f_timer (s_state (s_timer o y215) y228)) ((x1 * (32:Int32)) + x2) r230).bind fun y231 => some (s_timer (s_state (s_timer o y215) y228) y231)) else some (s_timer o y215)))
theorem tF23 (Ad : QAd n0 ad) (W : QW Z a0) (o : Ob) (x1 : Int32) (x2 : Int32) {r : Ob} (h : F23 o x1 x2 = some r) : QTri l Z n0 ad 23 (0, qentry [.ref 0, .int x1, .int x2] (pMaxL 23), [], (H0 o)) (none : Option Value) (H0 r) := by
 unfold F23 at h
 refine zS Ad W 9 (st' := (12, [vR 0, vI x1, vI x2, vI ((x1 * (32:Int32)) + x2), none], [.int ((x1 * (32:Int32)) + x2), .ref 5], (H0 o))) rfl ?_
 obtain ⟨y211, hy211, h⟩ := bind_eq_some_iff.mp h
 refine zB Ad W (f := fun y211 => (13, [vR 0, vI x1, vI x2, vI ((x1 * (32:Int32)) + x2), none], [.int y211], (H0 o))) rfl hy211 ?_
 refine zS Ad W 3 (st' := (18, [vR 0, vI x1, vI x2, vI ((x1 * (32:Int32)) + x2), vI y211], [.int y211, .ref 0], (H0 o))) rfl ?_
 obtain ⟨r212, hr212, h⟩ := bind_eq_some_iff.mp h
 refine QTri.callP W (a := 0) (as := [.int y211]) (rest := []) (w := (some (.int r212))) (σ₁ := (H0 o)) rfl rfl rfl rfl rfl rfl rfl rfl (tF24 Ad W y211 hr212) ?_
 rcases qite h with ⟨hc213, h⟩ | ⟨hc213, h⟩
 ·refine zF Ad W (t := 25) (f := 24) rfl (XT.i0_ne_f hc213) ?_
  obtain rfl := Option.some.inj h
  exact QTri.ret0 rfl rfl
 ·refine zT Ad W (t := 25) (f := 24) rfl (XT.i0_ne_t hc213) ?_
  refine zS Ad W 6 (st' := (35, [vR 0, vI x1, vI x2, vI ((x1 * (32:Int32)) + x2), vI y211], [.int ((x1 * (32:Int32)) + x2), .ref 6, .int ((x1 * (32:Int32)) + x2), .ref 6], (H0 o))) rfl ?_
  obtain ⟨y214, hy214, h⟩ := bind_eq_some_iff.mp h
  refine zB Ad W (f := fun y214 => (36, [vR 0, vI x1, vI x2, vI ((x1 * (32:Int32)) + x2), vI y211], [.int y214, .int ((x1 * (32:Int32)) + x2), .ref 6], (H0 o))) rfl hy214 ?_
  refine zS Ad W 2 (st' := (38, [vR 0, vI x1, vI x2, vI ((x1 * (32:Int32)) + x2), vI y211], [.int (y214 - (1:Int32)), .int ((x1 * (32:Int32)) + x2), .ref 6], (H0 o))) rfl ?_
  obtain ⟨y215, hy215, h⟩ := bind_eq_some_iff.mp h
  refine zB Ad W (f := fun y215 => (39, [vR 0, vI x1, vI x2, vI ((x1 * (32:Int32)) + x2), vI y211], [], (H0x14 o y215))) rfl hy215 ?_
  refine zS Ad W 3 (st' := (44, [vR 0, vI x1, vI x2, vI ((x1 * (32:Int32)) + x2), vI y211], [.int ((x1 * (32:Int32)) + x2), .ref 6], (H0x14 o y215))) rfl ?_
  obtain ⟨y216, hy216, h⟩ := bind_eq_some_iff.mp h
  refine zB Ad W (f := fun y216 => (45, [vR 0, vI x1, vI x2, vI ((x1 * (32:Int32)) + x2), vI y211], [.int y216], (H0x14 o y215))) rfl hy216 ?_
  rcases qite h with ⟨hc217, h⟩ | ⟨hc217, h⟩
  ·refine zT Ad W (t := 49) (f := 48) rfl (XT.i0_eq_t hc217) ?_
   refine zS Ad W 2 (st' := (52, [vR 0, vI x1, vI x2, vI ((x1 * (32:Int32)) + x2), vI y211], [.int (1:Int32), .int y211], (H0x14 o y215))) rfl ?_
   rcases qite h with ⟨hc218, h⟩ | ⟨hc218, h⟩
   ·refine zF Ad W (t := 115) (f := 55) rfl (XT.ii_ne_f hc218) ?_
    refine zS Ad W 4 (st' := (61, [vR 0, vI x1, vI x2, vI ((x1 * (32:Int32)) + x2), vI y211], [.int (2:Int32), .int ((x1 * (32:Int32)) + x2), .ref 5], (H0x14 o y215))) rfl ?_
    obtain ⟨y219, hy219, h⟩ := bind_eq_some_iff.mp h
    refine zB Ad W (f := fun y219 => (62, [vR 0, vI x1, vI x2, vI ((x1 * (32:Int32)) + x2), vI y211], [], (H0x16 o y219 y215))) rfl hy219 ?_
    refine zS Ad W 5 (st' := (71, [vR 0, vI x1, vI x2, vI ((x1 * (32:Int32)) + x2), vI y211], [.int (f_repair o), .int ((x1 * (32:Int32)) + x2), .ref 6], (H0x16 o y219 y215))) rfl ?_
    obtain ⟨y220, hy220, h⟩ := bind_eq_some_iff.mp h
    refine zB Ad W (f := fun y220 => (72, [vR 0, vI x1, vI x2, vI ((x1 * (32:Int32)) + x2), vI y211], [], (H0x16 o y219 y220))) rfl hy220 ?_
    refine zS Ad W 3 (st' := (79, [vR 0, vI x1, vI x2, vI ((x1 * (32:Int32)) + x2), vI y211], [.int (128:Int32), .int (f_nakLen o)], (H0x16 o y219 y220))) rfl ?_
    rcases qite h with ⟨hc221, h⟩ | ⟨hc221, h⟩
    ·refine zF Ad W (t := 102) (f := 82) rfl (XT.ii_ge_f hc221) ?_
     refine zS Ad W 5 (st' := (91, [vR 0, vI x1, vI x2, vI ((x1 * (32:Int32)) + x2), vI y211], [.int ((x1 * (32:Int32)) + x2), .int (f_nakLen o), .ref 19], (H0x16 o y219 y220))) rfl ?_
     obtain ⟨y222, hy222, h⟩ := bind_eq_some_iff.mp h
     refine zB Ad W (f := fun y222 => (92, [vR 0, vI x1, vI x2, vI ((x1 * (32:Int32)) + x2), vI y211], [], (H0x27 o y219 y220 y222))) rfl hy222 ?_
     refine zS Ad W 6 (st' := (102, [vR 0, vI x1, vI x2, vI ((x1 * (32:Int32)) + x2), vI y211], [], (H0x28 o y219 y220 y222 ((f_nakLen o) + (1:Int32))))) rfl ?_
     have E223 : ((H0x28 o y219 y220 y222 ((f_nakLen o) + (1:Int32))) : QHeap) = (H0 (s_nakLen (s_nakBuf (s_timer (s_state o y219) y220) y222) ((f_nakLen o) + (1:Int32)))) := by simp only [fs, H0, H0v, H0x28, s_state, s_timer, s_nakBuf, s_nakLen]
     rw [E223]
     exact zM [tt,ff,ff,ff,ff] (tJ23_102 Ad W (s_nakLen (s_nakBuf (s_timer (s_state o y219) y220) y222) ((f_nakLen o) + (1:Int32))) h)
    ·refine zT Ad W (t := 102) (f := 82) rfl (XT.ii_ge_t hc221) ?_
     have E227 : ((H0x16 o y219 y220) : QHeap) = (H0 (s_timer (s_state o y219) y220)) := by simp only [fs, H0, H0v, H0x16, s_state, s_timer]
     rw [E227]
     exact zM [tt,ff,ff,ff,ff] (tJ23_102 Ad W (s_timer (s_state o y219) y220) h)
   ·refine zT Ad W (t := 115) (f := 55) rfl (XT.ii_ne_t hc218) ?_
    refine zS Ad W 4 (st' := (121, [vR 0, vI x1, vI x2, vI ((x1 * (32:Int32)) + x2), vI y211], [.int (1:Int32), .int ((x1 * (32:Int32)) + x2), .ref 5], (H0x14 o y215))) rfl ?_
    obtain ⟨y228, hy228, h⟩ := bind_eq_some_iff.mp h
    refine zB Ad W (f := fun y228 => (122, [vR 0, vI x1, vI x2, vI ((x1 * (32:Int32)) + x2), vI y211], [], (H0x16 o y228 y215))) rfl hy228 ?_
    refine zS Ad W 5 (st' := (129, [vR 0, vI x1, vI x2, vI ((x1 * (32:Int32)) + x2), vI y211], [.int x1, .ref 0, .int ((x1 * (32:Int32)) + x2), .ref 6], (H0x16 o y228 y215))) rfl ?_
    have E229 : ((H0x16 o y228 y215) : QHeap) = (H0 (s_state (s_timer o y215) y228)) := by simp only [fs, H0, H0v, H0x16, s_state, s_timer]
    rw [E229]
    obtain ⟨r230, hr230, h⟩ := bind_eq_some_iff.mp h
    refine QTri.callP W (a := 0) (as := [.int x1]) (rest := [.int ((x1 * (32:Int32)) + x2), .ref 6]) (w := (some (.int r230))) (σ₁ := (H0 (s_state (s_timer o y215) y228))) rfl rfl rfl rfl rfl rfl rfl rfl (tF17 Ad W (s_state (s_timer o y215) y228) x1 hr230) ?_
    obtain ⟨y231, hy231, h⟩ := bind_eq_some_iff.mp h
    refine zB Ad W (f := fun y231 => (133, [vR 0, vI x1, vI x2, vI ((x1 * (32:Int32)) + x2), vI y211], [], (H0x14 (s_state (s_timer o y215) y228) y231))) rfl hy231 ?_
    have E232 : ((H0x14 (s_state (s_timer o y215) y228) y231) : QHeap) = (H0 (s_timer (s_state (s_timer o y215) y228) y231)) := (show ∀ b0 : Ob, ((H0x14 b0 y231) : QHeap) = (H0 (s_timer b0 y231)) from fun b0 => by simp only [fs, H0, H0v, H0x14, s_timer]) (s_state (s_timer o y215) y228)
    rw [E232]
    obtain rfl := Option.some.inj h
    exact QTri.ret0 rfl rfl
  ·refine zF Ad W (t := 49) (f := 48) rfl (XT.i0_eq_f hc217) ?_
   have E233 : ((H0x14 o y215) : QHeap) = (H0 (s_timer o y215)) := by simp only [fs, H0, H0v, H0x14, s_timer]
   rw [E233]
   obtain rfl := Option.some.inj h
   exact QTri.ret0 rfl rfl
def B22_14 (x1 : Int32) (v : Int32 × Ob) : Option (((Ob)) ⊕ (Int32 × Ob)) :=
  (if v.1 < (32 : Int32) then (F23 v.2 x1 v.1).bind fun r234 => some (.inr ((v.1 + (1 : Int32)), r234)) else some (.inl v.2))
theorem tB22_14 (Ad : QAd n0 ad) (W : QW Z a0) (x1 : Int32) (v : Int32 × Ob) {r : ((Ob)) ⊕ (Int32 × Ob)} {u : Option Value} {τ : QHeap} (h : B22_14 x1 v = some r) (hx0 : ∀ x : Ob, r = .inl x → QTri l Z n0 ad 22 (32, [vR 0, vI x1, none], [], (H0 x)) u τ) (hc : ∀ x : Int32 × Ob, r = .inr x → QTri l Z n0 ad 22 (14, [vR 0, vI x1, vI x.1], [], (H0 x.2)) u τ) : QTri l Z n0 ad 22 (14, [vR 0, vI x1, vI v.1], [], (H0 v.2)) u τ := by
 unfold B22_14 at h
 refine zS Ad W 2 (st' := (17, [vR 0, vI x1, vI v.1], [.int (32:Int32), .int v.1], (H0 v.2))) rfl ?_
 rcases qite h with ⟨hc210, h⟩ | ⟨hc210, h⟩
 ·refine zF Ad W (t := 32) (f := 20) rfl (XT.ii_ge_f hc210) ?_
  refine zS Ad W 3 (st' := (23, [vR 0, vI x1, vI v.1], [.int v.1, .int x1, .ref 0], (H0 v.2))) rfl ?_
  obtain ⟨r234, hr234, h⟩ := bind_eq_some_iff.mp h
  refine QTri.callP W (a := 0) (as := [.int x1, .int v.1]) (rest := []) (w := none) (σ₁ := (H0 r234)) rfl rfl rfl rfl rfl rfl rfl rfl (tF23 Ad W v.2 x1 v.1 hr234) ?_
  refine zS Ad W 2 (st' := (14, [vR 0, vI x1, vI (v.1 + (1:Int32))], [], (H0 r234))) rfl ?_
  obtain rfl := Option.some.inj h
  exact zM [tt,tt,tt] (hc ((v.1 + (1:Int32)), r234) rfl)
 ·refine zT Ad W (t := 32) (f := 20) rfl (XT.ii_ge_t hc210) ?_
  obtain rfl := Option.some.inj h
  exact zM [tt,tt,ff] (hx0 v.2 rfl)
def B22_7 (v : Int32 × Ob) : Option (((Ob)) ⊕ (Int32 × Ob)) :=
  (if v.1 < (4 : Int32) then (loopN (B22_14 v.1) qN ((0 : Int32), v.2)).bind fun e235 => some (.inr ((v.1 + (1 : Int32)), e235)) else some (.inl v.2))
theorem tB22_7 (Ad : QAd n0 ad) (W : QW Z a0) (v : Int32 × Ob) {r : ((Ob)) ⊕ (Int32 × Ob)} {u : Option Value} {τ : QHeap} (h : B22_7 v = some r) (hx0 : ∀ x : Ob, r = .inl x → u = (none : Option Value) ∧ τ = (H0 x)) (hc : ∀ x : Int32 × Ob, r = .inr x → QTri l Z n0 ad 22 (7, [vR 0, vI x.1, none], [], (H0 x.2)) u τ) : QTri l Z n0 ad 22 (7, [vR 0, vI v.1, none], [], (H0 v.2)) u τ := by
 unfold B22_7 at h
 refine zS Ad W 2 (st' := (9, [vR 0, vI v.1, none], [.int (4:Int32), .int v.1], (H0 v.2))) rfl ?_
 rcases qite h with ⟨hc209, h⟩ | ⟨hc209, h⟩
 ·refine zF Ad W (t := 38) (f := 12) rfl (XT.ii_ge_f hc209) ?_
  refine zS Ad W 2 (st' := (14, [vR 0, vI v.1, vI (0:Int32)], [], (H0 v.2))) rfl ?_
  obtain ⟨e235, he235, h⟩ := bind_eq_some_iff.mp h
  refine zM [tt,tt,tt] (loopN_tri (B := B22_14 v.1) (T := fun lv236 => QTri l Z n0 ad 22 (14, [vR 0, vI v.1, vI lv236.1], [], (H0 lv236.2)) u τ) (KE := fun e235a => QTri l Z n0 ad 22 (32, [vR 0, vI v.1, none], [], (H0 e235a)) u τ) (fun lv236 r hB hE hC => tB22_14 Ad W v.1 lv236 hB (fun x q => hE _ q) (fun x q => hC x q)) qN ((0:Int32), v.2) e235 he235 ?_)
  refine zS Ad W 2 (st' := (7, [vR 0, vI (v.1 + (1:Int32)), none], [], (H0 e235))) rfl ?_
  obtain rfl := Option.some.inj h
  exact zM [tt,tt,ff] (hc ((v.1 + (1:Int32)), e235) rfl)
 ·refine zT Ad W (t := 38) (f := 12) rfl (XT.ii_ge_t hc209) ?_
  obtain rfl := Option.some.inj h
  obtain ⟨rfl, rfl⟩ := hx0 v.2 rfl
  exact QTri.ret0 rfl rfl
/-- runTimers()V -/
def F22 (o : Ob) : Option (Ob) :=
 (loopN (B22_7) qN ((0:Int32), (s_nakLen o (0:Int32)))).bind fun e237 => some e237
theorem tF22 (Ad : QAd n0 ad) (W : QW Z a0) (o : Ob) {r : Ob} (h : F22 o = some r) : QTri l Z n0 ad 22 (0, qentry [.ref 0] (pMaxL 22), [], (H0 o)) (none : Option Value) (H0 r) := by
 unfold F22 at h
 refine zS Ad W 3 (st' := (5, [vR 0, none, none], [], (H0x26 o (0:Int32)))) rfl ?_
 refine zS Ad W 2 (st' := (7, [vR 0, vI (0:Int32), none], [], (H0x26 o (0:Int32)))) rfl ?_
 have E208 : ((H0x26 o (0:Int32)) : QHeap) = (H0 (s_nakLen o (0:Int32))) := by simp only [fs, H0, H0v, H0x26, s_nakLen]
 rw [E208]
 obtain ⟨e237, he237, h⟩ := bind_eq_some_iff.mp h
 refine zM [tt,tt,ff] (loopN_tri (B := B22_7) (T := fun lv238 => QTri l Z n0 ad 22 (7, [vR 0, vI lv238.1, none], [], (H0 lv238.2)) (none : Option Value) (H0 r)) (KE := fun e237a => (none : Option Value) = (none : Option Value) ∧ (H0 r) = (H0 e237a)) (fun lv238 r hB hE hC => tB22_7 Ad W  lv238 hB (fun x q => hE _ q) (fun x q => hC x q)) qN ((0:Int32), (s_nakLen o (0:Int32))) e237 he237 ?_)
 obtain rfl := Option.some.inj h
 exact ⟨rfl, rfl⟩
def H0x29 (o0 : Ob) (a0_1 : List Int32) (a0_2 : List Int32) : QHeap := H0v (f_srcPayload o0) a0_1 a0_2 (f_stats o0) (f_state o0) (f_timer o0) (f_rxVal o0) (f_rxNext o0) (f_rxLead o0) (f_rxTrail o0) (f_lossLeft o0) (f_dups o0) (f_drops o0) (f_delSeq o0) (f_delVal o0) (f_delLen o0) (f_lostLog o0) (f_lostLen o0) (f_nakBuf o0) (f_win o0) (f_back o0) (f_repair o0) (f_period o0) (f_nextSeq o0) (f_qLen o0) (f_nakLen o0)
def H0x30 (o0 : Ob) (a0_1 : List Int32) (a0_2 : List Int32) (a0_24 : Int32) : QHeap := H0v (f_srcPayload o0) a0_1 a0_2 (f_stats o0) (f_state o0) (f_timer o0) (f_rxVal o0) (f_rxNext o0) (f_rxLead o0) (f_rxTrail o0) (f_lossLeft o0) (f_dups o0) (f_drops o0) (f_delSeq o0) (f_delVal o0) (f_delLen o0) (f_lostLog o0) (f_lostLen o0) (f_nakBuf o0) (f_win o0) (f_back o0) (f_repair o0) (f_period o0) (f_nextSeq o0) a0_24 (f_nakLen o0)
def B27_2 (x1 : Int32) (v : Int32 × Ob) : Option (((Ob)) ⊕ (Int32 × Ob)) :=
  (if v.1 < (4 : Int32) then (F8 v.2 v.1 (3 : Int32) x1 (0 : Int32) (0 : Int32) (0 : Int32)).bind fun r256 => some (.inr ((v.1 + (1 : Int32)), r256)) else some (.inl v.2))
theorem tB27_2 (Ad : QAd n0 ad) (W : QW Z a0) (x1 : Int32) (v : Int32 × Ob) {r : ((Ob)) ⊕ (Int32 × Ob)} {u : Option Value} {τ : QHeap} (h : B27_2 x1 v = some r) (hx0 : ∀ x : Ob, r = .inl x → u = (none : Option Value) ∧ τ = (H0 x)) (hc : ∀ x : Int32 × Ob, r = .inr x → QTri l Z n0 ad 27 (2, [vR 0, vI x1, vI x.1], [], (H0 x.2)) u τ) : QTri l Z n0 ad 27 (2, [vR 0, vI x1, vI v.1], [], (H0 v.2)) u τ := by
 unfold B27_2 at h
 refine zS Ad W 2 (st' := (4, [vR 0, vI x1, vI v.1], [.int (4:Int32), .int v.1], (H0 v.2))) rfl ?_
 rcases qite h with ⟨hc255, h⟩ | ⟨hc255, h⟩
 ·refine zF Ad W (t := 23) (f := 7) rfl (XT.ii_ge_f hc255) ?_
  refine zS Ad W 7 (st' := (14, [vR 0, vI x1, vI v.1], [.int (0:Int32), .int (0:Int32), .int (0:Int32), .int x1, .int (3:Int32), .int v.1, .ref 0], (H0 v.2))) rfl ?_
  obtain ⟨r256, hr256, h⟩ := bind_eq_some_iff.mp h
  refine QTri.callP W (a := 0) (as := [.int v.1, .int (3:Int32), .int x1, .int (0:Int32), .int (0:Int32), .int (0:Int32)]) (rest := []) (w := none) (σ₁ := (H0 r256)) rfl rfl rfl rfl rfl rfl rfl rfl (tF8 Ad W v.2 v.1 (3:Int32) x1 (0:Int32) (0:Int32) (0:Int32) hr256) ?_
  refine zS Ad W 2 (st' := (2, [vR 0, vI x1, vI (v.1 + (1:Int32))], [], (H0 r256))) rfl ?_
  obtain rfl := Option.some.inj h
  exact zM [tt,tt,tt] (hc ((v.1 + (1:Int32)), r256) rfl)
 ·refine zT Ad W (t := 23) (f := 7) rfl (XT.ii_ge_t hc255) ?_
  obtain rfl := Option.some.inj h
  obtain ⟨rfl, rfl⟩ := hx0 v.2 rfl
  exact QTri.ret0 rfl rfl
/-- multicastNcf(I)V -/
def F27 (o : Ob) (x1 : Int32) : Option (Ob) :=
 (loopN (B27_2 x1) qN ((0:Int32), o)).bind fun e257 => some e257
theorem tF27 (Ad : QAd n0 ad) (W : QW Z a0) (o : Ob) (x1 : Int32) {r : Ob} (h : F27 o x1 = some r) : QTri l Z n0 ad 27 (0, qentry [.ref 0, .int x1] (pMaxL 27), [], (H0 o)) (none : Option Value) (H0 r) := by
 unfold F27 at h
 refine zS Ad W 2 (st' := (2, [vR 0, vI x1, vI (0:Int32)], [], (H0 o))) rfl ?_
 obtain ⟨e257, he257, h⟩ := bind_eq_some_iff.mp h
 refine zM [tt,tt,tt] (loopN_tri (B := B27_2 x1) (T := fun lv258 => QTri l Z n0 ad 27 (2, [vR 0, vI x1, vI lv258.1], [], (H0 lv258.2)) (none : Option Value) (H0 r)) (KE := fun e257a => (none : Option Value) = (none : Option Value) ∧ (H0 r) = (H0 e257a)) (fun lv258 r hB hE hC => tB27_2 Ad W x1 lv258 hB (fun x q => hE _ q) (fun x q => hC x q)) qN ((0:Int32), o) e257 he257 ?_)
 obtain rfl := Option.some.inj h
 exact ⟨rfl, rfl⟩
def J26_78 (o : Ob) (x1 : Int32) : Option (Ob) :=
  (F27 o x1).bind fun r259 => (aget (f_stats r259) (7 : Int32)).bind fun y260 => (aset (f_stats r259) (7 : Int32) (y260 + (1 : Int32))).bind fun y261 => some (s_stats r259 y261)
theorem tJ26_78 (Ad : QAd n0 ad) (W : QW Z a0) (o : Ob) (x1 : Int32) {r : Ob} (h : J26_78 o x1 = some r) : QTri l Z n0 ad 26 (78, [vR 0, vI x1], [], (H0 o)) (none : Option Value) (H0 r) := by
 unfold J26_78 at h
 refine zS Ad W 2 (st' := (80, [vR 0, vI x1], [.int x1, .ref 0], (H0 o))) rfl ?_
 obtain ⟨r259, hr259, h⟩ := bind_eq_some_iff.mp h
 refine QTri.callP W (a := 0) (as := [.int x1]) (rest := []) (w := none) (σ₁ := (H0 r259)) rfl rfl rfl rfl rfl rfl rfl rfl (tF27 Ad W o x1 hr259) ?_
 refine zS Ad W 4 (st' := (90, [vR 0, vI x1], [.int (7:Int32), .ref 4, .int (7:Int32), .ref 4], (H0 r259))) rfl ?_
 obtain ⟨y260, hy260, h⟩ := bind_eq_some_iff.mp h
 refine zB Ad W (f := fun y260 => (91, [vR 0, vI x1], [.int y260, .int (7:Int32), .ref 4], (H0 r259))) rfl hy260 ?_
 refine zS Ad W 2 (st' := (93, [vR 0, vI x1], [.int (y260 + (1:Int32)), .int (7:Int32), .ref 4], (H0 r259))) rfl ?_
 obtain ⟨y261, hy261, h⟩ := bind_eq_some_iff.mp h
 refine zB Ad W (f := fun y261 => (94, [vR 0, vI x1], [], (H0x24 r259 y261))) rfl hy261 ?_
 have E262 : ((H0x24 r259 y261) : QHeap) = (H0 (s_stats r259 y261)) := by simp only [fs, H0, H0v, H0x24, s_stats]
 rw [E262]
 obtain rfl := Option.some.inj h
 exact QTri.ret0 rfl rfl
def J26_68 (o : Ob) (x1 : Int32) : Option (Ob) :=
  (aget (f_stats o) (5 : Int32)).bind fun y252 => (aset (f_stats o) (5 : Int32) (y252 + (1 : Int32))).bind fun y253 => (J26_78 (s_stats o y253) x1)
theorem tJ26_68 (Ad : QAd n0 ad) (W : QW Z a0) (o : Ob) (x1 : Int32) {r : Ob} (h : J26_68 o x1 = some r) : QTri l Z n0 ad 26 (68, [vR 0, vI x1], [], (H0 o)) (none : Option Value) (H0 r) := by
 unfold J26_68 at h
 refine zS Ad W 4 (st' := (74, [vR 0, vI x1], [.int (5:Int32), .ref 4, .int (5:Int32), .ref 4], (H0 o))) rfl ?_
 obtain ⟨y252, hy252, h⟩ := bind_eq_some_iff.mp h
 refine zB Ad W (f := fun y252 => (75, [vR 0, vI x1], [.int y252, .int (5:Int32), .ref 4], (H0 o))) rfl hy252 ?_
 refine zS Ad W 2 (st' := (77, [vR 0, vI x1], [.int (y252 + (1:Int32)), .int (5:Int32), .ref 4], (H0 o))) rfl ?_
 obtain ⟨y253, hy253, h⟩ := bind_eq_some_iff.mp h
 refine zB Ad W (f := fun y253 => (78, [vR 0, vI x1], [], (H0x24 o y253))) rfl hy253 ?_
 have E254 : ((H0x24 o y253) : QHeap) = (H0 (s_stats o y253)) := by simp only [fs, H0, H0v, H0x24, s_stats]
 rw [E254]
 exact zM [tt,tt] (tJ26_78 Ad W (s_stats o y253) x1 h)
/-- handleNak(I)V -/
def F26 (o : Ob) (x1 : Int32) : Option (Ob) :=
 (F10 x1).bind fun r244 => (if r244 = (0:Int32) then some o else (aget (f_pend o) x1).bind fun y246 => (if y246 = (0:Int32) then (aset (f_pend o) x1 (1:Int32)).bind fun y248 => (if (f_qLen o) < (64:Int32) then (aset (f_queue o) (f_qLen o) x1).bind fun y250 => (J26_68 (s_qLen (s_queue (s_pend o y248) y250) ((f_qLen o) + (1:Int32))) x1) else (J26_68 (s_pend o y248) x1)) else (aget (f_stats o) (6:Int32)).bind fun y264 => (aset (f_stats o) (6:Int32) (y264 + (1:Int32))).bind fun y265 => (J26_78 (s_stats o y265) x1)))
theorem tF26 (Ad : QAd n0 ad) (W : QW Z a0) (o : Ob) (x1 : Int32) {r : Ob} (h : F26 o x1 = some r) : QTri l Z n0 ad 26 (0, qentry [.ref 0, .int x1] (pMaxL 26), [], (H0 o)) (none : Option Value) (H0 r) := by
 unfold F26 at h
 refine zS Ad W 2 (st' := (2, [vR 0, vI x1], [.int x1, .ref 0], (H0 o))) rfl ?_
 obtain ⟨r244, hr244, h⟩ := bind_eq_some_iff.mp h
 refine QTri.callP W (a := 0) (as := [.int x1]) (rest := []) (w := (some (.int r244))) (σ₁ := (H0 o)) rfl rfl rfl rfl rfl rfl rfl rfl (tF10 Ad W x1 hr244) ?_
 rcases qite h with ⟨hc245, h⟩ | ⟨hc245, h⟩
 ·refine zF Ad W (t := 9) (f := 8) rfl (XT.i0_ne_f hc245) ?_
  obtain rfl := Option.some.inj h
  exact QTri.ret0 rfl rfl
 ·refine zT Ad W (t := 9) (f := 8) rfl (XT.i0_ne_t hc245) ?_
  refine zS Ad W 3 (st' := (14, [vR 0, vI x1], [.int x1, .ref 2], (H0 o))) rfl ?_
  obtain ⟨y246, hy246, h⟩ := bind_eq_some_iff.mp h
  refine zB Ad W (f := fun y246 => (15, [vR 0, vI x1], [.int y246], (H0 o))) rfl hy246 ?_
  rcases qite h with ⟨hc247, h⟩ | ⟨hc247, h⟩
  ·refine zT Ad W (t := 32) (f := 18) rfl (XT.i0_eq_t hc247) ?_
   refine zS Ad W 4 (st' := (38, [vR 0, vI x1], [.int (1:Int32), .int x1, .ref 2], (H0 o))) rfl ?_
   obtain ⟨y248, hy248, h⟩ := bind_eq_some_iff.mp h
   refine zB Ad W (f := fun y248 => (39, [vR 0, vI x1], [], (H0x9 o y248))) rfl hy248 ?_
   refine zS Ad W 3 (st' := (45, [vR 0, vI x1], [.int (64:Int32), .int (f_qLen o)], (H0x9 o y248))) rfl ?_
   rcases qite h with ⟨hc249, h⟩ | ⟨hc249, h⟩
   ·refine zF Ad W (t := 68) (f := 48) rfl (XT.ii_ge_f hc249) ?_
    refine zS Ad W 5 (st' := (57, [vR 0, vI x1], [.int x1, .int (f_qLen o), .ref 3], (H0x9 o y248))) rfl ?_
    obtain ⟨y250, hy250, h⟩ := bind_eq_some_iff.mp h
    refine zB Ad W (f := fun y250 => (58, [vR 0, vI x1], [], (H0x29 o y248 y250))) rfl hy250 ?_
    refine zS Ad W 6 (st' := (68, [vR 0, vI x1], [], (H0x30 o y248 y250 ((f_qLen o) + (1:Int32))))) rfl ?_
    have E251 : ((H0x30 o y248 y250 ((f_qLen o) + (1:Int32))) : QHeap) = (H0 (s_qLen (s_queue (s_pend o y248) y250) ((f_qLen o) + (1:Int32)))) := by simp only [fs, H0, H0v, H0x30, s_pend, s_queue, s_qLen]
    rw [E251]
    exact zM [tt,tt] (tJ26_68 Ad W (s_qLen (s_queue (s_pend o y248) y250) ((f_qLen o) + (1:Int32))) x1 h)
   ·refine zT Ad W (t := 68) (f := 48) rfl (XT.ii_ge_t hc249) ?_
    have E263 : ((H0x9 o y248) : QHeap) = (H0 (s_pend o y248)) := by simp only [fs, H0, H0v, H0x9, s_pend]
    rw [E263]
    exact zM [tt,tt] (tJ26_68 Ad W (s_pend o y248) x1 h)
  ·refine zF Ad W (t := 32) (f := 18) rfl (XT.i0_eq_f hc247) ?_
   refine zS Ad W 4 (st' := (25, [vR 0, vI x1], [.int (6:Int32), .ref 4, .int (6:Int32), .ref 4], (H0 o))) rfl ?_
   obtain ⟨y264, hy264, h⟩ := bind_eq_some_iff.mp h
   refine zB Ad W (f := fun y264 => (26, [vR 0, vI x1], [.int y264, .int (6:Int32), .ref 4], (H0 o))) rfl hy264 ?_
   refine zS Ad W 2 (st' := (28, [vR 0, vI x1], [.int (y264 + (1:Int32)), .int (6:Int32), .ref 4], (H0 o))) rfl ?_
   obtain ⟨y265, hy265, h⟩ := bind_eq_some_iff.mp h
   refine zB Ad W (f := fun y265 => (29, [vR 0, vI x1], [], (H0x24 o y265))) rfl hy265 ?_
   refine zS Ad W 1 (st' := (78, [vR 0, vI x1], [], (H0x24 o y265))) rfl ?_
   have E266 : ((H0x24 o y265) : QHeap) = (H0 (s_stats o y265)) := by simp only [fs, H0, H0v, H0x24, s_stats]
   rw [E266]
   exact zM [tt,tt] (tJ26_78 Ad W (s_stats o y265) x1 h)
def J25_38 (o : Ob) : Option (((Ob)) ⊕ (Int32 × Ob)) :=
  some (.inl (s_nakLen o (0 : Int32)))
theorem tJ25_38 (Ad : QAd n0 ad) (W : QW Z a0) (o : Ob) {r : ((Ob)) ⊕ (Int32 × Ob)} {u : Option Value} {τ : QHeap} (h : J25_38 o = some r) (hx0 : ∀ x : Ob, r = .inl x → u = (none : Option Value) ∧ τ = (H0 x)) (hc : ∀ x : Int32 × Ob, r = .inr x → QTri l Z n0 ad 25 (2, [vR 0, vI x.1, none], [], (H0 x.2)) u τ) : QTri l Z n0 ad 25 (38, [vR 0, none, none], [], (H0 o)) u τ := by
 unfold J25_38 at h
 refine zS Ad W 3 (st' := (43, [vR 0, none, none], [], (H0x26 o (0:Int32)))) rfl ?_
 have E268 : ((H0x26 o (0:Int32)) : QHeap) = (H0 (s_nakLen o (0:Int32))) := by simp only [fs, H0, H0v, H0x26, s_nakLen]
 rw [E268]
 obtain rfl := Option.some.inj h
 obtain ⟨rfl, rfl⟩ := hx0 (s_nakLen o (0:Int32)) rfl
 exact QTri.ret0 rfl rfl
def B25_2 (v : Int32 × Ob) : Option (((Ob)) ⊕ (Int32 × Ob)) :=
  (if v.1 < (f_nakLen v.2) then (if v.1 < (128 : Int32) then (aget (f_nakBuf v.2) v.1).bind fun y242 => (F26 v.2 (y242 % (32 : Int32))).bind fun r267 => some (.inr ((v.1 + (1 : Int32)), r267)) else (J25_38 v.2)) else (J25_38 v.2))
theorem tB25_2 (Ad : QAd n0 ad) (W : QW Z a0) (v : Int32 × Ob) {r : ((Ob)) ⊕ (Int32 × Ob)} {u : Option Value} {τ : QHeap} (h : B25_2 v = some r) (hx0 : ∀ x : Ob, r = .inl x → u = (none : Option Value) ∧ τ = (H0 x)) (hc : ∀ x : Int32 × Ob, r = .inr x → QTri l Z n0 ad 25 (2, [vR 0, vI x.1, none], [], (H0 x.2)) u τ) : QTri l Z n0 ad 25 (2, [vR 0, vI v.1, none], [], (H0 v.2)) u τ := by
 unfold B25_2 at h
 refine zS Ad W 3 (st' := (7, [vR 0, vI v.1, none], [.int (f_nakLen v.2), .int v.1], (H0 v.2))) rfl ?_
 rcases qite h with ⟨hc240, h⟩ | ⟨hc240, h⟩
 ·refine zF Ad W (t := 38) (f := 10) rfl (XT.ii_ge_f hc240) ?_
  refine zS Ad W 2 (st' := (14, [vR 0, vI v.1, none], [.int (128:Int32), .int v.1], (H0 v.2))) rfl ?_
  rcases qite h with ⟨hc241, h⟩ | ⟨hc241, h⟩
  ·refine zF Ad W (t := 38) (f := 17) rfl (XT.ii_ge_f hc241) ?_
   refine zS Ad W 3 (st' := (22, [vR 0, vI v.1, none], [.int v.1, .ref 19], (H0 v.2))) rfl ?_
   obtain ⟨y242, hy242, h⟩ := bind_eq_some_iff.mp h
   refine zB Ad W (f := fun y242 => (23, [vR 0, vI v.1, none], [.int y242], (H0 v.2))) rfl hy242 ?_
   refine zS Ad W 5 (st' := (29, [vR 0, vI v.1, vI (y242 % (32:Int32))], [.int (y242 % (32:Int32)), .ref 0], (H0 v.2))) rfl ?_
   obtain ⟨r267, hr267, h⟩ := bind_eq_some_iff.mp h
   refine QTri.callP W (a := 0) (as := [.int (y242 % (32:Int32))]) (rest := []) (w := none) (σ₁ := (H0 r267)) rfl rfl rfl rfl rfl rfl rfl rfl (tF26 Ad W v.2 (y242 % (32:Int32)) hr267) ?_
   refine zS Ad W 2 (st' := (2, [vR 0, vI (v.1 + (1:Int32)), vI (y242 % (32:Int32))], [], (H0 r267))) rfl ?_
   obtain rfl := Option.some.inj h
   exact zM [tt,tt,ff] (hc ((v.1 + (1:Int32)), r267) rfl)
  ·refine zT Ad W (t := 38) (f := 17) rfl (XT.ii_ge_t hc241) ?_
   exact zM [tt,ff,ff] (tJ25_38 Ad W v.2 h hx0 hc)
 ·refine zT Ad W (t := 38) (f := 10) rfl (XT.ii_ge_t hc240) ?_
  exact zM [tt,ff,ff] (tJ25_38 Ad W v.2 h hx0 hc)
/-- handleNaks()V -/
def F25 (o : Ob) : Option (Ob) :=
 (loopN (B25_2) qN ((0:Int32), o)).bind fun e269 => some e269
theorem tF25 (Ad : QAd n0 ad) (W : QW Z a0) (o : Ob) {r : Ob} (h : F25 o = some r) : QTri l Z n0 ad 25 (0, qentry [.ref 0] (pMaxL 25), [], (H0 o)) (none : Option Value) (H0 r) := by
 unfold F25 at h
 refine zS Ad W 2 (st' := (2, [vR 0, vI (0:Int32), none], [], (H0 o))) rfl ?_
 obtain ⟨e269, he269, h⟩ := bind_eq_some_iff.mp h
 refine zM [tt,tt,ff] (loopN_tri (B := B25_2) (T := fun lv270 => QTri l Z n0 ad 25 (2, [vR 0, vI lv270.1, none], [], (H0 lv270.2)) (none : Option Value) (H0 r)) (KE := fun e269a => (none : Option Value) = (none : Option Value) ∧ (H0 r) = (H0 e269a)) (fun lv270 r hB hE hC => tB25_2 Ad W  lv270 hB (fun x q => hE _ q) (fun x q => hC x q)) qN ((0:Int32), o) e269 he269 ?_)
 obtain rfl := Option.some.inj h
 exact ⟨rfl, rfl⟩
def J20_52 (o : Ob) : Option (Ob) :=
  (F22 o).bind fun r239 => (F25 r239).bind fun r271 => some r271
theorem tJ20_52 (Ad : QAd n0 ad) (W : QW Z a0) (o : Ob) {r : Ob} (h : J20_52 o = some r) : QTri l Z n0 ad 20 (52, [vR 0], [], (H0 o)) (none : Option Value) (H0 r) := by
 unfold J20_52 at h
 refine zS Ad W 1 (st' := (53, [vR 0], [.ref 0], (H0 o))) rfl ?_
 obtain ⟨r239, hr239, h⟩ := bind_eq_some_iff.mp h
 refine QTri.callP W (a := 0) (as := []) (rest := []) (w := none) (σ₁ := (H0 r239)) rfl rfl rfl rfl rfl rfl rfl rfl (tF22 Ad W o hr239) ?_
 refine zS Ad W 1 (st' := (57, [vR 0], [.ref 0], (H0 r239))) rfl ?_
 obtain ⟨r271, hr271, h⟩ := bind_eq_some_iff.mp h
 refine QTri.callP W (a := 0) (as := []) (rest := []) (w := none) (σ₁ := (H0 r271)) rfl rfl rfl rfl rfl rfl rfl rfl (tF25 Ad W r239 hr271) ?_
 obtain rfl := Option.some.inj h
 exact QTri.ret0 rfl rfl
/-- tick()V -/
def F20 (o : Ob) : Option (Ob) :=
 (aget (f_stats o) (0:Int32)).bind fun y177 => (aset (f_stats o) (0:Int32) (y177 + (1:Int32))).bind fun y178 => (F21 (s_stats o y178)).bind fun r199 => (if (0:Int32) < (f_period r199) then (aget (f_stats r199) (0:Int32)).bind fun y201 => (qrem y201 (f_period r199)).bind fun y202 => (if y202 = (0:Int32) then (aget (f_stats r199) (3:Int32)).bind fun y204 => (aset (f_stats r199) (3:Int32) (y204 + (1:Int32))).bind fun y205 => (F4 (s_stats r199 y205) (2:Int32) (0:Int32) (0:Int32)).bind fun r207 => (J20_52 r207) else (J20_52 r199)) else (J20_52 r199))
theorem tF20 (Ad : QAd n0 ad) (W : QW Z a0) (o : Ob) {r : Ob} (h : F20 o = some r) : QTri l Z n0 ad 20 (0, qentry [.ref 0] (pMaxL 20), [], (H0 o)) (none : Option Value) (H0 r) := by
 unfold F20 at h
 refine zS Ad W 4 (st' := (6, [vR 0], [.int (0:Int32), .ref 4, .int (0:Int32), .ref 4], (H0 o))) rfl ?_
 obtain ⟨y177, hy177, h⟩ := bind_eq_some_iff.mp h
 refine zB Ad W (f := fun y177 => (7, [vR 0], [.int y177, .int (0:Int32), .ref 4], (H0 o))) rfl hy177 ?_
 refine zS Ad W 2 (st' := (9, [vR 0], [.int (y177 + (1:Int32)), .int (0:Int32), .ref 4], (H0 o))) rfl ?_
 obtain ⟨y178, hy178, h⟩ := bind_eq_some_iff.mp h
 refine zB Ad W (f := fun y178 => (10, [vR 0], [], (H0x24 o y178))) rfl hy178 ?_
 refine zS Ad W 1 (st' := (11, [vR 0], [.ref 0], (H0x24 o y178))) rfl ?_
 have E179 : ((H0x24 o y178) : QHeap) = (H0 (s_stats o y178)) := by simp only [fs, H0, H0v, H0x24, s_stats]
 rw [E179]
 obtain ⟨r199, hr199, h⟩ := bind_eq_some_iff.mp h
 refine QTri.callP W (a := 0) (as := []) (rest := []) (w := none) (σ₁ := (H0 r199)) rfl rfl rfl rfl rfl rfl rfl rfl (tF21 Ad W (s_stats o y178) hr199) ?_
 refine zS Ad W 2 (st' := (18, [vR 0], [.int (f_period r199)], (H0 r199))) rfl ?_
 rcases qite h with ⟨hc200, h⟩ | ⟨hc200, h⟩
 ·refine zF Ad W (t := 52) (f := 21) rfl (XT.i0_le_f hc200) ?_
  refine zS Ad W 3 (st' := (26, [vR 0], [.int (0:Int32), .ref 4], (H0 r199))) rfl ?_
  obtain ⟨y201, hy201, h⟩ := bind_eq_some_iff.mp h
  refine zB Ad W (f := fun y201 => (27, [vR 0], [.int y201], (H0 r199))) rfl hy201 ?_
  refine zS Ad W 2 (st' := (31, [vR 0], [.int (f_period r199), .int y201], (H0 r199))) rfl ?_
  obtain ⟨y202, hy202, h⟩ := bind_eq_some_iff.mp h
  refine zB Ad W (f := fun y202 => (32, [vR 0], [.int y202], (H0 r199))) rfl hy202 ?_
  rcases qite h with ⟨hc203, h⟩ | ⟨hc203, h⟩
  ·refine zF Ad W (t := 52) (f := 35) rfl (XT.i0_ne_f hc203) ?_
   refine zS Ad W 4 (st' := (41, [vR 0], [.int (3:Int32), .ref 4, .int (3:Int32), .ref 4], (H0 r199))) rfl ?_
   obtain ⟨y204, hy204, h⟩ := bind_eq_some_iff.mp h
   refine zB Ad W (f := fun y204 => (42, [vR 0], [.int y204, .int (3:Int32), .ref 4], (H0 r199))) rfl hy204 ?_
   refine zS Ad W 2 (st' := (44, [vR 0], [.int (y204 + (1:Int32)), .int (3:Int32), .ref 4], (H0 r199))) rfl ?_
   obtain ⟨y205, hy205, h⟩ := bind_eq_some_iff.mp h
   refine zB Ad W (f := fun y205 => (45, [vR 0], [], (H0x24 r199 y205))) rfl hy205 ?_
   refine zS Ad W 4 (st' := (49, [vR 0], [.int (0:Int32), .int (0:Int32), .int (2:Int32), .ref 0], (H0x24 r199 y205))) rfl ?_
   have E206 : ((H0x24 r199 y205) : QHeap) = (H0 (s_stats r199 y205)) := by simp only [fs, H0, H0v, H0x24, s_stats]
   rw [E206]
   obtain ⟨r207, hr207, h⟩ := bind_eq_some_iff.mp h
   refine QTri.callP W (a := 0) (as := [.int (2:Int32), .int (0:Int32), .int (0:Int32)]) (rest := []) (w := none) (σ₁ := (H0 r207)) rfl rfl rfl rfl rfl rfl rfl rfl (tF4 Ad W (s_stats r199 y205) (2:Int32) (0:Int32) (0:Int32) hr207) ?_
   exact zM [tt] (tJ20_52 Ad W r207 h)
  ·refine zT Ad W (t := 52) (f := 35) rfl (XT.i0_ne_t hc203) ?_
   exact zM [tt] (tJ20_52 Ad W r199 h)
 ·refine zT Ad W (t := 52) (f := 21) rfl (XT.i0_le_t hc200) ?_
  exact zM [tt] (tJ20_52 Ad W r199 h)
def B0_133 (x5 : Int32) (x6 : Int32) (x7 : Int32) (x8 : Int32) (x9 : Int32) (v : Int32 × Ob) : Option (((Ob)) ⊕ (Int32 × Ob)) :=
  (if v.1 < (6 : Int32) then (F20 v.2).bind fun r272 => some (.inr ((v.1 + (1 : Int32)), r272)) else some (.inl v.2))
theorem tB0_133 (Ad : QAd n0 ad) (W : QW Z a0) (x5 : Int32) (x6 : Int32) (x7 : Int32) (x8 : Int32) (x9 : Int32) (v : Int32 × Ob) {r : ((Ob)) ⊕ (Int32 × Ob)} {u : Option Value} {τ : QHeap} (h : B0_133 x5 x6 x7 x8 x9 v = some r) (hx0 : ∀ x : Ob, r = .inl x → QTri l Z n0 ad 0 (151, [none, none, none, none, vR 0, vI x5, vI x6, vI x7, vI x8, vI x9, none], [], (H0 x)) u τ) (hc : ∀ x : Int32 × Ob, r = .inr x → QTri l Z n0 ad 0 (133, [none, none, none, none, vR 0, vI x5, vI x6, vI x7, vI x8, vI x9, vI x.1], [], (H0 x.2)) u τ) : QTri l Z n0 ad 0 (133, [none, none, none, none, vR 0, vI x5, vI x6, vI x7, vI x8, vI x9, vI v.1], [], (H0 v.2)) u τ := by
 unfold B0_133 at h
 refine zS Ad W 2 (st' := (137, [none, none, none, none, vR 0, vI x5, vI x6, vI x7, vI x8, vI x9, vI v.1], [.int (6:Int32), .int v.1], (H0 v.2))) rfl ?_
 rcases qite h with ⟨hc176, h⟩ | ⟨hc176, h⟩
 ·refine zF Ad W (t := 151) (f := 140) rfl (XT.ii_ge_f hc176) ?_
  refine zS Ad W 1 (st' := (142, [none, none, none, none, vR 0, vI x5, vI x6, vI x7, vI x8, vI x9, vI v.1], [.ref 0], (H0 v.2))) rfl ?_
  obtain ⟨r272, hr272, h⟩ := bind_eq_some_iff.mp h
  refine QTri.callV W (a := 0) (as := []) (rest := []) (w := none) (σ₁ := (H0 r272)) rfl rfl rfl rfl rfl rfl rfl rfl (tF20 Ad W v.2 hr272) ?_
  refine zS Ad W 2 (st' := (133, [none, none, none, none, vR 0, vI x5, vI x6, vI x7, vI x8, vI x9, vI (v.1 + (1:Int32))], [], (H0 r272))) rfl ?_
  obtain rfl := Option.some.inj h
  exact zM [ff,ff,ff,ff,tt,tt,tt,tt,tt,tt,tt] (hc ((v.1 + (1:Int32)), r272) rfl)
 ·refine zT Ad W (t := 151) (f := 140) rfl (XT.ii_ge_t hc176) ?_
  obtain rfl := Option.some.inj h
  exact zM [ff,ff,ff,ff,tt,tt,tt,tt,tt,tt,ff] (hx0 v.2 rfl)
/-- rxInfo(II)I -/
def F29 (o : Ob) (x1 : Int32) (x2 : Int32) : Option (Int32) :=
 (F16 x1).bind fun r277 => (if r277 = (0:Int32) then some (-2:Int32) else (if x2 = (0:Int32) then (aget (f_rxNext o) x1).bind fun y280 => some y280 else (if x2 = (1:Int32) then (aget (f_rxLead o) x1).bind fun y282 => some y282 else (if x2 = (2:Int32) then (aget (f_rxTrail o) x1).bind fun y284 => some y284 else (if x2 = (3:Int32) then (aget (f_delLen o) x1).bind fun y286 => some y286 else (if x2 = (4:Int32) then (aget (f_lostLen o) x1).bind fun y288 => some y288 else (if x2 = (5:Int32) then (aget (f_lossLeft o) x1).bind fun y290 => some y290 else (if x2 = (6:Int32) then (aget (f_dups o) x1).bind fun y292 => some y292 else (if x2 = (7:Int32) then (aget (f_drops o) x1).bind fun y294 => some y294 else some (-2:Int32))))))))))
theorem tF29 (Ad : QAd n0 ad) (W : QW Z a0) (o : Ob) (x1 : Int32) (x2 : Int32) {r : Int32} (h : F29 o x1 x2 = some r) : QTri l Z n0 ad 29 (0, qentry [.ref 0, .int x1, .int x2] (pMaxL 29), [], (H0 o)) (some (Value.int r)) (H0 o) := by
 unfold F29 at h
 refine zS Ad W 2 (st' := (2, [vR 0, vI x1, vI x2], [.int x1, .ref 0], (H0 o))) rfl ?_
 obtain ⟨r277, hr277, h⟩ := bind_eq_some_iff.mp h
 refine QTri.callP W (a := 0) (as := [.int x1]) (rest := []) (w := (some (.int r277))) (σ₁ := (H0 o)) rfl rfl rfl rfl rfl rfl rfl rfl (tF16 Ad W x1 hr277) ?_
 rcases qite h with ⟨hc278, h⟩ | ⟨hc278, h⟩
 ·refine zF Ad W (t := 11) (f := 8) rfl (XT.i0_ne_f hc278) ?_
  refine zS Ad W 1 (st' := (10, [vR 0, vI x1, vI x2], [.int (-2:Int32)], (H0 o))) rfl ?_
  obtain rfl := Option.some.inj h
  exact QTri.retI rfl rfl
 ·refine zT Ad W (t := 11) (f := 8) rfl (XT.i0_ne_t hc278) ?_
  refine zS Ad W 1 (st' := (12, [vR 0, vI x1, vI x2], [.int x2], (H0 o))) rfl ?_
  rcases qite h with ⟨hc279, h⟩ | ⟨hc279, h⟩
  ·refine zF Ad W (t := 22) (f := 15) rfl (XT.i0_ne_f hc279) ?_
   refine zS Ad W 3 (st' := (20, [vR 0, vI x1, vI x2], [.int x1, .ref 8], (H0 o))) rfl ?_
   obtain ⟨y280, hy280, h⟩ := bind_eq_some_iff.mp h
   refine zB Ad W (f := fun y280 => (21, [vR 0, vI x1, vI x2], [.int y280], (H0 o))) rfl hy280 ?_
   obtain rfl := Option.some.inj h
   exact QTri.retI rfl rfl
  ·refine zT Ad W (t := 22) (f := 15) rfl (XT.i0_ne_t hc279) ?_
   refine zS Ad W 2 (st' := (24, [vR 0, vI x1, vI x2], [.int (1:Int32), .int x2], (H0 o))) rfl ?_
   rcases qite h with ⟨hc281, h⟩ | ⟨hc281, h⟩
   ·refine zF Ad W (t := 34) (f := 27) rfl (XT.ii_ne_f hc281) ?_
    refine zS Ad W 3 (st' := (32, [vR 0, vI x1, vI x2], [.int x1, .ref 9], (H0 o))) rfl ?_
    obtain ⟨y282, hy282, h⟩ := bind_eq_some_iff.mp h
    refine zB Ad W (f := fun y282 => (33, [vR 0, vI x1, vI x2], [.int y282], (H0 o))) rfl hy282 ?_
    obtain rfl := Option.some.inj h
    exact QTri.retI rfl rfl
   ·refine zT Ad W (t := 34) (f := 27) rfl (XT.ii_ne_t hc281) ?_
    refine zS Ad W 2 (st' := (36, [vR 0, vI x1, vI x2], [.int (2:Int32), .int x2], (H0 o))) rfl ?_
    rcases qite h with ⟨hc283, h⟩ | ⟨hc283, h⟩
    ·refine zF Ad W (t := 46) (f := 39) rfl (XT.ii_ne_f hc283) ?_
     refine zS Ad W 3 (st' := (44, [vR 0, vI x1, vI x2], [.int x1, .ref 10], (H0 o))) rfl ?_
     obtain ⟨y284, hy284, h⟩ := bind_eq_some_iff.mp h
     refine zB Ad W (f := fun y284 => (45, [vR 0, vI x1, vI x2], [.int y284], (H0 o))) rfl hy284 ?_
     obtain rfl := Option.some.inj h
     exact QTri.retI rfl rfl
    ·refine zT Ad W (t := 46) (f := 39) rfl (XT.ii_ne_t hc283) ?_
     refine zS Ad W 2 (st' := (48, [vR 0, vI x1, vI x2], [.int (3:Int32), .int x2], (H0 o))) rfl ?_
     rcases qite h with ⟨hc285, h⟩ | ⟨hc285, h⟩
     ·refine zF Ad W (t := 58) (f := 51) rfl (XT.ii_ne_f hc285) ?_
      refine zS Ad W 3 (st' := (56, [vR 0, vI x1, vI x2], [.int x1, .ref 16], (H0 o))) rfl ?_
      obtain ⟨y286, hy286, h⟩ := bind_eq_some_iff.mp h
      refine zB Ad W (f := fun y286 => (57, [vR 0, vI x1, vI x2], [.int y286], (H0 o))) rfl hy286 ?_
      obtain rfl := Option.some.inj h
      exact QTri.retI rfl rfl
     ·refine zT Ad W (t := 58) (f := 51) rfl (XT.ii_ne_t hc285) ?_
      refine zS Ad W 2 (st' := (60, [vR 0, vI x1, vI x2], [.int (4:Int32), .int x2], (H0 o))) rfl ?_
      rcases qite h with ⟨hc287, h⟩ | ⟨hc287, h⟩
      ·refine zF Ad W (t := 70) (f := 63) rfl (XT.ii_ne_f hc287) ?_
       refine zS Ad W 3 (st' := (68, [vR 0, vI x1, vI x2], [.int x1, .ref 18], (H0 o))) rfl ?_
       obtain ⟨y288, hy288, h⟩ := bind_eq_some_iff.mp h
       refine zB Ad W (f := fun y288 => (69, [vR 0, vI x1, vI x2], [.int y288], (H0 o))) rfl hy288 ?_
       obtain rfl := Option.some.inj h
       exact QTri.retI rfl rfl
      ·refine zT Ad W (t := 70) (f := 63) rfl (XT.ii_ne_t hc287) ?_
       refine zS Ad W 2 (st' := (72, [vR 0, vI x1, vI x2], [.int (5:Int32), .int x2], (H0 o))) rfl ?_
       rcases qite h with ⟨hc289, h⟩ | ⟨hc289, h⟩
       ·refine zF Ad W (t := 82) (f := 75) rfl (XT.ii_ne_f hc289) ?_
        refine zS Ad W 3 (st' := (80, [vR 0, vI x1, vI x2], [.int x1, .ref 11], (H0 o))) rfl ?_
        obtain ⟨y290, hy290, h⟩ := bind_eq_some_iff.mp h
        refine zB Ad W (f := fun y290 => (81, [vR 0, vI x1, vI x2], [.int y290], (H0 o))) rfl hy290 ?_
        obtain rfl := Option.some.inj h
        exact QTri.retI rfl rfl
       ·refine zT Ad W (t := 82) (f := 75) rfl (XT.ii_ne_t hc289) ?_
        refine zS Ad W 2 (st' := (85, [vR 0, vI x1, vI x2], [.int (6:Int32), .int x2], (H0 o))) rfl ?_
        rcases qite h with ⟨hc291, h⟩ | ⟨hc291, h⟩
        ·refine zF Ad W (t := 95) (f := 88) rfl (XT.ii_ne_f hc291) ?_
         refine zS Ad W 3 (st' := (93, [vR 0, vI x1, vI x2], [.int x1, .ref 12], (H0 o))) rfl ?_
         obtain ⟨y292, hy292, h⟩ := bind_eq_some_iff.mp h
         refine zB Ad W (f := fun y292 => (94, [vR 0, vI x1, vI x2], [.int y292], (H0 o))) rfl hy292 ?_
         obtain rfl := Option.some.inj h
         exact QTri.retI rfl rfl
        ·refine zT Ad W (t := 95) (f := 88) rfl (XT.ii_ne_t hc291) ?_
         refine zS Ad W 2 (st' := (98, [vR 0, vI x1, vI x2], [.int (7:Int32), .int x2], (H0 o))) rfl ?_
         rcases qite h with ⟨hc293, h⟩ | ⟨hc293, h⟩
         ·refine zF Ad W (t := 108) (f := 101) rfl (XT.ii_ne_f hc293) ?_
          refine zS Ad W 3 (st' := (106, [vR 0, vI x1, vI x2], [.int x1, .ref 13], (H0 o))) rfl ?_
          obtain ⟨y294, hy294, h⟩ := bind_eq_some_iff.mp h
          refine zB Ad W (f := fun y294 => (107, [vR 0, vI x1, vI x2], [.int y294], (H0 o))) rfl hy294 ?_
          obtain rfl := Option.some.inj h
          exact QTri.retI rfl rfl
         ·refine zT Ad W (t := 108) (f := 101) rfl (XT.ii_ne_t hc293) ?_
          refine zS Ad W 1 (st' := (110, [vR 0, vI x1, vI x2], [.int (-2:Int32)], (H0 o))) rfl ?_
          obtain rfl := Option.some.inj h
          exact QTri.retI rfl rfl
/-- deliveredValue(II)I -/
def F30 (o : Ob) (x1 : Int32) (x2 : Int32) : Option (Int32) :=
 (F16 x1).bind fun r297 => (if r297 = (0:Int32) then some (-1:Int32) else (if x2 < (0:Int32) then some (-1:Int32) else (aget (f_delLen o) x1).bind fun y300 => (if x2 < y300 then (aget (f_delVal o) ((x1 * (32:Int32)) + x2)).bind fun y302 => some y302 else some (-1:Int32))))
theorem tF30 (Ad : QAd n0 ad) (W : QW Z a0) (o : Ob) (x1 : Int32) (x2 : Int32) {r : Int32} (h : F30 o x1 x2 = some r) : QTri l Z n0 ad 30 (0, qentry [.ref 0, .int x1, .int x2] (pMaxL 30), [], (H0 o)) (some (Value.int r)) (H0 o) := by
 unfold F30 at h
 refine zS Ad W 2 (st' := (2, [vR 0, vI x1, vI x2], [.int x1, .ref 0], (H0 o))) rfl ?_
 obtain ⟨r297, hr297, h⟩ := bind_eq_some_iff.mp h
 refine QTri.callP W (a := 0) (as := [.int x1]) (rest := []) (w := (some (.int r297))) (σ₁ := (H0 o)) rfl rfl rfl rfl rfl rfl rfl rfl (tF16 Ad W x1 hr297) ?_
 rcases qite h with ⟨hc298, h⟩ | ⟨hc298, h⟩
 ·refine zT Ad W (t := 22) (f := 8) rfl (XT.i0_eq_t hc298) ?_
  refine zS Ad W 1 (st' := (23, [vR 0, vI x1, vI x2], [.int (-1:Int32)], (H0 o))) rfl ?_
  obtain rfl := Option.some.inj h
  exact QTri.retI rfl rfl
 ·refine zF Ad W (t := 22) (f := 8) rfl (XT.i0_eq_f hc298) ?_
  refine zS Ad W 1 (st' := (9, [vR 0, vI x1, vI x2], [.int x2], (H0 o))) rfl ?_
  rcases qite h with ⟨hc299, h⟩ | ⟨hc299, h⟩
  ·refine zT Ad W (t := 22) (f := 12) rfl (XT.i0_lt_t hc299) ?_
   refine zS Ad W 1 (st' := (23, [vR 0, vI x1, vI x2], [.int (-1:Int32)], (H0 o))) rfl ?_
   obtain rfl := Option.some.inj h
   exact QTri.retI rfl rfl
  ·refine zF Ad W (t := 22) (f := 12) rfl (XT.i0_lt_f hc299) ?_
   refine zS Ad W 4 (st' := (18, [vR 0, vI x1, vI x2], [.int x1, .ref 16, .int x2], (H0 o))) rfl ?_
   obtain ⟨y300, hy300, h⟩ := bind_eq_some_iff.mp h
   refine zB Ad W (f := fun y300 => (19, [vR 0, vI x1, vI x2], [.int y300, .int x2], (H0 o))) rfl hy300 ?_
   rcases qite h with ⟨hc301, h⟩ | ⟨hc301, h⟩
   ·refine zT Ad W (t := 24) (f := 22) rfl (XT.ii_lt_t hc301) ?_
    refine zS Ad W 7 (st' := (34, [vR 0, vI x1, vI x2], [.int ((x1 * (32:Int32)) + x2), .ref 15], (H0 o))) rfl ?_
    obtain ⟨y302, hy302, h⟩ := bind_eq_some_iff.mp h
    refine zB Ad W (f := fun y302 => (35, [vR 0, vI x1, vI x2], [.int y302], (H0 o))) rfl hy302 ?_
    obtain rfl := Option.some.inj h
    exact QTri.retI rfl rfl
   ·refine zF Ad W (t := 24) (f := 22) rfl (XT.ii_lt_f hc301) ?_
    refine zS Ad W 1 (st' := (23, [vR 0, vI x1, vI x2], [.int (-1:Int32)], (H0 o))) rfl ?_
    obtain rfl := Option.some.inj h
    exact QTri.retI rfl rfl
/-- deliveredSeq(II)I -/
def F31 (o : Ob) (x1 : Int32) (x2 : Int32) : Option (Int32) :=
 (F16 x1).bind fun r309 => (if r309 = (0:Int32) then some (-1:Int32) else (if x2 < (0:Int32) then some (-1:Int32) else (aget (f_delLen o) x1).bind fun y312 => (if x2 < y312 then (aget (f_delSeq o) ((x1 * (32:Int32)) + x2)).bind fun y314 => some y314 else some (-1:Int32))))
theorem tF31 (Ad : QAd n0 ad) (W : QW Z a0) (o : Ob) (x1 : Int32) (x2 : Int32) {r : Int32} (h : F31 o x1 x2 = some r) : QTri l Z n0 ad 31 (0, qentry [.ref 0, .int x1, .int x2] (pMaxL 31), [], (H0 o)) (some (Value.int r)) (H0 o) := by
 unfold F31 at h
 refine zS Ad W 2 (st' := (2, [vR 0, vI x1, vI x2], [.int x1, .ref 0], (H0 o))) rfl ?_
 obtain ⟨r309, hr309, h⟩ := bind_eq_some_iff.mp h
 refine QTri.callP W (a := 0) (as := [.int x1]) (rest := []) (w := (some (.int r309))) (σ₁ := (H0 o)) rfl rfl rfl rfl rfl rfl rfl rfl (tF16 Ad W x1 hr309) ?_
 rcases qite h with ⟨hc310, h⟩ | ⟨hc310, h⟩
 ·refine zT Ad W (t := 22) (f := 8) rfl (XT.i0_eq_t hc310) ?_
  refine zS Ad W 1 (st' := (23, [vR 0, vI x1, vI x2], [.int (-1:Int32)], (H0 o))) rfl ?_
  obtain rfl := Option.some.inj h
  exact QTri.retI rfl rfl
 ·refine zF Ad W (t := 22) (f := 8) rfl (XT.i0_eq_f hc310) ?_
  refine zS Ad W 1 (st' := (9, [vR 0, vI x1, vI x2], [.int x2], (H0 o))) rfl ?_
  rcases qite h with ⟨hc311, h⟩ | ⟨hc311, h⟩
  ·refine zT Ad W (t := 22) (f := 12) rfl (XT.i0_lt_t hc311) ?_
   refine zS Ad W 1 (st' := (23, [vR 0, vI x1, vI x2], [.int (-1:Int32)], (H0 o))) rfl ?_
   obtain rfl := Option.some.inj h
   exact QTri.retI rfl rfl
  ·refine zF Ad W (t := 22) (f := 12) rfl (XT.i0_lt_f hc311) ?_
   refine zS Ad W 4 (st' := (18, [vR 0, vI x1, vI x2], [.int x1, .ref 16, .int x2], (H0 o))) rfl ?_
   obtain ⟨y312, hy312, h⟩ := bind_eq_some_iff.mp h
   refine zB Ad W (f := fun y312 => (19, [vR 0, vI x1, vI x2], [.int y312, .int x2], (H0 o))) rfl hy312 ?_
   rcases qite h with ⟨hc313, h⟩ | ⟨hc313, h⟩
   ·refine zT Ad W (t := 24) (f := 22) rfl (XT.ii_lt_t hc313) ?_
    refine zS Ad W 7 (st' := (34, [vR 0, vI x1, vI x2], [.int ((x1 * (32:Int32)) + x2), .ref 14], (H0 o))) rfl ?_
    obtain ⟨y314, hy314, h⟩ := bind_eq_some_iff.mp h
    refine zB Ad W (f := fun y314 => (35, [vR 0, vI x1, vI x2], [.int y314], (H0 o))) rfl hy314 ?_
    obtain rfl := Option.some.inj h
    exact QTri.retI rfl rfl
   ·refine zF Ad W (t := 24) (f := 22) rfl (XT.ii_lt_f hc313) ?_
    refine zS Ad W 1 (st' := (23, [vR 0, vI x1, vI x2], [.int (-1:Int32)], (H0 o))) rfl ?_
    obtain rfl := Option.some.inj h
    exact QTri.retI rfl rfl
/-- stat(I)I -/
def F32 (o : Ob) (x1 : Int32) : Option (Int32) :=
 (if x1 = (8:Int32) then some (f_qLen o) else (if x1 < (0:Int32) then some (-1:Int32) else (if (9:Int32) < x1 then some (-1:Int32) else (aget (f_stats o) x1).bind fun y324 => some y324)))
theorem tF32 (Ad : QAd n0 ad) (W : QW Z a0) (o : Ob) (x1 : Int32) {r : Int32} (h : F32 o x1 = some r) : QTri l Z n0 ad 32 (0, qentry [.ref 0, .int x1] (pMaxL 32), [], (H0 o)) (some (Value.int r)) (H0 o) := by
 unfold F32 at h
 refine zS Ad W 2 (st' := (3, [vR 0, vI x1], [.int (8:Int32), .int x1], (H0 o))) rfl ?_
 rcases qite h with ⟨hc321, h⟩ | ⟨hc321, h⟩
 ·refine zF Ad W (t := 11) (f := 6) rfl (XT.ii_ne_f hc321) ?_
  refine zS Ad W 2 (st' := (10, [vR 0, vI x1], [.int (f_qLen o)], (H0 o))) rfl ?_
  obtain rfl := Option.some.inj h
  exact QTri.retI rfl rfl
 ·refine zT Ad W (t := 11) (f := 6) rfl (XT.ii_ne_t hc321) ?_
  refine zS Ad W 1 (st' := (12, [vR 0, vI x1], [.int x1], (H0 o))) rfl ?_
  rcases qite h with ⟨hc322, h⟩ | ⟨hc322, h⟩
  ·refine zT Ad W (t := 21) (f := 15) rfl (XT.i0_lt_t hc322) ?_
   refine zS Ad W 1 (st' := (22, [vR 0, vI x1], [.int (-1:Int32)], (H0 o))) rfl ?_
   obtain rfl := Option.some.inj h
   exact QTri.retI rfl rfl
  ·refine zF Ad W (t := 21) (f := 15) rfl (XT.i0_lt_f hc322) ?_
   refine zS Ad W 2 (st' := (18, [vR 0, vI x1], [.int (9:Int32), .int x1], (H0 o))) rfl ?_
   rcases qite h with ⟨hc323, h⟩ | ⟨hc323, h⟩
   ·refine zF Ad W (t := 23) (f := 21) rfl (XT.ii_le_f hc323) ?_
    refine zS Ad W 1 (st' := (22, [vR 0, vI x1], [.int (-1:Int32)], (H0 o))) rfl ?_
    obtain rfl := Option.some.inj h
    exact QTri.retI rfl rfl
   ·refine zT Ad W (t := 23) (f := 21) rfl (XT.ii_le_t hc323) ?_
    refine zS Ad W 3 (st' := (28, [vR 0, vI x1], [.int x1, .ref 4], (H0 o))) rfl ?_
    obtain ⟨y324, hy324, h⟩ := bind_eq_some_iff.mp h
    refine zB Ad W (f := fun y324 => (29, [vR 0, vI x1], [.int y324], (H0 o))) rfl hy324 ?_
    obtain rfl := Option.some.inj h
    exact QTri.retI rfl rfl
/-- pending(I)Z -/
def F33 (o : Ob) (x1 : Int32) : Option (Int32) :=
 (F10 x1).bind fun r343 => (if r343 = (0:Int32) then some (0:Int32) else (aget (f_pend o) x1).bind fun y345 => some (y345 &&& 1))
theorem tF33 (Ad : QAd n0 ad) (W : QW Z a0) (o : Ob) (x1 : Int32) {r : Int32} (h : F33 o x1 = some r) : QTri l Z n0 ad 33 (0, qentry [.ref 0, .int x1] (pMaxL 33), [], (H0 o)) (some (Value.int r)) (H0 o) := by
 unfold F33 at h
 refine zS Ad W 2 (st' := (2, [vR 0, vI x1], [.int x1, .ref 0], (H0 o))) rfl ?_
 obtain ⟨r343, hr343, h⟩ := bind_eq_some_iff.mp h
 refine QTri.callP W (a := 0) (as := [.int x1]) (rest := []) (w := (some (.int r343))) (σ₁ := (H0 o)) rfl rfl rfl rfl rfl rfl rfl rfl (tF10 Ad W x1 hr343) ?_
 rcases qite h with ⟨hc344, h⟩ | ⟨hc344, h⟩
 ·refine zF Ad W (t := 10) (f := 8) rfl (XT.i0_ne_f hc344) ?_
  refine zS Ad W 1 (st' := (9, [vR 0, vI x1], [.int (0:Int32)], (H0 o))) rfl ?_
  obtain rfl := Option.some.inj h
  exact QTri.retZ rfl rfl
 ·refine zT Ad W (t := 10) (f := 8) rfl (XT.i0_ne_t hc344) ?_
  refine zS Ad W 3 (st' := (15, [vR 0, vI x1], [.int x1, .ref 2], (H0 o))) rfl ?_
  obtain ⟨y345, hy345, h⟩ := bind_eq_some_iff.mp h
  refine zB Ad W (f := fun y345 => (16, [vR 0, vI x1], [.int y345], (H0 o))) rfl hy345 ?_
  obtain rfl := Option.some.inj h
  exact QTri.retZ rfl rfl
/-- the law -/
def F0 (x0 : Int32) (x1 : Int32) (x2 : Int32) (x3 : Int32) : Option (Int32 × QHeap) :=
 (F1 (8:Int32) (1:Int32) (4:Int32) (0:Int32)).bind fun r13 => (F3 r13 (x0 &&& (255:Int32))).bind fun r147 => (if r147.1 = (0:Int32) then (F15 r147.2 (x3 &&& (3:Int32)) (1:Int32)).bind fun r156 => (if r156.1 = (0:Int32) then some ((0:Int32), (H0 r156.2)) else (F3 r156.2 (x1 &&& (255:Int32))).bind fun r158 => (if r158.1 = (1:Int32) then (F3 r158.2 (x2 &&& (255:Int32))).bind fun r160 => (if r160.1 = (2:Int32) then (F18 r160.2 (x3 &&& (3:Int32)) (1:Int32)).bind fun r167 => (if r167 = (1:Int32) then (F19 r160.2 (x3 &&& (3:Int32)) (1:Int32)).bind fun r174 => (if r174 = ((1:Int32) + (x3 &&& (3:Int32))) then (loopN (B0_133 (x0 &&& (255:Int32)) (x1 &&& (255:Int32)) (x2 &&& (255:Int32)) (x3 &&& (3:Int32)) (((x3 &&& (3:Int32)) + (1:Int32)) &&& (3:Int32))) qN ((0:Int32), r160.2)).bind fun e273 => (F18 e273 (x3 &&& (3:Int32)) (1:Int32)).bind fun r275 => (if r275 = (5:Int32) then (F29 e273 (x3 &&& (3:Int32)) (3:Int32)).bind fun r295 => (if r295 = (3:Int32) then (F30 e273 (x3 &&& (3:Int32)) (0:Int32)).bind fun r303 => (if r303 = (x0 &&& (255:Int32)) then (F30 e273 (x3 &&& (3:Int32)) (1:Int32)).bind fun r305 => (if r305 = (x1 &&& (255:Int32)) then (F30 e273 (x3 &&& (3:Int32)) (2:Int32)).bind fun r307 => (if r307 = (x2 &&& (255:Int32)) then (F31 e273 (x3 &&& (3:Int32)) (1:Int32)).bind fun r315 => (if r315 = (1:Int32) then (F29 e273 (x3 &&& (3:Int32)) (6:Int32)).bind fun r317 => (if r317 = (0:Int32) then (F29 e273 (((x3 &&& (3:Int32)) + (1:Int32)) &&& (3:Int32)) (6:Int32)).bind fun r319 => (if r319 = (1:Int32) then (F32 e273 (0:Int32)).bind fun r325 => (if r325 = (6:Int32) then (F32 e273 (4:Int32)).bind fun r327 => (if r327 = (1:Int32) then (F32 e273 (5:Int32)).bind fun r329 => (if r329 = (1:Int32) then (F32 e273 (6:Int32)).bind fun r331 => (if r331 = (0:Int32) then (F32 e273 (7:Int32)).bind fun r333 => (if r333 = (1:Int32) then (F32 e273 (2:Int32)).bind fun r335 => (if r335 = (1:Int32) then (F32 e273 (3:Int32)).bind fun r337 => (if r337 = (0:Int32) then (F32 e273 (9:Int32)).bind fun r339 => (if r339 = (1:Int32) then (F32 e273 (8:Int32)).bind fun r341 => (if r341 = (0:Int32) then (F33 e273 (1:Int32)).bind fun r346 => (if r346 = (0:Int32) then some ((1:Int32), (H0 e273)) else some ((0:Int32), (H0 e273))) else some ((0:Int32), (H0 e273))) else some ((0:Int32), (H0 e273))) else some ((0:Int32), (H0 e273))) else some ((0:Int32), (H0 e273))) else some ((0:Int32), (H0 e273))) else some ((0:Int32), (H0 e273))) else some ((0:Int32), (H0 e273))) else some ((0:Int32), (H0 e273))) else some ((0:Int32), (H0 e273))) else some ((0:Int32), (H0 e273))) else some ((0:Int32), (H0 e273))) else some ((0:Int32), (H0 e273))) else some ((0:Int32), (H0 e273))) else some ((0:Int32), (H0 e273))) else some ((0:Int32), (H0 e273))) else some ((0:Int32), (H0 e273))) else some ((0:Int32), (H0 e273))) else some ((0:Int32), (H0 r160.2))) else some ((0:Int32), (H0 r160.2))) else some ((0:Int32), (H0 r160.2))) else some ((0:Int32), (H0 r158.2)))) else some ((0:Int32), (H0 r147.2)))
theorem tF0 (Ad : QAd n0 ad) (W : QW Z a0) (x0 : Int32) (x1 : Int32) (x2 : Int32) (x3 : Int32) {r : Int32 × QHeap} (h : F0 x0 x1 x2 x3 = some r) : QTri l Z n0 ad 0 (0, qentry [.int x0, .int x1, .int x2, .int x3] (pMaxL 0), [], []) (some (Value.int r.1)) r.2 := by
 unfold F0 at h
 refine zS Ad W 1 (st' := (3, [vI x0, vI x1, vI x2, vI x3, none, none, none, none, none, none, none], [.ref 0], [.inl [.null, .null, .null, .null, .null, .null, .null, .null, .null, .null, .null, .null, .null, .null, .null, .null, .null, .null, .null, .int (f_win ob0), .int (f_back ob0), .int (f_repair ob0), .int (f_period ob0), .int (f_nextSeq ob0), .int (f_qLen ob0), .int (f_nakLen ob0)]])) rfl ?_
 refine zS Ad W 5 (st' := (9, [vI x0, vI x1, vI x2, vI x3, none, none, none, none, none, none, none], [.int (0:Int32), .int (4:Int32), .int (1:Int32), .int (8:Int32), .ref 0, .ref 0], [.inl [.null, .null, .null, .null, .null, .null, .null, .null, .null, .null, .null, .null, .null, .null, .null, .null, .null, .null, .null, .int (f_win ob0), .int (f_back ob0), .int (f_repair ob0), .int (f_period ob0), .int (f_nextSeq ob0), .int (f_qLen ob0), .int (f_nakLen ob0)]])) rfl ?_
 obtain ⟨r13, hr13, h⟩ := bind_eq_some_iff.mp h
 refine QTri.callI W (a := 0) (as := [.int (8:Int32), .int (1:Int32), .int (4:Int32), .int (0:Int32)]) (rest := [.ref 0]) (σ₁ := (H0 r13)) rfl rfl rfl rfl rfl rfl (tF1 Ad W (8:Int32) (1:Int32) (4:Int32) (0:Int32) hr13) ?_
 refine zS Ad W 5 (st' := (21, [vI x0, vI x1, vI x2, vI x3, vR 0, vI (x0 &&& (255:Int32)), none, none, none, none, none], [], (H0 r13))) rfl ?_
 refine zS Ad W 8 (st' := (35, [vI x0, vI x1, vI x2, vI x3, vR 0, vI (x0 &&& (255:Int32)), vI (x1 &&& (255:Int32)), vI (x2 &&& (255:Int32)), none, none, none], [], (H0 r13))) rfl ?_
 refine zS Ad W 10 (st' := (48, [vI x0, vI x1, vI x2, vI x3, vR 0, vI (x0 &&& (255:Int32)), vI (x1 &&& (255:Int32)), vI (x2 &&& (255:Int32)), vI (x3 &&& (3:Int32)), vI (((x3 &&& (3:Int32)) + (1:Int32)) &&& (3:Int32)), none], [], (H0 r13))) rfl ?_
 refine zS Ad W 2 (st' := (52, [vI x0, vI x1, vI x2, vI x3, vR 0, vI (x0 &&& (255:Int32)), vI (x1 &&& (255:Int32)), vI (x2 &&& (255:Int32)), vI (x3 &&& (3:Int32)), vI (((x3 &&& (3:Int32)) + (1:Int32)) &&& (3:Int32)), none], [.int (x0 &&& (255:Int32)), .ref 0], (H0 r13))) rfl ?_
 obtain ⟨r147, hr147, h⟩ := bind_eq_some_iff.mp h
 refine QTri.callV W (a := 0) (as := [.int (x0 &&& (255:Int32))]) (rest := []) (w := (some (.int r147.1))) (σ₁ := (H0 r147.2)) rfl rfl rfl rfl rfl rfl rfl rfl (tF3 Ad W r13 (x0 &&& (255:Int32)) hr147) ?_
 rcases qite h with ⟨hc148, h⟩ | ⟨hc148, h⟩
 ·refine zT Ad W (t := 60) (f := 58) rfl (XT.i0_eq_t hc148) ?_
  refine zS Ad W 3 (st' := (65, [vI x0, vI x1, vI x2, vI x3, vR 0, vI (x0 &&& (255:Int32)), vI (x1 &&& (255:Int32)), vI (x2 &&& (255:Int32)), vI (x3 &&& (3:Int32)), vI (((x3 &&& (3:Int32)) + (1:Int32)) &&& (3:Int32)), none], [.int (1:Int32), .int (x3 &&& (3:Int32)), .ref 0], (H0 r147.2))) rfl ?_
  obtain ⟨r156, hr156, h⟩ := bind_eq_some_iff.mp h
  refine QTri.callV W (a := 0) (as := [.int (x3 &&& (3:Int32)), .int (1:Int32)]) (rest := []) (w := (some (.int r156.1))) (σ₁ := (H0 r156.2)) rfl rfl rfl rfl rfl rfl rfl rfl (tF15 Ad W r147.2 (x3 &&& (3:Int32)) (1:Int32) hr156) ?_
  rcases qite h with ⟨hc157, h⟩ | ⟨hc157, h⟩
  ·refine zF Ad W (t := 73) (f := 71) rfl (XT.i0_ne_f hc157) ?_
   refine zS Ad W 1 (st' := (72, [vI x0, vI x1, vI x2, vI x3, vR 0, vI (x0 &&& (255:Int32)), vI (x1 &&& (255:Int32)), vI (x2 &&& (255:Int32)), vI (x3 &&& (3:Int32)), vI (((x3 &&& (3:Int32)) + (1:Int32)) &&& (3:Int32)), none], [.int (0:Int32)], (H0 r156.2))) rfl ?_
   obtain rfl := Option.some.inj h
   exact QTri.retZ rfl rfl
  ·refine zT Ad W (t := 73) (f := 71) rfl (XT.i0_ne_t hc157) ?_
   refine zS Ad W 2 (st' := (77, [vI x0, vI x1, vI x2, vI x3, vR 0, vI (x0 &&& (255:Int32)), vI (x1 &&& (255:Int32)), vI (x2 &&& (255:Int32)), vI (x3 &&& (3:Int32)), vI (((x3 &&& (3:Int32)) + (1:Int32)) &&& (3:Int32)), none], [.int (x1 &&& (255:Int32)), .ref 0], (H0 r156.2))) rfl ?_
   obtain ⟨r158, hr158, h⟩ := bind_eq_some_iff.mp h
   refine QTri.callV W (a := 0) (as := [.int (x1 &&& (255:Int32))]) (rest := []) (w := (some (.int r158.1))) (σ₁ := (H0 r158.2)) rfl rfl rfl rfl rfl rfl rfl rfl (tF3 Ad W r156.2 (x1 &&& (255:Int32)) hr158) ?_
   refine zS Ad W 1 (st' := (81, [vI x0, vI x1, vI x2, vI x3, vR 0, vI (x0 &&& (255:Int32)), vI (x1 &&& (255:Int32)), vI (x2 &&& (255:Int32)), vI (x3 &&& (3:Int32)), vI (((x3 &&& (3:Int32)) + (1:Int32)) &&& (3:Int32)), none], [.int (1:Int32), .int r158.1], (H0 r158.2))) rfl ?_
   rcases qite h with ⟨hc159, h⟩ | ⟨hc159, h⟩
   ·refine zT Ad W (t := 86) (f := 84) rfl (XT.ii_eq_t hc159) ?_
    refine zS Ad W 2 (st' := (90, [vI x0, vI x1, vI x2, vI x3, vR 0, vI (x0 &&& (255:Int32)), vI (x1 &&& (255:Int32)), vI (x2 &&& (255:Int32)), vI (x3 &&& (3:Int32)), vI (((x3 &&& (3:Int32)) + (1:Int32)) &&& (3:Int32)), none], [.int (x2 &&& (255:Int32)), .ref 0], (H0 r158.2))) rfl ?_
    obtain ⟨r160, hr160, h⟩ := bind_eq_some_iff.mp h
    refine QTri.callV W (a := 0) (as := [.int (x2 &&& (255:Int32))]) (rest := []) (w := (some (.int r160.1))) (σ₁ := (H0 r160.2)) rfl rfl rfl rfl rfl rfl rfl rfl (tF3 Ad W r158.2 (x2 &&& (255:Int32)) hr160) ?_
    refine zS Ad W 1 (st' := (94, [vI x0, vI x1, vI x2, vI x3, vR 0, vI (x0 &&& (255:Int32)), vI (x1 &&& (255:Int32)), vI (x2 &&& (255:Int32)), vI (x3 &&& (3:Int32)), vI (((x3 &&& (3:Int32)) + (1:Int32)) &&& (3:Int32)), none], [.int (2:Int32), .int r160.1], (H0 r160.2))) rfl ?_
    rcases qite h with ⟨hc161, h⟩ | ⟨hc161, h⟩
    ·refine zT Ad W (t := 99) (f := 97) rfl (XT.ii_eq_t hc161) ?_
     refine zS Ad W 3 (st' := (104, [vI x0, vI x1, vI x2, vI x3, vR 0, vI (x0 &&& (255:Int32)), vI (x1 &&& (255:Int32)), vI (x2 &&& (255:Int32)), vI (x3 &&& (3:Int32)), vI (((x3 &&& (3:Int32)) + (1:Int32)) &&& (3:Int32)), none], [.int (1:Int32), .int (x3 &&& (3:Int32)), .ref 0], (H0 r160.2))) rfl ?_
     obtain ⟨r167, hr167, h⟩ := bind_eq_some_iff.mp h
     refine QTri.callV W (a := 0) (as := [.int (x3 &&& (3:Int32)), .int (1:Int32)]) (rest := []) (w := (some (.int r167))) (σ₁ := (H0 r160.2)) rfl rfl rfl rfl rfl rfl rfl rfl (tF18 Ad W r160.2 (x3 &&& (3:Int32)) (1:Int32) hr167) ?_
     refine zS Ad W 1 (st' := (108, [vI x0, vI x1, vI x2, vI x3, vR 0, vI (x0 &&& (255:Int32)), vI (x1 &&& (255:Int32)), vI (x2 &&& (255:Int32)), vI (x3 &&& (3:Int32)), vI (((x3 &&& (3:Int32)) + (1:Int32)) &&& (3:Int32)), none], [.int (1:Int32), .int r167], (H0 r160.2))) rfl ?_
     rcases qite h with ⟨hc168, h⟩ | ⟨hc168, h⟩
     ·refine zT Ad W (t := 113) (f := 111) rfl (XT.ii_eq_t hc168) ?_
      refine zS Ad W 3 (st' := (118, [vI x0, vI x1, vI x2, vI x3, vR 0, vI (x0 &&& (255:Int32)), vI (x1 &&& (255:Int32)), vI (x2 &&& (255:Int32)), vI (x3 &&& (3:Int32)), vI (((x3 &&& (3:Int32)) + (1:Int32)) &&& (3:Int32)), none], [.int (1:Int32), .int (x3 &&& (3:Int32)), .ref 0], (H0 r160.2))) rfl ?_
      obtain ⟨r174, hr174, h⟩ := bind_eq_some_iff.mp h
      refine QTri.callV W (a := 0) (as := [.int (x3 &&& (3:Int32)), .int (1:Int32)]) (rest := []) (w := (some (.int r174))) (σ₁ := (H0 r160.2)) rfl rfl rfl rfl rfl rfl rfl rfl (tF19 Ad W r160.2 (x3 &&& (3:Int32)) (1:Int32) hr174) ?_
      refine zS Ad W 3 (st' := (125, [vI x0, vI x1, vI x2, vI x3, vR 0, vI (x0 &&& (255:Int32)), vI (x1 &&& (255:Int32)), vI (x2 &&& (255:Int32)), vI (x3 &&& (3:Int32)), vI (((x3 &&& (3:Int32)) + (1:Int32)) &&& (3:Int32)), none], [.int ((1:Int32) + (x3 &&& (3:Int32))), .int r174], (H0 r160.2))) rfl ?_
      rcases qite h with ⟨hc175, h⟩ | ⟨hc175, h⟩
      ·refine zT Ad W (t := 130) (f := 128) rfl (XT.ii_eq_t hc175) ?_
       refine zS Ad W 2 (st' := (133, [vI x0, vI x1, vI x2, vI x3, vR 0, vI (x0 &&& (255:Int32)), vI (x1 &&& (255:Int32)), vI (x2 &&& (255:Int32)), vI (x3 &&& (3:Int32)), vI (((x3 &&& (3:Int32)) + (1:Int32)) &&& (3:Int32)), vI (0:Int32)], [], (H0 r160.2))) rfl ?_
       obtain ⟨e273, he273, h⟩ := bind_eq_some_iff.mp h
       refine zM [ff,ff,ff,ff,tt,tt,tt,tt,tt,tt,tt] (loopN_tri (B := B0_133 (x0 &&& (255:Int32)) (x1 &&& (255:Int32)) (x2 &&& (255:Int32)) (x3 &&& (3:Int32)) (((x3 &&& (3:Int32)) + (1:Int32)) &&& (3:Int32))) (T := fun lv274 => QTri l Z n0 ad 0 (133, [none, none, none, none, vR 0, vI (x0 &&& (255:Int32)), vI (x1 &&& (255:Int32)), vI (x2 &&& (255:Int32)), vI (x3 &&& (3:Int32)), vI (((x3 &&& (3:Int32)) + (1:Int32)) &&& (3:Int32)), vI lv274.1], [], (H0 lv274.2)) (some (Value.int r.1)) r.2) (KE := fun e273a => QTri l Z n0 ad 0 (151, [none, none, none, none, vR 0, vI (x0 &&& (255:Int32)), vI (x1 &&& (255:Int32)), vI (x2 &&& (255:Int32)), vI (x3 &&& (3:Int32)), vI (((x3 &&& (3:Int32)) + (1:Int32)) &&& (3:Int32)), none], [], (H0 e273a)) (some (Value.int r.1)) r.2) (fun lv274 r hB hE hC => tB0_133 Ad W (x0 &&& (255:Int32)) (x1 &&& (255:Int32)) (x2 &&& (255:Int32)) (x3 &&& (3:Int32)) (((x3 &&& (3:Int32)) + (1:Int32)) &&& (3:Int32)) lv274 hB (fun x q => hE _ q) (fun x q => hC x q)) qN ((0:Int32), r160.2) e273 he273 ?_)
       refine zS Ad W 3 (st' := (156, [none, none, none, none, vR 0, vI (x0 &&& (255:Int32)), vI (x1 &&& (255:Int32)), vI (x2 &&& (255:Int32)), vI (x3 &&& (3:Int32)), vI (((x3 &&& (3:Int32)) + (1:Int32)) &&& (3:Int32)), none], [.int (1:Int32), .int (x3 &&& (3:Int32)), .ref 0], (H0 e273))) rfl ?_
       obtain ⟨r275, hr275, h⟩ := bind_eq_some_iff.mp h
       refine QTri.callV W (a := 0) (as := [.int (x3 &&& (3:Int32)), .int (1:Int32)]) (rest := []) (w := (some (.int r275))) (σ₁ := (H0 e273)) rfl rfl rfl rfl rfl rfl rfl rfl (tF18 Ad W e273 (x3 &&& (3:Int32)) (1:Int32) hr275) ?_
       refine zS Ad W 1 (st' := (160, [none, none, none, none, vR 0, vI (x0 &&& (255:Int32)), vI (x1 &&& (255:Int32)), vI (x2 &&& (255:Int32)), vI (x3 &&& (3:Int32)), vI (((x3 &&& (3:Int32)) + (1:Int32)) &&& (3:Int32)), none], [.int (5:Int32), .int r275], (H0 e273))) rfl ?_
       rcases qite h with ⟨hc276, h⟩ | ⟨hc276, h⟩
       ·refine zT Ad W (t := 165) (f := 163) rfl (XT.ii_eq_t hc276) ?_
        refine zS Ad W 3 (st' := (170, [none, none, none, none, vR 0, vI (x0 &&& (255:Int32)), vI (x1 &&& (255:Int32)), vI (x2 &&& (255:Int32)), vI (x3 &&& (3:Int32)), vI (((x3 &&& (3:Int32)) + (1:Int32)) &&& (3:Int32)), none], [.int (3:Int32), .int (x3 &&& (3:Int32)), .ref 0], (H0 e273))) rfl ?_
        obtain ⟨r295, hr295, h⟩ := bind_eq_some_iff.mp h
        refine QTri.callV W (a := 0) (as := [.int (x3 &&& (3:Int32)), .int (3:Int32)]) (rest := []) (w := (some (.int r295))) (σ₁ := (H0 e273)) rfl rfl rfl rfl rfl rfl rfl rfl (tF29 Ad W e273 (x3 &&& (3:Int32)) (3:Int32) hr295) ?_
        refine zS Ad W 1 (st' := (174, [none, none, none, none, vR 0, vI (x0 &&& (255:Int32)), vI (x1 &&& (255:Int32)), vI (x2 &&& (255:Int32)), vI (x3 &&& (3:Int32)), vI (((x3 &&& (3:Int32)) + (1:Int32)) &&& (3:Int32)), none], [.int (3:Int32), .int r295], (H0 e273))) rfl ?_
        rcases qite h with ⟨hc296, h⟩ | ⟨hc296, h⟩
        ·refine zT Ad W (t := 179) (f := 177) rfl (XT.ii_eq_t hc296) ?_
         refine zS Ad W 3 (st' := (184, [none, none, none, none, vR 0, vI (x0 &&& (255:Int32)), vI (x1 &&& (255:Int32)), vI (x2 &&& (255:Int32)), vI (x3 &&& (3:Int32)), vI (((x3 &&& (3:Int32)) + (1:Int32)) &&& (3:Int32)), none], [.int (0:Int32), .int (x3 &&& (3:Int32)), .ref 0], (H0 e273))) rfl ?_
         obtain ⟨r303, hr303, h⟩ := bind_eq_some_iff.mp h
         refine QTri.callV W (a := 0) (as := [.int (x3 &&& (3:Int32)), .int (0:Int32)]) (rest := []) (w := (some (.int r303))) (σ₁ := (H0 e273)) rfl rfl rfl rfl rfl rfl rfl rfl (tF30 Ad W e273 (x3 &&& (3:Int32)) (0:Int32) hr303) ?_
         refine zS Ad W 1 (st' := (189, [none, none, none, none, vR 0, vI (x0 &&& (255:Int32)), vI (x1 &&& (255:Int32)), vI (x2 &&& (255:Int32)), vI (x3 &&& (3:Int32)), vI (((x3 &&& (3:Int32)) + (1:Int32)) &&& (3:Int32)), none], [.int (x0 &&& (255:Int32)), .int r303], (H0 e273))) rfl ?_
         rcases qite h with ⟨hc304, h⟩ | ⟨hc304, h⟩
         ·refine zT Ad W (t := 194) (f := 192) rfl (XT.ii_eq_t hc304) ?_
          refine zS Ad W 3 (st' := (199, [none, none, none, none, vR 0, vI (x0 &&& (255:Int32)), vI (x1 &&& (255:Int32)), vI (x2 &&& (255:Int32)), vI (x3 &&& (3:Int32)), vI (((x3 &&& (3:Int32)) + (1:Int32)) &&& (3:Int32)), none], [.int (1:Int32), .int (x3 &&& (3:Int32)), .ref 0], (H0 e273))) rfl ?_
          obtain ⟨r305, hr305, h⟩ := bind_eq_some_iff.mp h
          refine QTri.callV W (a := 0) (as := [.int (x3 &&& (3:Int32)), .int (1:Int32)]) (rest := []) (w := (some (.int r305))) (σ₁ := (H0 e273)) rfl rfl rfl rfl rfl rfl rfl rfl (tF30 Ad W e273 (x3 &&& (3:Int32)) (1:Int32) hr305) ?_
          refine zS Ad W 1 (st' := (204, [none, none, none, none, vR 0, vI (x0 &&& (255:Int32)), vI (x1 &&& (255:Int32)), vI (x2 &&& (255:Int32)), vI (x3 &&& (3:Int32)), vI (((x3 &&& (3:Int32)) + (1:Int32)) &&& (3:Int32)), none], [.int (x1 &&& (255:Int32)), .int r305], (H0 e273))) rfl ?_
          rcases qite h with ⟨hc306, h⟩ | ⟨hc306, h⟩
          ·refine zT Ad W (t := 209) (f := 207) rfl (XT.ii_eq_t hc306) ?_
           refine zS Ad W 3 (st' := (214, [none, none, none, none, vR 0, vI (x0 &&& (255:Int32)), vI (x1 &&& (255:Int32)), vI (x2 &&& (255:Int32)), vI (x3 &&& (3:Int32)), vI (((x3 &&& (3:Int32)) + (1:Int32)) &&& (3:Int32)), none], [.int (2:Int32), .int (x3 &&& (3:Int32)), .ref 0], (H0 e273))) rfl ?_
           obtain ⟨r307, hr307, h⟩ := bind_eq_some_iff.mp h
           refine QTri.callV W (a := 0) (as := [.int (x3 &&& (3:Int32)), .int (2:Int32)]) (rest := []) (w := (some (.int r307))) (σ₁ := (H0 e273)) rfl rfl rfl rfl rfl rfl rfl rfl (tF30 Ad W e273 (x3 &&& (3:Int32)) (2:Int32) hr307) ?_
           refine zS Ad W 1 (st' := (219, [none, none, none, none, vR 0, vI (x0 &&& (255:Int32)), vI (x1 &&& (255:Int32)), vI (x2 &&& (255:Int32)), vI (x3 &&& (3:Int32)), vI (((x3 &&& (3:Int32)) + (1:Int32)) &&& (3:Int32)), none], [.int (x2 &&& (255:Int32)), .int r307], (H0 e273))) rfl ?_
           rcases qite h with ⟨hc308, h⟩ | ⟨hc308, h⟩
           ·refine zT Ad W (t := 224) (f := 222) rfl (XT.ii_eq_t hc308) ?_
            refine zS Ad W 3 (st' := (229, [none, none, none, none, vR 0, vI (x0 &&& (255:Int32)), vI (x1 &&& (255:Int32)), vI (x2 &&& (255:Int32)), vI (x3 &&& (3:Int32)), vI (((x3 &&& (3:Int32)) + (1:Int32)) &&& (3:Int32)), none], [.int (1:Int32), .int (x3 &&& (3:Int32)), .ref 0], (H0 e273))) rfl ?_
            obtain ⟨r315, hr315, h⟩ := bind_eq_some_iff.mp h
            refine QTri.callV W (a := 0) (as := [.int (x3 &&& (3:Int32)), .int (1:Int32)]) (rest := []) (w := (some (.int r315))) (σ₁ := (H0 e273)) rfl rfl rfl rfl rfl rfl rfl rfl (tF31 Ad W e273 (x3 &&& (3:Int32)) (1:Int32) hr315) ?_
            refine zS Ad W 1 (st' := (233, [none, none, none, none, vR 0, vI (x0 &&& (255:Int32)), vI (x1 &&& (255:Int32)), vI (x2 &&& (255:Int32)), vI (x3 &&& (3:Int32)), vI (((x3 &&& (3:Int32)) + (1:Int32)) &&& (3:Int32)), none], [.int (1:Int32), .int r315], (H0 e273))) rfl ?_
            rcases qite h with ⟨hc316, h⟩ | ⟨hc316, h⟩
            ·refine zT Ad W (t := 238) (f := 236) rfl (XT.ii_eq_t hc316) ?_
             refine zS Ad W 3 (st' := (244, [none, none, none, none, vR 0, vI (x0 &&& (255:Int32)), vI (x1 &&& (255:Int32)), vI (x2 &&& (255:Int32)), vI (x3 &&& (3:Int32)), vI (((x3 &&& (3:Int32)) + (1:Int32)) &&& (3:Int32)), none], [.int (6:Int32), .int (x3 &&& (3:Int32)), .ref 0], (H0 e273))) rfl ?_
             obtain ⟨r317, hr317, h⟩ := bind_eq_some_iff.mp h
             refine QTri.callV W (a := 0) (as := [.int (x3 &&& (3:Int32)), .int (6:Int32)]) (rest := []) (w := (some (.int r317))) (σ₁ := (H0 e273)) rfl rfl rfl rfl rfl rfl rfl rfl (tF29 Ad W e273 (x3 &&& (3:Int32)) (6:Int32) hr317) ?_
             rcases qite h with ⟨hc318, h⟩ | ⟨hc318, h⟩
             ·refine zT Ad W (t := 252) (f := 250) rfl (XT.i0_eq_t hc318) ?_
              refine zS Ad W 3 (st' := (258, [none, none, none, none, vR 0, vI (x0 &&& (255:Int32)), vI (x1 &&& (255:Int32)), vI (x2 &&& (255:Int32)), vI (x3 &&& (3:Int32)), vI (((x3 &&& (3:Int32)) + (1:Int32)) &&& (3:Int32)), none], [.int (6:Int32), .int (((x3 &&& (3:Int32)) + (1:Int32)) &&& (3:Int32)), .ref 0], (H0 e273))) rfl ?_
              obtain ⟨r319, hr319, h⟩ := bind_eq_some_iff.mp h
              refine QTri.callV W (a := 0) (as := [.int (((x3 &&& (3:Int32)) + (1:Int32)) &&& (3:Int32)), .int (6:Int32)]) (rest := []) (w := (some (.int r319))) (σ₁ := (H0 e273)) rfl rfl rfl rfl rfl rfl rfl rfl (tF29 Ad W e273 (((x3 &&& (3:Int32)) + (1:Int32)) &&& (3:Int32)) (6:Int32) hr319) ?_
              refine zS Ad W 1 (st' := (262, [none, none, none, none, vR 0, vI (x0 &&& (255:Int32)), vI (x1 &&& (255:Int32)), vI (x2 &&& (255:Int32)), vI (x3 &&& (3:Int32)), vI (((x3 &&& (3:Int32)) + (1:Int32)) &&& (3:Int32)), none], [.int (1:Int32), .int r319], (H0 e273))) rfl ?_
              rcases qite h with ⟨hc320, h⟩ | ⟨hc320, h⟩
              ·refine zT Ad W (t := 267) (f := 265) rfl (XT.ii_eq_t hc320) ?_
               refine zS Ad W 2 (st' := (270, [none, none, none, none, vR 0, vI (x0 &&& (255:Int32)), vI (x1 &&& (255:Int32)), vI (x2 &&& (255:Int32)), vI (x3 &&& (3:Int32)), vI (((x3 &&& (3:Int32)) + (1:Int32)) &&& (3:Int32)), none], [.int (0:Int32), .ref 0], (H0 e273))) rfl ?_
               obtain ⟨r325, hr325, h⟩ := bind_eq_some_iff.mp h
               refine QTri.callV W (a := 0) (as := [.int (0:Int32)]) (rest := []) (w := (some (.int r325))) (σ₁ := (H0 e273)) rfl rfl rfl rfl rfl rfl rfl rfl (tF32 Ad W e273 (0:Int32) hr325) ?_
               refine zS Ad W 1 (st' := (275, [none, none, none, none, vR 0, vI (x0 &&& (255:Int32)), vI (x1 &&& (255:Int32)), vI (x2 &&& (255:Int32)), vI (x3 &&& (3:Int32)), vI (((x3 &&& (3:Int32)) + (1:Int32)) &&& (3:Int32)), none], [.int (6:Int32), .int r325], (H0 e273))) rfl ?_
               rcases qite h with ⟨hc326, h⟩ | ⟨hc326, h⟩
               ·refine zT Ad W (t := 280) (f := 278) rfl (XT.ii_eq_t hc326) ?_
                refine zS Ad W 2 (st' := (283, [none, none, none, none, vR 0, vI (x0 &&& (255:Int32)), vI (x1 &&& (255:Int32)), vI (x2 &&& (255:Int32)), vI (x3 &&& (3:Int32)), vI (((x3 &&& (3:Int32)) + (1:Int32)) &&& (3:Int32)), none], [.int (4:Int32), .ref 0], (H0 e273))) rfl ?_
                obtain ⟨r327, hr327, h⟩ := bind_eq_some_iff.mp h
                refine QTri.callV W (a := 0) (as := [.int (4:Int32)]) (rest := []) (w := (some (.int r327))) (σ₁ := (H0 e273)) rfl rfl rfl rfl rfl rfl rfl rfl (tF32 Ad W e273 (4:Int32) hr327) ?_
                refine zS Ad W 1 (st' := (287, [none, none, none, none, vR 0, vI (x0 &&& (255:Int32)), vI (x1 &&& (255:Int32)), vI (x2 &&& (255:Int32)), vI (x3 &&& (3:Int32)), vI (((x3 &&& (3:Int32)) + (1:Int32)) &&& (3:Int32)), none], [.int (1:Int32), .int r327], (H0 e273))) rfl ?_
                rcases qite h with ⟨hc328, h⟩ | ⟨hc328, h⟩
                ·refine zT Ad W (t := 292) (f := 290) rfl (XT.ii_eq_t hc328) ?_
                 refine zS Ad W 2 (st' := (295, [none, none, none, none, vR 0, vI (x0 &&& (255:Int32)), vI (x1 &&& (255:Int32)), vI (x2 &&& (255:Int32)), vI (x3 &&& (3:Int32)), vI (((x3 &&& (3:Int32)) + (1:Int32)) &&& (3:Int32)), none], [.int (5:Int32), .ref 0], (H0 e273))) rfl ?_
                 obtain ⟨r329, hr329, h⟩ := bind_eq_some_iff.mp h
                 refine QTri.callV W (a := 0) (as := [.int (5:Int32)]) (rest := []) (w := (some (.int r329))) (σ₁ := (H0 e273)) rfl rfl rfl rfl rfl rfl rfl rfl (tF32 Ad W e273 (5:Int32) hr329) ?_
                 refine zS Ad W 1 (st' := (299, [none, none, none, none, vR 0, vI (x0 &&& (255:Int32)), vI (x1 &&& (255:Int32)), vI (x2 &&& (255:Int32)), vI (x3 &&& (3:Int32)), vI (((x3 &&& (3:Int32)) + (1:Int32)) &&& (3:Int32)), none], [.int (1:Int32), .int r329], (H0 e273))) rfl ?_
                 rcases qite h with ⟨hc330, h⟩ | ⟨hc330, h⟩
                 ·refine zT Ad W (t := 304) (f := 302) rfl (XT.ii_eq_t hc330) ?_
                  refine zS Ad W 2 (st' := (308, [none, none, none, none, vR 0, vI (x0 &&& (255:Int32)), vI (x1 &&& (255:Int32)), vI (x2 &&& (255:Int32)), vI (x3 &&& (3:Int32)), vI (((x3 &&& (3:Int32)) + (1:Int32)) &&& (3:Int32)), none], [.int (6:Int32), .ref 0], (H0 e273))) rfl ?_
                  obtain ⟨r331, hr331, h⟩ := bind_eq_some_iff.mp h
                  refine QTri.callV W (a := 0) (as := [.int (6:Int32)]) (rest := []) (w := (some (.int r331))) (σ₁ := (H0 e273)) rfl rfl rfl rfl rfl rfl rfl rfl (tF32 Ad W e273 (6:Int32) hr331) ?_
                  rcases qite h with ⟨hc332, h⟩ | ⟨hc332, h⟩
                  ·refine zT Ad W (t := 316) (f := 314) rfl (XT.i0_eq_t hc332) ?_
                   refine zS Ad W 2 (st' := (320, [none, none, none, none, vR 0, vI (x0 &&& (255:Int32)), vI (x1 &&& (255:Int32)), vI (x2 &&& (255:Int32)), vI (x3 &&& (3:Int32)), vI (((x3 &&& (3:Int32)) + (1:Int32)) &&& (3:Int32)), none], [.int (7:Int32), .ref 0], (H0 e273))) rfl ?_
                   obtain ⟨r333, hr333, h⟩ := bind_eq_some_iff.mp h
                   refine QTri.callV W (a := 0) (as := [.int (7:Int32)]) (rest := []) (w := (some (.int r333))) (σ₁ := (H0 e273)) rfl rfl rfl rfl rfl rfl rfl rfl (tF32 Ad W e273 (7:Int32) hr333) ?_
                   refine zS Ad W 1 (st' := (324, [none, none, none, none, vR 0, vI (x0 &&& (255:Int32)), vI (x1 &&& (255:Int32)), vI (x2 &&& (255:Int32)), vI (x3 &&& (3:Int32)), vI (((x3 &&& (3:Int32)) + (1:Int32)) &&& (3:Int32)), none], [.int (1:Int32), .int r333], (H0 e273))) rfl ?_
                   rcases qite h with ⟨hc334, h⟩ | ⟨hc334, h⟩
                   ·refine zT Ad W (t := 329) (f := 327) rfl (XT.ii_eq_t hc334) ?_
                    refine zS Ad W 2 (st' := (332, [none, none, none, none, vR 0, vI (x0 &&& (255:Int32)), vI (x1 &&& (255:Int32)), vI (x2 &&& (255:Int32)), vI (x3 &&& (3:Int32)), vI (((x3 &&& (3:Int32)) + (1:Int32)) &&& (3:Int32)), none], [.int (2:Int32), .ref 0], (H0 e273))) rfl ?_
                    obtain ⟨r335, hr335, h⟩ := bind_eq_some_iff.mp h
                    refine QTri.callV W (a := 0) (as := [.int (2:Int32)]) (rest := []) (w := (some (.int r335))) (σ₁ := (H0 e273)) rfl rfl rfl rfl rfl rfl rfl rfl (tF32 Ad W e273 (2:Int32) hr335) ?_
                    refine zS Ad W 1 (st' := (336, [none, none, none, none, vR 0, vI (x0 &&& (255:Int32)), vI (x1 &&& (255:Int32)), vI (x2 &&& (255:Int32)), vI (x3 &&& (3:Int32)), vI (((x3 &&& (3:Int32)) + (1:Int32)) &&& (3:Int32)), none], [.int (1:Int32), .int r335], (H0 e273))) rfl ?_
                    rcases qite h with ⟨hc336, h⟩ | ⟨hc336, h⟩
                    ·refine zT Ad W (t := 341) (f := 339) rfl (XT.ii_eq_t hc336) ?_
                     refine zS Ad W 2 (st' := (344, [none, none, none, none, vR 0, vI (x0 &&& (255:Int32)), vI (x1 &&& (255:Int32)), vI (x2 &&& (255:Int32)), vI (x3 &&& (3:Int32)), vI (((x3 &&& (3:Int32)) + (1:Int32)) &&& (3:Int32)), none], [.int (3:Int32), .ref 0], (H0 e273))) rfl ?_
                     obtain ⟨r337, hr337, h⟩ := bind_eq_some_iff.mp h
                     refine QTri.callV W (a := 0) (as := [.int (3:Int32)]) (rest := []) (w := (some (.int r337))) (σ₁ := (H0 e273)) rfl rfl rfl rfl rfl rfl rfl rfl (tF32 Ad W e273 (3:Int32) hr337) ?_
                     rcases qite h with ⟨hc338, h⟩ | ⟨hc338, h⟩
                     ·refine zT Ad W (t := 352) (f := 350) rfl (XT.i0_eq_t hc338) ?_
                      refine zS Ad W 2 (st' := (356, [none, none, none, none, vR 0, vI (x0 &&& (255:Int32)), vI (x1 &&& (255:Int32)), vI (x2 &&& (255:Int32)), vI (x3 &&& (3:Int32)), vI (((x3 &&& (3:Int32)) + (1:Int32)) &&& (3:Int32)), none], [.int (9:Int32), .ref 0], (H0 e273))) rfl ?_
                      obtain ⟨r339, hr339, h⟩ := bind_eq_some_iff.mp h
                      refine QTri.callV W (a := 0) (as := [.int (9:Int32)]) (rest := []) (w := (some (.int r339))) (σ₁ := (H0 e273)) rfl rfl rfl rfl rfl rfl rfl rfl (tF32 Ad W e273 (9:Int32) hr339) ?_
                      refine zS Ad W 1 (st' := (360, [none, none, none, none, vR 0, vI (x0 &&& (255:Int32)), vI (x1 &&& (255:Int32)), vI (x2 &&& (255:Int32)), vI (x3 &&& (3:Int32)), vI (((x3 &&& (3:Int32)) + (1:Int32)) &&& (3:Int32)), none], [.int (1:Int32), .int r339], (H0 e273))) rfl ?_
                      rcases qite h with ⟨hc340, h⟩ | ⟨hc340, h⟩
                      ·refine zT Ad W (t := 365) (f := 363) rfl (XT.ii_eq_t hc340) ?_
                       refine zS Ad W 2 (st' := (369, [none, none, none, none, vR 0, vI (x0 &&& (255:Int32)), vI (x1 &&& (255:Int32)), vI (x2 &&& (255:Int32)), vI (x3 &&& (3:Int32)), vI (((x3 &&& (3:Int32)) + (1:Int32)) &&& (3:Int32)), none], [.int (8:Int32), .ref 0], (H0 e273))) rfl ?_
                       obtain ⟨r341, hr341, h⟩ := bind_eq_some_iff.mp h
                       refine QTri.callV W (a := 0) (as := [.int (8:Int32)]) (rest := []) (w := (some (.int r341))) (σ₁ := (H0 e273)) rfl rfl rfl rfl rfl rfl rfl rfl (tF32 Ad W e273 (8:Int32) hr341) ?_
                       rcases qite h with ⟨hc342, h⟩ | ⟨hc342, h⟩
                       ·refine zT Ad W (t := 377) (f := 375) rfl (XT.i0_eq_t hc342) ?_
                        refine zS Ad W 2 (st' := (380, [none, none, none, none, vR 0, vI (x0 &&& (255:Int32)), vI (x1 &&& (255:Int32)), vI (x2 &&& (255:Int32)), vI (x3 &&& (3:Int32)), vI (((x3 &&& (3:Int32)) + (1:Int32)) &&& (3:Int32)), none], [.int (1:Int32), .ref 0], (H0 e273))) rfl ?_
                        obtain ⟨r346, hr346, h⟩ := bind_eq_some_iff.mp h
                        refine QTri.callV W (a := 0) (as := [.int (1:Int32)]) (rest := []) (w := (some (.int r346))) (σ₁ := (H0 e273)) rfl rfl rfl rfl rfl rfl rfl rfl (tF33 Ad W e273 (1:Int32) hr346) ?_
                        rcases qite h with ⟨hc347, h⟩ | ⟨hc347, h⟩
                        ·refine zF Ad W (t := 390) (f := 386) rfl (XT.i0_ne_f hc347) ?_
                         refine zS Ad W 2 (st' := (391, [none, none, none, none, vR 0, vI (x0 &&& (255:Int32)), vI (x1 &&& (255:Int32)), vI (x2 &&& (255:Int32)), vI (x3 &&& (3:Int32)), vI (((x3 &&& (3:Int32)) + (1:Int32)) &&& (3:Int32)), none], [.int (1:Int32)], (H0 e273))) rfl ?_
                         obtain rfl := Option.some.inj h
                         exact QTri.retZ rfl rfl
                        ·refine zT Ad W (t := 390) (f := 386) rfl (XT.i0_ne_t hc347) ?_
                         refine zS Ad W 1 (st' := (391, [none, none, none, none, vR 0, vI (x0 &&& (255:Int32)), vI (x1 &&& (255:Int32)), vI (x2 &&& (255:Int32)), vI (x3 &&& (3:Int32)), vI (((x3 &&& (3:Int32)) + (1:Int32)) &&& (3:Int32)), none], [.int (0:Int32)], (H0 e273))) rfl ?_
                         obtain rfl := Option.some.inj h
                         exact QTri.retZ rfl rfl
                       ·refine zF Ad W (t := 377) (f := 375) rfl (XT.i0_eq_f hc342) ?_
                        refine zS Ad W 1 (st' := (376, [none, none, none, none, vR 0, vI (x0 &&& (255:Int32)), vI (x1 &&& (255:Int32)), vI (x2 &&& (255:Int32)), vI (x3 &&& (3:Int32)), vI (((x3 &&& (3:Int32)) + (1:Int32)) &&& (3:Int32)), none], [.int (0:Int32)], (H0 e273))) rfl ?_
                        obtain rfl := Option.some.inj h
                        exact QTri.retZ rfl rfl
                      ·refine zF Ad W (t := 365) (f := 363) rfl (XT.ii_eq_f hc340) ?_
                       refine zS Ad W 1 (st' := (364, [none, none, none, none, vR 0, vI (x0 &&& (255:Int32)), vI (x1 &&& (255:Int32)), vI (x2 &&& (255:Int32)), vI (x3 &&& (3:Int32)), vI (((x3 &&& (3:Int32)) + (1:Int32)) &&& (3:Int32)), none], [.int (0:Int32)], (H0 e273))) rfl ?_
                       obtain rfl := Option.some.inj h
                       exact QTri.retZ rfl rfl
                     ·refine zF Ad W (t := 352) (f := 350) rfl (XT.i0_eq_f hc338) ?_
                      refine zS Ad W 1 (st' := (351, [none, none, none, none, vR 0, vI (x0 &&& (255:Int32)), vI (x1 &&& (255:Int32)), vI (x2 &&& (255:Int32)), vI (x3 &&& (3:Int32)), vI (((x3 &&& (3:Int32)) + (1:Int32)) &&& (3:Int32)), none], [.int (0:Int32)], (H0 e273))) rfl ?_
                      obtain rfl := Option.some.inj h
                      exact QTri.retZ rfl rfl
                    ·refine zF Ad W (t := 341) (f := 339) rfl (XT.ii_eq_f hc336) ?_
                     refine zS Ad W 1 (st' := (340, [none, none, none, none, vR 0, vI (x0 &&& (255:Int32)), vI (x1 &&& (255:Int32)), vI (x2 &&& (255:Int32)), vI (x3 &&& (3:Int32)), vI (((x3 &&& (3:Int32)) + (1:Int32)) &&& (3:Int32)), none], [.int (0:Int32)], (H0 e273))) rfl ?_
                     obtain rfl := Option.some.inj h
                     exact QTri.retZ rfl rfl
                   ·refine zF Ad W (t := 329) (f := 327) rfl (XT.ii_eq_f hc334) ?_
                    refine zS Ad W 1 (st' := (328, [none, none, none, none, vR 0, vI (x0 &&& (255:Int32)), vI (x1 &&& (255:Int32)), vI (x2 &&& (255:Int32)), vI (x3 &&& (3:Int32)), vI (((x3 &&& (3:Int32)) + (1:Int32)) &&& (3:Int32)), none], [.int (0:Int32)], (H0 e273))) rfl ?_
                    obtain rfl := Option.some.inj h
                    exact QTri.retZ rfl rfl
                  ·refine zF Ad W (t := 316) (f := 314) rfl (XT.i0_eq_f hc332) ?_
                   refine zS Ad W 1 (st' := (315, [none, none, none, none, vR 0, vI (x0 &&& (255:Int32)), vI (x1 &&& (255:Int32)), vI (x2 &&& (255:Int32)), vI (x3 &&& (3:Int32)), vI (((x3 &&& (3:Int32)) + (1:Int32)) &&& (3:Int32)), none], [.int (0:Int32)], (H0 e273))) rfl ?_
                   obtain rfl := Option.some.inj h
                   exact QTri.retZ rfl rfl
                 ·refine zF Ad W (t := 304) (f := 302) rfl (XT.ii_eq_f hc330) ?_
                  refine zS Ad W 1 (st' := (303, [none, none, none, none, vR 0, vI (x0 &&& (255:Int32)), vI (x1 &&& (255:Int32)), vI (x2 &&& (255:Int32)), vI (x3 &&& (3:Int32)), vI (((x3 &&& (3:Int32)) + (1:Int32)) &&& (3:Int32)), none], [.int (0:Int32)], (H0 e273))) rfl ?_
                  obtain rfl := Option.some.inj h
                  exact QTri.retZ rfl rfl
                ·refine zF Ad W (t := 292) (f := 290) rfl (XT.ii_eq_f hc328) ?_
                 refine zS Ad W 1 (st' := (291, [none, none, none, none, vR 0, vI (x0 &&& (255:Int32)), vI (x1 &&& (255:Int32)), vI (x2 &&& (255:Int32)), vI (x3 &&& (3:Int32)), vI (((x3 &&& (3:Int32)) + (1:Int32)) &&& (3:Int32)), none], [.int (0:Int32)], (H0 e273))) rfl ?_
                 obtain rfl := Option.some.inj h
                 exact QTri.retZ rfl rfl
               ·refine zF Ad W (t := 280) (f := 278) rfl (XT.ii_eq_f hc326) ?_
                refine zS Ad W 1 (st' := (279, [none, none, none, none, vR 0, vI (x0 &&& (255:Int32)), vI (x1 &&& (255:Int32)), vI (x2 &&& (255:Int32)), vI (x3 &&& (3:Int32)), vI (((x3 &&& (3:Int32)) + (1:Int32)) &&& (3:Int32)), none], [.int (0:Int32)], (H0 e273))) rfl ?_
                obtain rfl := Option.some.inj h
                exact QTri.retZ rfl rfl
              ·refine zF Ad W (t := 267) (f := 265) rfl (XT.ii_eq_f hc320) ?_
               refine zS Ad W 1 (st' := (266, [none, none, none, none, vR 0, vI (x0 &&& (255:Int32)), vI (x1 &&& (255:Int32)), vI (x2 &&& (255:Int32)), vI (x3 &&& (3:Int32)), vI (((x3 &&& (3:Int32)) + (1:Int32)) &&& (3:Int32)), none], [.int (0:Int32)], (H0 e273))) rfl ?_
               obtain rfl := Option.some.inj h
               exact QTri.retZ rfl rfl
             ·refine zF Ad W (t := 252) (f := 250) rfl (XT.i0_eq_f hc318) ?_
              refine zS Ad W 1 (st' := (251, [none, none, none, none, vR 0, vI (x0 &&& (255:Int32)), vI (x1 &&& (255:Int32)), vI (x2 &&& (255:Int32)), vI (x3 &&& (3:Int32)), vI (((x3 &&& (3:Int32)) + (1:Int32)) &&& (3:Int32)), none], [.int (0:Int32)], (H0 e273))) rfl ?_
              obtain rfl := Option.some.inj h
              exact QTri.retZ rfl rfl
            ·refine zF Ad W (t := 238) (f := 236) rfl (XT.ii_eq_f hc316) ?_
             refine zS Ad W 1 (st' := (237, [none, none, none, none, vR 0, vI (x0 &&& (255:Int32)), vI (x1 &&& (255:Int32)), vI (x2 &&& (255:Int32)), vI (x3 &&& (3:Int32)), vI (((x3 &&& (3:Int32)) + (1:Int32)) &&& (3:Int32)), none], [.int (0:Int32)], (H0 e273))) rfl ?_
             obtain rfl := Option.some.inj h
             exact QTri.retZ rfl rfl
           ·refine zF Ad W (t := 224) (f := 222) rfl (XT.ii_eq_f hc308) ?_
            refine zS Ad W 1 (st' := (223, [none, none, none, none, vR 0, vI (x0 &&& (255:Int32)), vI (x1 &&& (255:Int32)), vI (x2 &&& (255:Int32)), vI (x3 &&& (3:Int32)), vI (((x3 &&& (3:Int32)) + (1:Int32)) &&& (3:Int32)), none], [.int (0:Int32)], (H0 e273))) rfl ?_
            obtain rfl := Option.some.inj h
            exact QTri.retZ rfl rfl
          ·refine zF Ad W (t := 209) (f := 207) rfl (XT.ii_eq_f hc306) ?_
           refine zS Ad W 1 (st' := (208, [none, none, none, none, vR 0, vI (x0 &&& (255:Int32)), vI (x1 &&& (255:Int32)), vI (x2 &&& (255:Int32)), vI (x3 &&& (3:Int32)), vI (((x3 &&& (3:Int32)) + (1:Int32)) &&& (3:Int32)), none], [.int (0:Int32)], (H0 e273))) rfl ?_
           obtain rfl := Option.some.inj h
           exact QTri.retZ rfl rfl
         ·refine zF Ad W (t := 194) (f := 192) rfl (XT.ii_eq_f hc304) ?_
          refine zS Ad W 1 (st' := (193, [none, none, none, none, vR 0, vI (x0 &&& (255:Int32)), vI (x1 &&& (255:Int32)), vI (x2 &&& (255:Int32)), vI (x3 &&& (3:Int32)), vI (((x3 &&& (3:Int32)) + (1:Int32)) &&& (3:Int32)), none], [.int (0:Int32)], (H0 e273))) rfl ?_
          obtain rfl := Option.some.inj h
          exact QTri.retZ rfl rfl
        ·refine zF Ad W (t := 179) (f := 177) rfl (XT.ii_eq_f hc296) ?_
         refine zS Ad W 1 (st' := (178, [none, none, none, none, vR 0, vI (x0 &&& (255:Int32)), vI (x1 &&& (255:Int32)), vI (x2 &&& (255:Int32)), vI (x3 &&& (3:Int32)), vI (((x3 &&& (3:Int32)) + (1:Int32)) &&& (3:Int32)), none], [.int (0:Int32)], (H0 e273))) rfl ?_
         obtain rfl := Option.some.inj h
         exact QTri.retZ rfl rfl
       ·refine zF Ad W (t := 165) (f := 163) rfl (XT.ii_eq_f hc276) ?_
        refine zS Ad W 1 (st' := (164, [none, none, none, none, vR 0, vI (x0 &&& (255:Int32)), vI (x1 &&& (255:Int32)), vI (x2 &&& (255:Int32)), vI (x3 &&& (3:Int32)), vI (((x3 &&& (3:Int32)) + (1:Int32)) &&& (3:Int32)), none], [.int (0:Int32)], (H0 e273))) rfl ?_
        obtain rfl := Option.some.inj h
        exact QTri.retZ rfl rfl
      ·refine zF Ad W (t := 130) (f := 128) rfl (XT.ii_eq_f hc175) ?_
       refine zS Ad W 1 (st' := (129, [vI x0, vI x1, vI x2, vI x3, vR 0, vI (x0 &&& (255:Int32)), vI (x1 &&& (255:Int32)), vI (x2 &&& (255:Int32)), vI (x3 &&& (3:Int32)), vI (((x3 &&& (3:Int32)) + (1:Int32)) &&& (3:Int32)), none], [.int (0:Int32)], (H0 r160.2))) rfl ?_
       obtain rfl := Option.some.inj h
       exact QTri.retZ rfl rfl
     ·refine zF Ad W (t := 113) (f := 111) rfl (XT.ii_eq_f hc168) ?_
      refine zS Ad W 1 (st' := (112, [vI x0, vI x1, vI x2, vI x3, vR 0, vI (x0 &&& (255:Int32)), vI (x1 &&& (255:Int32)), vI (x2 &&& (255:Int32)), vI (x3 &&& (3:Int32)), vI (((x3 &&& (3:Int32)) + (1:Int32)) &&& (3:Int32)), none], [.int (0:Int32)], (H0 r160.2))) rfl ?_
      obtain rfl := Option.some.inj h
      exact QTri.retZ rfl rfl
    ·refine zF Ad W (t := 99) (f := 97) rfl (XT.ii_eq_f hc161) ?_
     refine zS Ad W 1 (st' := (98, [vI x0, vI x1, vI x2, vI x3, vR 0, vI (x0 &&& (255:Int32)), vI (x1 &&& (255:Int32)), vI (x2 &&& (255:Int32)), vI (x3 &&& (3:Int32)), vI (((x3 &&& (3:Int32)) + (1:Int32)) &&& (3:Int32)), none], [.int (0:Int32)], (H0 r160.2))) rfl ?_
     obtain rfl := Option.some.inj h
     exact QTri.retZ rfl rfl
   ·refine zF Ad W (t := 86) (f := 84) rfl (XT.ii_eq_f hc159) ?_
    refine zS Ad W 1 (st' := (85, [vI x0, vI x1, vI x2, vI x3, vR 0, vI (x0 &&& (255:Int32)), vI (x1 &&& (255:Int32)), vI (x2 &&& (255:Int32)), vI (x3 &&& (3:Int32)), vI (((x3 &&& (3:Int32)) + (1:Int32)) &&& (3:Int32)), none], [.int (0:Int32)], (H0 r158.2))) rfl ?_
    obtain rfl := Option.some.inj h
    exact QTri.retZ rfl rfl
 ·refine zF Ad W (t := 60) (f := 58) rfl (XT.i0_eq_f hc148) ?_
  refine zS Ad W 1 (st' := (59, [vI x0, vI x1, vI x2, vI x3, vR 0, vI (x0 &&& (255:Int32)), vI (x1 &&& (255:Int32)), vI (x2 &&& (255:Int32)), vI (x3 &&& (3:Int32)), vI (((x3 &&& (3:Int32)) + (1:Int32)) &&& (3:Int32)), none], [.int (0:Int32)], (H0 r147.2))) rfl ?_
  obtain rfl := Option.some.inj h
  exact QTri.retZ rfl rfl
end Walks
set_option maxHeartbeats 4000000
theorem i_lt {x y : Int32} : x < y ↔ x.toInt < y.toInt := Int32.lt_iff_toInt_lt
theorem i_eq {x y : Int32} : x = y ↔ x.toInt = y.toInt := Int32.toInt_inj.symm
theorem i_lo (x : Int32) : -2147483648 ≤ x.toInt := Int32.le_toInt x
theorem i_hi (x : Int32) : x.toInt < 2147483648 := Int32.toInt_lt x
theorem i_add {x y : Int32} (h1 : -2147483648 ≤ x.toInt + y.toInt) (h2 : x.toInt + y.toInt < 2147483648) : (x + y).toInt = x.toInt + y.toInt := XT.add32 ⟨h1, by omega⟩
theorem i_sub {x y : Int32} (h1 : -2147483648 ≤ x.toInt - y.toInt) (h2 : x.toInt - y.toInt < 2147483648) : (x - y).toInt = x.toInt - y.toInt := XT.sub32 ⟨h1, by omega⟩
theorem i_mul {x y : Int32} (h1 : -2147483648 ≤ x.toInt * y.toInt) (h2 : x.toInt * y.toInt < 2147483648) : (x * y).toInt = x.toInt * y.toInt := XT.mul32 ⟨h1, by omega⟩
theorem i_nat (x : Int32) : x.toNatClampNeg = x.toInt.toNat := rfl
theorem aget_at {α : Type} {xs : List α} {j : Int32} {n : Nat} (hj : j.toInt = n) (hn : n < xs.length) : aget xs j = some xs[n] := by
 have h0 : ¬ j < 0 := by rw [i_lt]; show ¬ j.toInt < 0; omega
 unfold aget
 rw [if_neg h0, i_nat, hj]
 simp [hn]
theorem aget_rep {α : Type} {m : Nat} {a : α} {j : Int32} (h0 : 0 ≤ j.toInt) (h1 : j.toInt < m) : aget (List.replicate m a) j = some a := by
 rw [aget_at (n := j.toInt.toNat) (by omega) (by rw [List.length_replicate]; omega)]
 simp
theorem aset_at {α : Type} {xs : List α} {j : Int32} {n : Nat} {v : α} (hj : j.toInt = n) (hn : n < xs.length) : aset xs j v = some (xs.set n v) := by
 have h0 : ¬ j < 0 := by rw [i_lt]; show ¬ j.toInt < 0; omega
 unfold aset
 have e : j.toNatClampNeg = n := by rw [i_nat, hj]; simp
 rw [if_neg h0, e, if_pos hn]
theorem rep_set {α : Type} (m k : Nat) (a : α) : (List.replicate m a).set k a = List.replicate m a := by
 apply List.ext_getElem (by simp)
 intro i h1 h2
 rw [List.getElem_set]
 split <;> simp
theorem small_cases {x : Int32} (h0 : 0 ≤ x.toInt) {n : Nat} (h1 : x.toInt < n) {P : Int32 → Prop} (h : ∀ m : Nat, m < n → P (Int32.ofInt m)) : P x := by
 have e : Int32.ofInt (x.toInt.toNat : Nat) = x := by
  rw [Int.toNat_of_nonneg h0, Int32.ofInt_toInt]
 rw [← e]
 exact h _ (by omega)
theorem bit_ne {x : Int32} (h0 : 0 ≤ x.toInt) (h1 : x.toInt < 32) : ¬ (((1 : Int32) <<< (x &&& 31)) &&& ((1 : Int32) <<< (x &&& 31))) = 0 :=
 small_cases (P := fun x => ¬ (((1 : Int32) <<< (x &&& 31)) &&& ((1 : Int32) <<< (x &&& 31))) = 0) h0 (n := 32) h1 (by decide)
def okP {α : Type} (m : Option α) (P : α → Prop) : Prop := ∃ a, m = some a ∧ P a
theorem okP.some {α : Type} {a : α} {P : α → Prop} (h : P a) : okP (some a) P := ⟨a, rfl, h⟩
theorem okP.bind {α β : Type} {m : Option α} {f : α → Option β} {P : β → Prop} (h : okP m fun a => okP (f a) P) : okP (m.bind f) P := by
 obtain ⟨a, e, b, e2, h2⟩ := h
 exact ⟨b, by rw [e]; exact e2, h2⟩
theorem okP.ite {α : Type} {c : Prop} [Decidable c] {a b : Option α} {P : α → Prop} (h1 : c → okP a P) (h2 : ¬ c → okP b P) : okP (if c then a else b) P := by
 by_cases h : c
 ·rw [if_pos h]; exact h1 h
 ·rw [if_neg h]; exact h2 h
theorem okP.mono {α : Type} {m : Option α} {P Q : α → Prop} (h : okP m P) (k : ∀ a, P a → Q a) : okP m Q := by
 obtain ⟨a, e, h⟩ := h
 exact ⟨a, e, k a h⟩
theorem okP.of {α : Type} {m : Option α} {a : α} {P : α → Prop} (e : m = Option.some a) (h : P a) : okP m P := ⟨a, e, h⟩
theorem okP.aget {α : Type} {xs : List α} {j : Int32} {P : α → Prop} (h0 : 0 ≤ j.toInt) (h1 : j.toInt < xs.length) (k : ∀ v, xs[j.toInt.toNat]? = Option.some v → P v) : okP (aget xs j) P :=
 ⟨_, aget_at (n := j.toInt.toNat) (by omega) (by omega), k _ (List.getElem?_eq_getElem _)⟩
theorem okP.aset {α : Type} {xs : List α} {j : Int32} {v : α} {P : List α → Prop} (h0 : 0 ≤ j.toInt) (h1 : j.toInt < xs.length) (k : P (xs.set j.toInt.toNat v)) : okP (aset xs j v) P :=
 ⟨_, aset_at (n := j.toInt.toNat) (by omega) (by omega), k⟩
theorem okP.loop {V E : Type} {B : V → Option (E ⊕ V)} {P : E → Prop} {n : Nat} {v : V} (I : V → Prop) (μ : V → Nat) (hv : I v) (hm : μ v < n) (hB : ∀ v, I v → okP (B v) (fun r => Sum.elim P (fun v' => I v' ∧ μ v' < μ v) r)) : okP (loopN B n v) P := by
 refine loopN_inv I P μ ?_ n v hv hm
 intro v hv
 obtain ⟨r, e, h⟩ := hB v hv
 cases r with
 | inl x => exact Or.inl ⟨x, e, h⟩
 | inr x => exact Or.inr ⟨x, e, h⟩
theorem len_i {n : Nat} (h : n ≤ 1000) : (n.toInt32).toInt = n := by
 have e : n.toInt32 = Int32.ofInt n := rfl
 rw [e, Int32.toInt_ofInt_of_le (by show _ ≤ (n : Int); omega) (by show (n : Int) < _; omega)]
theorem and1 (x : Int32) : x &&& 1 = 0 ∨ x &&& 1 = 1 := by
 have e : (x &&& 1).toBitVec = x.toBitVec &&& 1#32 := rfl
 have h := BitVec.and_one_eq_setWidth_ofBool_getLsbD (x := x.toBitVec)
 cases g : x.toBitVec.getLsbD 0
 ·left; apply Int32.toBitVec_inj.1; rw [e, h, g]; rfl
 ·right; apply Int32.toBitVec_inj.1; rw [e, h, g]; rfl
theorem okP.not {α : Type} {m : Option α} {a : α} {P : α → Prop} (h : okP m P) (e : m = Option.some a) : P a := by
 obtain ⟨b, e2, h⟩ := h
 rw [e] at e2
 exact (Option.some.inj e2) ▸ h
theorem and_rng {x m : Int32} (hm : 0 ≤ m.toInt) : 0 ≤ (x &&& m).toInt ∧ (x &&& m).toInt ≤ m.toInt := by
 have e : (x &&& m).toBitVec.toNat = x.toBitVec.toNat &&& m.toBitVec.toNat := BitVec.toNat_and ..
 have l : (x &&& m).toBitVec.toNat ≤ m.toBitVec.toNat := by rw [e]; exact Nat.and_le_right
 have c1 : m.toInt = if 2 * m.toBitVec.toNat < 2 ^ 32 then (m.toBitVec.toNat : Int) else m.toBitVec.toNat - (2 ^ 32 : Nat) := BitVec.toInt_eq_toNat_cond m.toBitVec
 have c2 : (x &&& m).toInt = if 2 * (x &&& m).toBitVec.toNat < 2 ^ 32 then ((x &&& m).toBitVec.toNat : Int) else (x &&& m).toBitVec.toNat - (2 ^ 32 : Nat) := BitVec.toInt_eq_toNat_cond (x &&& m).toBitVec
 have b : m.toBitVec.toNat < 2 ^ 32 := m.toBitVec.isLt
 by_cases h : 2 * m.toBitVec.toNat < 2 ^ 32
 ·rw [if_pos h] at c1
  rw [if_pos (by omega)] at c2
  omega
 ·rw [if_neg h] at c1
  omega
theorem mod_rng {x m : Int32} (hx : 0 ≤ x.toInt) (hm : 0 < m.toInt) : 0 ≤ (x % m).toInt ∧ (x % m).toInt < m.toInt := by
 rw [Int32.toInt_mod, Int.tmod_eq_emod_of_nonneg hx]
 exact ⟨Int.emod_nonneg _ (by omega), Int.emod_lt_of_pos _ hm⟩
def sFit (s : List Int32) (τ : QHeap) : Prop := τ.length - List.length ([Sum.inr (Sum.inl (FieldType.int, s))] : QHeap) ≤ room_1.cells ∧ qhs τ - qhs [Sum.inr (Sum.inl (FieldType.int, s))] ≤ room_1.slots
theorem aget_map (φ : Int32 → Int32) (l : List Int32) (i : Int32) : aget (l.map φ) i = (aget l i).map φ := by
 unfold aget
 split
 ·rfl
 ·rw [List.getElem?_map]
theorem aset_map (φ : Int32 → Int32) (l : List Int32) (i v : Int32) : aset (l.map φ) i (φ v) = (aset l i v).map (List.map φ) := by
 unfold aset
 rw [List.length_map]
 split
 ·rfl
 ·split
  ·rw [Option.map_some, List.map_set]
  ·rfl
theorem loop_map {V V' E E' : Type} {B : V → Option (E ⊕ V)} {B' : V' → Option (E' ⊕ V')} (m : V → V') (g : E → E') (h : ∀ v, B' (m v) = (B v).map (Sum.map g m)) : ∀ (n : Nat) (v : V), loopN B' n (m v) = (loopN B n v).map g
 | 0, _ => rfl
 | n + 1, v => by
  unfold loopN
  rw [h v]
  cases B v with
  | none => rfl
  | some r => cases r with
   | inl e => rfl
   | inr v' => exact loop_map m g h n v'
def Mp (φ : Int32 → Int32) (o : Ob) : Ob := ((f_srcPayload o).map φ, f_pend o, f_queue o, f_stats o, f_state o, f_timer o, (f_rxVal o).map φ, f_rxNext o, f_rxLead o, f_rxTrail o, f_lossLeft o, f_dups o, f_drops o, f_delSeq o, (f_delVal o).map φ, f_delLen o, f_lostLog o, f_lostLen o, f_nakBuf o, f_win o, f_back o, f_repair o, f_period o, f_nextSeq o, f_qLen o, f_nakLen o)
def Mv (φ : Int32 → Int32) (v : Int32 × Ob) : Int32 × Ob := (v.1, Mp φ v.2)
theorem Mv_1 (φ : Int32 → Int32) (v : Int32 × Ob) : (Mv φ v).1 = v.1 := rfl
theorem Mv_2 (φ : Int32 → Int32) (v : Int32 × Ob) : (Mv φ v).2 = Mp φ v.2 := rfl
theorem Mv_d (φ : Int32 → Int32) (v : Int32 × Ob) : Mv φ v = (v.1, Mp φ v.2) := rfl
theorem rd_srcPayload (φ : Int32 → Int32) (o : Ob) : f_srcPayload (Mp φ o) = (f_srcPayload o).map φ := rfl
theorem wr_srcPayload (φ : Int32 → Int32) (o : Ob) (l : List Int32) : s_srcPayload (Mp φ o) (l.map φ) = Mp φ (s_srcPayload o l) := by
 dsimp only [Mp, f_srcPayload, f_pend, f_queue, f_stats, f_state, f_timer, f_rxVal, f_rxNext, f_rxLead, f_rxTrail, f_lossLeft, f_dups, f_drops, f_delSeq, f_delVal, f_delLen, f_lostLog, f_lostLen, f_nakBuf, f_win, f_back, f_repair, f_period, f_nextSeq, f_qLen, f_nakLen, s_srcPayload, s_pend, s_queue, s_stats, s_state, s_timer, s_rxVal, s_rxNext, s_rxLead, s_rxTrail, s_lossLeft, s_dups, s_drops, s_delSeq, s_delVal, s_delLen, s_lostLog, s_lostLen, s_nakBuf, s_win, s_back, s_repair, s_period, s_nextSeq, s_qLen, s_nakLen]
theorem rd_pend (φ : Int32 → Int32) (o : Ob) : f_pend (Mp φ o) = f_pend o := rfl
theorem wr_pend (φ : Int32 → Int32) (o : Ob) (l : List Int32) : s_pend (Mp φ o) l = Mp φ (s_pend o l) := by
 dsimp only [Mp, f_srcPayload, f_pend, f_queue, f_stats, f_state, f_timer, f_rxVal, f_rxNext, f_rxLead, f_rxTrail, f_lossLeft, f_dups, f_drops, f_delSeq, f_delVal, f_delLen, f_lostLog, f_lostLen, f_nakBuf, f_win, f_back, f_repair, f_period, f_nextSeq, f_qLen, f_nakLen, s_srcPayload, s_pend, s_queue, s_stats, s_state, s_timer, s_rxVal, s_rxNext, s_rxLead, s_rxTrail, s_lossLeft, s_dups, s_drops, s_delSeq, s_delVal, s_delLen, s_lostLog, s_lostLen, s_nakBuf, s_win, s_back, s_repair, s_period, s_nextSeq, s_qLen, s_nakLen]
theorem rd_queue (φ : Int32 → Int32) (o : Ob) : f_queue (Mp φ o) = f_queue o := rfl
theorem wr_queue (φ : Int32 → Int32) (o : Ob) (l : List Int32) : s_queue (Mp φ o) l = Mp φ (s_queue o l) := by
 dsimp only [Mp, f_srcPayload, f_pend, f_queue, f_stats, f_state, f_timer, f_rxVal, f_rxNext, f_rxLead, f_rxTrail, f_lossLeft, f_dups, f_drops, f_delSeq, f_delVal, f_delLen, f_lostLog, f_lostLen, f_nakBuf, f_win, f_back, f_repair, f_period, f_nextSeq, f_qLen, f_nakLen, s_srcPayload, s_pend, s_queue, s_stats, s_state, s_timer, s_rxVal, s_rxNext, s_rxLead, s_rxTrail, s_lossLeft, s_dups, s_drops, s_delSeq, s_delVal, s_delLen, s_lostLog, s_lostLen, s_nakBuf, s_win, s_back, s_repair, s_period, s_nextSeq, s_qLen, s_nakLen]
theorem rd_stats (φ : Int32 → Int32) (o : Ob) : f_stats (Mp φ o) = f_stats o := rfl
theorem wr_stats (φ : Int32 → Int32) (o : Ob) (l : List Int32) : s_stats (Mp φ o) l = Mp φ (s_stats o l) := by
 dsimp only [Mp, f_srcPayload, f_pend, f_queue, f_stats, f_state, f_timer, f_rxVal, f_rxNext, f_rxLead, f_rxTrail, f_lossLeft, f_dups, f_drops, f_delSeq, f_delVal, f_delLen, f_lostLog, f_lostLen, f_nakBuf, f_win, f_back, f_repair, f_period, f_nextSeq, f_qLen, f_nakLen, s_srcPayload, s_pend, s_queue, s_stats, s_state, s_timer, s_rxVal, s_rxNext, s_rxLead, s_rxTrail, s_lossLeft, s_dups, s_drops, s_delSeq, s_delVal, s_delLen, s_lostLog, s_lostLen, s_nakBuf, s_win, s_back, s_repair, s_period, s_nextSeq, s_qLen, s_nakLen]
theorem rd_state (φ : Int32 → Int32) (o : Ob) : f_state (Mp φ o) = f_state o := rfl
theorem wr_state (φ : Int32 → Int32) (o : Ob) (l : List Int32) : s_state (Mp φ o) l = Mp φ (s_state o l) := by
 dsimp only [Mp, f_srcPayload, f_pend, f_queue, f_stats, f_state, f_timer, f_rxVal, f_rxNext, f_rxLead, f_rxTrail, f_lossLeft, f_dups, f_drops, f_delSeq, f_delVal, f_delLen, f_lostLog, f_lostLen, f_nakBuf, f_win, f_back, f_repair, f_period, f_nextSeq, f_qLen, f_nakLen, s_srcPayload, s_pend, s_queue, s_stats, s_state, s_timer, s_rxVal, s_rxNext, s_rxLead, s_rxTrail, s_lossLeft, s_dups, s_drops, s_delSeq, s_delVal, s_delLen, s_lostLog, s_lostLen, s_nakBuf, s_win, s_back, s_repair, s_period, s_nextSeq, s_qLen, s_nakLen]
theorem rd_timer (φ : Int32 → Int32) (o : Ob) : f_timer (Mp φ o) = f_timer o := rfl
theorem wr_timer (φ : Int32 → Int32) (o : Ob) (l : List Int32) : s_timer (Mp φ o) l = Mp φ (s_timer o l) := by
 dsimp only [Mp, f_srcPayload, f_pend, f_queue, f_stats, f_state, f_timer, f_rxVal, f_rxNext, f_rxLead, f_rxTrail, f_lossLeft, f_dups, f_drops, f_delSeq, f_delVal, f_delLen, f_lostLog, f_lostLen, f_nakBuf, f_win, f_back, f_repair, f_period, f_nextSeq, f_qLen, f_nakLen, s_srcPayload, s_pend, s_queue, s_stats, s_state, s_timer, s_rxVal, s_rxNext, s_rxLead, s_rxTrail, s_lossLeft, s_dups, s_drops, s_delSeq, s_delVal, s_delLen, s_lostLog, s_lostLen, s_nakBuf, s_win, s_back, s_repair, s_period, s_nextSeq, s_qLen, s_nakLen]
theorem rd_rxVal (φ : Int32 → Int32) (o : Ob) : f_rxVal (Mp φ o) = (f_rxVal o).map φ := rfl
theorem wr_rxVal (φ : Int32 → Int32) (o : Ob) (l : List Int32) : s_rxVal (Mp φ o) (l.map φ) = Mp φ (s_rxVal o l) := by
 dsimp only [Mp, f_srcPayload, f_pend, f_queue, f_stats, f_state, f_timer, f_rxVal, f_rxNext, f_rxLead, f_rxTrail, f_lossLeft, f_dups, f_drops, f_delSeq, f_delVal, f_delLen, f_lostLog, f_lostLen, f_nakBuf, f_win, f_back, f_repair, f_period, f_nextSeq, f_qLen, f_nakLen, s_srcPayload, s_pend, s_queue, s_stats, s_state, s_timer, s_rxVal, s_rxNext, s_rxLead, s_rxTrail, s_lossLeft, s_dups, s_drops, s_delSeq, s_delVal, s_delLen, s_lostLog, s_lostLen, s_nakBuf, s_win, s_back, s_repair, s_period, s_nextSeq, s_qLen, s_nakLen]
theorem rd_rxNext (φ : Int32 → Int32) (o : Ob) : f_rxNext (Mp φ o) = f_rxNext o := rfl
theorem wr_rxNext (φ : Int32 → Int32) (o : Ob) (l : List Int32) : s_rxNext (Mp φ o) l = Mp φ (s_rxNext o l) := by
 dsimp only [Mp, f_srcPayload, f_pend, f_queue, f_stats, f_state, f_timer, f_rxVal, f_rxNext, f_rxLead, f_rxTrail, f_lossLeft, f_dups, f_drops, f_delSeq, f_delVal, f_delLen, f_lostLog, f_lostLen, f_nakBuf, f_win, f_back, f_repair, f_period, f_nextSeq, f_qLen, f_nakLen, s_srcPayload, s_pend, s_queue, s_stats, s_state, s_timer, s_rxVal, s_rxNext, s_rxLead, s_rxTrail, s_lossLeft, s_dups, s_drops, s_delSeq, s_delVal, s_delLen, s_lostLog, s_lostLen, s_nakBuf, s_win, s_back, s_repair, s_period, s_nextSeq, s_qLen, s_nakLen]
theorem rd_rxLead (φ : Int32 → Int32) (o : Ob) : f_rxLead (Mp φ o) = f_rxLead o := rfl
theorem wr_rxLead (φ : Int32 → Int32) (o : Ob) (l : List Int32) : s_rxLead (Mp φ o) l = Mp φ (s_rxLead o l) := by
 dsimp only [Mp, f_srcPayload, f_pend, f_queue, f_stats, f_state, f_timer, f_rxVal, f_rxNext, f_rxLead, f_rxTrail, f_lossLeft, f_dups, f_drops, f_delSeq, f_delVal, f_delLen, f_lostLog, f_lostLen, f_nakBuf, f_win, f_back, f_repair, f_period, f_nextSeq, f_qLen, f_nakLen, s_srcPayload, s_pend, s_queue, s_stats, s_state, s_timer, s_rxVal, s_rxNext, s_rxLead, s_rxTrail, s_lossLeft, s_dups, s_drops, s_delSeq, s_delVal, s_delLen, s_lostLog, s_lostLen, s_nakBuf, s_win, s_back, s_repair, s_period, s_nextSeq, s_qLen, s_nakLen]
theorem rd_rxTrail (φ : Int32 → Int32) (o : Ob) : f_rxTrail (Mp φ o) = f_rxTrail o := rfl
theorem wr_rxTrail (φ : Int32 → Int32) (o : Ob) (l : List Int32) : s_rxTrail (Mp φ o) l = Mp φ (s_rxTrail o l) := by
 dsimp only [Mp, f_srcPayload, f_pend, f_queue, f_stats, f_state, f_timer, f_rxVal, f_rxNext, f_rxLead, f_rxTrail, f_lossLeft, f_dups, f_drops, f_delSeq, f_delVal, f_delLen, f_lostLog, f_lostLen, f_nakBuf, f_win, f_back, f_repair, f_period, f_nextSeq, f_qLen, f_nakLen, s_srcPayload, s_pend, s_queue, s_stats, s_state, s_timer, s_rxVal, s_rxNext, s_rxLead, s_rxTrail, s_lossLeft, s_dups, s_drops, s_delSeq, s_delVal, s_delLen, s_lostLog, s_lostLen, s_nakBuf, s_win, s_back, s_repair, s_period, s_nextSeq, s_qLen, s_nakLen]
theorem rd_lossLeft (φ : Int32 → Int32) (o : Ob) : f_lossLeft (Mp φ o) = f_lossLeft o := rfl
theorem wr_lossLeft (φ : Int32 → Int32) (o : Ob) (l : List Int32) : s_lossLeft (Mp φ o) l = Mp φ (s_lossLeft o l) := by
 dsimp only [Mp, f_srcPayload, f_pend, f_queue, f_stats, f_state, f_timer, f_rxVal, f_rxNext, f_rxLead, f_rxTrail, f_lossLeft, f_dups, f_drops, f_delSeq, f_delVal, f_delLen, f_lostLog, f_lostLen, f_nakBuf, f_win, f_back, f_repair, f_period, f_nextSeq, f_qLen, f_nakLen, s_srcPayload, s_pend, s_queue, s_stats, s_state, s_timer, s_rxVal, s_rxNext, s_rxLead, s_rxTrail, s_lossLeft, s_dups, s_drops, s_delSeq, s_delVal, s_delLen, s_lostLog, s_lostLen, s_nakBuf, s_win, s_back, s_repair, s_period, s_nextSeq, s_qLen, s_nakLen]
theorem rd_dups (φ : Int32 → Int32) (o : Ob) : f_dups (Mp φ o) = f_dups o := rfl
theorem wr_dups (φ : Int32 → Int32) (o : Ob) (l : List Int32) : s_dups (Mp φ o) l = Mp φ (s_dups o l) := by
 dsimp only [Mp, f_srcPayload, f_pend, f_queue, f_stats, f_state, f_timer, f_rxVal, f_rxNext, f_rxLead, f_rxTrail, f_lossLeft, f_dups, f_drops, f_delSeq, f_delVal, f_delLen, f_lostLog, f_lostLen, f_nakBuf, f_win, f_back, f_repair, f_period, f_nextSeq, f_qLen, f_nakLen, s_srcPayload, s_pend, s_queue, s_stats, s_state, s_timer, s_rxVal, s_rxNext, s_rxLead, s_rxTrail, s_lossLeft, s_dups, s_drops, s_delSeq, s_delVal, s_delLen, s_lostLog, s_lostLen, s_nakBuf, s_win, s_back, s_repair, s_period, s_nextSeq, s_qLen, s_nakLen]
theorem rd_drops (φ : Int32 → Int32) (o : Ob) : f_drops (Mp φ o) = f_drops o := rfl
theorem wr_drops (φ : Int32 → Int32) (o : Ob) (l : List Int32) : s_drops (Mp φ o) l = Mp φ (s_drops o l) := by
 dsimp only [Mp, f_srcPayload, f_pend, f_queue, f_stats, f_state, f_timer, f_rxVal, f_rxNext, f_rxLead, f_rxTrail, f_lossLeft, f_dups, f_drops, f_delSeq, f_delVal, f_delLen, f_lostLog, f_lostLen, f_nakBuf, f_win, f_back, f_repair, f_period, f_nextSeq, f_qLen, f_nakLen, s_srcPayload, s_pend, s_queue, s_stats, s_state, s_timer, s_rxVal, s_rxNext, s_rxLead, s_rxTrail, s_lossLeft, s_dups, s_drops, s_delSeq, s_delVal, s_delLen, s_lostLog, s_lostLen, s_nakBuf, s_win, s_back, s_repair, s_period, s_nextSeq, s_qLen, s_nakLen]
theorem rd_delSeq (φ : Int32 → Int32) (o : Ob) : f_delSeq (Mp φ o) = f_delSeq o := rfl
theorem wr_delSeq (φ : Int32 → Int32) (o : Ob) (l : List Int32) : s_delSeq (Mp φ o) l = Mp φ (s_delSeq o l) := by
 dsimp only [Mp, f_srcPayload, f_pend, f_queue, f_stats, f_state, f_timer, f_rxVal, f_rxNext, f_rxLead, f_rxTrail, f_lossLeft, f_dups, f_drops, f_delSeq, f_delVal, f_delLen, f_lostLog, f_lostLen, f_nakBuf, f_win, f_back, f_repair, f_period, f_nextSeq, f_qLen, f_nakLen, s_srcPayload, s_pend, s_queue, s_stats, s_state, s_timer, s_rxVal, s_rxNext, s_rxLead, s_rxTrail, s_lossLeft, s_dups, s_drops, s_delSeq, s_delVal, s_delLen, s_lostLog, s_lostLen, s_nakBuf, s_win, s_back, s_repair, s_period, s_nextSeq, s_qLen, s_nakLen]
theorem rd_delVal (φ : Int32 → Int32) (o : Ob) : f_delVal (Mp φ o) = (f_delVal o).map φ := rfl
theorem wr_delVal (φ : Int32 → Int32) (o : Ob) (l : List Int32) : s_delVal (Mp φ o) (l.map φ) = Mp φ (s_delVal o l) := by
 dsimp only [Mp, f_srcPayload, f_pend, f_queue, f_stats, f_state, f_timer, f_rxVal, f_rxNext, f_rxLead, f_rxTrail, f_lossLeft, f_dups, f_drops, f_delSeq, f_delVal, f_delLen, f_lostLog, f_lostLen, f_nakBuf, f_win, f_back, f_repair, f_period, f_nextSeq, f_qLen, f_nakLen, s_srcPayload, s_pend, s_queue, s_stats, s_state, s_timer, s_rxVal, s_rxNext, s_rxLead, s_rxTrail, s_lossLeft, s_dups, s_drops, s_delSeq, s_delVal, s_delLen, s_lostLog, s_lostLen, s_nakBuf, s_win, s_back, s_repair, s_period, s_nextSeq, s_qLen, s_nakLen]
theorem rd_delLen (φ : Int32 → Int32) (o : Ob) : f_delLen (Mp φ o) = f_delLen o := rfl
theorem wr_delLen (φ : Int32 → Int32) (o : Ob) (l : List Int32) : s_delLen (Mp φ o) l = Mp φ (s_delLen o l) := by
 dsimp only [Mp, f_srcPayload, f_pend, f_queue, f_stats, f_state, f_timer, f_rxVal, f_rxNext, f_rxLead, f_rxTrail, f_lossLeft, f_dups, f_drops, f_delSeq, f_delVal, f_delLen, f_lostLog, f_lostLen, f_nakBuf, f_win, f_back, f_repair, f_period, f_nextSeq, f_qLen, f_nakLen, s_srcPayload, s_pend, s_queue, s_stats, s_state, s_timer, s_rxVal, s_rxNext, s_rxLead, s_rxTrail, s_lossLeft, s_dups, s_drops, s_delSeq, s_delVal, s_delLen, s_lostLog, s_lostLen, s_nakBuf, s_win, s_back, s_repair, s_period, s_nextSeq, s_qLen, s_nakLen]
theorem rd_lostLog (φ : Int32 → Int32) (o : Ob) : f_lostLog (Mp φ o) = f_lostLog o := rfl
theorem wr_lostLog (φ : Int32 → Int32) (o : Ob) (l : List Int32) : s_lostLog (Mp φ o) l = Mp φ (s_lostLog o l) := by
 dsimp only [Mp, f_srcPayload, f_pend, f_queue, f_stats, f_state, f_timer, f_rxVal, f_rxNext, f_rxLead, f_rxTrail, f_lossLeft, f_dups, f_drops, f_delSeq, f_delVal, f_delLen, f_lostLog, f_lostLen, f_nakBuf, f_win, f_back, f_repair, f_period, f_nextSeq, f_qLen, f_nakLen, s_srcPayload, s_pend, s_queue, s_stats, s_state, s_timer, s_rxVal, s_rxNext, s_rxLead, s_rxTrail, s_lossLeft, s_dups, s_drops, s_delSeq, s_delVal, s_delLen, s_lostLog, s_lostLen, s_nakBuf, s_win, s_back, s_repair, s_period, s_nextSeq, s_qLen, s_nakLen]
theorem rd_lostLen (φ : Int32 → Int32) (o : Ob) : f_lostLen (Mp φ o) = f_lostLen o := rfl
theorem wr_lostLen (φ : Int32 → Int32) (o : Ob) (l : List Int32) : s_lostLen (Mp φ o) l = Mp φ (s_lostLen o l) := by
 dsimp only [Mp, f_srcPayload, f_pend, f_queue, f_stats, f_state, f_timer, f_rxVal, f_rxNext, f_rxLead, f_rxTrail, f_lossLeft, f_dups, f_drops, f_delSeq, f_delVal, f_delLen, f_lostLog, f_lostLen, f_nakBuf, f_win, f_back, f_repair, f_period, f_nextSeq, f_qLen, f_nakLen, s_srcPayload, s_pend, s_queue, s_stats, s_state, s_timer, s_rxVal, s_rxNext, s_rxLead, s_rxTrail, s_lossLeft, s_dups, s_drops, s_delSeq, s_delVal, s_delLen, s_lostLog, s_lostLen, s_nakBuf, s_win, s_back, s_repair, s_period, s_nextSeq, s_qLen, s_nakLen]
theorem rd_nakBuf (φ : Int32 → Int32) (o : Ob) : f_nakBuf (Mp φ o) = f_nakBuf o := rfl
theorem wr_nakBuf (φ : Int32 → Int32) (o : Ob) (l : List Int32) : s_nakBuf (Mp φ o) l = Mp φ (s_nakBuf o l) := by
 dsimp only [Mp, f_srcPayload, f_pend, f_queue, f_stats, f_state, f_timer, f_rxVal, f_rxNext, f_rxLead, f_rxTrail, f_lossLeft, f_dups, f_drops, f_delSeq, f_delVal, f_delLen, f_lostLog, f_lostLen, f_nakBuf, f_win, f_back, f_repair, f_period, f_nextSeq, f_qLen, f_nakLen, s_srcPayload, s_pend, s_queue, s_stats, s_state, s_timer, s_rxVal, s_rxNext, s_rxLead, s_rxTrail, s_lossLeft, s_dups, s_drops, s_delSeq, s_delVal, s_delLen, s_lostLog, s_lostLen, s_nakBuf, s_win, s_back, s_repair, s_period, s_nextSeq, s_qLen, s_nakLen]
theorem rd_win (φ : Int32 → Int32) (o : Ob) : f_win (Mp φ o) = f_win o := rfl
theorem wr_win (φ : Int32 → Int32) (o : Ob) (l : Int32) : s_win (Mp φ o) l = Mp φ (s_win o l) := by
 dsimp only [Mp, f_srcPayload, f_pend, f_queue, f_stats, f_state, f_timer, f_rxVal, f_rxNext, f_rxLead, f_rxTrail, f_lossLeft, f_dups, f_drops, f_delSeq, f_delVal, f_delLen, f_lostLog, f_lostLen, f_nakBuf, f_win, f_back, f_repair, f_period, f_nextSeq, f_qLen, f_nakLen, s_srcPayload, s_pend, s_queue, s_stats, s_state, s_timer, s_rxVal, s_rxNext, s_rxLead, s_rxTrail, s_lossLeft, s_dups, s_drops, s_delSeq, s_delVal, s_delLen, s_lostLog, s_lostLen, s_nakBuf, s_win, s_back, s_repair, s_period, s_nextSeq, s_qLen, s_nakLen]
theorem rd_back (φ : Int32 → Int32) (o : Ob) : f_back (Mp φ o) = f_back o := rfl
theorem wr_back (φ : Int32 → Int32) (o : Ob) (l : Int32) : s_back (Mp φ o) l = Mp φ (s_back o l) := by
 dsimp only [Mp, f_srcPayload, f_pend, f_queue, f_stats, f_state, f_timer, f_rxVal, f_rxNext, f_rxLead, f_rxTrail, f_lossLeft, f_dups, f_drops, f_delSeq, f_delVal, f_delLen, f_lostLog, f_lostLen, f_nakBuf, f_win, f_back, f_repair, f_period, f_nextSeq, f_qLen, f_nakLen, s_srcPayload, s_pend, s_queue, s_stats, s_state, s_timer, s_rxVal, s_rxNext, s_rxLead, s_rxTrail, s_lossLeft, s_dups, s_drops, s_delSeq, s_delVal, s_delLen, s_lostLog, s_lostLen, s_nakBuf, s_win, s_back, s_repair, s_period, s_nextSeq, s_qLen, s_nakLen]
theorem rd_repair (φ : Int32 → Int32) (o : Ob) : f_repair (Mp φ o) = f_repair o := rfl
theorem wr_repair (φ : Int32 → Int32) (o : Ob) (l : Int32) : s_repair (Mp φ o) l = Mp φ (s_repair o l) := by
 dsimp only [Mp, f_srcPayload, f_pend, f_queue, f_stats, f_state, f_timer, f_rxVal, f_rxNext, f_rxLead, f_rxTrail, f_lossLeft, f_dups, f_drops, f_delSeq, f_delVal, f_delLen, f_lostLog, f_lostLen, f_nakBuf, f_win, f_back, f_repair, f_period, f_nextSeq, f_qLen, f_nakLen, s_srcPayload, s_pend, s_queue, s_stats, s_state, s_timer, s_rxVal, s_rxNext, s_rxLead, s_rxTrail, s_lossLeft, s_dups, s_drops, s_delSeq, s_delVal, s_delLen, s_lostLog, s_lostLen, s_nakBuf, s_win, s_back, s_repair, s_period, s_nextSeq, s_qLen, s_nakLen]
theorem rd_period (φ : Int32 → Int32) (o : Ob) : f_period (Mp φ o) = f_period o := rfl
theorem wr_period (φ : Int32 → Int32) (o : Ob) (l : Int32) : s_period (Mp φ o) l = Mp φ (s_period o l) := by
 dsimp only [Mp, f_srcPayload, f_pend, f_queue, f_stats, f_state, f_timer, f_rxVal, f_rxNext, f_rxLead, f_rxTrail, f_lossLeft, f_dups, f_drops, f_delSeq, f_delVal, f_delLen, f_lostLog, f_lostLen, f_nakBuf, f_win, f_back, f_repair, f_period, f_nextSeq, f_qLen, f_nakLen, s_srcPayload, s_pend, s_queue, s_stats, s_state, s_timer, s_rxVal, s_rxNext, s_rxLead, s_rxTrail, s_lossLeft, s_dups, s_drops, s_delSeq, s_delVal, s_delLen, s_lostLog, s_lostLen, s_nakBuf, s_win, s_back, s_repair, s_period, s_nextSeq, s_qLen, s_nakLen]
theorem rd_nextSeq (φ : Int32 → Int32) (o : Ob) : f_nextSeq (Mp φ o) = f_nextSeq o := rfl
theorem wr_nextSeq (φ : Int32 → Int32) (o : Ob) (l : Int32) : s_nextSeq (Mp φ o) l = Mp φ (s_nextSeq o l) := by
 dsimp only [Mp, f_srcPayload, f_pend, f_queue, f_stats, f_state, f_timer, f_rxVal, f_rxNext, f_rxLead, f_rxTrail, f_lossLeft, f_dups, f_drops, f_delSeq, f_delVal, f_delLen, f_lostLog, f_lostLen, f_nakBuf, f_win, f_back, f_repair, f_period, f_nextSeq, f_qLen, f_nakLen, s_srcPayload, s_pend, s_queue, s_stats, s_state, s_timer, s_rxVal, s_rxNext, s_rxLead, s_rxTrail, s_lossLeft, s_dups, s_drops, s_delSeq, s_delVal, s_delLen, s_lostLog, s_lostLen, s_nakBuf, s_win, s_back, s_repair, s_period, s_nextSeq, s_qLen, s_nakLen]
theorem rd_qLen (φ : Int32 → Int32) (o : Ob) : f_qLen (Mp φ o) = f_qLen o := rfl
theorem wr_qLen (φ : Int32 → Int32) (o : Ob) (l : Int32) : s_qLen (Mp φ o) l = Mp φ (s_qLen o l) := by
 dsimp only [Mp, f_srcPayload, f_pend, f_queue, f_stats, f_state, f_timer, f_rxVal, f_rxNext, f_rxLead, f_rxTrail, f_lossLeft, f_dups, f_drops, f_delSeq, f_delVal, f_delLen, f_lostLog, f_lostLen, f_nakBuf, f_win, f_back, f_repair, f_period, f_nextSeq, f_qLen, f_nakLen, s_srcPayload, s_pend, s_queue, s_stats, s_state, s_timer, s_rxVal, s_rxNext, s_rxLead, s_rxTrail, s_lossLeft, s_dups, s_drops, s_delSeq, s_delVal, s_delLen, s_lostLog, s_lostLen, s_nakBuf, s_win, s_back, s_repair, s_period, s_nextSeq, s_qLen, s_nakLen]
theorem rd_nakLen (φ : Int32 → Int32) (o : Ob) : f_nakLen (Mp φ o) = f_nakLen o := rfl
theorem wr_nakLen (φ : Int32 → Int32) (o : Ob) (l : Int32) : s_nakLen (Mp φ o) l = Mp φ (s_nakLen o l) := by
 dsimp only [Mp, f_srcPayload, f_pend, f_queue, f_stats, f_state, f_timer, f_rxVal, f_rxNext, f_rxLead, f_rxTrail, f_lossLeft, f_dups, f_drops, f_delSeq, f_delVal, f_delLen, f_lostLog, f_lostLen, f_nakBuf, f_win, f_back, f_repair, f_period, f_nextSeq, f_qLen, f_nakLen, s_srcPayload, s_pend, s_queue, s_stats, s_state, s_timer, s_rxVal, s_rxNext, s_rxLead, s_rxTrail, s_lossLeft, s_dups, s_drops, s_delSeq, s_delVal, s_delLen, s_lostLog, s_lostLen, s_nakBuf, s_win, s_back, s_repair, s_period, s_nextSeq, s_qLen, s_nakLen]
theorem cF5 (φ : Int32 → Int32) (o : Ob) : F5 (Mp φ o) = F5 o := by
 unfold F5
 simp only [Mv_d, aget_map, aset_map, Option.bind_map, Option.map_bind, Option.map_some, Option.map_none, apply_ite (Option.map _), Function.comp_def, Sum.map_inl, Sum.map_inr, Option.bind_some, rd_srcPayload, rd_pend, rd_queue, rd_stats, rd_state, rd_timer, rd_rxVal, rd_rxNext, rd_rxLead, rd_rxTrail, rd_lossLeft, rd_dups, rd_drops, rd_delSeq, rd_delVal, rd_delLen, rd_lostLog, rd_lostLen, rd_nakBuf, rd_win, rd_back, rd_repair, rd_period, rd_nextSeq, rd_qLen, rd_nakLen, wr_srcPayload, wr_pend, wr_queue, wr_stats, wr_state, wr_timer, wr_rxVal, wr_rxNext, wr_rxLead, wr_rxTrail, wr_lossLeft, wr_dups, wr_drops, wr_delSeq, wr_delVal, wr_delLen, wr_lostLog, wr_lostLen, wr_nakBuf, wr_win, wr_back, wr_repair, wr_period, wr_nextSeq, wr_qLen, wr_nakLen]
theorem cF6 (φ : Int32 → Int32) (o : Ob) : F6 (Mp φ o) = F6 o := by
 unfold F6
 simp only [Mv_d, aget_map, aset_map, Option.bind_map, Option.map_bind, Option.map_some, Option.map_none, apply_ite (Option.map _), Function.comp_def, Sum.map_inl, Sum.map_inr, Option.bind_some, rd_srcPayload, rd_pend, rd_queue, rd_stats, rd_state, rd_timer, rd_rxVal, rd_rxNext, rd_rxLead, rd_rxTrail, rd_lossLeft, rd_dups, rd_drops, rd_delSeq, rd_delVal, rd_delLen, rd_lostLog, rd_lostLen, rd_nakBuf, rd_win, rd_back, rd_repair, rd_period, rd_nextSeq, rd_qLen, rd_nakLen, wr_srcPayload, wr_pend, wr_queue, wr_stats, wr_state, wr_timer, wr_rxVal, wr_rxNext, wr_rxLead, wr_rxTrail, wr_lossLeft, wr_dups, wr_drops, wr_delSeq, wr_delVal, wr_delLen, wr_lostLog, wr_lostLen, wr_nakBuf, wr_win, wr_back, wr_repair, wr_period, wr_nextSeq, wr_qLen, wr_nakLen]
 rfl
theorem cB7_23 (φ : Int32 → Int32) (x3 : Int32) (v : Int32 × Ob) : B7_23 x3 (Mv φ v) = (B7_23 x3 v).map (Sum.map (Mp φ) (Mv φ)) := by
 unfold B7_23
 simp only [Mv_d, aget_map, aset_map, Option.bind_map, Option.map_bind, Option.map_some, Option.map_none, apply_ite (Option.map _), Function.comp_def, Sum.map_inl, Sum.map_inr, Option.bind_some, rd_srcPayload, rd_pend, rd_queue, rd_stats, rd_state, rd_timer, rd_rxVal, rd_rxNext, rd_rxLead, rd_rxTrail, rd_lossLeft, rd_dups, rd_drops, rd_delSeq, rd_delVal, rd_delLen, rd_lostLog, rd_lostLen, rd_nakBuf, rd_win, rd_back, rd_repair, rd_period, rd_nextSeq, rd_qLen, rd_nakLen, wr_srcPayload, wr_pend, wr_queue, wr_stats, wr_state, wr_timer, wr_rxVal, wr_rxNext, wr_rxLead, wr_rxTrail, wr_lossLeft, wr_dups, wr_drops, wr_delSeq, wr_delVal, wr_delLen, wr_lostLog, wr_lostLen, wr_nakBuf, wr_win, wr_back, wr_repair, wr_period, wr_nextSeq, wr_qLen, wr_nakLen]
theorem lB7_23 (φ : Int32 → Int32) (x3 : Int32) (n : Nat) (i : Int32) (o : Ob) : loopN (B7_23 x3) n (i, Mp φ o) = (loopN (B7_23 x3) n (i, o)).map (Mp φ) := loop_map (Mv φ) (Mp φ) (cB7_23 φ x3) n (i, o)
theorem cJ7_20 (φ : Int32 → Int32) (o : Ob) (x3 : Int32) : J7_20 (Mp φ o) x3 = (J7_20 o x3).map (Mp φ) := by
 unfold J7_20
 simp only [Mv_d, aget_map, aset_map, Option.bind_map, Option.map_bind, Option.map_some, Option.map_none, apply_ite (Option.map _), Function.comp_def, Sum.map_inl, Sum.map_inr, Option.bind_some, rd_srcPayload, rd_pend, rd_queue, rd_stats, rd_state, rd_timer, rd_rxVal, rd_rxNext, rd_rxLead, rd_rxTrail, rd_lossLeft, rd_dups, rd_drops, rd_delSeq, rd_delVal, rd_delLen, rd_lostLog, rd_lostLen, rd_nakBuf, rd_win, rd_back, rd_repair, rd_period, rd_nextSeq, rd_qLen, rd_nakLen, wr_srcPayload, wr_pend, wr_queue, wr_stats, wr_state, wr_timer, wr_rxVal, wr_rxNext, wr_rxLead, wr_rxTrail, wr_lossLeft, wr_dups, wr_drops, wr_delSeq, wr_delVal, wr_delLen, wr_lostLog, wr_lostLen, wr_nakBuf, wr_win, wr_back, wr_repair, wr_period, wr_nextSeq, wr_qLen, wr_nakLen, lB7_23]
theorem cF7 (φ : Int32 → Int32) (o : Ob) (x1 x2 x3 : Int32) : F7 (Mp φ o) x1 x2 x3 = (F7 o x1 x2 x3).map (Mp φ) := by
 unfold F7
 simp only [Mv_d, aget_map, aset_map, Option.bind_map, Option.map_bind, Option.map_some, Option.map_none, apply_ite (Option.map _), Function.comp_def, Sum.map_inl, Sum.map_inr, Option.bind_some, rd_srcPayload, rd_pend, rd_queue, rd_stats, rd_state, rd_timer, rd_rxVal, rd_rxNext, rd_rxLead, rd_rxTrail, rd_lossLeft, rd_dups, rd_drops, rd_delSeq, rd_delVal, rd_delLen, rd_lostLog, rd_lostLen, rd_nakBuf, rd_win, rd_back, rd_repair, rd_period, rd_nextSeq, rd_qLen, rd_nakLen, wr_srcPayload, wr_pend, wr_queue, wr_stats, wr_state, wr_timer, wr_rxVal, wr_rxNext, wr_rxLead, wr_rxTrail, wr_lossLeft, wr_dups, wr_drops, wr_delSeq, wr_delVal, wr_delLen, wr_lostLog, wr_lostLen, wr_nakBuf, wr_win, wr_back, wr_repair, wr_period, wr_nextSeq, wr_qLen, wr_nakLen, cJ7_20]
theorem cF17 (φ : Int32 → Int32) (o : Ob) (x1 : Int32) : F17 (Mp φ o) x1 = F17 o x1 := by
 unfold F17
 simp only [Mv_d, aget_map, aset_map, Option.bind_map, Option.map_bind, Option.map_some, Option.map_none, apply_ite (Option.map _), Function.comp_def, Sum.map_inl, Sum.map_inr, Option.bind_some, rd_srcPayload, rd_pend, rd_queue, rd_stats, rd_state, rd_timer, rd_rxVal, rd_rxNext, rd_rxLead, rd_rxTrail, rd_lossLeft, rd_dups, rd_drops, rd_delSeq, rd_delVal, rd_delLen, rd_lostLog, rd_lostLen, rd_nakBuf, rd_win, rd_back, rd_repair, rd_period, rd_nextSeq, rd_qLen, rd_nakLen, wr_srcPayload, wr_pend, wr_queue, wr_stats, wr_state, wr_timer, wr_rxVal, wr_rxNext, wr_rxLead, wr_rxTrail, wr_lossLeft, wr_dups, wr_drops, wr_delSeq, wr_delVal, wr_delLen, wr_lostLog, wr_lostLen, wr_nakBuf, wr_win, wr_back, wr_repair, wr_period, wr_nextSeq, wr_qLen, wr_nakLen]
theorem cJ11_70 (φ : Int32 → Int32) (o : Ob) (x1 x2 x4 : Int32) : J11_70 (Mp φ o) x1 x2 x4 = (J11_70 o x1 x2 x4).map (Sum.map (Mp φ) (Mv φ)) := by
 unfold J11_70
 simp only [Mv_d, aget_map, aset_map, Option.bind_map, Option.map_bind, Option.map_some, Option.map_none, apply_ite (Option.map _), Function.comp_def, Sum.map_inl, Sum.map_inr, Option.bind_some, rd_srcPayload, rd_pend, rd_queue, rd_stats, rd_state, rd_timer, rd_rxVal, rd_rxNext, rd_rxLead, rd_rxTrail, rd_lossLeft, rd_dups, rd_drops, rd_delSeq, rd_delVal, rd_delLen, rd_lostLog, rd_lostLen, rd_nakBuf, rd_win, rd_back, rd_repair, rd_period, rd_nextSeq, rd_qLen, rd_nakLen, wr_srcPayload, wr_pend, wr_queue, wr_stats, wr_state, wr_timer, wr_rxVal, wr_rxNext, wr_rxLead, wr_rxTrail, wr_lossLeft, wr_dups, wr_drops, wr_delSeq, wr_delVal, wr_delLen, wr_lostLog, wr_lostLen, wr_nakBuf, wr_win, wr_back, wr_repair, wr_period, wr_nextSeq, wr_qLen, wr_nakLen, Mv_d]
theorem cB11_18 (φ : Int32 → Int32) (x1 x2 : Int32) (v : Int32 × Ob) : B11_18 x1 x2 (Mv φ v) = (B11_18 x1 x2 v).map (Sum.map (Mp φ) (Mv φ)) := by
 unfold B11_18
 simp only [Mv_d, aget_map, aset_map, Option.bind_map, Option.map_bind, Option.map_some, Option.map_none, apply_ite (Option.map _), Function.comp_def, Sum.map_inl, Sum.map_inr, Option.bind_some, rd_srcPayload, rd_pend, rd_queue, rd_stats, rd_state, rd_timer, rd_rxVal, rd_rxNext, rd_rxLead, rd_rxTrail, rd_lossLeft, rd_dups, rd_drops, rd_delSeq, rd_delVal, rd_delLen, rd_lostLog, rd_lostLen, rd_nakBuf, rd_win, rd_back, rd_repair, rd_period, rd_nextSeq, rd_qLen, rd_nakLen, wr_srcPayload, wr_pend, wr_queue, wr_stats, wr_state, wr_timer, wr_rxVal, wr_rxNext, wr_rxLead, wr_rxTrail, wr_lossLeft, wr_dups, wr_drops, wr_delSeq, wr_delVal, wr_delLen, wr_lostLog, wr_lostLen, wr_nakBuf, wr_win, wr_back, wr_repair, wr_period, wr_nextSeq, wr_qLen, wr_nakLen, cF17, cJ11_70]
theorem lB11_18 (φ : Int32 → Int32) (x1 x2 : Int32) (n : Nat) (i : Int32) (o : Ob) : loopN (B11_18 x1 x2) n (i, Mp φ o) = (loopN (B11_18 x1 x2) n (i, o)).map (Mp φ) := loop_map (Mv φ) (Mp φ) (cB11_18 φ x1 x2) n (i, o)
theorem cJ11_76 (φ : Int32 → Int32) (o : Ob) (x1 x2 : Int32) : J11_76 (Mp φ o) x1 x2 = (J11_76 o x1 x2).map (Mp φ) := by
 unfold J11_76
 simp only [Mv_d, aget_map, aset_map, Option.bind_map, Option.map_bind, Option.map_some, Option.map_none, apply_ite (Option.map _), Function.comp_def, Sum.map_inl, Sum.map_inr, Option.bind_some, rd_srcPayload, rd_pend, rd_queue, rd_stats, rd_state, rd_timer, rd_rxVal, rd_rxNext, rd_rxLead, rd_rxTrail, rd_lossLeft, rd_dups, rd_drops, rd_delSeq, rd_delVal, rd_delLen, rd_lostLog, rd_lostLen, rd_nakBuf, rd_win, rd_back, rd_repair, rd_period, rd_nextSeq, rd_qLen, rd_nakLen, wr_srcPayload, wr_pend, wr_queue, wr_stats, wr_state, wr_timer, wr_rxVal, wr_rxNext, wr_rxLead, wr_rxTrail, wr_lossLeft, wr_dups, wr_drops, wr_delSeq, wr_delVal, wr_delLen, wr_lostLog, wr_lostLen, wr_nakBuf, wr_win, wr_back, wr_repair, wr_period, wr_nextSeq, wr_qLen, wr_nakLen]
theorem cF11 (φ : Int32 → Int32) (o : Ob) (x1 x2 : Int32) : F11 (Mp φ o) x1 x2 = (F11 o x1 x2).map (Mp φ) := by
 unfold F11
 simp only [Mv_d, aget_map, aset_map, Option.bind_map, Option.map_bind, Option.map_some, Option.map_none, apply_ite (Option.map _), Function.comp_def, Sum.map_inl, Sum.map_inr, Option.bind_some, rd_srcPayload, rd_pend, rd_queue, rd_stats, rd_state, rd_timer, rd_rxVal, rd_rxNext, rd_rxLead, rd_rxTrail, rd_lossLeft, rd_dups, rd_drops, rd_delSeq, rd_delVal, rd_delLen, rd_lostLog, rd_lostLen, rd_nakBuf, rd_win, rd_back, rd_repair, rd_period, rd_nextSeq, rd_qLen, rd_nakLen, wr_srcPayload, wr_pend, wr_queue, wr_stats, wr_state, wr_timer, wr_rxVal, wr_rxNext, wr_rxLead, wr_rxTrail, wr_lossLeft, wr_dups, wr_drops, wr_delSeq, wr_delVal, wr_delLen, wr_lostLog, wr_lostLen, wr_nakBuf, wr_win, wr_back, wr_repair, wr_period, wr_nextSeq, wr_qLen, wr_nakLen, lB11_18, cJ11_76]
theorem cJ12_108 (φ : Int32 → Int32) (o : Ob) (x1 x2 x4 : Int32) : J12_108 (Mp φ o) x1 x2 x4 = (J12_108 o x1 x2 x4).map (Sum.map (Sum.map id (Mp φ)) id) := by
 unfold J12_108
 simp only [Mv_d, aget_map, aset_map, Option.bind_map, Option.map_bind, Option.map_some, Option.map_none, apply_ite (Option.map _), Function.comp_def, Sum.map_inl, Sum.map_inr, Option.bind_some, rd_srcPayload, rd_pend, rd_queue, rd_stats, rd_state, rd_timer, rd_rxVal, rd_rxNext, rd_rxLead, rd_rxTrail, rd_lossLeft, rd_dups, rd_drops, rd_delSeq, rd_delVal, rd_delLen, rd_lostLog, rd_lostLen, rd_nakBuf, rd_win, rd_back, rd_repair, rd_period, rd_nextSeq, rd_qLen, rd_nakLen, wr_srcPayload, wr_pend, wr_queue, wr_stats, wr_state, wr_timer, wr_rxVal, wr_rxNext, wr_rxLead, wr_rxTrail, wr_lossLeft, wr_dups, wr_drops, wr_delSeq, wr_delVal, wr_delLen, wr_lostLog, wr_lostLen, wr_nakBuf, wr_win, wr_back, wr_repair, wr_period, wr_nextSeq, wr_qLen, wr_nakLen, id]
theorem cB12_34 (φ : Int32 → Int32) (o : Ob) (x1 x2 v : Int32) : B12_34 (Mp φ o) x1 x2 v = (B12_34 o x1 x2 v).map (Sum.map (Sum.map id (Mp φ)) id) := by
 unfold B12_34
 simp only [Mv_d, aget_map, aset_map, Option.bind_map, Option.map_bind, Option.map_some, Option.map_none, apply_ite (Option.map _), Function.comp_def, Sum.map_inl, Sum.map_inr, Option.bind_some, rd_srcPayload, rd_pend, rd_queue, rd_stats, rd_state, rd_timer, rd_rxVal, rd_rxNext, rd_rxLead, rd_rxTrail, rd_lossLeft, rd_dups, rd_drops, rd_delSeq, rd_delVal, rd_delLen, rd_lostLog, rd_lostLen, rd_nakBuf, rd_win, rd_back, rd_repair, rd_period, rd_nextSeq, rd_qLen, rd_nakLen, wr_srcPayload, wr_pend, wr_queue, wr_stats, wr_state, wr_timer, wr_rxVal, wr_rxNext, wr_rxLead, wr_rxTrail, wr_lossLeft, wr_dups, wr_drops, wr_delSeq, wr_delVal, wr_delLen, wr_lostLog, wr_lostLen, wr_nakBuf, wr_win, wr_back, wr_repair, wr_period, wr_nextSeq, wr_qLen, wr_nakLen, cJ12_108, id]
theorem lB12_34 (φ : Int32 → Int32) (o : Ob) (x1 x2 : Int32) (n : Nat) (v : Int32) : loopN (B12_34 (Mp φ o) x1 x2) n v = (loopN (B12_34 o x1 x2) n v).map (Sum.map id (Mp φ)) := loop_map id (Sum.map id (Mp φ)) (fun v => cB12_34 φ o x1 x2 v) n v
theorem cF12 (φ : Int32 → Int32) (o : Ob) (x1 x2 : Int32) : F12 (Mp φ o) x1 x2 = (F12 o x1 x2).map (Mp φ) := by
 unfold F12
 simp only [Mv_d, aget_map, aset_map, Option.bind_map, Option.map_bind, Option.map_some, Option.map_none, apply_ite (Option.map _), Function.comp_def, Sum.map_inl, Sum.map_inr, Option.bind_some, rd_srcPayload, rd_pend, rd_queue, rd_stats, rd_state, rd_timer, rd_rxVal, rd_rxNext, rd_rxLead, rd_rxTrail, rd_lossLeft, rd_dups, rd_drops, rd_delSeq, rd_delVal, rd_delLen, rd_lostLog, rd_lostLen, rd_nakBuf, rd_win, rd_back, rd_repair, rd_period, rd_nextSeq, rd_qLen, rd_nakLen, wr_srcPayload, wr_pend, wr_queue, wr_stats, wr_state, wr_timer, wr_rxVal, wr_rxNext, wr_rxLead, wr_rxTrail, wr_lossLeft, wr_dups, wr_drops, wr_delSeq, wr_delVal, wr_delLen, wr_lostLog, wr_lostLen, wr_nakBuf, wr_win, wr_back, wr_repair, wr_period, wr_nextSeq, wr_qLen, wr_nakLen, lB12_34]
 congr 1; funext y71
 congr 1
 congr 1; funext y73
 congr 1; funext y74
 congr 1; funext e
 cases e with
 | inl e => simp only [Sum.map_inl, id, Mv_d, aget_map, aset_map, Option.bind_map, Option.map_bind, Option.map_some, Option.map_none, apply_ite (Option.map _), Function.comp_def, Sum.map_inl, Sum.map_inr, Option.bind_some, rd_srcPayload, rd_pend, rd_queue, rd_stats, rd_state, rd_timer, rd_rxVal, rd_rxNext, rd_rxLead, rd_rxTrail, rd_lossLeft, rd_dups, rd_drops, rd_delSeq, rd_delVal, rd_delLen, rd_lostLog, rd_lostLen, rd_nakBuf, rd_win, rd_back, rd_repair, rd_period, rd_nextSeq, rd_qLen, rd_nakLen, wr_srcPayload, wr_pend, wr_queue, wr_stats, wr_state, wr_timer, wr_rxVal, wr_rxNext, wr_rxLead, wr_rxTrail, wr_lossLeft, wr_dups, wr_drops, wr_delSeq, wr_delVal, wr_delLen, wr_lostLog, wr_lostLen, wr_nakBuf, wr_win, wr_back, wr_repair, wr_period, wr_nextSeq, wr_qLen, wr_nakLen]
 | inr e => simp only [Sum.map_inr, Mv_d, aget_map, aset_map, Option.bind_map, Option.map_bind, Option.map_some, Option.map_none, apply_ite (Option.map _), Function.comp_def, Sum.map_inl, Sum.map_inr, Option.bind_some, rd_srcPayload, rd_pend, rd_queue, rd_stats, rd_state, rd_timer, rd_rxVal, rd_rxNext, rd_rxLead, rd_rxTrail, rd_lossLeft, rd_dups, rd_drops, rd_delSeq, rd_delVal, rd_delLen, rd_lostLog, rd_lostLen, rd_nakBuf, rd_win, rd_back, rd_repair, rd_period, rd_nextSeq, rd_qLen, rd_nakLen, wr_srcPayload, wr_pend, wr_queue, wr_stats, wr_state, wr_timer, wr_rxVal, wr_rxNext, wr_rxLead, wr_rxTrail, wr_lossLeft, wr_dups, wr_drops, wr_delSeq, wr_delVal, wr_delLen, wr_lostLog, wr_lostLen, wr_nakBuf, wr_win, wr_back, wr_repair, wr_period, wr_nextSeq, wr_qLen, wr_nakLen]
theorem cF14 (φ : Int32 → Int32) (o : Ob) (x1 x2 x3 : Int32) : F14 (Mp φ o) x1 x2 (φ x3) = (F14 o x1 x2 x3).map (Mp φ) := by
 unfold F14
 simp only [Mv_d, aget_map, aset_map, Option.bind_map, Option.map_bind, Option.map_some, Option.map_none, apply_ite (Option.map _), Function.comp_def, Sum.map_inl, Sum.map_inr, Option.bind_some, rd_srcPayload, rd_pend, rd_queue, rd_stats, rd_state, rd_timer, rd_rxVal, rd_rxNext, rd_rxLead, rd_rxTrail, rd_lossLeft, rd_dups, rd_drops, rd_delSeq, rd_delVal, rd_delLen, rd_lostLog, rd_lostLen, rd_nakBuf, rd_win, rd_back, rd_repair, rd_period, rd_nextSeq, rd_qLen, rd_nakLen, wr_srcPayload, wr_pend, wr_queue, wr_stats, wr_state, wr_timer, wr_rxVal, wr_rxNext, wr_rxLead, wr_rxTrail, wr_lossLeft, wr_dups, wr_drops, wr_delSeq, wr_delVal, wr_delLen, wr_lostLog, wr_lostLen, wr_nakBuf, wr_win, wr_back, wr_repair, wr_period, wr_nextSeq, wr_qLen, wr_nakLen]
theorem cJ13_73 (φ : Int32 → Int32) (o : Ob) (x1 x2 : Int32) : J13_73 (Mp φ o) x1 x2 = (J13_73 o x1 x2).map (Sum.map (Mp φ) (Mv φ)) := by
 unfold J13_73
 simp only [Mv_d, aget_map, aset_map, Option.bind_map, Option.map_bind, Option.map_some, Option.map_none, apply_ite (Option.map _), Function.comp_def, Sum.map_inl, Sum.map_inr, Option.bind_some, rd_srcPayload, rd_pend, rd_queue, rd_stats, rd_state, rd_timer, rd_rxVal, rd_rxNext, rd_rxLead, rd_rxTrail, rd_lossLeft, rd_dups, rd_drops, rd_delSeq, rd_delVal, rd_delLen, rd_lostLog, rd_lostLen, rd_nakBuf, rd_win, rd_back, rd_repair, rd_period, rd_nextSeq, rd_qLen, rd_nakLen, wr_srcPayload, wr_pend, wr_queue, wr_stats, wr_state, wr_timer, wr_rxVal, wr_rxNext, wr_rxLead, wr_rxTrail, wr_lossLeft, wr_dups, wr_drops, wr_delSeq, wr_delVal, wr_delLen, wr_lostLog, wr_lostLen, wr_nakBuf, wr_win, wr_back, wr_repair, wr_period, wr_nextSeq, wr_qLen, wr_nakLen, Mv_d]
theorem cJ13_48 (φ : Int32 → Int32) (o : Ob) (x1 x2 x3 x4 : Int32) : J13_48 (Mp φ o) x1 x2 x3 x4 = (J13_48 o x1 x2 x3 x4).map (Sum.map (Mp φ) (Mv φ)) := by
 unfold J13_48
 simp only [Mv_d, aget_map, aset_map, Option.bind_map, Option.map_bind, Option.map_some, Option.map_none, apply_ite (Option.map _), Function.comp_def, Sum.map_inl, Sum.map_inr, Option.bind_some, rd_srcPayload, rd_pend, rd_queue, rd_stats, rd_state, rd_timer, rd_rxVal, rd_rxNext, rd_rxLead, rd_rxTrail, rd_lossLeft, rd_dups, rd_drops, rd_delSeq, rd_delVal, rd_delLen, rd_lostLog, rd_lostLen, rd_nakBuf, rd_win, rd_back, rd_repair, rd_period, rd_nextSeq, rd_qLen, rd_nakLen, wr_srcPayload, wr_pend, wr_queue, wr_stats, wr_state, wr_timer, wr_rxVal, wr_rxNext, wr_rxLead, wr_rxTrail, wr_lossLeft, wr_dups, wr_drops, wr_delSeq, wr_delVal, wr_delLen, wr_lostLog, wr_lostLen, wr_nakBuf, wr_win, wr_back, wr_repair, wr_period, wr_nextSeq, wr_qLen, wr_nakLen, cF14, cJ13_73]
theorem cB13_7 (φ : Int32 → Int32) (x1 : Int32) (v : Int32 × Ob) : B13_7 x1 (Mv φ v) = (B13_7 x1 v).map (Sum.map (Mp φ) (Mv φ)) := by
 unfold B13_7
 simp only [Mv_d, aget_map, aset_map, Option.bind_map, Option.map_bind, Option.map_some, Option.map_none, apply_ite (Option.map _), Function.comp_def, Sum.map_inl, Sum.map_inr, Option.bind_some, rd_srcPayload, rd_pend, rd_queue, rd_stats, rd_state, rd_timer, rd_rxVal, rd_rxNext, rd_rxLead, rd_rxTrail, rd_lossLeft, rd_dups, rd_drops, rd_delSeq, rd_delVal, rd_delLen, rd_lostLog, rd_lostLen, rd_nakBuf, rd_win, rd_back, rd_repair, rd_period, rd_nextSeq, rd_qLen, rd_nakLen, wr_srcPayload, wr_pend, wr_queue, wr_stats, wr_state, wr_timer, wr_rxVal, wr_rxNext, wr_rxLead, wr_rxTrail, wr_lossLeft, wr_dups, wr_drops, wr_delSeq, wr_delVal, wr_delLen, wr_lostLog, wr_lostLen, wr_nakBuf, wr_win, wr_back, wr_repair, wr_period, wr_nextSeq, wr_qLen, wr_nakLen, cJ13_48]
theorem lB13_7 (φ : Int32 → Int32) (x1 : Int32) (n : Nat) (i : Int32) (o : Ob) : loopN (B13_7 x1) n (i, Mp φ o) = (loopN (B13_7 x1) n (i, o)).map (Mp φ) := loop_map (Mv φ) (Mp φ) (cB13_7 φ x1) n (i, o)
theorem cF13 (φ : Int32 → Int32) (o : Ob) (x1 : Int32) : F13 (Mp φ o) x1 = (F13 o x1).map (Mp φ) := by
 unfold F13
 simp only [Mv_d, aget_map, aset_map, Option.bind_map, Option.map_bind, Option.map_some, Option.map_none, apply_ite (Option.map _), Function.comp_def, Sum.map_inl, Sum.map_inr, Option.bind_some, rd_srcPayload, rd_pend, rd_queue, rd_stats, rd_state, rd_timer, rd_rxVal, rd_rxNext, rd_rxLead, rd_rxTrail, rd_lossLeft, rd_dups, rd_drops, rd_delSeq, rd_delVal, rd_delLen, rd_lostLog, rd_lostLen, rd_nakBuf, rd_win, rd_back, rd_repair, rd_period, rd_nextSeq, rd_qLen, rd_nakLen, wr_srcPayload, wr_pend, wr_queue, wr_stats, wr_state, wr_timer, wr_rxVal, wr_rxNext, wr_rxLead, wr_rxTrail, wr_lossLeft, wr_dups, wr_drops, wr_delSeq, wr_delVal, wr_delLen, wr_lostLog, wr_lostLen, wr_nakBuf, wr_win, wr_back, wr_repair, wr_period, wr_nextSeq, wr_qLen, wr_nakLen, lB13_7]
theorem cJ9_76 (φ : Int32 → Int32) (o : Ob) (x1 x4 x5 : Int32) : J9_76 (Mp φ o) x1 x4 x5 = (J9_76 o x1 x4 x5).map (Mp φ) := by
 unfold J9_76
 simp only [Mv_d, aget_map, aset_map, Option.bind_map, Option.map_bind, Option.map_some, Option.map_none, apply_ite (Option.map _), Function.comp_def, Sum.map_inl, Sum.map_inr, Option.bind_some, rd_srcPayload, rd_pend, rd_queue, rd_stats, rd_state, rd_timer, rd_rxVal, rd_rxNext, rd_rxLead, rd_rxTrail, rd_lossLeft, rd_dups, rd_drops, rd_delSeq, rd_delVal, rd_delLen, rd_lostLog, rd_lostLen, rd_nakBuf, rd_win, rd_back, rd_repair, rd_period, rd_nextSeq, rd_qLen, rd_nakLen, wr_srcPayload, wr_pend, wr_queue, wr_stats, wr_state, wr_timer, wr_rxVal, wr_rxNext, wr_rxLead, wr_rxTrail, wr_lossLeft, wr_dups, wr_drops, wr_delSeq, wr_delVal, wr_delLen, wr_lostLog, wr_lostLen, wr_nakBuf, wr_win, wr_back, wr_repair, wr_period, wr_nextSeq, wr_qLen, wr_nakLen, cF11, cF12, cF13]
theorem cJ9_39 (φ : Int32 → Int32) (o : Ob) (x1 x3 x4 x5 x6 : Int32) : J9_39 (Mp φ o) x1 (φ x3) x4 x5 x6 = (J9_39 o x1 x3 x4 x5 x6).map (Mp φ) := by
 unfold J9_39
 simp only [Mv_d, aget_map, aset_map, Option.bind_map, Option.map_bind, Option.map_some, Option.map_none, apply_ite (Option.map _), Function.comp_def, Sum.map_inl, Sum.map_inr, Option.bind_some, rd_srcPayload, rd_pend, rd_queue, rd_stats, rd_state, rd_timer, rd_rxVal, rd_rxNext, rd_rxLead, rd_rxTrail, rd_lossLeft, rd_dups, rd_drops, rd_delSeq, rd_delVal, rd_delLen, rd_lostLog, rd_lostLen, rd_nakBuf, rd_win, rd_back, rd_repair, rd_period, rd_nextSeq, rd_qLen, rd_nakLen, wr_srcPayload, wr_pend, wr_queue, wr_stats, wr_state, wr_timer, wr_rxVal, wr_rxNext, wr_rxLead, wr_rxTrail, wr_lossLeft, wr_dups, wr_drops, wr_delSeq, wr_delVal, wr_delLen, wr_lostLog, wr_lostLen, wr_nakBuf, wr_win, wr_back, wr_repair, wr_period, wr_nextSeq, wr_qLen, wr_nakLen, cJ9_76]
theorem cF9 (φ : Int32 → Int32) (o : Ob) (x1 x2 x3 x4 x5 : Int32) : F9 (Mp φ o) x1 x2 (φ x3) x4 x5 = (F9 o x1 x2 x3 x4 x5).map (Mp φ) := by
 unfold F9
 simp only [Mv_d, aget_map, aset_map, Option.bind_map, Option.map_bind, Option.map_some, Option.map_none, apply_ite (Option.map _), Function.comp_def, Sum.map_inl, Sum.map_inr, Option.bind_some, rd_srcPayload, rd_pend, rd_queue, rd_stats, rd_state, rd_timer, rd_rxVal, rd_rxNext, rd_rxLead, rd_rxTrail, rd_lossLeft, rd_dups, rd_drops, rd_delSeq, rd_delVal, rd_delLen, rd_lostLog, rd_lostLen, rd_nakBuf, rd_win, rd_back, rd_repair, rd_period, rd_nextSeq, rd_qLen, rd_nakLen, wr_srcPayload, wr_pend, wr_queue, wr_stats, wr_state, wr_timer, wr_rxVal, wr_rxNext, wr_rxLead, wr_rxTrail, wr_lossLeft, wr_dups, wr_drops, wr_delSeq, wr_delVal, wr_delLen, wr_lostLog, wr_lostLen, wr_nakBuf, wr_win, wr_back, wr_repair, wr_period, wr_nextSeq, wr_qLen, wr_nakLen, cJ9_76, cJ9_39]
theorem cJ8_50 (φ : Int32 → Int32) (o : Ob) (x1 x3 x4 x5 x6 : Int32) : J8_50 (Mp φ o) x1 x3 (φ x4) x5 x6 = (J8_50 o x1 x3 x4 x5 x6).map (Mp φ) := by
 unfold J8_50
 simp only [Mv_d, aget_map, aset_map, Option.bind_map, Option.map_bind, Option.map_some, Option.map_none, apply_ite (Option.map _), Function.comp_def, Sum.map_inl, Sum.map_inr, Option.bind_some, rd_srcPayload, rd_pend, rd_queue, rd_stats, rd_state, rd_timer, rd_rxVal, rd_rxNext, rd_rxLead, rd_rxTrail, rd_lossLeft, rd_dups, rd_drops, rd_delSeq, rd_delVal, rd_delLen, rd_lostLog, rd_lostLen, rd_nakBuf, rd_win, rd_back, rd_repair, rd_period, rd_nextSeq, rd_qLen, rd_nakLen, wr_srcPayload, wr_pend, wr_queue, wr_stats, wr_state, wr_timer, wr_rxVal, wr_rxNext, wr_rxLead, wr_rxTrail, wr_lossLeft, wr_dups, wr_drops, wr_delSeq, wr_delVal, wr_delLen, wr_lostLog, wr_lostLen, wr_nakBuf, wr_win, wr_back, wr_repair, wr_period, wr_nextSeq, wr_qLen, wr_nakLen, cF9]
theorem cJ28_36 (φ : Int32 → Int32) (o : Ob) (x3 : Int32) : J28_36 (Mp φ o) x3 = (J28_36 o x3).map (Mp φ) := by
 unfold J28_36
 simp only [Mv_d, aget_map, aset_map, Option.bind_map, Option.map_bind, Option.map_some, Option.map_none, apply_ite (Option.map _), Function.comp_def, Sum.map_inl, Sum.map_inr, Option.bind_some, rd_srcPayload, rd_pend, rd_queue, rd_stats, rd_state, rd_timer, rd_rxVal, rd_rxNext, rd_rxLead, rd_rxTrail, rd_lossLeft, rd_dups, rd_drops, rd_delSeq, rd_delVal, rd_delLen, rd_lostLog, rd_lostLen, rd_nakBuf, rd_win, rd_back, rd_repair, rd_period, rd_nextSeq, rd_qLen, rd_nakLen, wr_srcPayload, wr_pend, wr_queue, wr_stats, wr_state, wr_timer, wr_rxVal, wr_rxNext, wr_rxLead, wr_rxTrail, wr_lossLeft, wr_dups, wr_drops, wr_delSeq, wr_delVal, wr_delLen, wr_lostLog, wr_lostLen, wr_nakBuf, wr_win, wr_back, wr_repair, wr_period, wr_nextSeq, wr_qLen, wr_nakLen]
theorem cF28 (φ : Int32 → Int32) (o : Ob) (x1 x2 : Int32) : F28 (Mp φ o) x1 x2 = (F28 o x1 x2).map (Mp φ) := by
 unfold F28
 simp only [Mv_d, aget_map, aset_map, Option.bind_map, Option.map_bind, Option.map_some, Option.map_none, apply_ite (Option.map _), Function.comp_def, Sum.map_inl, Sum.map_inr, Option.bind_some, rd_srcPayload, rd_pend, rd_queue, rd_stats, rd_state, rd_timer, rd_rxVal, rd_rxNext, rd_rxLead, rd_rxTrail, rd_lossLeft, rd_dups, rd_drops, rd_delSeq, rd_delVal, rd_delLen, rd_lostLog, rd_lostLen, rd_nakBuf, rd_win, rd_back, rd_repair, rd_period, rd_nextSeq, rd_qLen, rd_nakLen, wr_srcPayload, wr_pend, wr_queue, wr_stats, wr_state, wr_timer, wr_rxVal, wr_rxNext, wr_rxLead, wr_rxTrail, wr_lossLeft, wr_dups, wr_drops, wr_delSeq, wr_delVal, wr_delLen, wr_lostLog, wr_lostLen, wr_nakBuf, wr_win, wr_back, wr_repair, wr_period, wr_nextSeq, wr_qLen, wr_nakLen, cJ28_36]
theorem cF8 (φ : Int32 → Int32) (o : Ob) (x1 x2 x3 x4 x5 x6 : Int32) : F8 (Mp φ o) x1 x2 x3 (φ x4) x5 x6 = (F8 o x1 x2 x3 x4 x5 x6).map (Mp φ) := by
 unfold F8
 simp only [Mv_d, aget_map, aset_map, Option.bind_map, Option.map_bind, Option.map_some, Option.map_none, apply_ite (Option.map _), Function.comp_def, Sum.map_inl, Sum.map_inr, Option.bind_some, rd_srcPayload, rd_pend, rd_queue, rd_stats, rd_state, rd_timer, rd_rxVal, rd_rxNext, rd_rxLead, rd_rxTrail, rd_lossLeft, rd_dups, rd_drops, rd_delSeq, rd_delVal, rd_delLen, rd_lostLog, rd_lostLen, rd_nakBuf, rd_win, rd_back, rd_repair, rd_period, rd_nextSeq, rd_qLen, rd_nakLen, wr_srcPayload, wr_pend, wr_queue, wr_stats, wr_state, wr_timer, wr_rxVal, wr_rxNext, wr_rxLead, wr_rxTrail, wr_lossLeft, wr_dups, wr_drops, wr_delSeq, wr_delVal, wr_delLen, wr_lostLog, wr_lostLen, wr_nakBuf, wr_win, wr_back, wr_repair, wr_period, wr_nextSeq, wr_qLen, wr_nakLen, cJ8_50, cF11, cF12, cF13, cF28]
theorem cB4_23 (φ : Int32 → Int32) (x1 x2 x3 x4 x5 : Int32) (v : Int32 × Ob) : B4_23 x1 x2 (φ x3) x4 x5 (Mv φ v) = (B4_23 x1 x2 x3 x4 x5 v).map (Sum.map (Mp φ) (Mv φ)) := by
 unfold B4_23
 simp only [Mv_d, aget_map, aset_map, Option.bind_map, Option.map_bind, Option.map_some, Option.map_none, apply_ite (Option.map _), Function.comp_def, Sum.map_inl, Sum.map_inr, Option.bind_some, rd_srcPayload, rd_pend, rd_queue, rd_stats, rd_state, rd_timer, rd_rxVal, rd_rxNext, rd_rxLead, rd_rxTrail, rd_lossLeft, rd_dups, rd_drops, rd_delSeq, rd_delVal, rd_delLen, rd_lostLog, rd_lostLen, rd_nakBuf, rd_win, rd_back, rd_repair, rd_period, rd_nextSeq, rd_qLen, rd_nakLen, wr_srcPayload, wr_pend, wr_queue, wr_stats, wr_state, wr_timer, wr_rxVal, wr_rxNext, wr_rxLead, wr_rxTrail, wr_lossLeft, wr_dups, wr_drops, wr_delSeq, wr_delVal, wr_delLen, wr_lostLog, wr_lostLen, wr_nakBuf, wr_win, wr_back, wr_repair, wr_period, wr_nextSeq, wr_qLen, wr_nakLen, cF8, Mv_d]
theorem lB4_23 (φ : Int32 → Int32) (x1 x2 x3 x4 x5 : Int32) (n : Nat) (i : Int32) (o : Ob) : loopN (B4_23 x1 x2 (φ x3) x4 x5) n (i, Mp φ o) = (loopN (B4_23 x1 x2 x3 x4 x5) n (i, o)).map (Mp φ) := loop_map (Mv φ) (Mp φ) (cB4_23 φ x1 x2 x3 x4 x5) n (i, o)
theorem cF4 (φ : Int32 → Int32) (o : Ob) (x1 x2 x3 : Int32) : F4 (Mp φ o) x1 x2 (φ x3) = (F4 o x1 x2 x3).map (Mp φ) := by
 unfold F4
 simp only [Mv_d, aget_map, aset_map, Option.bind_map, Option.map_bind, Option.map_some, Option.map_none, apply_ite (Option.map _), Function.comp_def, Sum.map_inl, Sum.map_inr, Option.bind_some, rd_srcPayload, rd_pend, rd_queue, rd_stats, rd_state, rd_timer, rd_rxVal, rd_rxNext, rd_rxLead, rd_rxTrail, rd_lossLeft, rd_dups, rd_drops, rd_delSeq, rd_delVal, rd_delLen, rd_lostLog, rd_lostLen, rd_nakBuf, rd_win, rd_back, rd_repair, rd_period, rd_nextSeq, rd_qLen, rd_nakLen, wr_srcPayload, wr_pend, wr_queue, wr_stats, wr_state, wr_timer, wr_rxVal, wr_rxNext, wr_rxLead, wr_rxTrail, wr_lossLeft, wr_dups, wr_drops, wr_delSeq, wr_delVal, wr_delLen, wr_lostLog, wr_lostLen, wr_nakBuf, wr_win, wr_back, wr_repair, wr_period, wr_nextSeq, wr_qLen, wr_nakLen, cF5, cF6, cF7, lB4_23]
theorem cF4z (φ : Int32 → Int32) (h0 : φ 0 = 0) (o : Ob) (x1 x2 : Int32) : F4 (Mp φ o) x1 x2 0 = (F4 o x1 x2 0).map (Mp φ) := by
 have := cF4 φ o x1 x2 0
 rw [h0] at this
 exact this
theorem cF8z (φ : Int32 → Int32) (h0 : φ 0 = 0) (o : Ob) (x1 x2 x3 x5 x6 : Int32) : F8 (Mp φ o) x1 x2 x3 0 x5 x6 = (F8 o x1 x2 x3 0 x5 x6).map (Mp φ) := by
 have := cF8 φ o x1 x2 x3 0 x5 x6
 rw [h0] at this
 exact this
theorem cF3 (φ : Int32 → Int32) (o : Ob) (x : Int32) (a1 : ¬ x < 0) (a2 : ¬ 255 < x) (b1 : ¬ φ x < 0) (b2 : ¬ 255 < φ x) : F3 (Mp φ o) (φ x) = (F3 o x).map (Mv φ) := by
 unfold F3
 rw [if_neg a1, if_neg a2, if_neg b1, if_neg b2]
 simp only [Mv_d, aget_map, aset_map, Option.bind_map, Option.map_bind, Option.map_some, Option.map_none, apply_ite (Option.map _), Function.comp_def, Sum.map_inl, Sum.map_inr, Option.bind_some, rd_srcPayload, rd_pend, rd_queue, rd_stats, rd_state, rd_timer, rd_rxVal, rd_rxNext, rd_rxLead, rd_rxTrail, rd_lossLeft, rd_dups, rd_drops, rd_delSeq, rd_delVal, rd_delLen, rd_lostLog, rd_lostLen, rd_nakBuf, rd_win, rd_back, rd_repair, rd_period, rd_nextSeq, rd_qLen, rd_nakLen, wr_srcPayload, wr_pend, wr_queue, wr_stats, wr_state, wr_timer, wr_rxVal, wr_rxNext, wr_rxLead, wr_rxTrail, wr_lossLeft, wr_dups, wr_drops, wr_delSeq, wr_delVal, wr_delLen, wr_lostLog, wr_lostLen, wr_nakBuf, wr_win, wr_back, wr_repair, wr_period, wr_nextSeq, wr_qLen, wr_nakLen, cF4, Mv_d]
theorem cF15 (φ : Int32 → Int32) (o : Ob) (x1 x2 : Int32) : F15 (Mp φ o) x1 x2 = (F15 o x1 x2).map (Mv φ) := by
 unfold F15
 simp only [Mv_d, aget_map, aset_map, Option.bind_map, Option.map_bind, Option.map_some, Option.map_none, apply_ite (Option.map _), Function.comp_def, Sum.map_inl, Sum.map_inr, Option.bind_some, rd_srcPayload, rd_pend, rd_queue, rd_stats, rd_state, rd_timer, rd_rxVal, rd_rxNext, rd_rxLead, rd_rxTrail, rd_lossLeft, rd_dups, rd_drops, rd_delSeq, rd_delVal, rd_delLen, rd_lostLog, rd_lostLen, rd_nakBuf, rd_win, rd_back, rd_repair, rd_period, rd_nextSeq, rd_qLen, rd_nakLen, wr_srcPayload, wr_pend, wr_queue, wr_stats, wr_state, wr_timer, wr_rxVal, wr_rxNext, wr_rxLead, wr_rxTrail, wr_lossLeft, wr_dups, wr_drops, wr_delSeq, wr_delVal, wr_delLen, wr_lostLog, wr_lostLen, wr_nakBuf, wr_win, wr_back, wr_repair, wr_period, wr_nextSeq, wr_qLen, wr_nakLen, Mv_d]
theorem cF18 (φ : Int32 → Int32) (o : Ob) (x1 x2 : Int32) : F18 (Mp φ o) x1 x2 = F18 o x1 x2 := by
 unfold F18
 simp only [Mv_d, aget_map, aset_map, Option.bind_map, Option.map_bind, Option.map_some, Option.map_none, apply_ite (Option.map _), Function.comp_def, Sum.map_inl, Sum.map_inr, Option.bind_some, rd_srcPayload, rd_pend, rd_queue, rd_stats, rd_state, rd_timer, rd_rxVal, rd_rxNext, rd_rxLead, rd_rxTrail, rd_lossLeft, rd_dups, rd_drops, rd_delSeq, rd_delVal, rd_delLen, rd_lostLog, rd_lostLen, rd_nakBuf, rd_win, rd_back, rd_repair, rd_period, rd_nextSeq, rd_qLen, rd_nakLen, wr_srcPayload, wr_pend, wr_queue, wr_stats, wr_state, wr_timer, wr_rxVal, wr_rxNext, wr_rxLead, wr_rxTrail, wr_lossLeft, wr_dups, wr_drops, wr_delSeq, wr_delVal, wr_delLen, wr_lostLog, wr_lostLen, wr_nakBuf, wr_win, wr_back, wr_repair, wr_period, wr_nextSeq, wr_qLen, wr_nakLen]
theorem cF19 (φ : Int32 → Int32) (o : Ob) (x1 x2 : Int32) : F19 (Mp φ o) x1 x2 = F19 o x1 x2 := by
 unfold F19
 simp only [Mv_d, aget_map, aset_map, Option.bind_map, Option.map_bind, Option.map_some, Option.map_none, apply_ite (Option.map _), Function.comp_def, Sum.map_inl, Sum.map_inr, Option.bind_some, rd_srcPayload, rd_pend, rd_queue, rd_stats, rd_state, rd_timer, rd_rxVal, rd_rxNext, rd_rxLead, rd_rxTrail, rd_lossLeft, rd_dups, rd_drops, rd_delSeq, rd_delVal, rd_delLen, rd_lostLog, rd_lostLen, rd_nakBuf, rd_win, rd_back, rd_repair, rd_period, rd_nextSeq, rd_qLen, rd_nakLen, wr_srcPayload, wr_pend, wr_queue, wr_stats, wr_state, wr_timer, wr_rxVal, wr_rxNext, wr_rxLead, wr_rxTrail, wr_lossLeft, wr_dups, wr_drops, wr_delSeq, wr_delVal, wr_delLen, wr_lostLog, wr_lostLen, wr_nakBuf, wr_win, wr_back, wr_repair, wr_period, wr_nextSeq, wr_qLen, wr_nakLen]
theorem cJ21_90 (φ : Int32 → Int32) (o : Ob) (x1 x2 : Int32) : J21_90 (Mp φ o) x1 x2 = (J21_90 o x1 x2).map (Sum.map (Mp φ) (Mv φ)) := by
 unfold J21_90
 simp only [Mv_d, aget_map, aset_map, Option.bind_map, Option.map_bind, Option.map_some, Option.map_none, apply_ite (Option.map _), Function.comp_def, Sum.map_inl, Sum.map_inr, Option.bind_some, rd_srcPayload, rd_pend, rd_queue, rd_stats, rd_state, rd_timer, rd_rxVal, rd_rxNext, rd_rxLead, rd_rxTrail, rd_lossLeft, rd_dups, rd_drops, rd_delSeq, rd_delVal, rd_delLen, rd_lostLog, rd_lostLen, rd_nakBuf, rd_win, rd_back, rd_repair, rd_period, rd_nextSeq, rd_qLen, rd_nakLen, wr_srcPayload, wr_pend, wr_queue, wr_stats, wr_state, wr_timer, wr_rxVal, wr_rxNext, wr_rxLead, wr_rxTrail, wr_lossLeft, wr_dups, wr_drops, wr_delSeq, wr_delVal, wr_delLen, wr_lostLog, wr_lostLen, wr_nakBuf, wr_win, wr_back, wr_repair, wr_period, wr_nextSeq, wr_qLen, wr_nakLen, Mv_d]
theorem cJ21_52 (φ : Int32 → Int32) (o : Ob) (x1 x2 x3 x4 : Int32) : J21_52 (Mp φ o) x1 x2 x3 (φ x4) = (J21_52 o x1 x2 x3 x4).map (Sum.map (Mp φ) (Mv φ)) := by
 unfold J21_52
 simp only [Mv_d, aget_map, aset_map, Option.bind_map, Option.map_bind, Option.map_some, Option.map_none, apply_ite (Option.map _), Function.comp_def, Sum.map_inl, Sum.map_inr, Option.bind_some, rd_srcPayload, rd_pend, rd_queue, rd_stats, rd_state, rd_timer, rd_rxVal, rd_rxNext, rd_rxLead, rd_rxTrail, rd_lossLeft, rd_dups, rd_drops, rd_delSeq, rd_delVal, rd_delLen, rd_lostLog, rd_lostLen, rd_nakBuf, rd_win, rd_back, rd_repair, rd_period, rd_nextSeq, rd_qLen, rd_nakLen, wr_srcPayload, wr_pend, wr_queue, wr_stats, wr_state, wr_timer, wr_rxVal, wr_rxNext, wr_rxLead, wr_rxTrail, wr_lossLeft, wr_dups, wr_drops, wr_delSeq, wr_delVal, wr_delLen, wr_lostLog, wr_lostLen, wr_nakBuf, wr_win, wr_back, wr_repair, wr_period, wr_nextSeq, wr_qLen, wr_nakLen, cF4, cJ21_90]
theorem cJ21_52z (φ : Int32 → Int32) (h0 : φ 0 = 0) (o : Ob) (x1 x2 x3 : Int32) : J21_52 (Mp φ o) x1 x2 x3 0 = (J21_52 o x1 x2 x3 0).map (Sum.map (Mp φ) (Mv φ)) := by
 have := cJ21_52 φ o x1 x2 x3 0
 rw [h0] at this
 exact this
theorem cJ21_96 (φ : Int32 → Int32) (o : Ob) : J21_96 (Mp φ o)  = (J21_96 o ).map (Sum.map (Mp φ) (Mv φ)) := by
 unfold J21_96
 simp only [Mv_d, aget_map, aset_map, Option.bind_map, Option.map_bind, Option.map_some, Option.map_none, apply_ite (Option.map _), Function.comp_def, Sum.map_inl, Sum.map_inr, Option.bind_some, rd_srcPayload, rd_pend, rd_queue, rd_stats, rd_state, rd_timer, rd_rxVal, rd_rxNext, rd_rxLead, rd_rxTrail, rd_lossLeft, rd_dups, rd_drops, rd_delSeq, rd_delVal, rd_delLen, rd_lostLog, rd_lostLen, rd_nakBuf, rd_win, rd_back, rd_repair, rd_period, rd_nextSeq, rd_qLen, rd_nakLen, wr_srcPayload, wr_pend, wr_queue, wr_stats, wr_state, wr_timer, wr_rxVal, wr_rxNext, wr_rxLead, wr_rxTrail, wr_lossLeft, wr_dups, wr_drops, wr_delSeq, wr_delVal, wr_delLen, wr_lostLog, wr_lostLen, wr_nakBuf, wr_win, wr_back, wr_repair, wr_period, wr_nextSeq, wr_qLen, wr_nakLen]
theorem cB21_7 (φ : Int32 → Int32) (x1 : Int32) (h0 : φ 0 = 0) (v : Int32 × Ob) : B21_7 x1 (Mv φ v) = (B21_7 x1 v).map (Sum.map (Mp φ) (Mv φ)) := by
 unfold B21_7
 simp only [Mv_d, aget_map, aset_map, Option.bind_map, Option.map_bind, Option.map_some, Option.map_none, apply_ite (Option.map _), Function.comp_def, Sum.map_inl, Sum.map_inr, Option.bind_some, rd_srcPayload, rd_pend, rd_queue, rd_stats, rd_state, rd_timer, rd_rxVal, rd_rxNext, rd_rxLead, rd_rxTrail, rd_lossLeft, rd_dups, rd_drops, rd_delSeq, rd_delVal, rd_delLen, rd_lostLog, rd_lostLen, rd_nakBuf, rd_win, rd_back, rd_repair, rd_period, rd_nextSeq, rd_qLen, rd_nakLen, wr_srcPayload, wr_pend, wr_queue, wr_stats, wr_state, wr_timer, wr_rxVal, wr_rxNext, wr_rxLead, wr_rxTrail, wr_lossLeft, wr_dups, wr_drops, wr_delSeq, wr_delVal, wr_delLen, wr_lostLog, wr_lostLen, wr_nakBuf, wr_win, wr_back, wr_repair, wr_period, wr_nextSeq, wr_qLen, wr_nakLen, cF4z φ h0, cJ21_90, cJ21_52, cJ21_52z φ h0, cJ21_96]
theorem lB21_7 (φ : Int32 → Int32) (x1 : Int32) (h0 : φ 0 = 0) (n : Nat) (i : Int32) (o : Ob) : loopN (B21_7 x1) n (i, Mp φ o) = (loopN (B21_7 x1) n (i, o)).map (Mp φ) := loop_map (Mv φ) (Mp φ) (cB21_7 φ x1 h0) n (i, o)
theorem cF21 (φ : Int32 → Int32) (o : Ob) (h0 : φ 0 = 0) : F21 (Mp φ o)  = (F21 o ).map (Mp φ) := by
 unfold F21
 simp only [Mv_d, aget_map, aset_map, Option.bind_map, Option.map_bind, Option.map_some, Option.map_none, apply_ite (Option.map _), Function.comp_def, Sum.map_inl, Sum.map_inr, Option.bind_some, rd_srcPayload, rd_pend, rd_queue, rd_stats, rd_state, rd_timer, rd_rxVal, rd_rxNext, rd_rxLead, rd_rxTrail, rd_lossLeft, rd_dups, rd_drops, rd_delSeq, rd_delVal, rd_delLen, rd_lostLog, rd_lostLen, rd_nakBuf, rd_win, rd_back, rd_repair, rd_period, rd_nextSeq, rd_qLen, rd_nakLen, wr_srcPayload, wr_pend, wr_queue, wr_stats, wr_state, wr_timer, wr_rxVal, wr_rxNext, wr_rxLead, wr_rxTrail, wr_lossLeft, wr_dups, wr_drops, wr_delSeq, wr_delVal, wr_delLen, wr_lostLog, wr_lostLen, wr_nakBuf, wr_win, wr_back, wr_repair, wr_period, wr_nextSeq, wr_qLen, wr_nakLen, cF6, lB21_7 φ _ h0]
theorem cJ23_102 (φ : Int32 → Int32) (o : Ob) : J23_102 (Mp φ o)  = (J23_102 o ).map (Mp φ) := by
 unfold J23_102
 simp only [Mv_d, aget_map, aset_map, Option.bind_map, Option.map_bind, Option.map_some, Option.map_none, apply_ite (Option.map _), Function.comp_def, Sum.map_inl, Sum.map_inr, Option.bind_some, rd_srcPayload, rd_pend, rd_queue, rd_stats, rd_state, rd_timer, rd_rxVal, rd_rxNext, rd_rxLead, rd_rxTrail, rd_lossLeft, rd_dups, rd_drops, rd_delSeq, rd_delVal, rd_delLen, rd_lostLog, rd_lostLen, rd_nakBuf, rd_win, rd_back, rd_repair, rd_period, rd_nextSeq, rd_qLen, rd_nakLen, wr_srcPayload, wr_pend, wr_queue, wr_stats, wr_state, wr_timer, wr_rxVal, wr_rxNext, wr_rxLead, wr_rxTrail, wr_lossLeft, wr_dups, wr_drops, wr_delSeq, wr_delVal, wr_delLen, wr_lostLog, wr_lostLen, wr_nakBuf, wr_win, wr_back, wr_repair, wr_period, wr_nextSeq, wr_qLen, wr_nakLen]
theorem cF23 (φ : Int32 → Int32) (o : Ob) (x1 x2 : Int32) : F23 (Mp φ o) x1 x2 = (F23 o x1 x2).map (Mp φ) := by
 unfold F23
 simp only [Mv_d, aget_map, aset_map, Option.bind_map, Option.map_bind, Option.map_some, Option.map_none, apply_ite (Option.map _), Function.comp_def, Sum.map_inl, Sum.map_inr, Option.bind_some, rd_srcPayload, rd_pend, rd_queue, rd_stats, rd_state, rd_timer, rd_rxVal, rd_rxNext, rd_rxLead, rd_rxTrail, rd_lossLeft, rd_dups, rd_drops, rd_delSeq, rd_delVal, rd_delLen, rd_lostLog, rd_lostLen, rd_nakBuf, rd_win, rd_back, rd_repair, rd_period, rd_nextSeq, rd_qLen, rd_nakLen, wr_srcPayload, wr_pend, wr_queue, wr_stats, wr_state, wr_timer, wr_rxVal, wr_rxNext, wr_rxLead, wr_rxTrail, wr_lossLeft, wr_dups, wr_drops, wr_delSeq, wr_delVal, wr_delLen, wr_lostLog, wr_lostLen, wr_nakBuf, wr_win, wr_back, wr_repair, wr_period, wr_nextSeq, wr_qLen, wr_nakLen, cJ23_102, cF17]
theorem cB22_14 (φ : Int32 → Int32) (x1 : Int32) (v : Int32 × Ob) : B22_14 x1 (Mv φ v) = (B22_14 x1 v).map (Sum.map (Mp φ) (Mv φ)) := by
 unfold B22_14
 simp only [Mv_d, aget_map, aset_map, Option.bind_map, Option.map_bind, Option.map_some, Option.map_none, apply_ite (Option.map _), Function.comp_def, Sum.map_inl, Sum.map_inr, Option.bind_some, rd_srcPayload, rd_pend, rd_queue, rd_stats, rd_state, rd_timer, rd_rxVal, rd_rxNext, rd_rxLead, rd_rxTrail, rd_lossLeft, rd_dups, rd_drops, rd_delSeq, rd_delVal, rd_delLen, rd_lostLog, rd_lostLen, rd_nakBuf, rd_win, rd_back, rd_repair, rd_period, rd_nextSeq, rd_qLen, rd_nakLen, wr_srcPayload, wr_pend, wr_queue, wr_stats, wr_state, wr_timer, wr_rxVal, wr_rxNext, wr_rxLead, wr_rxTrail, wr_lossLeft, wr_dups, wr_drops, wr_delSeq, wr_delVal, wr_delLen, wr_lostLog, wr_lostLen, wr_nakBuf, wr_win, wr_back, wr_repair, wr_period, wr_nextSeq, wr_qLen, wr_nakLen, cF23, Mv_d]
theorem lB22_14 (φ : Int32 → Int32) (x1 : Int32) (n : Nat) (i : Int32) (o : Ob) : loopN (B22_14 x1) n (i, Mp φ o) = (loopN (B22_14 x1) n (i, o)).map (Mp φ) := loop_map (Mv φ) (Mp φ) (cB22_14 φ x1) n (i, o)
theorem cB22_7 (φ : Int32 → Int32)  (v : Int32 × Ob) : B22_7 (Mv φ v) = (B22_7 v).map (Sum.map (Mp φ) (Mv φ)) := by
 unfold B22_7
 simp only [Mv_d, aget_map, aset_map, Option.bind_map, Option.map_bind, Option.map_some, Option.map_none, apply_ite (Option.map _), Function.comp_def, Sum.map_inl, Sum.map_inr, Option.bind_some, rd_srcPayload, rd_pend, rd_queue, rd_stats, rd_state, rd_timer, rd_rxVal, rd_rxNext, rd_rxLead, rd_rxTrail, rd_lossLeft, rd_dups, rd_drops, rd_delSeq, rd_delVal, rd_delLen, rd_lostLog, rd_lostLen, rd_nakBuf, rd_win, rd_back, rd_repair, rd_period, rd_nextSeq, rd_qLen, rd_nakLen, wr_srcPayload, wr_pend, wr_queue, wr_stats, wr_state, wr_timer, wr_rxVal, wr_rxNext, wr_rxLead, wr_rxTrail, wr_lossLeft, wr_dups, wr_drops, wr_delSeq, wr_delVal, wr_delLen, wr_lostLog, wr_lostLen, wr_nakBuf, wr_win, wr_back, wr_repair, wr_period, wr_nextSeq, wr_qLen, wr_nakLen, lB22_14, Mv_d]
theorem lB22_7 (φ : Int32 → Int32)  (n : Nat) (i : Int32) (o : Ob) : loopN (B22_7 ) n (i, Mp φ o) = (loopN (B22_7 ) n (i, o)).map (Mp φ) := loop_map (Mv φ) (Mp φ) (cB22_7 φ ) n (i, o)
theorem cF22 (φ : Int32 → Int32) (o : Ob) : F22 (Mp φ o)  = (F22 o ).map (Mp φ) := by
 unfold F22
 simp only [Mv_d, aget_map, aset_map, Option.bind_map, Option.map_bind, Option.map_some, Option.map_none, apply_ite (Option.map _), Function.comp_def, Sum.map_inl, Sum.map_inr, Option.bind_some, rd_srcPayload, rd_pend, rd_queue, rd_stats, rd_state, rd_timer, rd_rxVal, rd_rxNext, rd_rxLead, rd_rxTrail, rd_lossLeft, rd_dups, rd_drops, rd_delSeq, rd_delVal, rd_delLen, rd_lostLog, rd_lostLen, rd_nakBuf, rd_win, rd_back, rd_repair, rd_period, rd_nextSeq, rd_qLen, rd_nakLen, wr_srcPayload, wr_pend, wr_queue, wr_stats, wr_state, wr_timer, wr_rxVal, wr_rxNext, wr_rxLead, wr_rxTrail, wr_lossLeft, wr_dups, wr_drops, wr_delSeq, wr_delVal, wr_delLen, wr_lostLog, wr_lostLen, wr_nakBuf, wr_win, wr_back, wr_repair, wr_period, wr_nextSeq, wr_qLen, wr_nakLen, lB22_7]
theorem cB27_2 (φ : Int32 → Int32) (x1 : Int32) (h0 : φ 0 = 0) (v : Int32 × Ob) : B27_2 x1 (Mv φ v) = (B27_2 x1 v).map (Sum.map (Mp φ) (Mv φ)) := by
 unfold B27_2
 simp only [Mv_d, aget_map, aset_map, Option.bind_map, Option.map_bind, Option.map_some, Option.map_none, apply_ite (Option.map _), Function.comp_def, Sum.map_inl, Sum.map_inr, Option.bind_some, rd_srcPayload, rd_pend, rd_queue, rd_stats, rd_state, rd_timer, rd_rxVal, rd_rxNext, rd_rxLead, rd_rxTrail, rd_lossLeft, rd_dups, rd_drops, rd_delSeq, rd_delVal, rd_delLen, rd_lostLog, rd_lostLen, rd_nakBuf, rd_win, rd_back, rd_repair, rd_period, rd_nextSeq, rd_qLen, rd_nakLen, wr_srcPayload, wr_pend, wr_queue, wr_stats, wr_state, wr_timer, wr_rxVal, wr_rxNext, wr_rxLead, wr_rxTrail, wr_lossLeft, wr_dups, wr_drops, wr_delSeq, wr_delVal, wr_delLen, wr_lostLog, wr_lostLen, wr_nakBuf, wr_win, wr_back, wr_repair, wr_period, wr_nextSeq, wr_qLen, wr_nakLen, cF8z φ h0, Mv_d]
theorem lB27_2 (φ : Int32 → Int32) (x1 : Int32) (h0 : φ 0 = 0) (n : Nat) (i : Int32) (o : Ob) : loopN (B27_2 x1) n (i, Mp φ o) = (loopN (B27_2 x1) n (i, o)).map (Mp φ) := loop_map (Mv φ) (Mp φ) (cB27_2 φ x1 h0) n (i, o)
theorem cF27 (φ : Int32 → Int32) (o : Ob) (x1 : Int32) (h0 : φ 0 = 0) : F27 (Mp φ o) x1 = (F27 o x1).map (Mp φ) := by
 unfold F27
 simp only [Mv_d, aget_map, aset_map, Option.bind_map, Option.map_bind, Option.map_some, Option.map_none, apply_ite (Option.map _), Function.comp_def, Sum.map_inl, Sum.map_inr, Option.bind_some, rd_srcPayload, rd_pend, rd_queue, rd_stats, rd_state, rd_timer, rd_rxVal, rd_rxNext, rd_rxLead, rd_rxTrail, rd_lossLeft, rd_dups, rd_drops, rd_delSeq, rd_delVal, rd_delLen, rd_lostLog, rd_lostLen, rd_nakBuf, rd_win, rd_back, rd_repair, rd_period, rd_nextSeq, rd_qLen, rd_nakLen, wr_srcPayload, wr_pend, wr_queue, wr_stats, wr_state, wr_timer, wr_rxVal, wr_rxNext, wr_rxLead, wr_rxTrail, wr_lossLeft, wr_dups, wr_drops, wr_delSeq, wr_delVal, wr_delLen, wr_lostLog, wr_lostLen, wr_nakBuf, wr_win, wr_back, wr_repair, wr_period, wr_nextSeq, wr_qLen, wr_nakLen, lB27_2 φ _ h0]
theorem cJ26_78 (φ : Int32 → Int32) (o : Ob) (x1 : Int32) (h0 : φ 0 = 0) : J26_78 (Mp φ o) x1 = (J26_78 o x1).map (Mp φ) := by
 unfold J26_78
 simp only [Mv_d, aget_map, aset_map, Option.bind_map, Option.map_bind, Option.map_some, Option.map_none, apply_ite (Option.map _), Function.comp_def, Sum.map_inl, Sum.map_inr, Option.bind_some, rd_srcPayload, rd_pend, rd_queue, rd_stats, rd_state, rd_timer, rd_rxVal, rd_rxNext, rd_rxLead, rd_rxTrail, rd_lossLeft, rd_dups, rd_drops, rd_delSeq, rd_delVal, rd_delLen, rd_lostLog, rd_lostLen, rd_nakBuf, rd_win, rd_back, rd_repair, rd_period, rd_nextSeq, rd_qLen, rd_nakLen, wr_srcPayload, wr_pend, wr_queue, wr_stats, wr_state, wr_timer, wr_rxVal, wr_rxNext, wr_rxLead, wr_rxTrail, wr_lossLeft, wr_dups, wr_drops, wr_delSeq, wr_delVal, wr_delLen, wr_lostLog, wr_lostLen, wr_nakBuf, wr_win, wr_back, wr_repair, wr_period, wr_nextSeq, wr_qLen, wr_nakLen, cF27 φ _ _ h0]
theorem cJ26_68 (φ : Int32 → Int32) (o : Ob) (x1 : Int32) (h0 : φ 0 = 0) : J26_68 (Mp φ o) x1 = (J26_68 o x1).map (Mp φ) := by
 unfold J26_68
 simp only [Mv_d, aget_map, aset_map, Option.bind_map, Option.map_bind, Option.map_some, Option.map_none, apply_ite (Option.map _), Function.comp_def, Sum.map_inl, Sum.map_inr, Option.bind_some, rd_srcPayload, rd_pend, rd_queue, rd_stats, rd_state, rd_timer, rd_rxVal, rd_rxNext, rd_rxLead, rd_rxTrail, rd_lossLeft, rd_dups, rd_drops, rd_delSeq, rd_delVal, rd_delLen, rd_lostLog, rd_lostLen, rd_nakBuf, rd_win, rd_back, rd_repair, rd_period, rd_nextSeq, rd_qLen, rd_nakLen, wr_srcPayload, wr_pend, wr_queue, wr_stats, wr_state, wr_timer, wr_rxVal, wr_rxNext, wr_rxLead, wr_rxTrail, wr_lossLeft, wr_dups, wr_drops, wr_delSeq, wr_delVal, wr_delLen, wr_lostLog, wr_lostLen, wr_nakBuf, wr_win, wr_back, wr_repair, wr_period, wr_nextSeq, wr_qLen, wr_nakLen, cJ26_78 φ _ _ h0]
theorem cF26 (φ : Int32 → Int32) (o : Ob) (x1 : Int32) (h0 : φ 0 = 0) : F26 (Mp φ o) x1 = (F26 o x1).map (Mp φ) := by
 unfold F26
 simp only [Mv_d, aget_map, aset_map, Option.bind_map, Option.map_bind, Option.map_some, Option.map_none, apply_ite (Option.map _), Function.comp_def, Sum.map_inl, Sum.map_inr, Option.bind_some, rd_srcPayload, rd_pend, rd_queue, rd_stats, rd_state, rd_timer, rd_rxVal, rd_rxNext, rd_rxLead, rd_rxTrail, rd_lossLeft, rd_dups, rd_drops, rd_delSeq, rd_delVal, rd_delLen, rd_lostLog, rd_lostLen, rd_nakBuf, rd_win, rd_back, rd_repair, rd_period, rd_nextSeq, rd_qLen, rd_nakLen, wr_srcPayload, wr_pend, wr_queue, wr_stats, wr_state, wr_timer, wr_rxVal, wr_rxNext, wr_rxLead, wr_rxTrail, wr_lossLeft, wr_dups, wr_drops, wr_delSeq, wr_delVal, wr_delLen, wr_lostLog, wr_lostLen, wr_nakBuf, wr_win, wr_back, wr_repair, wr_period, wr_nextSeq, wr_qLen, wr_nakLen, cJ26_78 φ _ _ h0, cJ26_68 φ _ _ h0]
theorem cJ25_38 (φ : Int32 → Int32) (o : Ob) : J25_38 (Mp φ o)  = (J25_38 o ).map (Sum.map (Mp φ) (Mv φ)) := by
 unfold J25_38
 simp only [Mv_d, aget_map, aset_map, Option.bind_map, Option.map_bind, Option.map_some, Option.map_none, apply_ite (Option.map _), Function.comp_def, Sum.map_inl, Sum.map_inr, Option.bind_some, rd_srcPayload, rd_pend, rd_queue, rd_stats, rd_state, rd_timer, rd_rxVal, rd_rxNext, rd_rxLead, rd_rxTrail, rd_lossLeft, rd_dups, rd_drops, rd_delSeq, rd_delVal, rd_delLen, rd_lostLog, rd_lostLen, rd_nakBuf, rd_win, rd_back, rd_repair, rd_period, rd_nextSeq, rd_qLen, rd_nakLen, wr_srcPayload, wr_pend, wr_queue, wr_stats, wr_state, wr_timer, wr_rxVal, wr_rxNext, wr_rxLead, wr_rxTrail, wr_lossLeft, wr_dups, wr_drops, wr_delSeq, wr_delVal, wr_delLen, wr_lostLog, wr_lostLen, wr_nakBuf, wr_win, wr_back, wr_repair, wr_period, wr_nextSeq, wr_qLen, wr_nakLen]
theorem cB25_2 (φ : Int32 → Int32)  (h0 : φ 0 = 0) (v : Int32 × Ob) : B25_2 (Mv φ v) = (B25_2 v).map (Sum.map (Mp φ) (Mv φ)) := by
 unfold B25_2
 simp only [Mv_d, aget_map, aset_map, Option.bind_map, Option.map_bind, Option.map_some, Option.map_none, apply_ite (Option.map _), Function.comp_def, Sum.map_inl, Sum.map_inr, Option.bind_some, rd_srcPayload, rd_pend, rd_queue, rd_stats, rd_state, rd_timer, rd_rxVal, rd_rxNext, rd_rxLead, rd_rxTrail, rd_lossLeft, rd_dups, rd_drops, rd_delSeq, rd_delVal, rd_delLen, rd_lostLog, rd_lostLen, rd_nakBuf, rd_win, rd_back, rd_repair, rd_period, rd_nextSeq, rd_qLen, rd_nakLen, wr_srcPayload, wr_pend, wr_queue, wr_stats, wr_state, wr_timer, wr_rxVal, wr_rxNext, wr_rxLead, wr_rxTrail, wr_lossLeft, wr_dups, wr_drops, wr_delSeq, wr_delVal, wr_delLen, wr_lostLog, wr_lostLen, wr_nakBuf, wr_win, wr_back, wr_repair, wr_period, wr_nextSeq, wr_qLen, wr_nakLen, cF26 φ _ _ h0, cJ25_38, Mv_d]
theorem lB25_2 (φ : Int32 → Int32)  (h0 : φ 0 = 0) (n : Nat) (i : Int32) (o : Ob) : loopN (B25_2 ) n (i, Mp φ o) = (loopN (B25_2 ) n (i, o)).map (Mp φ) := loop_map (Mv φ) (Mp φ) (cB25_2 φ  h0) n (i, o)
theorem cF25 (φ : Int32 → Int32) (o : Ob) (h0 : φ 0 = 0) : F25 (Mp φ o)  = (F25 o ).map (Mp φ) := by
 unfold F25
 simp only [Mv_d, aget_map, aset_map, Option.bind_map, Option.map_bind, Option.map_some, Option.map_none, apply_ite (Option.map _), Function.comp_def, Sum.map_inl, Sum.map_inr, Option.bind_some, rd_srcPayload, rd_pend, rd_queue, rd_stats, rd_state, rd_timer, rd_rxVal, rd_rxNext, rd_rxLead, rd_rxTrail, rd_lossLeft, rd_dups, rd_drops, rd_delSeq, rd_delVal, rd_delLen, rd_lostLog, rd_lostLen, rd_nakBuf, rd_win, rd_back, rd_repair, rd_period, rd_nextSeq, rd_qLen, rd_nakLen, wr_srcPayload, wr_pend, wr_queue, wr_stats, wr_state, wr_timer, wr_rxVal, wr_rxNext, wr_rxLead, wr_rxTrail, wr_lossLeft, wr_dups, wr_drops, wr_delSeq, wr_delVal, wr_delLen, wr_lostLog, wr_lostLen, wr_nakBuf, wr_win, wr_back, wr_repair, wr_period, wr_nextSeq, wr_qLen, wr_nakLen, lB25_2 φ h0]
theorem cJ20_52 (φ : Int32 → Int32) (o : Ob) (h0 : φ 0 = 0) : J20_52 (Mp φ o)  = (J20_52 o ).map (Mp φ) := by
 unfold J20_52
 simp only [Mv_d, aget_map, aset_map, Option.bind_map, Option.map_bind, Option.map_some, Option.map_none, apply_ite (Option.map _), Function.comp_def, Sum.map_inl, Sum.map_inr, Option.bind_some, rd_srcPayload, rd_pend, rd_queue, rd_stats, rd_state, rd_timer, rd_rxVal, rd_rxNext, rd_rxLead, rd_rxTrail, rd_lossLeft, rd_dups, rd_drops, rd_delSeq, rd_delVal, rd_delLen, rd_lostLog, rd_lostLen, rd_nakBuf, rd_win, rd_back, rd_repair, rd_period, rd_nextSeq, rd_qLen, rd_nakLen, wr_srcPayload, wr_pend, wr_queue, wr_stats, wr_state, wr_timer, wr_rxVal, wr_rxNext, wr_rxLead, wr_rxTrail, wr_lossLeft, wr_dups, wr_drops, wr_delSeq, wr_delVal, wr_delLen, wr_lostLog, wr_lostLen, wr_nakBuf, wr_win, wr_back, wr_repair, wr_period, wr_nextSeq, wr_qLen, wr_nakLen, cF22, cF25 φ _ h0]
theorem cF20 (φ : Int32 → Int32) (o : Ob) (h0 : φ 0 = 0) : F20 (Mp φ o)  = (F20 o ).map (Mp φ) := by
 unfold F20
 simp only [Mv_d, aget_map, aset_map, Option.bind_map, Option.map_bind, Option.map_some, Option.map_none, apply_ite (Option.map _), Function.comp_def, Sum.map_inl, Sum.map_inr, Option.bind_some, rd_srcPayload, rd_pend, rd_queue, rd_stats, rd_state, rd_timer, rd_rxVal, rd_rxNext, rd_rxLead, rd_rxTrail, rd_lossLeft, rd_dups, rd_drops, rd_delSeq, rd_delVal, rd_delLen, rd_lostLog, rd_lostLen, rd_nakBuf, rd_win, rd_back, rd_repair, rd_period, rd_nextSeq, rd_qLen, rd_nakLen, wr_srcPayload, wr_pend, wr_queue, wr_stats, wr_state, wr_timer, wr_rxVal, wr_rxNext, wr_rxLead, wr_rxTrail, wr_lossLeft, wr_dups, wr_drops, wr_delSeq, wr_delVal, wr_delLen, wr_lostLog, wr_lostLen, wr_nakBuf, wr_win, wr_back, wr_repair, wr_period, wr_nextSeq, wr_qLen, wr_nakLen, cF21 φ _ h0, cF4z φ h0, cJ20_52 φ _ h0]
theorem cB0 (φ : Int32 → Int32) (h0 : φ 0 = 0) (x5 x6 x7 x8 x9 y5 y6 y7 y8 y9 : Int32) (v : Int32 × Ob) : B0_133 y5 y6 y7 y8 y9 (Mv φ v) = (B0_133 x5 x6 x7 x8 x9 v).map (Sum.map (Mp φ) (Mv φ)) := by
 unfold B0_133
 simp only [Mv_d, aget_map, aset_map, Option.bind_map, Option.map_bind, Option.map_some, Option.map_none, apply_ite (Option.map _), Function.comp_def, Sum.map_inl, Sum.map_inr, Option.bind_some, rd_srcPayload, rd_pend, rd_queue, rd_stats, rd_state, rd_timer, rd_rxVal, rd_rxNext, rd_rxLead, rd_rxTrail, rd_lossLeft, rd_dups, rd_drops, rd_delSeq, rd_delVal, rd_delLen, rd_lostLog, rd_lostLen, rd_nakBuf, rd_win, rd_back, rd_repair, rd_period, rd_nextSeq, rd_qLen, rd_nakLen, wr_srcPayload, wr_pend, wr_queue, wr_stats, wr_state, wr_timer, wr_rxVal, wr_rxNext, wr_rxLead, wr_rxTrail, wr_lossLeft, wr_dups, wr_drops, wr_delSeq, wr_delVal, wr_delLen, wr_lostLog, wr_lostLen, wr_nakBuf, wr_win, wr_back, wr_repair, wr_period, wr_nextSeq, wr_qLen, wr_nakLen, cF20 φ _ h0, Mv_d]
theorem lB0 (φ : Int32 → Int32) (h0 : φ 0 = 0) (x5 x6 x7 x8 x9 y5 y6 y7 y8 y9 : Int32) (n : Nat) (i : Int32) (o : Ob) : loopN (B0_133 y5 y6 y7 y8 y9) n (i, Mp φ o) = (loopN (B0_133 x5 x6 x7 x8 x9) n (i, o)).map (Mp φ) := loop_map (Mv φ) (Mp φ) (cB0 φ h0 x5 x6 x7 x8 x9 y5 y6 y7 y8 y9) n (i, o)
theorem cF29 (φ : Int32 → Int32) (o : Ob) (x1 x2 : Int32) : F29 (Mp φ o) x1 x2 = F29 o x1 x2 := by
 unfold F29
 simp only [Mv_d, aget_map, aset_map, Option.bind_map, Option.map_bind, Option.map_some, Option.map_none, apply_ite (Option.map _), Function.comp_def, Sum.map_inl, Sum.map_inr, Option.bind_some, rd_srcPayload, rd_pend, rd_queue, rd_stats, rd_state, rd_timer, rd_rxVal, rd_rxNext, rd_rxLead, rd_rxTrail, rd_lossLeft, rd_dups, rd_drops, rd_delSeq, rd_delVal, rd_delLen, rd_lostLog, rd_lostLen, rd_nakBuf, rd_win, rd_back, rd_repair, rd_period, rd_nextSeq, rd_qLen, rd_nakLen, wr_srcPayload, wr_pend, wr_queue, wr_stats, wr_state, wr_timer, wr_rxVal, wr_rxNext, wr_rxLead, wr_rxTrail, wr_lossLeft, wr_dups, wr_drops, wr_delSeq, wr_delVal, wr_delLen, wr_lostLog, wr_lostLen, wr_nakBuf, wr_win, wr_back, wr_repair, wr_period, wr_nextSeq, wr_qLen, wr_nakLen]
theorem cF31 (φ : Int32 → Int32) (o : Ob) (x1 x2 : Int32) : F31 (Mp φ o) x1 x2 = F31 o x1 x2 := by
 unfold F31
 simp only [Mv_d, aget_map, aset_map, Option.bind_map, Option.map_bind, Option.map_some, Option.map_none, apply_ite (Option.map _), Function.comp_def, Sum.map_inl, Sum.map_inr, Option.bind_some, rd_srcPayload, rd_pend, rd_queue, rd_stats, rd_state, rd_timer, rd_rxVal, rd_rxNext, rd_rxLead, rd_rxTrail, rd_lossLeft, rd_dups, rd_drops, rd_delSeq, rd_delVal, rd_delLen, rd_lostLog, rd_lostLen, rd_nakBuf, rd_win, rd_back, rd_repair, rd_period, rd_nextSeq, rd_qLen, rd_nakLen, wr_srcPayload, wr_pend, wr_queue, wr_stats, wr_state, wr_timer, wr_rxVal, wr_rxNext, wr_rxLead, wr_rxTrail, wr_lossLeft, wr_dups, wr_drops, wr_delSeq, wr_delVal, wr_delLen, wr_lostLog, wr_lostLen, wr_nakBuf, wr_win, wr_back, wr_repair, wr_period, wr_nextSeq, wr_qLen, wr_nakLen]
theorem cF32 (φ : Int32 → Int32) (o : Ob) (x1 : Int32) : F32 (Mp φ o) x1 = F32 o x1 := by
 unfold F32
 simp only [Mv_d, aget_map, aset_map, Option.bind_map, Option.map_bind, Option.map_some, Option.map_none, apply_ite (Option.map _), Function.comp_def, Sum.map_inl, Sum.map_inr, Option.bind_some, rd_srcPayload, rd_pend, rd_queue, rd_stats, rd_state, rd_timer, rd_rxVal, rd_rxNext, rd_rxLead, rd_rxTrail, rd_lossLeft, rd_dups, rd_drops, rd_delSeq, rd_delVal, rd_delLen, rd_lostLog, rd_lostLen, rd_nakBuf, rd_win, rd_back, rd_repair, rd_period, rd_nextSeq, rd_qLen, rd_nakLen, wr_srcPayload, wr_pend, wr_queue, wr_stats, wr_state, wr_timer, wr_rxVal, wr_rxNext, wr_rxLead, wr_rxTrail, wr_lossLeft, wr_dups, wr_drops, wr_delSeq, wr_delVal, wr_delLen, wr_lostLog, wr_lostLen, wr_nakBuf, wr_win, wr_back, wr_repair, wr_period, wr_nextSeq, wr_qLen, wr_nakLen]
theorem cF33 (φ : Int32 → Int32) (o : Ob) (x1 : Int32) : F33 (Mp φ o) x1 = F33 o x1 := by
 unfold F33
 simp only [Mv_d, aget_map, aset_map, Option.bind_map, Option.map_bind, Option.map_some, Option.map_none, apply_ite (Option.map _), Function.comp_def, Sum.map_inl, Sum.map_inr, Option.bind_some, rd_srcPayload, rd_pend, rd_queue, rd_stats, rd_state, rd_timer, rd_rxVal, rd_rxNext, rd_rxLead, rd_rxTrail, rd_lossLeft, rd_dups, rd_drops, rd_delSeq, rd_delVal, rd_delLen, rd_lostLog, rd_lostLen, rd_nakBuf, rd_win, rd_back, rd_repair, rd_period, rd_nextSeq, rd_qLen, rd_nakLen, wr_srcPayload, wr_pend, wr_queue, wr_stats, wr_state, wr_timer, wr_rxVal, wr_rxNext, wr_rxLead, wr_rxTrail, wr_lossLeft, wr_dups, wr_drops, wr_delSeq, wr_delVal, wr_delLen, wr_lostLog, wr_lostLen, wr_nakBuf, wr_win, wr_back, wr_repair, wr_period, wr_nextSeq, wr_qLen, wr_nakLen]
theorem cF30 (φ : Int32 → Int32) (h1 : φ (-1) = -1) (o : Ob) (x1 x2 : Int32) : F30 (Mp φ o) x1 x2 = (F30 o x1 x2).map φ := by
 unfold F30
 simp only [Mv_d, aget_map, aset_map, Option.bind_map, Option.map_bind, Option.map_some, Option.map_none, apply_ite (Option.map _), Function.comp_def, Sum.map_inl, Sum.map_inr, Option.bind_some, rd_srcPayload, rd_pend, rd_queue, rd_stats, rd_state, rd_timer, rd_rxVal, rd_rxNext, rd_rxLead, rd_rxTrail, rd_lossLeft, rd_dups, rd_drops, rd_delSeq, rd_delVal, rd_delLen, rd_lostLog, rd_lostLen, rd_nakBuf, rd_win, rd_back, rd_repair, rd_period, rd_nextSeq, rd_qLen, rd_nakLen, wr_srcPayload, wr_pend, wr_queue, wr_stats, wr_state, wr_timer, wr_rxVal, wr_rxNext, wr_rxLead, wr_rxTrail, wr_lossLeft, wr_dups, wr_drops, wr_delSeq, wr_delVal, wr_delLen, wr_lostLog, wr_lostLen, wr_nakBuf, wr_win, wr_back, wr_repair, wr_period, wr_nextSeq, wr_qLen, wr_nakLen, h1]

def dP {α : Type} (m : Option α) (P : α → Bool) : Bool := match m with
 | none => false
 | some a => P a
theorem dP.use {α : Type} {m : Option α} {P : α → Bool} (h : dP m P = true) : ∃ a, m = some a ∧ P a = true := by
 cases m with
 | none => exact absurd h Bool.false_ne_true
 | some a => exact ⟨a, rfl, h⟩
def Zr5 (o : Ob) : Bool := decide (f_srcPayload o = List.replicate 32 0) && decide (f_rxVal o = List.replicate 128 0) && decide (f_delVal o = List.replicate 128 0)
def En5 (r : Int32) (e : Ob) : Bool :=
 decide (F18 e r 1 = some 5) && decide (F29 e r 3 = some 3) && decide (F30 e r 0 = some 1) && decide (F30 e r 1 = some 2) && decide (F30 e r 2 = some 3) && decide (F31 e r 1 = some 1) && decide (F29 e r 6 = some 0) && decide (F29 e ((r + 1) &&& 3) 6 = some 1) && decide (F32 e 0 = some 6) && decide (F32 e 4 = some 1) && decide (F32 e 5 = some 1) && decide (F32 e 6 = some 0) && decide (F32 e 7 = some 1) && decide (F32 e 2 = some 1) && decide (F32 e 3 = some 0) && decide (F32 e 9 = some 1) && decide (F32 e 8 = some 0) && decide (F33 e 1 = some 0) && decide (qhs (H0 e) ≤ room_1.slots)
def Rn5 (r : Int32) : Bool := dP (F1 8 1 4 0) fun o => Zr5 o && dP (F3 o 1) fun a => decide (a.1 = 0) && dP (F15 a.2 r 1) fun b => decide (b.1 ≠ 0) && dP (F3 b.2 2) fun c => decide (c.1 = 1) && dP (F3 c.2 3) fun d => decide (d.1 = 2) && decide (F18 d.2 r 1 = some 1) && decide (F19 d.2 r 1 = some (1 + r)) && dP (loopN (B0_133 0 0 0 0 0) qN (0, d.2)) fun e => En5 r e
theorem run_all : ∀ m : Nat, m < 4 → Rn5 (Int32.ofInt m) = true := by decide +kernel
theorem ad2 {a b : Bool} (h : (a && b) = true) : a = true ∧ b = true := by
 cases a <;> cases b <;> first | exact ⟨rfl, rfl⟩ | exact absurd h Bool.false_ne_true
theorem dc5 {p : Prop} [Decidable p] (h : decide p = true) : p := of_decide_eq_true h
theorem Mp_zero {φ : Int32 → Int32} (h0 : φ 0 = 0) {o : Ob} (h : Zr5 o = true) : Mp φ o = o := by
 obtain ⟨h, h3⟩ := ad2 h
 obtain ⟨h1, h2⟩ := ad2 h
 have h1 := dc5 h1
 have h2 := dc5 h2
 have h3 := dc5 h3
 have m1 : (f_srcPayload o).map φ = f_srcPayload o := by rw [h1, List.map_replicate, h0]
 have m2 : (f_rxVal o).map φ = f_rxVal o := by rw [h2, List.map_replicate, h0]
 have m3 : (f_delVal o).map φ = f_delVal o := by rw [h3, List.map_replicate, h0]
 unfold Mp
 rw [m1, m2, m3]
 rfl
def ph (x y z c : Int32) : Int32 := if c = 1 then x else if c = 2 then y else if c = 3 then z else c
theorem law_ok (x0 x1 x2 x3 : Int32) : ∃ τ, F0 x0 x1 x2 x3 = some (1, τ) ∧ τ.length - List.length ([] : QHeap) ≤ room_1.cells ∧ qhs τ - qhs [] ≤ room_1.slots := by
 have z3 : (3 : Int32).toInt = 3 := rfl
 have z0 : (0 : Int32).toInt = 0 := rfl
 have z255 : (255 : Int32).toInt = 255 := rfl
 unfold F0
 have r1 := and_rng (x := x0) (m := 255) (by decide)
 have r2 := and_rng (x := x1) (m := 255) (by decide)
 have r3 := and_rng (x := x2) (m := 255) (by decide)
 have r4 := and_rng (x := x3) (m := 3) (by decide)
 generalize x0 &&& 255 = x at r1 ⊢
 generalize x1 &&& 255 = y at r2 ⊢
 generalize x2 &&& 255 = z at r3 ⊢
 generalize x3 &&& 3 = r at r4 ⊢
 have R : Rn5 r = true := small_cases (P := fun r => Rn5 r = true) r4.1 (n := 4) (by omega) run_all
 have p0 : ph x y z 0 = 0 := rfl
 have pm : ph x y z (-1) = -1 := rfl
 have p1 : ph x y z 1 = x := rfl
 have p2 : ph x y z 2 = y := rfl
 have p3 : ph x y z 3 = z := rfl
 generalize hφ : ph x y z = φ at p0 pm p1 p2 p3
 obtain ⟨o, ho, R⟩ := dP.use R
 obtain ⟨Zo, R⟩ := ad2 R
 obtain ⟨a, ha, R⟩ := dP.use R
 obtain ⟨a1, R⟩ := ad2 R
 obtain ⟨b, hb, R⟩ := dP.use R
 obtain ⟨b1, R⟩ := ad2 R
 obtain ⟨c, hc, R⟩ := dP.use R
 obtain ⟨c1, R⟩ := ad2 R
 obtain ⟨d, hd, R⟩ := dP.use R
 obtain ⟨d1, R⟩ := ad2 R
 obtain ⟨d1, d3⟩ := ad2 d1
 obtain ⟨d1, d2⟩ := ad2 d1
 obtain ⟨e, he, R⟩ := dP.use R
 have b1 : b.1 ≠ 0 := dc5 b1
 have f1 : F3 o x = some (Mv φ a) := by
  have := cF3 φ o 1 (by decide) (by decide) (by rw [p1, i_lt, z0]; omega) (by rw [p1, i_lt]; omega)
  rw [Mp_zero p0 Zo, p1, ha] at this
  exact this
 have f2 : F15 (Mv φ a).2 r 1 = some (Mv φ b) := by rw [Mv_2, cF15, hb]; rfl
 have f3 : F3 (Mv φ b).2 y = some (Mv φ c) := by
  have := cF3 φ b.2 2 (by decide) (by decide) (by rw [p2, i_lt, z0]; omega) (by rw [p2, i_lt]; omega)
  rw [p2, hc] at this
  exact this
 have f4 : F3 (Mv φ c).2 z = some (Mv φ d) := by
  have := cF3 φ c.2 3 (by decide) (by decide) (by rw [p3, i_lt, z0]; omega) (by rw [p3, i_lt]; omega)
  rw [p3, hd] at this
  exact this
 have f5 : ∀ y8 y9, loopN (B0_133 x y z y8 y9) qN (0, (Mv φ d).2) = some (Mp φ e) := by
  intro y8 y9
  rw [Mv_2, lB0 φ p0 0 0 0 0 0, he]; rfl
 have g1 : F18 (Mv φ d).2 r 1 = some 1 := by rw [Mv_2, cF18]; exact dc5 d2
 have g2 : F19 (Mv φ d).2 r 1 = some (1 + r) := by rw [Mv_2, cF19]; exact dc5 d3
 rw [ho, Option.bind_some, f1, Option.bind_some]
 rw [if_pos (show (Mv φ a).1 = 0 from dc5 a1), f2, Option.bind_some]
 rw [if_neg (show ¬ (Mv φ b).1 = 0 from b1), f3, Option.bind_some]
 rw [if_pos (show (Mv φ c).1 = 1 from dc5 c1), f4, Option.bind_some]
 rw [if_pos (show (Mv φ d).1 = 2 from dc5 d1), g1, Option.bind_some, if_pos rfl, g2, Option.bind_some, if_pos rfl, f5, Option.bind_some]
 unfold En5 at R
 obtain ⟨R, hq⟩ := ad2 R
 obtain ⟨R, e18⟩ := ad2 R
 obtain ⟨R, e17⟩ := ad2 R
 obtain ⟨R, e16⟩ := ad2 R
 obtain ⟨R, e15⟩ := ad2 R
 obtain ⟨R, e14⟩ := ad2 R
 obtain ⟨R, e13⟩ := ad2 R
 obtain ⟨R, e12⟩ := ad2 R
 obtain ⟨R, e11⟩ := ad2 R
 obtain ⟨R, e10⟩ := ad2 R
 obtain ⟨R, e9⟩ := ad2 R
 obtain ⟨R, e8⟩ := ad2 R
 obtain ⟨R, e7⟩ := ad2 R
 obtain ⟨R, e6⟩ := ad2 R
 obtain ⟨R, e5⟩ := ad2 R
 obtain ⟨R, e4⟩ := ad2 R
 obtain ⟨R, e3⟩ := ad2 R
 obtain ⟨e1, e2⟩ := ad2 R
 rw [cF18, dc5 e1, Option.bind_some, if_pos rfl]
 rw [cF29, dc5 e2, Option.bind_some, if_pos rfl]
 rw [cF30 φ pm, dc5 e3, Option.map_some, Option.bind_some, if_pos p1]
 rw [cF30 φ pm, dc5 e4, Option.map_some, Option.bind_some, if_pos p2]
 rw [cF30 φ pm, dc5 e5, Option.map_some, Option.bind_some, if_pos p3]
 rw [cF31, dc5 e6, Option.bind_some, if_pos rfl]
 rw [cF29, dc5 e7, Option.bind_some, if_pos rfl]
 rw [cF29, dc5 e8, Option.bind_some, if_pos rfl]
 rw [cF32, dc5 e9, Option.bind_some, if_pos rfl]
 rw [cF32, dc5 e10, Option.bind_some, if_pos rfl]
 rw [cF32, dc5 e11, Option.bind_some, if_pos rfl]
 rw [cF32, dc5 e12, Option.bind_some, if_pos rfl]
 rw [cF32, dc5 e13, Option.bind_some, if_pos rfl]
 rw [cF32, dc5 e14, Option.bind_some, if_pos rfl]
 rw [cF32, dc5 e15, Option.bind_some, if_pos rfl]
 rw [cF32, dc5 e16, Option.bind_some, if_pos rfl]
 rw [cF32, dc5 e17, Option.bind_some, if_pos rfl]
 rw [cF33, dc5 e18, Option.bind_some, if_pos rfl]
 refine ⟨_, rfl, by show 20 - 0 ≤ _; decide, ?_⟩
 have q : qhs (H0 (Mp φ e)) = qhs (H0 e) := by
  simp only [H0, qhs, qsz, Mv_d, aget_map, aset_map, Option.bind_map, Option.map_bind, Option.map_some, Option.map_none, apply_ite (Option.map _), Function.comp_def, Sum.map_inl, Sum.map_inr, Option.bind_some, rd_srcPayload, rd_pend, rd_queue, rd_stats, rd_state, rd_timer, rd_rxVal, rd_rxNext, rd_rxLead, rd_rxTrail, rd_lossLeft, rd_dups, rd_drops, rd_delSeq, rd_delVal, rd_delLen, rd_lostLog, rd_lostLen, rd_nakBuf, rd_win, rd_back, rd_repair, rd_period, rd_nextSeq, rd_qLen, rd_nakLen, wr_srcPayload, wr_pend, wr_queue, wr_stats, wr_state, wr_timer, wr_rxVal, wr_rxNext, wr_rxLead, wr_rxTrail, wr_lossLeft, wr_dups, wr_drops, wr_delSeq, wr_delVal, wr_delLen, wr_lostLog, wr_lostLen, wr_nakBuf, wr_win, wr_back, wr_repair, wr_period, wr_nextSeq, wr_qLen, wr_nakLen, List.length_map]
 rw [q]
 have := dc5 hq
 exact Nat.le_trans (Nat.sub_le _ _) this
set_option maxRecDepth 65536 in
theorem comes_1 {Post : Tables → Env → Array Value → State → Outcome → State → Prop} (hpost : ∀ tb e args s v u, (limb_1_1.after args s (.returned v) u = true ∧ limb_1_2.after args s (.returned v) u = true ∧ True) → FrameEnd s (.returned v) u (Jvm.fieldLocs frame_1_writes args s ++ Jvm.arrayLocs frame_1_arrays args s ++ Jvm.staticLocs frame_1_statics s) 48 2304 → Post tb e args s (.returned v) u) :
    ArmFor flags0 classFile x code maxLocals ret World_1 tables_1 room_1 Calls_1 rest_1 Pre_1 Post := by
  intro l hfl _ _ p e ha hc hk s m args below hf hA hF happ hP
  obtain ⟨hcalls, hrest, hpre⟩ := hP
  obtain ⟨-, -, -, hnamed, -, -, -, hat⟩ := (Spec.applies_iff hf).mp happ
  obtain ⟨hg, hn⟩ := and_e (Cond.before_iff.mp (show (Jvm.Cond.and given_1 narrow_1).before args s = true from hpre))
  obtain ⟨g0, g1⟩ := and_e hg
  obtain ⟨w0, w1, w2, w3, rfl⟩ : ∃ w0 w1 w2 w3 : Value, args = #[w0, w1, w2, w3] := by
    have hs : args.size = 4 := by simpa [Cond.value, given_1] using g0
    obtain ⟨L⟩ := args
    match L, hs with
    | [w0, w1, w2, w3], _ => exact ⟨w0, w1, w2, w3, rfl⟩
  have hw := fun d (hd : d ∈ tables_1) => atoms_spec (ws := Jvm.Cond.code x code maxLocals ret :: tables_1) hat d (List.mem_cons_of_mem _ hd)
  obtain ⟨a0, g2⟩ := and_e g1
  obtain ⟨i0, ei0⟩ := is_v a0
  obtain rfl : w0 = (.int i0) := Option.some.inj ei0
  obtain ⟨a1, g3⟩ := and_e g2
  obtain ⟨i1, ei1⟩ := is_v a1
  obtain rfl : w1 = (.int i1) := Option.some.inj ei1
  obtain ⟨a2, g4⟩ := and_e g3
  obtain ⟨i2, ei2⟩ := is_v a2
  obtain rfl : w2 = (.int i2) := Option.some.inj ei2
  obtain ⟨i3, ei3⟩ := is_v g4
  obtain rfl : w3 = (.int i3) := Option.some.inj ei3
  obtain ⟨τ, hF0, hc1, hs1⟩ := law_ok i0 i1 i2 i3
  have Ad : QAd s.heap.size (fun k => s.heap.size + k) := ⟨fun k _ => Nat.le_add_right _ _, fun i j h => Nat.add_left_cancel h⟩
  have hR : QRep s s.heap.size (fun k => s.heap.size + k) s.heap [] := ⟨⟨Nat.le_refl _, fun k _ => rfl⟩, rfl, fun k c h => by cases h⟩
  have T := tF0 (l := l) (Z := s) Ad (QW_ok hw) i0 i1 i2 i3 hF0
  have M := QTri.met (k := 0) (as := [.int i0, .int i1, .int i2, .int i3]) (by decide) T hR (Nat.le_of_ble_eq_true rfl) (fun q => by cases q) tables_1 (rm := room_1) (by decide) (by decide) hc1 hs1
  obtain ⟨n, o, h1, h2, h3, _, L, rfl, ⟨rfl, R', N⟩, hq⟩ := M p e ha hc hk s m _ below hf ((Spec.applies_iff_loose hf).mp happ).1 ⟨rfl, State.Warmed39.refl s, rfl⟩ trivial
  refine ⟨n, _, h1, h2, h3, hpost _ _ _ _ _ _ ⟨Cond.after_iff.mpr rfl, Cond.after_iff.mpr (eq_i res_at (Term.int_eval (1)) rfl), trivial⟩ ⟨hq.1, hq.2.1, (hq.2.2.sift fun y hy => Or.inr (N y hy)).mono hc1 hs1⟩⟩
theorem main_1_1 : Claimed_1_1 := comes_1 fun _ _ _ _ _ _ h hF => ⟨h.1, hF⟩
theorem main_1_2 : Claimed_1_2 := comes_1 fun _ _ _ _ _ _ h hF => ⟨h.2.1, hF⟩
end Jvm.Pilot.@@N@@
namespace Jvm.Pilot.@@N@@
open Jvm Jvm.ClassFile Sem Op Lib Jvm.Free Jvm.Stand Jvm.Pilot.@@N@@.Jvm.D
/-! MADE BY PROGRAM (witnessworld.py) out of the Statement's table words and the real class files: 11 classes; the members and pool entries that the words name. The judged class is class 1, her method 1. -/
namespace start1
open Jvm.ClassFile
def u (s : String) : CpInfo := .utf8 (stringToUtf16 s)
/-- a pool by its gaps: so many unusable entries, then the entry; so many at the end -/
def gap : Nat → List CpInfo → List CpInfo
  | 0, r => r
  | n + 1, r => .unusable :: gap n r
def poolList (es : List (Nat × CpInfo)) (last : Nat) : List CpInfo := es.foldr (fun e r => gap e.1 (e.2 :: r)) (gap last [])
def pool (es : List (Nat × CpInfo)) (last : Nat) : Array CpInfo := ⟨poolList es last⟩
def fileOf (pool : Array CpInfo) (this : Nat) (attrs : Array Attribute := #[]) (ms : Array MethodInfo := #[]) (fl : Nat := 33) (sup : Nat := 0) (ifs : Array Nat := #[]) (fds : Array FieldInfo := #[]) : ClassFile where
  minorVersion := 0
  majorVersion := 65
  constantPool := pool
  accessFlags := fl
  thisClass := this
  superClass := sup
  interfaces := ifs
  fields := fds
  methods := ms
  attributes := attrs
def plain (name : String) (sup : Option ClassId) : Class where
  name := name
  kind := .ordinary
  loader := none
  accessFlags := 33
  super := sup
  interfaces := #[]
  cf := none
  fields := #[]
  methods := #[]
  instanceTypes := #[]
  staticTypes := #[]
  resolved := #[]
  callSites := []
  init := .initialized
  statics := none
  mirror := none

def pool0 : Array CpInfo := pool [(5, u "<init>"), (0, u "()V"), (1, .class_ 10), (1, u "java/lang/Object")] 113

def k0c0 : Code := { maxStack := 0, maxLocals := 1, code := object_method_1_code, exceptionTable := #[], attributes := #[] }
def k0m0 : Method := { name := "<init>", desc := "()V", sig := { parameters := [], returnType := none }, accessFlags := 1, code := some k0c0 }
/-- java/lang/Object -/
def k0 : Class := { plain "java/lang/Object" none with
  accessFlags := 33
  interfaces := #[]
  cf := some (fileOf pool0 8 #[] #[{ accessFlags := 1, nameIndex := 5, descriptorIndex := 6, attributes := #[] }] 33 0 #[] #[])
  fields := #[]
  methods := #[k0m0]
  instanceTypes := #[]
  staticTypes := #[]
  resolved := Array.replicate 124 none
  statics := none }

def pool1 : Array CpInfo := pool [(2, .class_ 4), (1, u "java/lang/Object"), (0, u "<init>"), (0, u "()V"), (0, .class_ 8), (0, u "NakMulticast"), (0, .methodref 7 10), (0, .nameAndType 5 11), (0, u "(IIII)V"), (0, .methodref 7 13), (0, .nameAndType 14 15), (0, u "send"), (0, u "(I)I"), (0, .methodref 7 17), (0, .nameAndType 18 19), (0, u "setLoss"), (0, u "(II)Z"), (0, .methodref 7 21), (0, .nameAndType 22 23), (0, u "rxState"), (0, u "(II)I"), (0, .methodref 7 25), (0, .nameAndType 26 23), (0, u "rxTimer"), (0, .methodref 7 28), (0, .nameAndType 29 6), (0, u "tick"), (0, .methodref 7 31), (0, .nameAndType 32 23), (0, u "rxInfo"), (0, .methodref 7 34), (0, .nameAndType 35 23), (0, u "deliveredValue"), (0, .methodref 7 37), (0, .nameAndType 38 23), (0, u "deliveredSeq"), (0, .methodref 7 40), (0, .nameAndType 41 15), (0, u "stat"), (0, .methodref 7 43), (0, .nameAndType 44 45), (0, u "pending"), (0, u "(I)Z"), (0, .class_ 47), (0, u "NakMulticastL3"), (2, u "law"), (0, u "(IIII)Z")] 3

def k1m0 : Method := { name := "<init>", desc := "()V", sig := { parameters := [], returnType := none }, accessFlags := 1, code := none }
def k1c1 : Code := { maxStack := 6, maxLocals := 11, code := code, exceptionTable := #[], attributes := #[] }
def k1m1 : Method := { name := "law", desc := "(IIII)Z", sig := { parameters := [.int, .int, .int, .int], returnType := some .boolean }, accessFlags := 9, code := some k1c1 }
/-- NakMulticastL3 -/
def k1 : Class := { plain "NakMulticastL3" (some 0) with
  accessFlags := 33
  interfaces := #[]
  cf := some (fileOf pool1 46 #[] #[{ accessFlags := 1, nameIndex := 5, descriptorIndex := 6, attributes := #[] }, { accessFlags := 9, nameIndex := 50, descriptorIndex := 51, attributes := #[] }] 33 2 #[] #[])
  fields := #[]
  methods := #[k1m0, k1m1]
  instanceTypes := #[]
  staticTypes := #[]
  resolved := Array.replicate 55 none
  statics := none }

def pool2 : Array CpInfo := pool [(1, .methodref 2 3), (0, .class_ 4), (0, .nameAndType 5 6), (0, u "java/lang/Object"), (0, u "<init>"), (0, u "()V"), (0, .fieldref 8 9), (0, .class_ 10), (0, .nameAndType 11 12), (0, u "NakMulticast"), (0, u "srcPayload"), (0, u "[I"), (0, .fieldref 8 14), (0, .nameAndType 15 16), (0, u "pend"), (0, u "[Z"), (0, .fieldref 8 18), (0, .nameAndType 19 12), (0, u "queue"), (0, .fieldref 8 21), (0, .nameAndType 22 12), (0, u "stats"), (0, .fieldref 8 24), (0, .nameAndType 25 12), (0, u "state"), (0, .fieldref 8 27), (0, .nameAndType 28 12), (0, u "timer"), (0, .fieldref 8 30), (0, .nameAndType 31 12), (0, u "rxVal"), (0, .fieldref 8 33), (0, .nameAndType 34 12), (0, u "rxNext"), (0, .fieldref 8 36), (0, .nameAndType 37 12), (0, u "rxLead"), (0, .fieldref 8 39), (0, .nameAndType 40 12), (0, u "rxTrail"), (0, .fieldref 8 42), (0, .nameAndType 43 12), (0, u "lossLeft"), (0, .fieldref 8 45), (0, .nameAndType 46 12), (0, u "dups"), (0, .fieldref 8 48), (0, .nameAndType 49 12), (0, u "drops"), (0, .fieldref 8 51), (0, .nameAndType 52 12), (0, u "delSeq"), (0, .fieldref 8 54), (0, .nameAndType 55 12), (0, u "delVal"), (0, .fieldref 8 57), (0, .nameAndType 58 12), (0, u "delLen"), (0, .fieldref 8 60), (0, .nameAndType 61 12), (0, u "lostLog"), (0, .fieldref 8 63), (0, .nameAndType 64 12), (0, u "lostLen"), (0, .fieldref 8 66), (0, .nameAndType 67 12), (0, u "nakBuf"), (0, .methodref 8 69), (0, .nameAndType 70 71), (0, u "clamp"), (0, u "(III)I"), (0, .fieldref 8 73), (0, .nameAndType 74 75), (0, u "win"), (0, u "I"), (0, .fieldref 8 77), (0, .nameAndType 78 75), (0, u "back"), (0, .fieldref 8 80), (0, .nameAndType 81 75), (0, u "repair"), (0, .fieldref 8 83), (0, .nameAndType 84 75), (0, u "period"), (0, .fieldref 8 86), (0, .nameAndType 87 75), (0, u "nextSeq"), (0, .methodref 8 89), (0, .nameAndType 90 91), (0, u "multicastSource"), (0, u "(III)V"), (0, .methodref 8 93), (0, .nameAndType 94 95), (0, u "validRx"), (0, u "(I)Z"), (0, .methodref 8 97), (0, .nameAndType 98 6), (0, u "serveQueue"), (0, .methodref 8 100), (0, .nameAndType 101 6), (0, u "runTimers"), (0, .methodref 8 103), (0, .nameAndType 104 6), (0, u "handleNaks"), (0, .methodref 8 106), (0, .nameAndType 107 108), (0, u "lead"), (0, u "()I"), (0, .methodref 8 110), (0, .nameAndType 111 108), (0, u "trail"), (0, .fieldref 8 113), (0, .nameAndType 114 75), (0, u "qLen"), (0, .methodref 8 116), (0, .nameAndType 117 95), (0, u "validSeq"), (0, .methodref 8 119), (0, .nameAndType 120 91), (0, u "aggregatorApply"), (0, .methodref 8 122), (0, .nameAndType 123 124), (0, u "copyTo"), (0, u "(IIIIII)V"), (0, .methodref 8 126), (0, .nameAndType 127 128), (0, u "applyData"), (0, u "(IIIII)V"), (0, .methodref 8 130), (0, .nameAndType 131 132), (0, u "applyLead"), (0, u "(II)V"), (0, .methodref 8 134), (0, .nameAndType 135 132), (0, u "applyTrail"), (0, .methodref 8 137), (0, .nameAndType 138 139), (0, u "deliver"), (0, u "(I)V"), (0, .methodref 8 141), (0, .nameAndType 142 132), (0, u "applyNcf"), (0, .methodref 8 144), (0, .nameAndType 145 95), (0, u "isWaiting"), (0, .methodref 8 147), (0, .nameAndType 148 149), (0, u "backoffOf"), (0, u "(I)I"), (3, .methodref 8 154), (0, .nameAndType 155 91), (0, u "appendDelivered"), (0, .fieldref 8 157), (0, .nameAndType 158 75), (0, u "nakLen"), (0, .methodref 8 160), (0, .nameAndType 161 132), (0, u "stepTimer"), (0, .methodref 8 163), (0, .nameAndType 164 139), (0, u "handleNak"), (0, .methodref 8 166), (0, .nameAndType 167 139), (0, u "multicastNcf"), (0, u "MAX_SEQ"), (2, u "RECEIVERS"), (1, u "BAD"), (1, u "RX_UNKNOWN"), (1, u "RX_BACKOFF"), (1, u "RX_WAIT_NCF"), (1, u "RX_WAIT_DATA"), (1, u "RX_HAVE"), (0, u "RX_DELIVERED"), (1, u "RX_LOST"), (1, u "INFO_NEXT"), (0, u "INFO_LEAD"), (0, u "INFO_TRAIL"), (0, u "INFO_DELIVERED"), (0, u "INFO_LOST"), (0, u "INFO_LOSS_LEFT"), (0, u "INFO_DUPLICATES"), (0, u "INFO_DROPPED"), (1, u "STAT_TIME"), (0, u "STAT_ODATA"), (0, u "STAT_RDATA"), (0, u "STAT_SPM"), (0, u "STAT_NAK"), (0, u "STAT_FORWARDED"), (0, u "STAT_SUPPRESSED"), (0, u "STAT_NCF"), (0, u "STAT_QUEUE"), (1, u "STAT_DROPPED"), (1, u "(IIII)V"), (3, u "send"), (1, u "setLoss"), (0, u "(II)Z"), (0, u "tick"), (2, u "stat"), (0, u "pending"), (1, u "rxInfo"), (0, u "(II)I"), (0, u "rxState"), (0, u "rxTimer"), (0, u "deliveredSeq"), (0, u "deliveredValue")] 3

def k2c0 : Code := { maxStack := 5, maxLocals := 6, code := prog_1_method_1_code, exceptionTable := #[], attributes := #[] }
def k2m0 : Method := { name := "<init>", desc := "(IIII)V", sig := { parameters := [.int, .int, .int, .int], returnType := none }, accessFlags := 1, code := some k2c0 }
def k2c1 : Code := { maxStack := 4, maxLocals := 3, code := prog_1_method_2_code, exceptionTable := #[], attributes := #[] }
def k2m1 : Method := { name := "send", desc := "(I)I", sig := { parameters := [.int], returnType := some .int }, accessFlags := 1, code := some k2c1 }
def k2c2 : Code := { maxStack := 6, maxLocals := 3, code := prog_1_method_4_code, exceptionTable := #[], attributes := #[] }
def k2m2 : Method := { name := "setLoss", desc := "(II)Z", sig := { parameters := [.int, .int], returnType := some .boolean }, accessFlags := 1, code := some k2c2 }
def k2c3 : Code := { maxStack := 4, maxLocals := 1, code := prog_1_method_5_code, exceptionTable := #[], attributes := #[] }
def k2m3 : Method := { name := "tick", desc := "()V", sig := { parameters := [], returnType := none }, accessFlags := 1, code := some k2c3 }
def k2c4 : Code := { maxStack := 2, maxLocals := 2, code := prog_1_method_8_code, exceptionTable := #[], attributes := #[] }
def k2m4 : Method := { name := "stat", desc := "(I)I", sig := { parameters := [.int], returnType := some .int }, accessFlags := 1, code := some k2c4 }
def k2c5 : Code := { maxStack := 2, maxLocals := 2, code := prog_1_method_9_code, exceptionTable := #[], attributes := #[] }
def k2m5 : Method := { name := "pending", desc := "(I)Z", sig := { parameters := [.int], returnType := some .boolean }, accessFlags := 1, code := some k2c5 }
def k2c6 : Code := { maxStack := 2, maxLocals := 3, code := prog_1_method_11_code, exceptionTable := #[], attributes := #[] }
def k2m6 : Method := { name := "rxInfo", desc := "(II)I", sig := { parameters := [.int, .int], returnType := some .int }, accessFlags := 1, code := some k2c6 }
def k2c7 : Code := { maxStack := 3, maxLocals := 3, code := prog_1_method_12_code, exceptionTable := #[], attributes := #[] }
def k2m7 : Method := { name := "rxState", desc := "(II)I", sig := { parameters := [.int, .int], returnType := some .int }, accessFlags := 1, code := some k2c7 }
def k2c8 : Code := { maxStack := 3, maxLocals := 3, code := prog_1_method_13_code, exceptionTable := #[], attributes := #[] }
def k2m8 : Method := { name := "rxTimer", desc := "(II)I", sig := { parameters := [.int, .int], returnType := some .int }, accessFlags := 1, code := some k2c8 }
def k2c9 : Code := { maxStack := 3, maxLocals := 3, code := prog_1_method_14_code, exceptionTable := #[], attributes := #[] }
def k2m9 : Method := { name := "deliveredSeq", desc := "(II)I", sig := { parameters := [.int, .int], returnType := some .int }, accessFlags := 1, code := some k2c9 }
def k2c10 : Code := { maxStack := 3, maxLocals := 3, code := prog_1_method_15_code, exceptionTable := #[], attributes := #[] }
def k2m10 : Method := { name := "deliveredValue", desc := "(II)I", sig := { parameters := [.int, .int], returnType := some .int }, accessFlags := 1, code := some k2c10 }
def k2c11 : Code := { maxStack := 2, maxLocals := 4, code := prog_1_method_17_code, exceptionTable := #[], attributes := #[] }
def k2m11 : Method := { name := "clamp", desc := "(III)I", sig := { parameters := [.int, .int, .int], returnType := some .int }, accessFlags := 2, code := some k2c11 }
def k2c12 : Code := { maxStack := 2, maxLocals := 2, code := prog_1_method_18_code, exceptionTable := #[], attributes := #[] }
def k2m12 : Method := { name := "validRx", desc := "(I)Z", sig := { parameters := [.int], returnType := some .boolean }, accessFlags := 2, code := some k2c12 }
def k2c13 : Code := { maxStack := 2, maxLocals := 2, code := prog_1_method_19_code, exceptionTable := #[], attributes := #[] }
def k2m13 : Method := { name := "validSeq", desc := "(I)Z", sig := { parameters := [.int], returnType := some .boolean }, accessFlags := 2, code := some k2c13 }
def k2c14 : Code := { maxStack := 2, maxLocals := 1, code := prog_1_method_20_code, exceptionTable := #[], attributes := #[] }
def k2m14 : Method := { name := "lead", desc := "()I", sig := { parameters := [], returnType := some .int }, accessFlags := 2, code := some k2c14 }
def k2c15 : Code := { maxStack := 2, maxLocals := 2, code := prog_1_method_21_code, exceptionTable := #[], attributes := #[] }
def k2m15 : Method := { name := "trail", desc := "()I", sig := { parameters := [], returnType := some .int }, accessFlags := 2, code := some k2c15 }
def k2c16 : Code := { maxStack := 2, maxLocals := 2, code := prog_1_method_22_code, exceptionTable := #[], attributes := #[] }
def k2m16 : Method := { name := "isWaiting", desc := "(I)Z", sig := { parameters := [.int], returnType := some .boolean }, accessFlags := 2, code := some k2c16 }
def k2c17 : Code := { maxStack := 2, maxLocals := 2, code := prog_1_method_23_code, exceptionTable := #[], attributes := #[] }
def k2m17 : Method := { name := "backoffOf", desc := "(I)I", sig := { parameters := [.int], returnType := some .int }, accessFlags := 2, code := some k2c17 }
def k2c18 : Code := { maxStack := 7, maxLocals := 7, code := prog_1_method_24_code, exceptionTable := #[], attributes := #[] }
def k2m18 : Method := { name := "multicastSource", desc := "(III)V", sig := { parameters := [.int, .int, .int], returnType := none }, accessFlags := 2, code := some k2c18 }
def k2c19 : Code := { maxStack := 3, maxLocals := 5, code := prog_1_method_25_code, exceptionTable := #[], attributes := #[] }
def k2m19 : Method := { name := "aggregatorApply", desc := "(III)V", sig := { parameters := [.int, .int, .int], returnType := none }, accessFlags := 2, code := some k2c19 }
def k2c20 : Code := { maxStack := 7, maxLocals := 3, code := prog_1_method_26_code, exceptionTable := #[], attributes := #[] }
def k2m20 : Method := { name := "multicastNcf", desc := "(I)V", sig := { parameters := [.int], returnType := none }, accessFlags := 2, code := some k2c20 }
def k2c21 : Code := { maxStack := 6, maxLocals := 7, code := prog_1_method_27_code, exceptionTable := #[], attributes := #[] }
def k2m21 : Method := { name := "copyTo", desc := "(IIIIII)V", sig := { parameters := [.int, .int, .int, .int, .int, .int], returnType := none }, accessFlags := 2, code := some k2c21 }
def k2c22 : Code := { maxStack := 4, maxLocals := 8, code := prog_1_method_28_code, exceptionTable := #[], attributes := #[] }
def k2m22 : Method := { name := "applyData", desc := "(IIIII)V", sig := { parameters := [.int, .int, .int, .int, .int], returnType := none }, accessFlags := 2, code := some k2c22 }
def k2c23 : Code := { maxStack := 3, maxLocals := 5, code := prog_1_method_29_code, exceptionTable := #[], attributes := #[] }
def k2m23 : Method := { name := "applyNcf", desc := "(II)V", sig := { parameters := [.int, .int], returnType := none }, accessFlags := 2, code := some k2c23 }
def k2c24 : Code := { maxStack := 4, maxLocals := 6, code := prog_1_method_30_code, exceptionTable := #[], attributes := #[] }
def k2m24 : Method := { name := "applyLead", desc := "(II)V", sig := { parameters := [.int, .int], returnType := none }, accessFlags := 2, code := some k2c24 }
def k2c25 : Code := { maxStack := 3, maxLocals := 7, code := prog_1_method_31_code, exceptionTable := #[], attributes := #[] }
def k2m25 : Method := { name := "applyTrail", desc := "(II)V", sig := { parameters := [.int, .int], returnType := none }, accessFlags := 2, code := some k2c25 }
def k2c26 : Code := { maxStack := 5, maxLocals := 5, code := prog_1_method_33_code, exceptionTable := #[], attributes := #[] }
def k2m26 : Method := { name := "deliver", desc := "(I)V", sig := { parameters := [.int], returnType := none }, accessFlags := 2, code := some k2c26 }
def k2c27 : Code := { maxStack := 4, maxLocals := 5, code := prog_1_method_34_code, exceptionTable := #[], attributes := #[] }
def k2m27 : Method := { name := "appendDelivered", desc := "(III)V", sig := { parameters := [.int, .int, .int], returnType := none }, accessFlags := 2, code := some k2c27 }
def k2c28 : Code := { maxStack := 4, maxLocals := 5, code := prog_1_method_35_code, exceptionTable := #[], attributes := #[] }
def k2m28 : Method := { name := "serveQueue", desc := "()V", sig := { parameters := [], returnType := none }, accessFlags := 2, code := some k2c28 }
def k2c29 : Code := { maxStack := 3, maxLocals := 3, code := prog_1_method_36_code, exceptionTable := #[], attributes := #[] }
def k2m29 : Method := { name := "runTimers", desc := "()V", sig := { parameters := [], returnType := none }, accessFlags := 2, code := some k2c29 }
def k2c30 : Code := { maxStack := 4, maxLocals := 5, code := prog_1_method_37_code, exceptionTable := #[], attributes := #[] }
def k2m30 : Method := { name := "stepTimer", desc := "(II)V", sig := { parameters := [.int, .int], returnType := none }, accessFlags := 2, code := some k2c30 }
def k2c31 : Code := { maxStack := 2, maxLocals := 3, code := prog_1_method_38_code, exceptionTable := #[], attributes := #[] }
def k2m31 : Method := { name := "handleNaks", desc := "()V", sig := { parameters := [], returnType := none }, accessFlags := 2, code := some k2c31 }
def k2c32 : Code := { maxStack := 4, maxLocals := 2, code := prog_1_method_39_code, exceptionTable := #[], attributes := #[] }
def k2m32 : Method := { name := "handleNak", desc := "(I)V", sig := { parameters := [.int], returnType := none }, accessFlags := 2, code := some k2c32 }
/-- NakMulticast -/
def k2 : Class := { plain "NakMulticast" (some 0) with
  accessFlags := 49
  interfaces := #[]
  cf := some (fileOf pool2 8 #[] #[{ accessFlags := 1, nameIndex := 5, descriptorIndex := 209, attributes := #[] }, { accessFlags := 1, nameIndex := 213, descriptorIndex := 149, attributes := #[] }, { accessFlags := 1, nameIndex := 215, descriptorIndex := 216, attributes := #[] }, { accessFlags := 1, nameIndex := 217, descriptorIndex := 6, attributes := #[] }, { accessFlags := 1, nameIndex := 220, descriptorIndex := 149, attributes := #[] }, { accessFlags := 1, nameIndex := 221, descriptorIndex := 95, attributes := #[] }, { accessFlags := 1, nameIndex := 223, descriptorIndex := 224, attributes := #[] }, { accessFlags := 1, nameIndex := 225, descriptorIndex := 224, attributes := #[] }, { accessFlags := 1, nameIndex := 226, descriptorIndex := 224, attributes := #[] }, { accessFlags := 1, nameIndex := 227, descriptorIndex := 224, attributes := #[] }, { accessFlags := 1, nameIndex := 228, descriptorIndex := 224, attributes := #[] }, { accessFlags := 2, nameIndex := 70, descriptorIndex := 71, attributes := #[] }, { accessFlags := 2, nameIndex := 94, descriptorIndex := 95, attributes := #[] }, { accessFlags := 2, nameIndex := 117, descriptorIndex := 95, attributes := #[] }, { accessFlags := 2, nameIndex := 107, descriptorIndex := 108, attributes := #[] }, { accessFlags := 2, nameIndex := 111, descriptorIndex := 108, attributes := #[] }, { accessFlags := 2, nameIndex := 145, descriptorIndex := 95, attributes := #[] }, { accessFlags := 2, nameIndex := 148, descriptorIndex := 149, attributes := #[] }, { accessFlags := 2, nameIndex := 90, descriptorIndex := 91, attributes := #[] }, { accessFlags := 2, nameIndex := 120, descriptorIndex := 91, attributes := #[] }, { accessFlags := 2, nameIndex := 167, descriptorIndex := 139, attributes := #[] }, { accessFlags := 2, nameIndex := 123, descriptorIndex := 124, attributes := #[] }, { accessFlags := 2, nameIndex := 127, descriptorIndex := 128, attributes := #[] }, { accessFlags := 2, nameIndex := 142, descriptorIndex := 132, attributes := #[] }, { accessFlags := 2, nameIndex := 131, descriptorIndex := 132, attributes := #[] }, { accessFlags := 2, nameIndex := 135, descriptorIndex := 132, attributes := #[] }, { accessFlags := 2, nameIndex := 138, descriptorIndex := 139, attributes := #[] }, { accessFlags := 2, nameIndex := 155, descriptorIndex := 91, attributes := #[] }, { accessFlags := 2, nameIndex := 98, descriptorIndex := 6, attributes := #[] }, { accessFlags := 2, nameIndex := 101, descriptorIndex := 6, attributes := #[] }, { accessFlags := 2, nameIndex := 161, descriptorIndex := 132, attributes := #[] }, { accessFlags := 2, nameIndex := 104, descriptorIndex := 6, attributes := #[] }, { accessFlags := 2, nameIndex := 164, descriptorIndex := 139, attributes := #[] }] 49 2 #[] #[{ accessFlags := 25, nameIndex := 168, descriptorIndex := 75, attributes := #[] }, { accessFlags := 25, nameIndex := 171, descriptorIndex := 75, attributes := #[] }, { accessFlags := 25, nameIndex := 173, descriptorIndex := 75, attributes := #[] }, { accessFlags := 25, nameIndex := 175, descriptorIndex := 75, attributes := #[] }, { accessFlags := 25, nameIndex := 177, descriptorIndex := 75, attributes := #[] }, { accessFlags := 25, nameIndex := 179, descriptorIndex := 75, attributes := #[] }, { accessFlags := 25, nameIndex := 181, descriptorIndex := 75, attributes := #[] }, { accessFlags := 25, nameIndex := 183, descriptorIndex := 75, attributes := #[] }, { accessFlags := 25, nameIndex := 184, descriptorIndex := 75, attributes := #[] }, { accessFlags := 25, nameIndex := 186, descriptorIndex := 75, attributes := #[] }, { accessFlags := 25, nameIndex := 188, descriptorIndex := 75, attributes := #[] }, { accessFlags := 25, nameIndex := 189, descriptorIndex := 75, attributes := #[] }, { accessFlags := 25, nameIndex := 190, descriptorIndex := 75, attributes := #[] }, { accessFlags := 25, nameIndex := 191, descriptorIndex := 75, attributes := #[] }, { accessFlags := 25, nameIndex := 192, descriptorIndex := 75, attributes := #[] }, { accessFlags := 25, nameIndex := 193, descriptorIndex := 75, attributes := #[] }, { accessFlags := 25, nameIndex := 194, descriptorIndex := 75, attributes := #[] }, { accessFlags := 25, nameIndex := 195, descriptorIndex := 75, attributes := #[] }, { accessFlags := 25, nameIndex := 197, descriptorIndex := 75, attributes := #[] }, { accessFlags := 25, nameIndex := 198, descriptorIndex := 75, attributes := #[] }, { accessFlags := 25, nameIndex := 199, descriptorIndex := 75, attributes := #[] }, { accessFlags := 25, nameIndex := 200, descriptorIndex := 75, attributes := #[] }, { accessFlags := 25, nameIndex := 201, descriptorIndex := 75, attributes := #[] }, { accessFlags := 25, nameIndex := 202, descriptorIndex := 75, attributes := #[] }, { accessFlags := 25, nameIndex := 203, descriptorIndex := 75, attributes := #[] }, { accessFlags := 25, nameIndex := 204, descriptorIndex := 75, attributes := #[] }, { accessFlags := 25, nameIndex := 205, descriptorIndex := 75, attributes := #[] }, { accessFlags := 25, nameIndex := 207, descriptorIndex := 75, attributes := #[] }, { accessFlags := 2, nameIndex := 74, descriptorIndex := 75, attributes := #[] }, { accessFlags := 2, nameIndex := 78, descriptorIndex := 75, attributes := #[] }, { accessFlags := 2, nameIndex := 81, descriptorIndex := 75, attributes := #[] }, { accessFlags := 2, nameIndex := 84, descriptorIndex := 75, attributes := #[] }, { accessFlags := 2, nameIndex := 87, descriptorIndex := 75, attributes := #[] }, { accessFlags := 18, nameIndex := 11, descriptorIndex := 12, attributes := #[] }, { accessFlags := 18, nameIndex := 15, descriptorIndex := 16, attributes := #[] }, { accessFlags := 18, nameIndex := 19, descriptorIndex := 12, attributes := #[] }, { accessFlags := 2, nameIndex := 114, descriptorIndex := 75, attributes := #[] }, { accessFlags := 18, nameIndex := 22, descriptorIndex := 12, attributes := #[] }, { accessFlags := 18, nameIndex := 25, descriptorIndex := 12, attributes := #[] }, { accessFlags := 18, nameIndex := 28, descriptorIndex := 12, attributes := #[] }, { accessFlags := 18, nameIndex := 31, descriptorIndex := 12, attributes := #[] }, { accessFlags := 18, nameIndex := 34, descriptorIndex := 12, attributes := #[] }, { accessFlags := 18, nameIndex := 37, descriptorIndex := 12, attributes := #[] }, { accessFlags := 18, nameIndex := 40, descriptorIndex := 12, attributes := #[] }, { accessFlags := 18, nameIndex := 43, descriptorIndex := 12, attributes := #[] }, { accessFlags := 18, nameIndex := 46, descriptorIndex := 12, attributes := #[] }, { accessFlags := 18, nameIndex := 49, descriptorIndex := 12, attributes := #[] }, { accessFlags := 18, nameIndex := 52, descriptorIndex := 12, attributes := #[] }, { accessFlags := 18, nameIndex := 55, descriptorIndex := 12, attributes := #[] }, { accessFlags := 18, nameIndex := 58, descriptorIndex := 12, attributes := #[] }, { accessFlags := 18, nameIndex := 61, descriptorIndex := 12, attributes := #[] }, { accessFlags := 18, nameIndex := 64, descriptorIndex := 12, attributes := #[] }, { accessFlags := 18, nameIndex := 67, descriptorIndex := 12, attributes := #[] }, { accessFlags := 2, nameIndex := 158, descriptorIndex := 75, attributes := #[] }])
  fields := #[{ name := "MAX_SEQ", type := .int, accessFlags := 25, slot := 0, constantValue := 0 }, { name := "RECEIVERS", type := .int, accessFlags := 25, slot := 1, constantValue := 0 }, { name := "BAD", type := .int, accessFlags := 25, slot := 2, constantValue := 0 }, { name := "RX_UNKNOWN", type := .int, accessFlags := 25, slot := 3, constantValue := 0 }, { name := "RX_BACKOFF", type := .int, accessFlags := 25, slot := 4, constantValue := 0 }, { name := "RX_WAIT_NCF", type := .int, accessFlags := 25, slot := 5, constantValue := 0 }, { name := "RX_WAIT_DATA", type := .int, accessFlags := 25, slot := 6, constantValue := 0 }, { name := "RX_HAVE", type := .int, accessFlags := 25, slot := 7, constantValue := 0 }, { name := "RX_DELIVERED", type := .int, accessFlags := 25, slot := 8, constantValue := 0 }, { name := "RX_LOST", type := .int, accessFlags := 25, slot := 9, constantValue := 0 }, { name := "INFO_NEXT", type := .int, accessFlags := 25, slot := 10, constantValue := 0 }, { name := "INFO_LEAD", type := .int, accessFlags := 25, slot := 11, constantValue := 0 }, { name := "INFO_TRAIL", type := .int, accessFlags := 25, slot := 12, constantValue := 0 }, { name := "INFO_DELIVERED", type := .int, accessFlags := 25, slot := 13, constantValue := 0 }, { name := "INFO_LOST", type := .int, accessFlags := 25, slot := 14, constantValue := 0 }, { name := "INFO_LOSS_LEFT", type := .int, accessFlags := 25, slot := 15, constantValue := 0 }, { name := "INFO_DUPLICATES", type := .int, accessFlags := 25, slot := 16, constantValue := 0 }, { name := "INFO_DROPPED", type := .int, accessFlags := 25, slot := 17, constantValue := 0 }, { name := "STAT_TIME", type := .int, accessFlags := 25, slot := 18, constantValue := 0 }, { name := "STAT_ODATA", type := .int, accessFlags := 25, slot := 19, constantValue := 0 }, { name := "STAT_RDATA", type := .int, accessFlags := 25, slot := 20, constantValue := 0 }, { name := "STAT_SPM", type := .int, accessFlags := 25, slot := 21, constantValue := 0 }, { name := "STAT_NAK", type := .int, accessFlags := 25, slot := 22, constantValue := 0 }, { name := "STAT_FORWARDED", type := .int, accessFlags := 25, slot := 23, constantValue := 0 }, { name := "STAT_SUPPRESSED", type := .int, accessFlags := 25, slot := 24, constantValue := 0 }, { name := "STAT_NCF", type := .int, accessFlags := 25, slot := 25, constantValue := 0 }, { name := "STAT_QUEUE", type := .int, accessFlags := 25, slot := 26, constantValue := 0 }, { name := "STAT_DROPPED", type := .int, accessFlags := 25, slot := 27, constantValue := 0 }, { name := "win", type := .int, accessFlags := 2, slot := 0, constantValue := 0 }, { name := "back", type := .int, accessFlags := 2, slot := 1, constantValue := 0 }, { name := "repair", type := .int, accessFlags := 2, slot := 2, constantValue := 0 }, { name := "period", type := .int, accessFlags := 2, slot := 3, constantValue := 0 }, { name := "nextSeq", type := .int, accessFlags := 2, slot := 4, constantValue := 0 }, { name := "srcPayload", type := (.array .int), accessFlags := 18, slot := 5, constantValue := 0 }, { name := "pend", type := (.array .boolean), accessFlags := 18, slot := 6, constantValue := 0 }, { name := "queue", type := (.array .int), accessFlags := 18, slot := 7, constantValue := 0 }, { name := "qLen", type := .int, accessFlags := 2, slot := 8, constantValue := 0 }, { name := "stats", type := (.array .int), accessFlags := 18, slot := 9, constantValue := 0 }, { name := "state", type := (.array .int), accessFlags := 18, slot := 10, constantValue := 0 }, { name := "timer", type := (.array .int), accessFlags := 18, slot := 11, constantValue := 0 }, { name := "rxVal", type := (.array .int), accessFlags := 18, slot := 12, constantValue := 0 }, { name := "rxNext", type := (.array .int), accessFlags := 18, slot := 13, constantValue := 0 }, { name := "rxLead", type := (.array .int), accessFlags := 18, slot := 14, constantValue := 0 }, { name := "rxTrail", type := (.array .int), accessFlags := 18, slot := 15, constantValue := 0 }, { name := "lossLeft", type := (.array .int), accessFlags := 18, slot := 16, constantValue := 0 }, { name := "dups", type := (.array .int), accessFlags := 18, slot := 17, constantValue := 0 }, { name := "drops", type := (.array .int), accessFlags := 18, slot := 18, constantValue := 0 }, { name := "delSeq", type := (.array .int), accessFlags := 18, slot := 19, constantValue := 0 }, { name := "delVal", type := (.array .int), accessFlags := 18, slot := 20, constantValue := 0 }, { name := "delLen", type := (.array .int), accessFlags := 18, slot := 21, constantValue := 0 }, { name := "lostLog", type := (.array .int), accessFlags := 18, slot := 22, constantValue := 0 }, { name := "lostLen", type := (.array .int), accessFlags := 18, slot := 23, constantValue := 0 }, { name := "nakBuf", type := (.array .int), accessFlags := 18, slot := 24, constantValue := 0 }, { name := "nakLen", type := .int, accessFlags := 2, slot := 25, constantValue := 0 }]
  methods := #[k2m0, k2m1, k2m2, k2m3, k2m4, k2m5, k2m6, k2m7, k2m8, k2m9, k2m10, k2m11, k2m12, k2m13, k2m14, k2m15, k2m16, k2m17, k2m18, k2m19, k2m20, k2m21, k2m22, k2m23, k2m24, k2m25, k2m26, k2m27, k2m28, k2m29, k2m30, k2m31, k2m32]
  instanceTypes := #[.int, .int, .int, .int, .int, (.array .int), (.array .boolean), (.array .int), .int, (.array .int), (.array .int), (.array .int), (.array .int), (.array .int), (.array .int), (.array .int), (.array .int), (.array .int), (.array .int), (.array .int), (.array .int), (.array .int), (.array .int), (.array .int), (.array .int), .int]
  staticTypes := #[.int, .int, .int, .int, .int, .int, .int, .int, .int, .int, .int, .int, .int, .int, .int, .int, .int, .int, .int, .int, .int, .int, .int, .int, .int, .int, .int, .int]
  resolved := Array.replicate 232 none
  statics := none }

def pool3 : Array CpInfo := pool [(1, u "java/lang/Cloneable"), (0, .class_ 1), (0, u "java/lang/Object"), (0, .class_ 3)] 3

/-- java/lang/Cloneable -/
def k3 : Class := { plain "java/lang/Cloneable" (some 0) with
  accessFlags := 1537
  interfaces := #[]
  cf := some (fileOf pool3 2 #[] #[] 1537 4 #[] #[])
  fields := #[]
  methods := #[]
  instanceTypes := #[]
  staticTypes := #[]
  resolved := Array.replicate 8 none
  statics := none }

def pool4 : Array CpInfo := pool [(1, u "java/io/Serializable"), (0, .class_ 1), (0, u "java/lang/Object"), (0, .class_ 3)] 3

/-- java/io/Serializable -/
def k4 : Class := { plain "java/io/Serializable" (some 0) with
  accessFlags := 1537
  interfaces := #[]
  cf := some (fileOf pool4 2 #[] #[] 1537 4 #[] #[])
  fields := #[]
  methods := #[]
  instanceTypes := #[]
  staticTypes := #[]
  resolved := Array.replicate 8 none
  statics := none }

/-- the primitive boolean -/
def k5 : Class := { plain "boolean" none with kind := .primitive 'Z', accessFlags := 0x411 }
/-- [Z -/
def k6 : Class := { plain "[Z" (some 0) with kind := .array 5 .boolean, interfaces := #[3, 4], accessFlags := 1041 }

/-- the primitive byte -/
def k7 : Class := { plain "byte" none with kind := .primitive 'B', accessFlags := 0x411 }
/-- [B -/
def k8 : Class := { plain "[B" (some 0) with kind := .array 7 .byte, interfaces := #[3, 4], accessFlags := 1041 }

/-- the primitive int -/
def k9 : Class := { plain "int" none with kind := .primitive 'I', accessFlags := 0x411 }
/-- [I -/
def k10 : Class := { plain "[I" (some 0) with kind := .array 9 .int, interfaces := #[3, 4], accessFlags := 1041 }

def heap : Heap := #[]
def classes : Array Class := #[k0, k1, k2, k3, k4, k5, k6, k7, k8, k9, k10]
def interned : List (Array UInt16 × Addr) := []
def slotsUsed : Nat := 0
def theMethod : MethodId := ⟨1, 1⟩
def args0 : Array Value := #[.int 5, .int 5, .int 5, .int 5]
def aboutOver (below : List Frame) : State where
  vm := { classes := classes, interned := interned.toArray }
  heap := heap
  slotsUsed := slotsUsed
  threads := #[{ frames := .invoking theMethod args0 :: below }]
def below0 : List Frame := [.native { method := ⟨0, 0⟩, args := #[] }]
def about1 : State := aboutOver below0
def p0 : Program := .bare "" "" ""
def e0 : Env := launch0.env 0 0 0
theorem w_frames : about1.frames = Frame.invoking theMethod args0 :: below0 := rfl
set_option maxRecDepth 65536 in
theorem w_args : argsFit about1.vm theMethod args0 = true := by decide +kernel
set_option maxRecDepth 65536 in
theorem w_heap : heapFits about1 = true := by decide +kernel
set_option maxRecDepth 65536 in
theorem w_runnable : about1.curStatus? = some .runnable := by decide +kernel
set_option maxRecDepth 65536 in
theorem w_alone : about1.alone = true := by decide +kernel
set_option maxRecDepth 65536 in
theorem w_named : about1.methodNamed? x = some theMethod := by decide +kernel
set_option maxRecDepth 65536 in
theorem w_hears : about1.hears theMethod below0 = true := by decide +kernel
set_option maxRecDepth 65536 in
theorem w_ripe : about1.ripe theMethod args0 below0 = true := by decide +kernel
theorem w_running : about1.status = .running := rfl
set_option maxRecDepth 65536 in
theorem w_room : about1.hasRoom e0.platform room_1 = true :=
  launch0.hasRoom_least _ room_1 (by decide +kernel) (by decide +kernel) (by decide +kernel) (by decide +kernel) (by decide +kernel) (by decide +kernel)
theorem allAtoms_all (ts : List Jvm.Cond) (a : Array Jvm.Value) (st : Jvm.State) : (allAtoms ts).before a st = ts.all (fun c => c.before a st) := by
  induction ts with
  | nil => rfl
  | cons c t ih =>
    show (Jvm.Cond.and c (allAtoms t)).before a st = _
    rw [Jvm.Cond.before_and, ih, List.all_cons]
def words1 : List Jvm.Cond := Jvm.Cond.code x code maxLocals ret :: tables_1
/-- a 'code' word, met by the world's own term for the bytes: nothing is compared byte by byte -/
theorem code_word {y : MethodName} {bytes : ByteArray} {mx : Nat} {rt : Option FieldType} {a : Array Value} {s : State} {m : MethodId} {meth : Method} {c : Code} (h1 : s.methodNamed? y = some m) (h2 : s.vm.method? m = some meth) (h3 : meth.code = some c) (h4 : c.code = bytes)
    (h5 : (c.maxLocals == mx && c.exceptionTable.isEmpty && decide (c.maxStack ≤ mostOperands) && decide (meth.sig.returnType = rt) && !meth.locks && decide (parseMethodDescriptor y.desc = some meth.sig)) = true) : (Jvm.Cond.code y bytes mx rt).before a s = true := by
  simp only [Bool.and_eq_true, beq_iff_eq, Bool.not_eq_true', decide_eq_true_eq] at h5
  obtain ⟨⟨⟨⟨⟨g1, g2⟩, g3⟩, g4⟩, g5⟩, g6⟩ := h5
  simp [Cond.before, Cond.holds, Cond.value, h1, h2, h3, h4, g1, g2, g3, g4, g5, g6]
def isCode : Jvm.Cond → Bool
  | .code _ _ _ _ => true
  | _ => false
theorem all_split {L : List Jvm.Cond} {P : Jvm.Cond → Bool} (h1 : L.all (fun c => isCode c || P c) = true) (h2 : ∀ c ∈ L.filter isCode, P c = true) : L.all P = true := by
  refine List.all_eq_true.mpr fun c hc => ?_
  have h := List.all_eq_true.mp h1 c hc
  rcases Bool.eq_false_or_eq_true (isCode c) with hi | hi
  · exact h2 c (List.mem_filter.mpr ⟨hc, hi⟩)
  · simpa [hi] using h
set_option maxRecDepth 65536 in
theorem w_c0 : (Jvm.Cond.code x code maxLocals ret).before args0 about1 = true := code_word (m := ⟨1, 1⟩) (meth := k1m1) (c := k1c1) (by decide +kernel) rfl rfl rfl (by decide +kernel)
set_option maxRecDepth 65536 in
theorem w_c1 : (Jvm.Cond.code ({ cls := "NakMulticast", name := "<init>", desc := "(IIII)V" } : Jvm.MethodName) prog_1_method_1_code (6 : Nat) (Option.none : Option Jvm.ClassFile.FieldType)).before args0 about1 = true := code_word (m := ⟨2, 0⟩) (meth := k2m0) (c := k2c0) (by decide +kernel) rfl rfl rfl (by decide +kernel)
set_option maxRecDepth 65536 in
theorem w_c2 : (Jvm.Cond.code ({ cls := "java/lang/Object", name := "<init>", desc := "()V" } : Jvm.MethodName) object_method_1_code (1 : Nat) (Option.none : Option Jvm.ClassFile.FieldType)).before args0 about1 = true := code_word (m := ⟨0, 0⟩) (meth := k0m0) (c := k0c0) (by decide +kernel) rfl rfl rfl (by decide +kernel)
set_option maxRecDepth 65536 in
theorem w_c3 : (Jvm.Cond.code ({ cls := "NakMulticast", name := "clamp", desc := "(III)I" } : Jvm.MethodName) prog_1_method_17_code (4 : Nat) (Option.some Jvm.ClassFile.FieldType.int)).before args0 about1 = true := code_word (m := ⟨2, 11⟩) (meth := k2m11) (c := k2c11) (by decide +kernel) rfl rfl rfl (by decide +kernel)
set_option maxRecDepth 65536 in
theorem w_c4 : (Jvm.Cond.code ({ cls := "NakMulticast", name := "send", desc := "(I)I" } : Jvm.MethodName) prog_1_method_2_code (3 : Nat) (Option.some Jvm.ClassFile.FieldType.int)).before args0 about1 = true := code_word (m := ⟨2, 1⟩) (meth := k2m1) (c := k2c1) (by decide +kernel) rfl rfl rfl (by decide +kernel)
set_option maxRecDepth 65536 in
theorem w_c5 : (Jvm.Cond.code ({ cls := "NakMulticast", name := "multicastSource", desc := "(III)V" } : Jvm.MethodName) prog_1_method_24_code (7 : Nat) (Option.none : Option Jvm.ClassFile.FieldType)).before args0 about1 = true := code_word (m := ⟨2, 18⟩) (meth := k2m18) (c := k2c18) (by decide +kernel) rfl rfl rfl (by decide +kernel)
set_option maxRecDepth 65536 in
theorem w_c6 : (Jvm.Cond.code ({ cls := "NakMulticast", name := "lead", desc := "()I" } : Jvm.MethodName) prog_1_method_20_code (1 : Nat) (Option.some Jvm.ClassFile.FieldType.int)).before args0 about1 = true := code_word (m := ⟨2, 14⟩) (meth := k2m14) (c := k2c14) (by decide +kernel) rfl rfl rfl (by decide +kernel)
set_option maxRecDepth 65536 in
theorem w_c7 : (Jvm.Cond.code ({ cls := "NakMulticast", name := "trail", desc := "()I" } : Jvm.MethodName) prog_1_method_21_code (2 : Nat) (Option.some Jvm.ClassFile.FieldType.int)).before args0 about1 = true := code_word (m := ⟨2, 15⟩) (meth := k2m15) (c := k2c15) (by decide +kernel) rfl rfl rfl (by decide +kernel)
set_option maxRecDepth 65536 in
theorem w_c8 : (Jvm.Cond.code ({ cls := "NakMulticast", name := "aggregatorApply", desc := "(III)V" } : Jvm.MethodName) prog_1_method_25_code (5 : Nat) (Option.none : Option Jvm.ClassFile.FieldType)).before args0 about1 = true := code_word (m := ⟨2, 19⟩) (meth := k2m19) (c := k2c19) (by decide +kernel) rfl rfl rfl (by decide +kernel)
set_option maxRecDepth 65536 in
theorem w_c9 : (Jvm.Cond.code ({ cls := "NakMulticast", name := "copyTo", desc := "(IIIIII)V" } : Jvm.MethodName) prog_1_method_27_code (7 : Nat) (Option.none : Option Jvm.ClassFile.FieldType)).before args0 about1 = true := code_word (m := ⟨2, 21⟩) (meth := k2m21) (c := k2c21) (by decide +kernel) rfl rfl rfl (by decide +kernel)
set_option maxRecDepth 65536 in
theorem w_c10 : (Jvm.Cond.code ({ cls := "NakMulticast", name := "applyData", desc := "(IIIII)V" } : Jvm.MethodName) prog_1_method_28_code (8 : Nat) (Option.none : Option Jvm.ClassFile.FieldType)).before args0 about1 = true := code_word (m := ⟨2, 22⟩) (meth := k2m22) (c := k2c22) (by decide +kernel) rfl rfl rfl (by decide +kernel)
set_option maxRecDepth 65536 in
theorem w_c11 : (Jvm.Cond.code ({ cls := "NakMulticast", name := "validSeq", desc := "(I)Z" } : Jvm.MethodName) prog_1_method_19_code (2 : Nat) (Option.some Jvm.ClassFile.FieldType.boolean)).before args0 about1 = true := code_word (m := ⟨2, 13⟩) (meth := k2m13) (c := k2c13) (by decide +kernel) rfl rfl rfl (by decide +kernel)
set_option maxRecDepth 65536 in
theorem w_c12 : (Jvm.Cond.code ({ cls := "NakMulticast", name := "applyLead", desc := "(II)V" } : Jvm.MethodName) prog_1_method_30_code (6 : Nat) (Option.none : Option Jvm.ClassFile.FieldType)).before args0 about1 = true := code_word (m := ⟨2, 24⟩) (meth := k2m24) (c := k2c24) (by decide +kernel) rfl rfl rfl (by decide +kernel)
set_option maxRecDepth 65536 in
theorem w_c13 : (Jvm.Cond.code ({ cls := "NakMulticast", name := "applyTrail", desc := "(II)V" } : Jvm.MethodName) prog_1_method_31_code (7 : Nat) (Option.none : Option Jvm.ClassFile.FieldType)).before args0 about1 = true := code_word (m := ⟨2, 25⟩) (meth := k2m25) (c := k2c25) (by decide +kernel) rfl rfl rfl (by decide +kernel)
set_option maxRecDepth 65536 in
theorem w_c14 : (Jvm.Cond.code ({ cls := "NakMulticast", name := "deliver", desc := "(I)V" } : Jvm.MethodName) prog_1_method_33_code (5 : Nat) (Option.none : Option Jvm.ClassFile.FieldType)).before args0 about1 = true := code_word (m := ⟨2, 26⟩) (meth := k2m26) (c := k2c26) (by decide +kernel) rfl rfl rfl (by decide +kernel)
set_option maxRecDepth 65536 in
theorem w_c15 : (Jvm.Cond.code ({ cls := "NakMulticast", name := "appendDelivered", desc := "(III)V" } : Jvm.MethodName) prog_1_method_34_code (5 : Nat) (Option.none : Option Jvm.ClassFile.FieldType)).before args0 about1 = true := code_word (m := ⟨2, 27⟩) (meth := k2m27) (c := k2c27) (by decide +kernel) rfl rfl rfl (by decide +kernel)
set_option maxRecDepth 65536 in
theorem w_c16 : (Jvm.Cond.code ({ cls := "NakMulticast", name := "setLoss", desc := "(II)Z" } : Jvm.MethodName) prog_1_method_4_code (3 : Nat) (Option.some Jvm.ClassFile.FieldType.boolean)).before args0 about1 = true := code_word (m := ⟨2, 2⟩) (meth := k2m2) (c := k2c2) (by decide +kernel) rfl rfl rfl (by decide +kernel)
set_option maxRecDepth 65536 in
theorem w_c17 : (Jvm.Cond.code ({ cls := "NakMulticast", name := "validRx", desc := "(I)Z" } : Jvm.MethodName) prog_1_method_18_code (2 : Nat) (Option.some Jvm.ClassFile.FieldType.boolean)).before args0 about1 = true := code_word (m := ⟨2, 12⟩) (meth := k2m12) (c := k2c12) (by decide +kernel) rfl rfl rfl (by decide +kernel)
set_option maxRecDepth 65536 in
theorem w_c18 : (Jvm.Cond.code ({ cls := "NakMulticast", name := "backoffOf", desc := "(I)I" } : Jvm.MethodName) prog_1_method_23_code (2 : Nat) (Option.some Jvm.ClassFile.FieldType.int)).before args0 about1 = true := code_word (m := ⟨2, 17⟩) (meth := k2m17) (c := k2c17) (by decide +kernel) rfl rfl rfl (by decide +kernel)
set_option maxRecDepth 65536 in
theorem w_c19 : (Jvm.Cond.code ({ cls := "NakMulticast", name := "rxState", desc := "(II)I" } : Jvm.MethodName) prog_1_method_12_code (3 : Nat) (Option.some Jvm.ClassFile.FieldType.int)).before args0 about1 = true := code_word (m := ⟨2, 7⟩) (meth := k2m7) (c := k2c7) (by decide +kernel) rfl rfl rfl (by decide +kernel)
set_option maxRecDepth 65536 in
theorem w_c20 : (Jvm.Cond.code ({ cls := "NakMulticast", name := "rxTimer", desc := "(II)I" } : Jvm.MethodName) prog_1_method_13_code (3 : Nat) (Option.some Jvm.ClassFile.FieldType.int)).before args0 about1 = true := code_word (m := ⟨2, 8⟩) (meth := k2m8) (c := k2c8) (by decide +kernel) rfl rfl rfl (by decide +kernel)
set_option maxRecDepth 65536 in
theorem w_c21 : (Jvm.Cond.code ({ cls := "NakMulticast", name := "tick", desc := "()V" } : Jvm.MethodName) prog_1_method_5_code (1 : Nat) (Option.none : Option Jvm.ClassFile.FieldType)).before args0 about1 = true := code_word (m := ⟨2, 3⟩) (meth := k2m3) (c := k2c3) (by decide +kernel) rfl rfl rfl (by decide +kernel)
set_option maxRecDepth 65536 in
theorem w_c22 : (Jvm.Cond.code ({ cls := "NakMulticast", name := "serveQueue", desc := "()V" } : Jvm.MethodName) prog_1_method_35_code (5 : Nat) (Option.none : Option Jvm.ClassFile.FieldType)).before args0 about1 = true := code_word (m := ⟨2, 28⟩) (meth := k2m28) (c := k2c28) (by decide +kernel) rfl rfl rfl (by decide +kernel)
set_option maxRecDepth 65536 in
theorem w_c23 : (Jvm.Cond.code ({ cls := "NakMulticast", name := "runTimers", desc := "()V" } : Jvm.MethodName) prog_1_method_36_code (3 : Nat) (Option.none : Option Jvm.ClassFile.FieldType)).before args0 about1 = true := code_word (m := ⟨2, 29⟩) (meth := k2m29) (c := k2c29) (by decide +kernel) rfl rfl rfl (by decide +kernel)
set_option maxRecDepth 65536 in
theorem w_c24 : (Jvm.Cond.code ({ cls := "NakMulticast", name := "stepTimer", desc := "(II)V" } : Jvm.MethodName) prog_1_method_37_code (5 : Nat) (Option.none : Option Jvm.ClassFile.FieldType)).before args0 about1 = true := code_word (m := ⟨2, 30⟩) (meth := k2m30) (c := k2c30) (by decide +kernel) rfl rfl rfl (by decide +kernel)
set_option maxRecDepth 65536 in
theorem w_c25 : (Jvm.Cond.code ({ cls := "NakMulticast", name := "isWaiting", desc := "(I)Z" } : Jvm.MethodName) prog_1_method_22_code (2 : Nat) (Option.some Jvm.ClassFile.FieldType.boolean)).before args0 about1 = true := code_word (m := ⟨2, 16⟩) (meth := k2m16) (c := k2c16) (by decide +kernel) rfl rfl rfl (by decide +kernel)
set_option maxRecDepth 65536 in
theorem w_c26 : (Jvm.Cond.code ({ cls := "NakMulticast", name := "handleNaks", desc := "()V" } : Jvm.MethodName) prog_1_method_38_code (3 : Nat) (Option.none : Option Jvm.ClassFile.FieldType)).before args0 about1 = true := code_word (m := ⟨2, 31⟩) (meth := k2m31) (c := k2c31) (by decide +kernel) rfl rfl rfl (by decide +kernel)
set_option maxRecDepth 65536 in
theorem w_c27 : (Jvm.Cond.code ({ cls := "NakMulticast", name := "handleNak", desc := "(I)V" } : Jvm.MethodName) prog_1_method_39_code (2 : Nat) (Option.none : Option Jvm.ClassFile.FieldType)).before args0 about1 = true := code_word (m := ⟨2, 32⟩) (meth := k2m32) (c := k2c32) (by decide +kernel) rfl rfl rfl (by decide +kernel)
set_option maxRecDepth 65536 in
theorem w_c28 : (Jvm.Cond.code ({ cls := "NakMulticast", name := "multicastNcf", desc := "(I)V" } : Jvm.MethodName) prog_1_method_26_code (3 : Nat) (Option.none : Option Jvm.ClassFile.FieldType)).before args0 about1 = true := code_word (m := ⟨2, 20⟩) (meth := k2m20) (c := k2c20) (by decide +kernel) rfl rfl rfl (by decide +kernel)
set_option maxRecDepth 65536 in
theorem w_c29 : (Jvm.Cond.code ({ cls := "NakMulticast", name := "applyNcf", desc := "(II)V" } : Jvm.MethodName) prog_1_method_29_code (5 : Nat) (Option.none : Option Jvm.ClassFile.FieldType)).before args0 about1 = true := code_word (m := ⟨2, 23⟩) (meth := k2m23) (c := k2c23) (by decide +kernel) rfl rfl rfl (by decide +kernel)
set_option maxRecDepth 65536 in
theorem w_c30 : (Jvm.Cond.code ({ cls := "NakMulticast", name := "rxInfo", desc := "(II)I" } : Jvm.MethodName) prog_1_method_11_code (3 : Nat) (Option.some Jvm.ClassFile.FieldType.int)).before args0 about1 = true := code_word (m := ⟨2, 6⟩) (meth := k2m6) (c := k2c6) (by decide +kernel) rfl rfl rfl (by decide +kernel)
set_option maxRecDepth 65536 in
theorem w_c31 : (Jvm.Cond.code ({ cls := "NakMulticast", name := "deliveredValue", desc := "(II)I" } : Jvm.MethodName) prog_1_method_15_code (3 : Nat) (Option.some Jvm.ClassFile.FieldType.int)).before args0 about1 = true := code_word (m := ⟨2, 10⟩) (meth := k2m10) (c := k2c10) (by decide +kernel) rfl rfl rfl (by decide +kernel)
set_option maxRecDepth 65536 in
theorem w_c32 : (Jvm.Cond.code ({ cls := "NakMulticast", name := "deliveredSeq", desc := "(II)I" } : Jvm.MethodName) prog_1_method_14_code (3 : Nat) (Option.some Jvm.ClassFile.FieldType.int)).before args0 about1 = true := code_word (m := ⟨2, 9⟩) (meth := k2m9) (c := k2c9) (by decide +kernel) rfl rfl rfl (by decide +kernel)
set_option maxRecDepth 65536 in
theorem w_c33 : (Jvm.Cond.code ({ cls := "NakMulticast", name := "stat", desc := "(I)I" } : Jvm.MethodName) prog_1_method_8_code (2 : Nat) (Option.some Jvm.ClassFile.FieldType.int)).before args0 about1 = true := code_word (m := ⟨2, 4⟩) (meth := k2m4) (c := k2c4) (by decide +kernel) rfl rfl rfl (by decide +kernel)
set_option maxRecDepth 65536 in
theorem w_c34 : (Jvm.Cond.code ({ cls := "NakMulticast", name := "pending", desc := "(I)Z" } : Jvm.MethodName) prog_1_method_9_code (2 : Nat) (Option.some Jvm.ClassFile.FieldType.boolean)).before args0 about1 = true := code_word (m := ⟨2, 5⟩) (meth := k2m5) (c := k2c5) (by decide +kernel) rfl rfl rfl (by decide +kernel)
def codes1 : List Jvm.Cond := [Jvm.Cond.code x code maxLocals ret, Jvm.Cond.code ({ cls := "NakMulticast", name := "<init>", desc := "(IIII)V" } : Jvm.MethodName) prog_1_method_1_code (6 : Nat) (Option.none : Option Jvm.ClassFile.FieldType), Jvm.Cond.code ({ cls := "java/lang/Object", name := "<init>", desc := "()V" } : Jvm.MethodName) object_method_1_code (1 : Nat) (Option.none : Option Jvm.ClassFile.FieldType), Jvm.Cond.code ({ cls := "NakMulticast", name := "clamp", desc := "(III)I" } : Jvm.MethodName) prog_1_method_17_code (4 : Nat) (Option.some Jvm.ClassFile.FieldType.int), Jvm.Cond.code ({ cls := "NakMulticast", name := "send", desc := "(I)I" } : Jvm.MethodName) prog_1_method_2_code (3 : Nat) (Option.some Jvm.ClassFile.FieldType.int), Jvm.Cond.code ({ cls := "NakMulticast", name := "multicastSource", desc := "(III)V" } : Jvm.MethodName) prog_1_method_24_code (7 : Nat) (Option.none : Option Jvm.ClassFile.FieldType), Jvm.Cond.code ({ cls := "NakMulticast", name := "lead", desc := "()I" } : Jvm.MethodName) prog_1_method_20_code (1 : Nat) (Option.some Jvm.ClassFile.FieldType.int), Jvm.Cond.code ({ cls := "NakMulticast", name := "trail", desc := "()I" } : Jvm.MethodName) prog_1_method_21_code (2 : Nat) (Option.some Jvm.ClassFile.FieldType.int), Jvm.Cond.code ({ cls := "NakMulticast", name := "aggregatorApply", desc := "(III)V" } : Jvm.MethodName) prog_1_method_25_code (5 : Nat) (Option.none : Option Jvm.ClassFile.FieldType), Jvm.Cond.code ({ cls := "NakMulticast", name := "copyTo", desc := "(IIIIII)V" } : Jvm.MethodName) prog_1_method_27_code (7 : Nat) (Option.none : Option Jvm.ClassFile.FieldType), Jvm.Cond.code ({ cls := "NakMulticast", name := "applyData", desc := "(IIIII)V" } : Jvm.MethodName) prog_1_method_28_code (8 : Nat) (Option.none : Option Jvm.ClassFile.FieldType), Jvm.Cond.code ({ cls := "NakMulticast", name := "validSeq", desc := "(I)Z" } : Jvm.MethodName) prog_1_method_19_code (2 : Nat) (Option.some Jvm.ClassFile.FieldType.boolean), Jvm.Cond.code ({ cls := "NakMulticast", name := "applyLead", desc := "(II)V" } : Jvm.MethodName) prog_1_method_30_code (6 : Nat) (Option.none : Option Jvm.ClassFile.FieldType), Jvm.Cond.code ({ cls := "NakMulticast", name := "applyTrail", desc := "(II)V" } : Jvm.MethodName) prog_1_method_31_code (7 : Nat) (Option.none : Option Jvm.ClassFile.FieldType), Jvm.Cond.code ({ cls := "NakMulticast", name := "deliver", desc := "(I)V" } : Jvm.MethodName) prog_1_method_33_code (5 : Nat) (Option.none : Option Jvm.ClassFile.FieldType), Jvm.Cond.code ({ cls := "NakMulticast", name := "appendDelivered", desc := "(III)V" } : Jvm.MethodName) prog_1_method_34_code (5 : Nat) (Option.none : Option Jvm.ClassFile.FieldType), Jvm.Cond.code ({ cls := "NakMulticast", name := "setLoss", desc := "(II)Z" } : Jvm.MethodName) prog_1_method_4_code (3 : Nat) (Option.some Jvm.ClassFile.FieldType.boolean), Jvm.Cond.code ({ cls := "NakMulticast", name := "validRx", desc := "(I)Z" } : Jvm.MethodName) prog_1_method_18_code (2 : Nat) (Option.some Jvm.ClassFile.FieldType.boolean), Jvm.Cond.code ({ cls := "NakMulticast", name := "backoffOf", desc := "(I)I" } : Jvm.MethodName) prog_1_method_23_code (2 : Nat) (Option.some Jvm.ClassFile.FieldType.int), Jvm.Cond.code ({ cls := "NakMulticast", name := "rxState", desc := "(II)I" } : Jvm.MethodName) prog_1_method_12_code (3 : Nat) (Option.some Jvm.ClassFile.FieldType.int), Jvm.Cond.code ({ cls := "NakMulticast", name := "rxTimer", desc := "(II)I" } : Jvm.MethodName) prog_1_method_13_code (3 : Nat) (Option.some Jvm.ClassFile.FieldType.int), Jvm.Cond.code ({ cls := "NakMulticast", name := "tick", desc := "()V" } : Jvm.MethodName) prog_1_method_5_code (1 : Nat) (Option.none : Option Jvm.ClassFile.FieldType), Jvm.Cond.code ({ cls := "NakMulticast", name := "serveQueue", desc := "()V" } : Jvm.MethodName) prog_1_method_35_code (5 : Nat) (Option.none : Option Jvm.ClassFile.FieldType), Jvm.Cond.code ({ cls := "NakMulticast", name := "runTimers", desc := "()V" } : Jvm.MethodName) prog_1_method_36_code (3 : Nat) (Option.none : Option Jvm.ClassFile.FieldType), Jvm.Cond.code ({ cls := "NakMulticast", name := "stepTimer", desc := "(II)V" } : Jvm.MethodName) prog_1_method_37_code (5 : Nat) (Option.none : Option Jvm.ClassFile.FieldType), Jvm.Cond.code ({ cls := "NakMulticast", name := "isWaiting", desc := "(I)Z" } : Jvm.MethodName) prog_1_method_22_code (2 : Nat) (Option.some Jvm.ClassFile.FieldType.boolean), Jvm.Cond.code ({ cls := "NakMulticast", name := "handleNaks", desc := "()V" } : Jvm.MethodName) prog_1_method_38_code (3 : Nat) (Option.none : Option Jvm.ClassFile.FieldType), Jvm.Cond.code ({ cls := "NakMulticast", name := "handleNak", desc := "(I)V" } : Jvm.MethodName) prog_1_method_39_code (2 : Nat) (Option.none : Option Jvm.ClassFile.FieldType), Jvm.Cond.code ({ cls := "NakMulticast", name := "multicastNcf", desc := "(I)V" } : Jvm.MethodName) prog_1_method_26_code (3 : Nat) (Option.none : Option Jvm.ClassFile.FieldType), Jvm.Cond.code ({ cls := "NakMulticast", name := "applyNcf", desc := "(II)V" } : Jvm.MethodName) prog_1_method_29_code (5 : Nat) (Option.none : Option Jvm.ClassFile.FieldType), Jvm.Cond.code ({ cls := "NakMulticast", name := "rxInfo", desc := "(II)I" } : Jvm.MethodName) prog_1_method_11_code (3 : Nat) (Option.some Jvm.ClassFile.FieldType.int), Jvm.Cond.code ({ cls := "NakMulticast", name := "deliveredValue", desc := "(II)I" } : Jvm.MethodName) prog_1_method_15_code (3 : Nat) (Option.some Jvm.ClassFile.FieldType.int), Jvm.Cond.code ({ cls := "NakMulticast", name := "deliveredSeq", desc := "(II)I" } : Jvm.MethodName) prog_1_method_14_code (3 : Nat) (Option.some Jvm.ClassFile.FieldType.int), Jvm.Cond.code ({ cls := "NakMulticast", name := "stat", desc := "(I)I" } : Jvm.MethodName) prog_1_method_8_code (2 : Nat) (Option.some Jvm.ClassFile.FieldType.int), Jvm.Cond.code ({ cls := "NakMulticast", name := "pending", desc := "(I)Z" } : Jvm.MethodName) prog_1_method_9_code (2 : Nat) (Option.some Jvm.ClassFile.FieldType.boolean)]
set_option maxRecDepth 65536 in
theorem codes_eq : words1.filter isCode = codes1 := rfl
theorem w_codes : ∀ c ∈ words1.filter isCode, c.before args0 about1 = true := by
  rw [codes_eq]
  intro c hc
  simp only [codes1, List.mem_cons, List.not_mem_nil, or_false] at hc
  rcases hc with rfl | rfl | rfl | rfl | rfl | rfl | rfl | rfl | rfl | rfl | rfl | rfl | rfl | rfl | rfl | rfl | rfl | rfl | rfl | rfl | rfl | rfl | rfl | rfl | rfl | rfl | rfl | rfl | rfl | rfl | rfl | rfl | rfl | rfl | rfl
  · exact w_c0
  · exact w_c1
  · exact w_c2
  · exact w_c3
  · exact w_c4
  · exact w_c5
  · exact w_c6
  · exact w_c7
  · exact w_c8
  · exact w_c9
  · exact w_c10
  · exact w_c11
  · exact w_c12
  · exact w_c13
  · exact w_c14
  · exact w_c15
  · exact w_c16
  · exact w_c17
  · exact w_c18
  · exact w_c19
  · exact w_c20
  · exact w_c21
  · exact w_c22
  · exact w_c23
  · exact w_c24
  · exact w_c25
  · exact w_c26
  · exact w_c27
  · exact w_c28
  · exact w_c29
  · exact w_c30
  · exact w_c31
  · exact w_c32
  · exact w_c33
  · exact w_c34
set_option maxRecDepth 65536 in
theorem w_t1 : (words1.take 24).all (fun c => isCode c || c.before args0 about1) = true := by decide +kernel
set_option maxRecDepth 65536 in
theorem w_t2 : ((words1.drop 24).take 24).all (fun c => isCode c || c.before args0 about1) = true := by decide +kernel
set_option maxRecDepth 65536 in
theorem w_t3 : (((words1.drop 24).drop 24).take 24).all (fun c => isCode c || c.before args0 about1) = true := by decide +kernel
set_option maxRecDepth 65536 in
theorem w_t4 : ((((words1.drop 24).drop 24).drop 24).take 24).all (fun c => isCode c || c.before args0 about1) = true := by decide +kernel
set_option maxRecDepth 65536 in
theorem w_t5 : (((((words1.drop 24).drop 24).drop 24).drop 24).take 24).all (fun c => isCode c || c.before args0 about1) = true := by decide +kernel
set_option maxRecDepth 65536 in
theorem w_t6 : ((((((words1.drop 24).drop 24).drop 24).drop 24).drop 24).take 24).all (fun c => isCode c || c.before args0 about1) = true := by decide +kernel
set_option maxRecDepth 65536 in
theorem w_t7 : (((((((words1.drop 24).drop 24).drop 24).drop 24).drop 24).drop 24).take 24).all (fun c => isCode c || c.before args0 about1) = true := by decide +kernel
set_option maxRecDepth 65536 in
theorem w_t8 : ((((((((words1.drop 24).drop 24).drop 24).drop 24).drop 24).drop 24).drop 24).take 24).all (fun c => isCode c || c.before args0 about1) = true := by decide +kernel
set_option maxRecDepth 65536 in
theorem w_t9 : ((((((((words1.drop 24).drop 24).drop 24).drop 24).drop 24).drop 24).drop 24).drop 24).all (fun c => isCode c || c.before args0 about1) = true := by decide +kernel
theorem w_tables : (allAtoms (Jvm.Cond.code x code maxLocals ret :: tables_1)).before args0 about1 = true := by
  rw [allAtoms_all]
  show words1.all (fun c => c.before args0 about1) = true
  refine all_split ?_ w_codes
  rw [← List.take_append_drop 24 words1, List.all_append, w_t1, ← List.take_append_drop 24 (words1.drop 24), List.all_append, w_t2, ← List.take_append_drop 24 ((words1.drop 24).drop 24), List.all_append, w_t3, ← List.take_append_drop 24 (((words1.drop 24).drop 24).drop 24), List.all_append, w_t4, ← List.take_append_drop 24 ((((words1.drop 24).drop 24).drop 24).drop 24), List.all_append, w_t5, ← List.take_append_drop 24 (((((words1.drop 24).drop 24).drop 24).drop 24).drop 24), List.all_append, w_t6, ← List.take_append_drop 24 ((((((words1.drop 24).drop 24).drop 24).drop 24).drop 24).drop 24), List.all_append, w_t7, ← List.take_append_drop 24 (((((((words1.drop 24).drop 24).drop 24).drop 24).drop 24).drop 24).drop 24), List.all_append, w_t8, w_t9]
  rfl
set_option maxRecDepth 65536 in
theorem w_case : (Jvm.Cond.and given_1 narrow_1).before args0 about1 = true := by decide +kernel
theorem w_applies : (headSpec (Jvm.Cond.code x code maxLocals ret :: tables_1) room_1).applies x e0.platform about1 = true :=
  (Spec.applies_iff w_frames).mpr ⟨w_running, w_runnable, w_alone, w_named, w_hears, w_ripe, w_room, w_tables⟩
theorem atStart : AtStart classFile x code maxLocals ret World_1 tables_1 room_1 Calls_1 rest_1 Pre_1 launch0 p0 e0 about1 theMethod args0 below0 :=
  ⟨lists_1, trivial, launch0.admits_env _ _ _, launch0.least_env, fairChoices_fair.cas, fairChoices_fair.clock, w_frames, w_args, w_heap, w_applies, trivial, trivial, w_case⟩
end start1
theorem witness_1 : WitnessClaimed_1 := ⟨start1.p0, start1.e0, start1.about1, start1.theMethod, start1.args0, start1.below0, start1.atStart⟩
end Jvm.Pilot.@@N@@
