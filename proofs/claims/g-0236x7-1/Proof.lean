import JvmDerived
import JvmDerived.Pilot.@@N@@Statement
import JvmDerived.Pilot.@@N@@Code
set_option linter.unusedVariables false
set_option linter.unusedSimpArgs false
namespace Jvm.RoadKit
open Sem ClassFile Op Lib Jvm.Stand Jvm.Free Jvm.LawKit
section New
variable {p : Program} {l : Launch} {e : Env} {R : Room} {s : State} {m : MethodId} {args : Array Value} {below : List Frame} {meth : Method} {c : Code} {T : State} {locs : List Loc} {cells slots : Nat}
theorem retI (X : Stand p l e R s m args below meth c T locs cells slots) (hx : p.tables.exec = Jvm.exec) {pc : Nat} {Ls : Array Slot} {z : Int32} {rest : List Value} (hret : meth.sig.returnType = some .int) (hd : decode c.code pc = .ok (.ireturn, 1)) {fs : List Frame}
    (hl : ∀ (f : JFrame) (acts : List Action), f.method = m → f.locked = none → f.entered = [] → (doReturn e (T.setTop f) acts (some (.int z))).1 = T.setFrames fs) : Steps p.tables e below (T.setTop (mkF m pc Ls (.int z :: rest))) (T.setFrames fs) := by
  have hm' : T.vm.method? m = some meth := X.method'
  have hn : narrow .int (.int z) = .int z := rfl
  show Steps p.tables e below (T.setTop { method := m, pc := pc, locals := Ls, stack := _ :: rest, locked := none }) _
  jvm_step X.here [X.here.top, hx, hd, hm', hret, hn]
  first | (intro acts; rw [hl _ acts rfl rfl rfl]) | rw [hl _ _ rfl rfl rfl]
  exact Steps.refl _
end New
end Jvm.RoadKit
namespace Jvm.Pilot.@@N@@
open Jvm Jvm.ClassFile Sem Op Lib Jvm.Free Jvm.Stand Jvm.LawKit Jvm.RoadKit Bundle Jvm.Pilot.@@N@@.Jvm.D
/-! TABLES of this claim: printed by claim.py -/
def k0 : Nat := 1
def cName : String := "NakMulticast"
def cN : Nat := 26
def nF : Nat := 26
def kName (k : Nat) : String := bif Nat.beq k 0 then "NakMulticastL5" else "NakMulticast"
def fNm (k : Nat) : String := (bif Nat.ble 13 k then (bif Nat.ble 19 k then (bif Nat.ble 22 k then (bif Nat.ble 24 k then (bif Nat.ble 25 k then "nakLen" else "qLen") else (bif Nat.ble 23 k then "nextSeq" else "period")) else (bif Nat.ble 20 k then (bif Nat.ble 21 k then "repair" else "back") else "win")) else (bif Nat.ble 16 k then (bif Nat.ble 17 k then (bif Nat.ble 18 k then "nakBuf" else "lostLen") else "lostLog") else (bif Nat.ble 14 k then (bif Nat.ble 15 k then "delLen" else "delVal") else "delSeq"))) else (bif Nat.ble 6 k then (bif Nat.ble 9 k then (bif Nat.ble 11 k then (bif Nat.ble 12 k then "drops" else "dups") else (bif Nat.ble 10 k then "lossLeft" else "rxTrail")) else (bif Nat.ble 7 k then (bif Nat.ble 8 k then "rxLead" else "rxNext") else "rxVal")) else (bif Nat.ble 3 k then (bif Nat.ble 4 k then (bif Nat.ble 5 k then "timer" else "state") else "stats") else (bif Nat.ble 1 k then (bif Nat.ble 2 k then "queue" else "pend") else "srcPayload"))))
def fDs (k : Nat) : String := (bif Nat.ble 13 k then (bif Nat.ble 19 k then (bif Nat.ble 22 k then (bif Nat.ble 24 k then (bif Nat.ble 25 k then "I" else "I") else (bif Nat.ble 23 k then "I" else "I")) else (bif Nat.ble 20 k then (bif Nat.ble 21 k then "I" else "I") else "I")) else (bif Nat.ble 16 k then (bif Nat.ble 17 k then (bif Nat.ble 18 k then "[I" else "[I") else "[I") else (bif Nat.ble 14 k then (bif Nat.ble 15 k then "[I" else "[I") else "[I"))) else (bif Nat.ble 6 k then (bif Nat.ble 9 k then (bif Nat.ble 11 k then (bif Nat.ble 12 k then "[I" else "[I") else (bif Nat.ble 10 k then "[I" else "[I")) else (bif Nat.ble 7 k then (bif Nat.ble 8 k then "[I" else "[I") else "[I")) else (bif Nat.ble 3 k then (bif Nat.ble 4 k then (bif Nat.ble 5 k then "[I" else "[I") else "[I") else (bif Nat.ble 1 k then (bif Nat.ble 2 k then "[I" else "[Z") else "[I"))))
def fTy (k : Nat) : FieldType := (bif Nat.ble 13 k then (bif Nat.ble 19 k then (bif Nat.ble 22 k then (bif Nat.ble 24 k then (bif Nat.ble 25 k then .int else .int) else (bif Nat.ble 23 k then .int else .int)) else (bif Nat.ble 20 k then (bif Nat.ble 21 k then .int else .int) else .int)) else (bif Nat.ble 16 k then (bif Nat.ble 17 k then (bif Nat.ble 18 k then (.array .int) else (.array .int)) else (.array .int)) else (bif Nat.ble 14 k then (bif Nat.ble 15 k then (.array .int) else (.array .int)) else (.array .int)))) else (bif Nat.ble 6 k then (bif Nat.ble 9 k then (bif Nat.ble 11 k then (bif Nat.ble 12 k then (.array .int) else (.array .int)) else (bif Nat.ble 10 k then (.array .int) else (.array .int))) else (bif Nat.ble 7 k then (bif Nat.ble 8 k then (.array .int) else (.array .int)) else (.array .int))) else (bif Nat.ble 3 k then (bif Nat.ble 4 k then (bif Nat.ble 5 k then (.array .int) else (.array .int)) else (.array .int)) else (bif Nat.ble 1 k then (bif Nat.ble 2 k then (.array .int) else (.array .boolean)) else (.array .int)))))
def fFin (k : Nat) : Bool := (bif Nat.ble 13 k then (bif Nat.ble 19 k then (bif Nat.ble 22 k then (bif Nat.ble 24 k then (bif Nat.ble 25 k then false else false) else (bif Nat.ble 23 k then false else false)) else (bif Nat.ble 20 k then (bif Nat.ble 21 k then false else false) else false)) else (bif Nat.ble 16 k then (bif Nat.ble 17 k then (bif Nat.ble 18 k then true else true) else true) else (bif Nat.ble 14 k then (bif Nat.ble 15 k then true else true) else true))) else (bif Nat.ble 6 k then (bif Nat.ble 9 k then (bif Nat.ble 11 k then (bif Nat.ble 12 k then true else true) else (bif Nat.ble 10 k then true else true)) else (bif Nat.ble 7 k then (bif Nat.ble 8 k then true else true) else true)) else (bif Nat.ble 3 k then (bif Nat.ble 4 k then (bif Nat.ble 5 k then true else true) else true) else (bif Nat.ble 1 k then (bif Nat.ble 2 k then true else true) else true))))
def cDef : List Value := [.null, .null, .null, .null, .null, .null, .null, .null, .null, .null, .null, .null, .null, .null, .null, .null, .null, .null, .null, .int 0, .int 0, .int 0, .int 0, .int 0, .int 0, .int 0]
def cK : List Value := []
def pN : Nat := 41
def pTop : Nat := 244
def pK (m : Nat) : Nat := (bif Nat.ble 20 m then (bif Nat.ble 30 m then (bif Nat.ble 35 m then (bif Nat.ble 38 m then (bif Nat.ble 39 m then (bif Nat.ble 40 m then 1 else 1) else 1) else (bif Nat.ble 36 m then (bif Nat.ble 37 m then 1 else 1) else 1)) else (bif Nat.ble 32 m then (bif Nat.ble 33 m then (bif Nat.ble 34 m then 1 else 1) else 1) else (bif Nat.ble 31 m then 1 else 1))) else (bif Nat.ble 25 m then (bif Nat.ble 27 m then (bif Nat.ble 28 m then (bif Nat.ble 29 m then 0 else 1) else 1) else (bif Nat.ble 26 m then 1 else 1)) else (bif Nat.ble 22 m then (bif Nat.ble 23 m then (bif Nat.ble 24 m then 1 else 1) else 1) else (bif Nat.ble 21 m then 1 else 1)))) else (bif Nat.ble 10 m then (bif Nat.ble 15 m then (bif Nat.ble 17 m then (bif Nat.ble 18 m then (bif Nat.ble 19 m then 1 else 1) else 1) else (bif Nat.ble 16 m then 1 else 1)) else (bif Nat.ble 12 m then (bif Nat.ble 13 m then (bif Nat.ble 14 m then 1 else 1) else 1) else (bif Nat.ble 11 m then 1 else 1))) else (bif Nat.ble 5 m then (bif Nat.ble 7 m then (bif Nat.ble 8 m then (bif Nat.ble 9 m then 1 else 1) else 1) else (bif Nat.ble 6 m then 1 else 1)) else (bif Nat.ble 2 m then (bif Nat.ble 3 m then (bif Nat.ble 4 m then 1 else 1) else 1) else (bif Nat.ble 1 m then 1 else 0)))))
def pNm (m : Nat) : String := (bif Nat.ble 20 m then (bif Nat.ble 30 m then (bif Nat.ble 35 m then (bif Nat.ble 38 m then (bif Nat.ble 39 m then (bif Nat.ble 40 m then "lostSeq" else "deliveredValue") else "deliveredSeq") else (bif Nat.ble 36 m then (bif Nat.ble 37 m then "rxTimer" else "rxState") else "rxInfo")) else (bif Nat.ble 32 m then (bif Nat.ble 33 m then (bif Nat.ble 34 m then "queued" else "pending") else "stat") else (bif Nat.ble 31 m then "sourceTrail" else "sourceLead"))) else (bif Nat.ble 25 m then (bif Nat.ble 27 m then (bif Nat.ble 28 m then (bif Nat.ble 29 m then "same" else "applyNcf") else "multicastNcf") else (bif Nat.ble 26 m then "handleNak" else "appendLost")) else (bif Nat.ble 22 m then (bif Nat.ble 23 m then (bif Nat.ble 24 m then "backoffOf" else "spm") else "appendDelivered") else (bif Nat.ble 21 m then "deliver" else "applyTrail")))) else (bif Nat.ble 10 m then (bif Nat.ble 15 m then (bif Nat.ble 17 m then (bif Nat.ble 18 m then (bif Nat.ble 19 m then "applyLead" else "validSeq") else "applyData") else (bif Nat.ble 16 m then "copyTo" else "aggregatorApply")) else (bif Nat.ble 12 m then (bif Nat.ble 13 m then (bif Nat.ble 14 m then "lead" else "multicastSource") else "handleNaks") else (bif Nat.ble 11 m then "isWaiting" else "stepTimer"))) else (bif Nat.ble 5 m then (bif Nat.ble 7 m then (bif Nat.ble 8 m then (bif Nat.ble 9 m then "runTimers" else "trail") else "serveQueue") else (bif Nat.ble 6 m then "tick" else "validRx")) else (bif Nat.ble 2 m then (bif Nat.ble 3 m then (bif Nat.ble 4 m then "setLoss" else "send") else "clamp") else (bif Nat.ble 1 m then "<init>" else "law")))))
def pDs (m : Nat) : String := (bif Nat.ble 20 m then (bif Nat.ble 30 m then (bif Nat.ble 35 m then (bif Nat.ble 38 m then (bif Nat.ble 39 m then (bif Nat.ble 40 m then "(II)I" else "(II)I") else "(II)I") else (bif Nat.ble 36 m then (bif Nat.ble 37 m then "(II)I" else "(II)I") else "(II)I")) else (bif Nat.ble 32 m then (bif Nat.ble 33 m then (bif Nat.ble 34 m then "(I)I" else "(I)Z") else "(I)I") else (bif Nat.ble 31 m then "()I" else "()I"))) else (bif Nat.ble 25 m then (bif Nat.ble 27 m then (bif Nat.ble 28 m then (bif Nat.ble 29 m then "(LNakMulticast;LNakMulticast;)Z" else "(II)V") else "(I)V") else (bif Nat.ble 26 m then "(I)V" else "(II)V")) else (bif Nat.ble 22 m then (bif Nat.ble 23 m then (bif Nat.ble 24 m then "(I)I" else "()V") else "(III)V") else (bif Nat.ble 21 m then "(I)V" else "(II)V")))) else (bif Nat.ble 10 m then (bif Nat.ble 15 m then (bif Nat.ble 17 m then (bif Nat.ble 18 m then (bif Nat.ble 19 m then "(II)V" else "(I)Z") else "(IIIII)V") else (bif Nat.ble 16 m then "(IIIIII)V" else "(III)V")) else (bif Nat.ble 12 m then (bif Nat.ble 13 m then (bif Nat.ble 14 m then "()I" else "(III)V") else "()V") else (bif Nat.ble 11 m then "(I)Z" else "(II)V"))) else (bif Nat.ble 5 m then (bif Nat.ble 7 m then (bif Nat.ble 8 m then (bif Nat.ble 9 m then "()V" else "()I") else "()V") else (bif Nat.ble 6 m then "()V" else "(I)Z")) else (bif Nat.ble 2 m then (bif Nat.ble 3 m then (bif Nat.ble 4 m then "(II)Z" else "(I)I") else "(III)I") else (bif Nat.ble 1 m then "(IIII)V" else "([I)Z")))))
def pName (m : Nat) : MethodName := ⟨kName (pK m), pNm m, pDs m⟩
def pBytes (m : Nat) : ByteArray := (bif Nat.ble 20 m then (bif Nat.ble 30 m then (bif Nat.ble 35 m then (bif Nat.ble 38 m then (bif Nat.ble 39 m then (bif Nat.ble 40 m then prog_1_method_16_code else prog_1_method_15_code) else prog_1_method_14_code) else (bif Nat.ble 36 m then (bif Nat.ble 37 m then prog_1_method_13_code else prog_1_method_12_code) else prog_1_method_11_code)) else (bif Nat.ble 32 m then (bif Nat.ble 33 m then (bif Nat.ble 34 m then prog_1_method_10_code else prog_1_method_9_code) else prog_1_method_8_code) else (bif Nat.ble 31 m then prog_1_method_7_code else prog_1_method_6_code))) else (bif Nat.ble 25 m then (bif Nat.ble 27 m then (bif Nat.ble 28 m then (bif Nat.ble 29 m then method_3_code else prog_1_method_29_code) else prog_1_method_26_code) else (bif Nat.ble 26 m then prog_1_method_39_code else prog_1_method_32_code)) else (bif Nat.ble 22 m then (bif Nat.ble 23 m then (bif Nat.ble 24 m then prog_1_method_23_code else prog_1_method_3_code) else prog_1_method_34_code) else (bif Nat.ble 21 m then prog_1_method_33_code else prog_1_method_31_code)))) else (bif Nat.ble 10 m then (bif Nat.ble 15 m then (bif Nat.ble 17 m then (bif Nat.ble 18 m then (bif Nat.ble 19 m then prog_1_method_30_code else prog_1_method_19_code) else prog_1_method_28_code) else (bif Nat.ble 16 m then prog_1_method_27_code else prog_1_method_25_code)) else (bif Nat.ble 12 m then (bif Nat.ble 13 m then (bif Nat.ble 14 m then prog_1_method_20_code else prog_1_method_24_code) else prog_1_method_38_code) else (bif Nat.ble 11 m then prog_1_method_22_code else prog_1_method_37_code))) else (bif Nat.ble 5 m then (bif Nat.ble 7 m then (bif Nat.ble 8 m then (bif Nat.ble 9 m then prog_1_method_36_code else prog_1_method_21_code) else prog_1_method_35_code) else (bif Nat.ble 6 m then prog_1_method_5_code else prog_1_method_18_code)) else (bif Nat.ble 2 m then (bif Nat.ble 3 m then (bif Nat.ble 4 m then prog_1_method_4_code else prog_1_method_2_code) else prog_1_method_17_code) else (bif Nat.ble 1 m then prog_1_method_1_code else code)))))
def pMaxL (m : Nat) : Nat := (bif Nat.ble 20 m then (bif Nat.ble 30 m then (bif Nat.ble 35 m then (bif Nat.ble 38 m then (bif Nat.ble 39 m then (bif Nat.ble 40 m then 3 else 3) else 3) else (bif Nat.ble 36 m then (bif Nat.ble 37 m then 3 else 3) else 3)) else (bif Nat.ble 32 m then (bif Nat.ble 33 m then (bif Nat.ble 34 m then 2 else 2) else 2) else (bif Nat.ble 31 m then 1 else 1))) else (bif Nat.ble 25 m then (bif Nat.ble 27 m then (bif Nat.ble 28 m then (bif Nat.ble 29 m then 4 else 5) else 3) else (bif Nat.ble 26 m then 2 else 3)) else (bif Nat.ble 22 m then (bif Nat.ble 23 m then (bif Nat.ble 24 m then 2 else 1) else 5) else (bif Nat.ble 21 m then 5 else 7)))) else (bif Nat.ble 10 m then (bif Nat.ble 15 m then (bif Nat.ble 17 m then (bif Nat.ble 18 m then (bif Nat.ble 19 m then 6 else 2) else 8) else (bif Nat.ble 16 m then 7 else 5)) else (bif Nat.ble 12 m then (bif Nat.ble 13 m then (bif Nat.ble 14 m then 1 else 7) else 3) else (bif Nat.ble 11 m then 2 else 5))) else (bif Nat.ble 5 m then (bif Nat.ble 7 m then (bif Nat.ble 8 m then (bif Nat.ble 9 m then 3 else 2) else 5) else (bif Nat.ble 6 m then 1 else 2)) else (bif Nat.ble 2 m then (bif Nat.ble 3 m then (bif Nat.ble 4 m then 3 else 3) else 4) else (bif Nat.ble 1 m then 6 else 7)))))
def pRet (m : Nat) : Option FieldType := (bif Nat.ble 20 m then (bif Nat.ble 30 m then (bif Nat.ble 35 m then (bif Nat.ble 38 m then (bif Nat.ble 39 m then (bif Nat.ble 40 m then (some .int) else (some .int)) else (some .int)) else (bif Nat.ble 36 m then (bif Nat.ble 37 m then (some .int) else (some .int)) else (some .int))) else (bif Nat.ble 32 m then (bif Nat.ble 33 m then (bif Nat.ble 34 m then (some .int) else (some .boolean)) else (some .int)) else (bif Nat.ble 31 m then (some .int) else (some .int)))) else (bif Nat.ble 25 m then (bif Nat.ble 27 m then (bif Nat.ble 28 m then (bif Nat.ble 29 m then (some .boolean) else none) else none) else (bif Nat.ble 26 m then none else none)) else (bif Nat.ble 22 m then (bif Nat.ble 23 m then (bif Nat.ble 24 m then (some .int) else none) else none) else (bif Nat.ble 21 m then none else none)))) else (bif Nat.ble 10 m then (bif Nat.ble 15 m then (bif Nat.ble 17 m then (bif Nat.ble 18 m then (bif Nat.ble 19 m then none else (some .boolean)) else none) else (bif Nat.ble 16 m then none else none)) else (bif Nat.ble 12 m then (bif Nat.ble 13 m then (bif Nat.ble 14 m then (some .int) else none) else none) else (bif Nat.ble 11 m then (some .boolean) else none))) else (bif Nat.ble 5 m then (bif Nat.ble 7 m then (bif Nat.ble 8 m then (bif Nat.ble 9 m then none else (some .int)) else none) else (bif Nat.ble 6 m then none else (some .boolean))) else (bif Nat.ble 2 m then (bif Nat.ble 3 m then (bif Nat.ble 4 m then (some .boolean) else (some .int)) else (some .int)) else (bif Nat.ble 1 m then none else (some .boolean))))))
def pNA (m : Nat) : Nat := (bif Nat.ble 20 m then (bif Nat.ble 30 m then (bif Nat.ble 35 m then (bif Nat.ble 38 m then (bif Nat.ble 39 m then (bif Nat.ble 40 m then 2 else 2) else 2) else (bif Nat.ble 36 m then (bif Nat.ble 37 m then 2 else 2) else 2)) else (bif Nat.ble 32 m then (bif Nat.ble 33 m then (bif Nat.ble 34 m then 1 else 1) else 1) else (bif Nat.ble 31 m then 0 else 0))) else (bif Nat.ble 25 m then (bif Nat.ble 27 m then (bif Nat.ble 28 m then (bif Nat.ble 29 m then 2 else 2) else 1) else (bif Nat.ble 26 m then 1 else 2)) else (bif Nat.ble 22 m then (bif Nat.ble 23 m then (bif Nat.ble 24 m then 1 else 0) else 3) else (bif Nat.ble 21 m then 1 else 2)))) else (bif Nat.ble 10 m then (bif Nat.ble 15 m then (bif Nat.ble 17 m then (bif Nat.ble 18 m then (bif Nat.ble 19 m then 2 else 1) else 5) else (bif Nat.ble 16 m then 6 else 3)) else (bif Nat.ble 12 m then (bif Nat.ble 13 m then (bif Nat.ble 14 m then 0 else 3) else 0) else (bif Nat.ble 11 m then 1 else 2))) else (bif Nat.ble 5 m then (bif Nat.ble 7 m then (bif Nat.ble 8 m then (bif Nat.ble 9 m then 0 else 0) else 0) else (bif Nat.ble 6 m then 0 else 1)) else (bif Nat.ble 2 m then (bif Nat.ble 3 m then (bif Nat.ble 4 m then 2 else 1) else 3) else (bif Nat.ble 1 m then 4 else 1)))))
def pFr (m : Nat) : Nat := (bif Nat.ble 20 m then (bif Nat.ble 30 m then (bif Nat.ble 35 m then (bif Nat.ble 38 m then (bif Nat.ble 39 m then (bif Nat.ble 40 m then 1 else 1) else 1) else (bif Nat.ble 36 m then (bif Nat.ble 37 m then 1 else 1) else 1)) else (bif Nat.ble 32 m then (bif Nat.ble 33 m then (bif Nat.ble 34 m then 0 else 1) else 0) else (bif Nat.ble 31 m then 1 else 1))) else (bif Nat.ble 25 m then (bif Nat.ble 27 m then (bif Nat.ble 28 m then (bif Nat.ble 29 m then 2 else 1) else 4) else (bif Nat.ble 26 m then 5 else 0)) else (bif Nat.ble 22 m then (bif Nat.ble 23 m then (bif Nat.ble 24 m then 0 else 5) else 0) else (bif Nat.ble 21 m then 1 else 1)))) else (bif Nat.ble 10 m then (bif Nat.ble 15 m then (bif Nat.ble 17 m then (bif Nat.ble 18 m then (bif Nat.ble 19 m then 1 else 0) else 2) else (bif Nat.ble 16 m then 3 else 1)) else (bif Nat.ble 12 m then (bif Nat.ble 13 m then (bif Nat.ble 14 m then 0 else 4) else 6) else (bif Nat.ble 11 m then 0 else 1))) else (bif Nat.ble 5 m then (bif Nat.ble 7 m then (bif Nat.ble 8 m then (bif Nat.ble 9 m then 2 else 0) else 5) else (bif Nat.ble 6 m then 7 else 0)) else (bif Nat.ble 2 m then (bif Nat.ble 3 m then (bif Nat.ble 4 m then 1 else 5) else 0) else (bif Nat.ble 1 m then 1 else 8)))))
def pLo (m : Nat) : Nat := (bif Nat.ble 20 m then (bif Nat.ble 30 m then (bif Nat.ble 35 m then (bif Nat.ble 38 m then (bif Nat.ble 39 m then (bif Nat.ble 40 m then 13 else 13) else 13) else (bif Nat.ble 36 m then (bif Nat.ble 37 m then 13 else 13) else 13)) else (bif Nat.ble 32 m then (bif Nat.ble 33 m then (bif Nat.ble 34 m then 0 else 13) else 0) else (bif Nat.ble 31 m then 13 else 12))) else (bif Nat.ble 25 m then (bif Nat.ble 27 m then (bif Nat.ble 28 m then (bif Nat.ble 29 m then 28 else 13) else 69) else (bif Nat.ble 26 m then 83 else 0)) else (bif Nat.ble 22 m then (bif Nat.ble 23 m then (bif Nat.ble 24 m then 0 else 87) else 0) else (bif Nat.ble 21 m then 16 else 14)))) else (bif Nat.ble 10 m then (bif Nat.ble 15 m then (bif Nat.ble 17 m then (bif Nat.ble 18 m then (bif Nat.ble 19 m then 15 else 0) else 32) else (bif Nat.ble 16 m then 51 else 13)) else (bif Nat.ble 12 m then (bif Nat.ble 13 m then (bif Nat.ble 14 m then 0 else 69) else 96) else (bif Nat.ble 11 m then 0 else 15))) else (bif Nat.ble 5 m then (bif Nat.ble 7 m then (bif Nat.ble 8 m then (bif Nat.ble 9 m then 31 else 0) else 87) else (bif Nat.ble 6 m then 110 else 0)) else (bif Nat.ble 2 m then (bif Nat.ble 3 m then (bif Nat.ble 4 m then 17 else 87) else 0) else (bif Nat.ble 1 m then 16 else 122)))))
abbrev tB (k p : Nat) (a b : Option (Instr × Nat)) : Option (Instr × Nat) := bif Nat.ble k p then a else b
abbrev tL (k p : Nat) (i : Instr) (x : Nat) : Option (Instr × Nat) := bif Nat.beq p k then some (i, x) else none
def cd0 (p : Nat) : Option (Instr × Nat) := (tB 72 p (tB 120 p (tB 146 p (tB 159 p (tB 168 p (tB 170 p (tB 173 p (tL 173 p .ireturn 0) (tL 170 p (.invokestatic 26) 29)) (tB 169 p (tL 169 p (.aload_n 2) 0) (tL 168 p (.aload_n 1) 0))) (tB 162 p (tB 165 p (tL 165 p (.goto (-139)) 26) (tL 162 p (.iinc 3 3) 0)) (tL 159 p (.invokevirtual 23) 6))) (tB 153 p (tB 155 p (tB 158 p (tL 158 p (.aload_n 2) 0) (tL 155 p (.invokevirtual 23) 6)) (tB 154 p (tL 154 p (.aload_n 1) 0) (tL 153 p .ireturn 0))) (tB 149 p (tB 152 p (tL 152 p (.iconst 0) 0) (tL 149 p (.if_icmp .eq 13) 162)) (tL 146 p (.invokevirtual 16) 4)))) (tB 133 p (tB 138 p (tB 142 p (tB 144 p (tL 144 p (.iload 6) 0) (tL 142 p (.iload 5) 0)) (tB 141 p (tL 141 p (.aload_n 2) 0) (tL 138 p (.invokevirtual 16) 4))) (tB 134 p (tB 136 p (tL 136 p (.iload 6) 0) (tL 134 p (.iload 5) 0)) (tL 133 p (.aload_n 1) 0))) (tB 127 p (tB 129 p (tB 130 p (tL 130 p (.if_icmp .ne 24) 154) (tL 129 p (.iconst 2) 0)) (tL 127 p (.iload 4) 0)) (tB 121 p (tB 124 p (tL 124 p (.goto 38) 162) (tL 121 p (.invokevirtual 20) 23)) (tL 120 p (.aload_n 2) 0))))) (tB 94 p (tB 108 p (tB 112 p (tB 116 p (tB 117 p (tL 117 p (.invokevirtual 20) 23) (tL 116 p (.aload_n 1) 0)) (tB 113 p (tL 113 p (.if_icmp .ne 14) 127) (tL 112 p (.iconst 1) 0))) (tB 109 p (tB 110 p (tL 110 p (.iload 4) 0) (tL 109 p .ireturn 0)) (tL 108 p (.iconst 0) 0))) (tB 100 p (tB 102 p (tB 105 p (tL 105 p (.if_icmp .eq 57) 162) (tL 102 p (.invokevirtual 12) 3)) (tL 100 p (.iload 5) 0)) (tB 96 p (tB 99 p (tL 99 p (.aload_n 2) 0) (tL 96 p (.invokevirtual 12) 3)) (tL 94 p (.iload 5) 0)))) (tB 80 p (tB 87 p (tB 90 p (tB 93 p (tL 93 p (.aload_n 1) 0) (tL 90 p (.ifCond .ne 20) 110)) (tB 88 p (tL 88 p (.iload 4) 0) (tL 87 p .ireturn 0))) (tB 83 p (tB 86 p (tL 86 p (.iconst 0) 0) (tL 83 p (.ifCond .eq 5) 88)) (tL 80 p (.invokevirtual 16) 4))) (tB 76 p (tB 77 p (tB 78 p (tL 78 p (.iload 6) 0) (tL 77 p .ior 0)) (tL 76 p (.iconst 4) 0)) (tB 73 p (tB 74 p (tL 74 p (.iload 5) 0) (tL 73 p (.aload_n 2) 0)) (tL 72 p .ireturn 0)))))) (tB 36 p (tB 51 p (tB 59 p (tB 64 p (tB 68 p (tB 71 p (tL 71 p (.iconst 0) 0) (tL 68 p (.if_icmp .eq 5) 73)) (tB 67 p (tL 67 p (.iconst (-1)) 0) (tL 64 p (.invokevirtual 12) 3))) (tB 62 p (tB 63 p (tL 63 p .isub 0) (tL 62 p .iand 0)) (tL 59 p (.sipush 255) 0))) (tB 55 p (tB 56 p (tB 57 p (tL 57 p (.iload 6) 0) (tL 56 p (.iconst (-1)) 0)) (tL 55 p (.aload_n 2) 0)) (tB 52 p (tB 53 p (tL 53 p (.istore 6) 0) (tL 52 p .iaload 0)) (tL 51 p .iadd 0)))) (tB 43 p (tB 46 p (tB 49 p (tB 50 p (tL 50 p (.iconst 2) 0) (tL 49 p (.iload_n 3) 0)) (tB 48 p (tL 48 p (.aload_n 0) 0) (tL 46 p (.istore 5) 0))) (tB 44 p (tB 45 p (tL 45 p .iaload 0) (tL 44 p .iadd 0)) (tL 43 p (.iconst 1) 0))) (tB 39 p (tB 41 p (tB 42 p (tL 42 p (.iload_n 3) 0) (tL 41 p (.aload_n 0) 0)) (tL 39 p (.istore 4) 0)) (tB 37 p (tB 38 p (tL 38 p .iand 0) (tL 37 p (.iconst 3) 0)) (tL 36 p .iaload 0))))) (tB 19 p (tB 27 p (tB 30 p (tB 34 p (tB 35 p (tL 35 p (.iload_n 3) 0) (tL 34 p (.aload_n 0) 0)) (tB 31 p (tL 31 p (.if_icmp .gt 137) 168) (tL 30 p .arraylength 0))) (tB 28 p (tB 29 p (tL 29 p (.aload_n 0) 0) (tL 28 p .iadd 0)) (tL 27 p (.iconst 3) 0))) (tB 24 p (tB 25 p (tB 26 p (tL 26 p (.iload_n 3) 0) (tL 25 p (.istore_n 3) 0)) (tL 24 p (.iconst 0) 0)) (tB 20 p (tB 23 p (tL 23 p (.astore_n 2) 0) (tL 20 p (.invokespecial 9) 1)) (tL 19 p (.iconst 4) 0)))) (tB 8 p (tB 15 p (tB 17 p (tB 18 p (tL 18 p (.iconst 2) 0) (tL 17 p (.iconst 2) 0)) (tB 16 p (tL 16 p (.iconst 3) 0) (tL 15 p .dup 0))) (tB 11 p (tB 12 p (tL 12 p (.new 7) 0) (tL 11 p (.astore_n 1) 0)) (tL 8 p (.invokespecial 9) 1))) (tB 5 p (tB 6 p (tB 7 p (tL 7 p (.iconst 4) 0) (tL 6 p (.iconst 2) 0)) (tL 5 p (.iconst 2) 0)) (tB 3 p (tB 4 p (tL 4 p (.iconst 3) 0) (tL 3 p .dup 0)) (tL 0 p (.new 7) 0)))))))
def cd1 (p : Nat) : Option (Instr × Nat) := (tB 115 p (tB 171 p (tB 198 p (tB 213 p (tB 220 p (tB 224 p (tB 227 p (tL 227 p .return_ 0) (tL 224 p (.goto (-17)) 207)) (tB 221 p (tL 221 p (.iinc 5 1) 0) (tL 220 p .iastore 0))) (tB 217 p (tB 219 p (tL 219 p (.iconst (-1)) 0) (tL 217 p (.iload 5) 0)) (tB 214 p (tL 214 p (.getfield 35) 8) (tL 213 p (.aload_n 0) 0)))) (tB 205 p (tB 209 p (tB 210 p (tL 210 p (.if_icmp .ge 17) 227) (tL 209 p (.iconst 4) 0)) (tB 207 p (tL 207 p (.iload 5) 0) (tL 205 p (.istore 5) 0))) (tB 201 p (tB 204 p (tL 204 p (.iconst 0) 0) (tL 201 p (.putfield 82) 22)) (tL 198 p (.invokevirtual 68) 2)))) (tB 183 p (tB 192 p (tB 195 p (tB 196 p (tL 196 p (.bipush 16) 0) (tL 195 p (.iconst 0) 0)) (tB 193 p (tL 193 p (.iload 4) 0) (tL 192 p (.aload_n 0) 0))) (tB 188 p (tB 191 p (tL 191 p (.aload_n 0) 0) (tL 188 p (.putfield 79) 21)) (tB 185 p (tL 185 p (.invokevirtual 68) 2) (tL 183 p (.bipush 8) 0)))) (tB 179 p (tB 181 p (tB 182 p (tL 182 p (.iconst 1) 0) (tL 181 p (.iload_n 3) 0)) (tB 180 p (tL 180 p (.aload_n 0) 0) (tL 179 p (.aload_n 0) 0))) (tB 173 p (tB 176 p (tL 176 p (.putfield 76) 20) (tL 173 p (.invokevirtual 68) 2)) (tL 171 p (.bipush 8) 0))))) (tB 146 p (tB 158 p (tB 167 p (tB 169 p (tB 170 p (tL 170 p (.iconst 1) 0) (tL 169 p (.iload_n 2) 0)) (tB 168 p (tL 168 p (.aload_n 0) 0) (tL 167 p (.aload_n 0) 0))) (tB 161 p (tB 164 p (tL 164 p (.putfield 72) 19) (tL 161 p (.invokevirtual 68) 2)) (tB 159 p (tL 159 p (.bipush 16) 0) (tL 158 p (.iconst 2) 0)))) (tB 152 p (tB 156 p (tB 157 p (tL 157 p (.iload_n 1) 0) (tL 156 p (.aload_n 0) 0)) (tB 155 p (tL 155 p (.aload_n 0) 0) (tL 152 p (.putfield 65) 18))) (tB 147 p (tB 150 p (tL 150 p (.newarray .int) 0) (tL 147 p (.sipush 128) 0)) (tL 146 p (.aload_n 0) 0)))) (tB 130 p (tB 139 p (tB 141 p (tB 143 p (tL 143 p (.putfield 62) 17) (tL 141 p (.newarray .int) 0)) (tB 140 p (tL 140 p (.iconst 4) 0) (tL 139 p (.aload_n 0) 0))) (tB 134 p (tB 136 p (tL 136 p (.putfield 59) 16) (tL 134 p (.newarray .int) 0)) (tB 131 p (tL 131 p (.sipush 128) 0) (tL 130 p (.aload_n 0) 0)))) (tB 123 p (tB 125 p (tB 127 p (tL 127 p (.putfield 56) 15) (tL 125 p (.newarray .int) 0)) (tB 124 p (tL 124 p (.iconst 4) 0) (tL 123 p (.aload_n 0) 0))) (tB 118 p (tB 120 p (tL 120 p (.putfield 53) 14) (tL 118 p (.newarray .int) 0)) (tL 115 p (.sipush 128) 0)))))) (tB 60 p (tB 86 p (tB 99 p (tB 106 p (tB 111 p (tB 114 p (tL 114 p (.aload_n 0) 0) (tL 111 p (.putfield 50) 13)) (tB 109 p (tL 109 p (.newarray .int) 0) (tL 106 p (.sipush 128) 0))) (tB 102 p (tB 105 p (tL 105 p (.aload_n 0) 0) (tL 102 p (.putfield 47) 12)) (tB 100 p (tL 100 p (.newarray .int) 0) (tL 99 p (.iconst 4) 0)))) (tB 92 p (tB 95 p (tB 98 p (tL 98 p (.aload_n 0) 0) (tL 95 p (.putfield 44) 11)) (tB 93 p (tL 93 p (.newarray .int) 0) (tL 92 p (.iconst 4) 0))) (tB 88 p (tB 91 p (tL 91 p (.aload_n 0) 0) (tL 88 p (.putfield 41) 10)) (tL 86 p (.newarray .int) 0)))) (tB 72 p (tB 79 p (tB 84 p (tB 85 p (tL 85 p (.iconst 4) 0) (tL 84 p (.aload_n 0) 0)) (tB 81 p (tL 81 p (.putfield 38) 9) (tL 79 p (.newarray .int) 0))) (tB 77 p (tB 78 p (tL 78 p (.iconst 4) 0) (tL 77 p (.aload_n 0) 0)) (tB 74 p (tL 74 p (.putfield 35) 8) (tL 72 p (.newarray .int) 0)))) (tB 65 p (tB 70 p (tB 71 p (tL 71 p (.iconst 4) 0) (tL 70 p (.aload_n 0) 0)) (tB 67 p (tL 67 p (.putfield 32) 7) (tL 65 p (.newarray .int) 0))) (tB 63 p (tB 64 p (tL 64 p (.iconst 4) 0) (tL 63 p (.aload_n 0) 0)) (tL 60 p (.putfield 29) 6))))) (tB 28 p (tB 42 p (tB 51 p (tB 55 p (tB 58 p (tL 58 p (.newarray .int) 0) (tL 55 p (.sipush 128) 0)) (tB 54 p (tL 54 p (.aload_n 0) 0) (tL 51 p (.putfield 26) 5))) (tB 46 p (tB 49 p (tL 49 p (.newarray .int) 0) (tL 46 p (.sipush 128) 0)) (tB 45 p (tL 45 p (.aload_n 0) 0) (tL 42 p (.putfield 23) 4)))) (tB 33 p (tB 37 p (tB 40 p (tL 40 p (.newarray .int) 0) (tL 37 p (.sipush 128) 0)) (tB 36 p (tL 36 p (.aload_n 0) 0) (tL 33 p (.putfield 20) 3))) (tB 29 p (tB 31 p (tL 31 p (.newarray .int) 0) (tL 29 p (.bipush 10) 0)) (tL 28 p (.aload_n 0) 0)))) (tB 13 p (tB 20 p (tB 23 p (tB 25 p (tL 25 p (.putfield 17) 2) (tL 23 p (.newarray .int) 0)) (tB 21 p (tL 21 p (.bipush 64) 0) (tL 20 p (.aload_n 0) 0))) (tB 15 p (tB 17 p (tL 17 p (.putfield 13) 1) (tL 15 p (.newarray .boolean) 0)) (tL 13 p (.bipush 32) 0))) (tB 5 p (tB 9 p (tB 12 p (tL 12 p (.aload_n 0) 0) (tL 9 p (.putfield 7) 0)) (tB 7 p (tL 7 p (.newarray .int) 0) (tL 5 p (.bipush 32) 0))) (tB 1 p (tB 4 p (tL 4 p (.aload_n 0) 0) (tL 1 p (.invokespecial 1) 0)) (tL 0 p (.aload_n 0) 0)))))))
def cd2 (p : Nat) : Option (Instr × Nat) := (tB 8 p (tB 13 p (tB 14 p (tB 15 p (tL 15 p .ireturn 0) (tL 14 p (.iload_n 1) 0)) (tL 13 p .ireturn 0)) (tB 9 p (tB 12 p (tL 12 p (.iload_n 3) 0) (tL 9 p (.if_icmp .le 5) 14)) (tL 8 p (.iload_n 3) 0))) (tB 5 p (tB 6 p (tB 7 p (tL 7 p (.iload_n 1) 0) (tL 6 p .ireturn 0)) (tL 5 p (.iload_n 2) 0)) (tB 1 p (tB 2 p (tL 2 p (.if_icmp .ge 5) 7) (tL 1 p (.iload_n 2) 0)) (tL 0 p (.iload_n 1) 0))))
def cd3 (p : Nat) : Option (Instr × Nat) := (tB 36 p (tB 52 p (tB 57 p (tB 60 p (tB 63 p (tB 64 p (tL 64 p .ireturn 0) (tL 63 p (.iload_n 2) 0)) (tL 60 p (.invokevirtual 88) 13)) (tB 58 p (tB 59 p (tL 59 p (.iload_n 1) 0) (tL 58 p (.iload_n 2) 0)) (tL 57 p (.iconst 0) 0))) (tB 54 p (tB 55 p (tB 56 p (tL 56 p (.aload_n 0) 0) (tL 55 p .iastore 0)) (tL 54 p .iadd 0)) (tB 53 p (tL 53 p (.iconst 1) 0) (tL 52 p .iaload 0)))) (tB 43 p (tB 47 p (tB 50 p (tB 51 p (tL 51 p .dup2 0) (tL 50 p (.iconst 1) 0)) (tL 47 p (.getfield 20) 3)) (tB 46 p (tL 46 p (.aload_n 0) 0) (tL 43 p (.putfield 85) 23))) (tB 38 p (tB 41 p (tB 42 p (tL 42 p .iadd 0) (tL 41 p (.iconst 1) 0)) (tL 38 p (.getfield 85) 23)) (tB 37 p (tL 37 p (.aload_n 0) 0) (tL 36 p (.aload_n 0) 0))))) (tB 19 p (tB 28 p (tB 33 p (tB 34 p (tB 35 p (tL 35 p .iastore 0) (tL 34 p (.iload_n 1) 0)) (tL 33 p (.iload_n 2) 0)) (tB 29 p (tB 30 p (tL 30 p (.getfield 7) 0) (tL 29 p (.aload_n 0) 0)) (tL 28 p (.istore_n 2) 0))) (tB 23 p (tB 24 p (tB 25 p (tL 25 p (.getfield 85) 23) (tL 24 p (.aload_n 0) 0)) (tL 23 p .ireturn 0)) (tB 22 p (tL 22 p (.iconst (-1)) 0) (tL 19 p (.if_icmp .lt 5) 24)))) (tB 11 p (tB 13 p (tB 14 p (tB 17 p (tL 17 p (.bipush 32) 0) (tL 14 p (.getfield 85) 23)) (tL 13 p (.aload_n 0) 0)) (tB 12 p (tL 12 p .ireturn 0) (tL 11 p (.iconst (-1)) 0))) (tB 4 p (tB 5 p (tB 8 p (tL 8 p (.if_icmp .le 5) 13) (tL 5 p (.sipush 255) 0)) (tL 4 p (.iload_n 1) 0)) (tB 1 p (tL 1 p (.ifCond .lt 10) 11) (tL 0 p (.iload_n 1) 0))))))
def cd4 (p : Nat) : Option (Instr × Nat) := (tB 14 p (tB 18 p (tB 24 p (tB 25 p (tB 26 p (tL 26 p .ireturn 0) (tL 25 p (.iconst 1) 0)) (tL 24 p .iastore 0)) (tB 21 p (tL 21 p (.invokevirtual 68) 2) (tL 18 p (.sipush 255) 0))) (tB 16 p (tB 17 p (tL 17 p (.iconst 0) 0) (tL 16 p (.iload_n 2) 0)) (tB 15 p (tL 15 p (.aload_n 0) 0) (tL 14 p (.iload_n 1) 0)))) (tB 8 p (tB 10 p (tB 11 p (tL 11 p (.getfield 41) 10) (tL 10 p (.aload_n 0) 0)) (tB 9 p (tL 9 p .ireturn 0) (tL 8 p (.iconst 0) 0))) (tB 2 p (tB 5 p (tL 5 p (.ifCond .ne 5) 10) (tL 2 p (.invokevirtual 92) 5)) (tB 1 p (tL 1 p (.iload_n 1) 0) (tL 0 p (.aload_n 0) 0)))))
def cd5 (p : Nat) : Option (Instr × Nat) := (tB 6 p (tB 10 p (tB 13 p (tB 14 p (tL 14 p .ireturn 0) (tL 13 p (.iconst 0) 0)) (tL 10 p (.goto 4) 14)) (tB 9 p (tL 9 p (.iconst 1) 0) (tL 6 p (.if_icmp .ge 7) 13))) (tB 4 p (tB 5 p (tL 5 p (.iconst 4) 0) (tL 4 p (.iload_n 1) 0)) (tB 1 p (tL 1 p (.ifCond .lt 12) 13) (tL 0 p (.iload_n 1) 0))))
def cd6 (p : Nat) : Option (Instr × Nat) := (tB 31 p (tB 45 p (tB 52 p (tB 56 p (tB 57 p (tB 60 p (tL 60 p .return_ 0) (tL 57 p (.invokevirtual 102) 12)) (tL 56 p (.aload_n 0) 0)) (tB 53 p (tL 53 p (.invokevirtual 99) 9) (tL 52 p (.aload_n 0) 0))) (tB 47 p (tB 48 p (tB 49 p (tL 49 p (.invokevirtual 88) 13) (tL 48 p (.iconst 0) 0)) (tL 47 p (.iconst 0) 0)) (tB 46 p (tL 46 p (.iconst 2) 0) (tL 45 p (.aload_n 0) 0)))) (tB 40 p (tB 42 p (tB 43 p (tB 44 p (tL 44 p .iastore 0) (tL 43 p .iadd 0)) (tL 42 p (.iconst 1) 0)) (tB 41 p (tL 41 p .iaload 0) (tL 40 p .dup2 0))) (tB 35 p (tB 36 p (tB 39 p (tL 39 p (.iconst 3) 0) (tL 36 p (.getfield 20) 3)) (tL 35 p (.aload_n 0) 0)) (tB 32 p (tL 32 p (.ifCond .ne 20) 52) (tL 31 p .irem 0))))) (tB 11 p (tB 22 p (tB 26 p (tB 27 p (tB 28 p (tL 28 p (.getfield 82) 22) (tL 27 p (.aload_n 0) 0)) (tL 26 p .iaload 0)) (tB 25 p (tL 25 p (.iconst 0) 0) (tL 22 p (.getfield 20) 3))) (tB 15 p (tB 18 p (tB 21 p (tL 21 p (.aload_n 0) 0) (tL 18 p (.ifCond .le 34) 52)) (tL 15 p (.getfield 82) 22)) (tB 14 p (tL 14 p (.aload_n 0) 0) (tL 11 p (.invokevirtual 96) 7)))) (tB 6 p (tB 8 p (tB 9 p (tB 10 p (tL 10 p (.aload_n 0) 0) (tL 9 p .iastore 0)) (tL 8 p .iadd 0)) (tB 7 p (tL 7 p (.iconst 1) 0) (tL 6 p .iaload 0))) (tB 4 p (tB 5 p (tL 5 p .dup2 0) (tL 4 p (.iconst 0) 0)) (tB 1 p (tL 1 p (.getfield 20) 3) (tL 0 p (.aload_n 0) 0))))))
def cd7 (p : Nat) : Option (Instr × Nat) := (tB 53 p (tB 78 p (tB 86 p (tB 96 p (tB 98 p (tB 101 p (tL 101 p .return_ 0) (tL 98 p (.putfield 112) 24)) (tB 97 p (tL 97 p (.iconst 0) 0) (tL 96 p (.aload_n 0) 0))) (tB 90 p (tB 93 p (tL 93 p (.goto (-86)) 7) (tL 90 p (.iinc 2 1) 0)) (tB 87 p (tL 87 p (.invokevirtual 88) 13) (tL 86 p (.iconst 0) 0)))) (tB 82 p (tB 84 p (tB 85 p (tL 85 p (.iconst 0) 0) (tL 84 p (.iconst 2) 0)) (tB 83 p (tL 83 p (.aload_n 0) 0) (tL 82 p .iastore 0))) (tB 80 p (tB 81 p (tL 81 p .iadd 0) (tL 80 p (.iconst 1) 0)) (tB 79 p (tL 79 p .iaload 0) (tL 78 p .dup2 0))))) (tB 63 p (tB 70 p (tB 74 p (tB 77 p (tL 77 p (.iconst 3) 0) (tL 74 p (.getfield 20) 3)) (tB 73 p (tL 73 p (.aload_n 0) 0) (tL 70 p (.goto 20) 90))) (tB 65 p (tB 67 p (tL 67 p (.invokevirtual 88) 13) (tL 65 p (.iload 4) 0)) (tB 64 p (tL 64 p (.iload_n 3) 0) (tL 63 p (.iconst 1) 0)))) (tB 59 p (tB 61 p (tB 62 p (tL 62 p (.aload_n 0) 0) (tL 61 p .iastore 0)) (tB 60 p (tL 60 p .iadd 0) (tL 59 p (.iconst 1) 0))) (tB 57 p (tB 58 p (tL 58 p .iaload 0) (tL 57 p .dup2 0)) (tB 56 p (tL 56 p (.iconst 2) 0) (tL 53 p (.getfield 20) 3)))))) (tB 27 p (tB 38 p (tB 48 p (tB 50 p (tB 52 p (tL 52 p (.aload_n 0) 0) (tL 50 p (.istore 4) 0)) (tB 49 p (tL 49 p .iaload 0) (tL 48 p (.iload_n 3) 0))) (tB 44 p (tB 45 p (tL 45 p (.getfield 7) 0) (tL 44 p (.aload_n 0) 0)) (tB 41 p (tL 41 p (.ifCond .eq 11) 52) (tL 38 p (.invokevirtual 115) 18)))) (tB 33 p (tB 36 p (tB 37 p (tL 37 p (.iload_n 3) 0) (tL 36 p (.aload_n 0) 0)) (tB 34 p (tL 34 p (.istore 4) 0) (tL 33 p (.iconst 0) 0))) (tB 29 p (tB 30 p (tL 30 p (.if_icmp .lt 43) 73) (tL 29 p (.iload_n 1) 0)) (tB 28 p (tL 28 p (.iload_n 3) 0) (tL 27 p (.istore_n 3) 0))))) (tB 12 p (tB 21 p (tB 25 p (tB 26 p (tL 26 p .iaload 0) (tL 25 p (.iload_n 2) 0)) (tB 22 p (tL 22 p (.getfield 17) 2) (tL 21 p (.aload_n 0) 0))) (tB 16 p (tB 18 p (tL 18 p (.if_icmp .ge 78) 96) (tL 16 p (.bipush 64) 0)) (tB 15 p (tL 15 p (.iload_n 2) 0) (tL 12 p (.if_icmp .ge 84) 96)))) (tB 6 p (tB 8 p (tB 9 p (tL 9 p (.getfield 112) 24) (tL 8 p (.aload_n 0) 0)) (tB 7 p (tL 7 p (.iload_n 2) 0) (tL 6 p (.istore_n 2) 0))) (tB 4 p (tB 5 p (tL 5 p (.iconst 0) 0) (tL 4 p (.istore_n 1) 0)) (tB 1 p (tL 1 p (.invokevirtual 109) 8) (tL 0 p (.aload_n 0) 0)))))))
def cd8 (p : Nat) : Option (Instr × Nat) := (tB 10 p (tB 15 p (tB 16 p (tB 17 p (tL 17 p .ireturn 0) (tL 16 p (.iload_n 1) 0)) (tL 15 p .ireturn 0)) (tB 11 p (tB 14 p (tL 14 p (.iconst 0) 0) (tL 11 p (.ifCond .ge 5) 16)) (tL 10 p (.iload_n 1) 0))) (tB 5 p (tB 8 p (tB 9 p (tL 9 p (.istore_n 1) 0) (tL 8 p .isub 0)) (tL 5 p (.getfield 72) 19)) (tB 1 p (tB 4 p (tL 4 p (.aload_n 0) 0) (tL 1 p (.getfield 85) 23)) (tL 0 p (.aload_n 0) 0))))
def cd9 (p : Nat) : Option (Instr × Nat) := (tB 15 p (tB 23 p (tB 32 p (tB 35 p (tB 38 p (tL 38 p .return_ 0) (tL 35 p (.goto (-28)) 7)) (tL 32 p (.iinc 1 1) 0)) (tB 26 p (tB 29 p (tL 29 p (.goto (-15)) 14) (tL 26 p (.iinc 2 1) 0)) (tL 23 p (.invokevirtual 159) 10))) (tB 20 p (tB 21 p (tB 22 p (tL 22 p (.iload_n 2) 0) (tL 21 p (.iload_n 1) 0)) (tL 20 p (.aload_n 0) 0)) (tB 17 p (tL 17 p (.if_icmp .ge 15) 32) (tL 15 p (.bipush 32) 0)))) (tB 7 p (tB 12 p (tB 13 p (tB 14 p (tL 14 p (.iload_n 2) 0) (tL 13 p (.istore_n 2) 0)) (tL 12 p (.iconst 0) 0)) (tB 8 p (tB 9 p (tL 9 p (.if_icmp .ge 29) 38) (tL 8 p (.iconst 4) 0)) (tL 7 p (.iload_n 1) 0))) (tB 2 p (tB 5 p (tB 6 p (tL 6 p (.istore_n 1) 0) (tL 5 p (.iconst 0) 0)) (tL 2 p (.putfield 156) 25)) (tB 1 p (tL 1 p (.iconst 0) 0) (tL 0 p (.aload_n 0) 0)))))
def cd10 (p : Nat) : Option (Instr × Nat) := (tB 66 p (tB 103 p (tB 119 p (tB 126 p (tB 129 p (tB 132 p (tB 133 p (tL 133 p .return_ 0) (tL 132 p .iastore 0)) (tL 129 p (.invokevirtual 146) 24)) (tB 127 p (tB 128 p (tL 128 p (.iload_n 1) 0) (tL 127 p (.aload_n 0) 0)) (tL 126 p (.iload_n 3) 0))) (tB 121 p (tB 122 p (tB 123 p (tL 123 p (.getfield 26) 5) (tL 122 p (.aload_n 0) 0)) (tL 121 p .iastore 0)) (tB 120 p (tL 120 p (.iconst 1) 0) (tL 119 p (.iload_n 3) 0)))) (tB 110 p (tB 112 p (tB 115 p (tB 116 p (tL 116 p (.getfield 23) 4) (tL 115 p (.aload_n 0) 0)) (tL 112 p (.goto 21) 133)) (tB 111 p (tL 111 p .iastore 0) (tL 110 p .iadd 0))) (tB 107 p (tB 108 p (tB 109 p (tL 109 p (.iconst 1) 0) (tL 108 p .iaload 0)) (tL 107 p .dup2 0)) (tB 106 p (tL 106 p (.iconst 4) 0) (tL 103 p (.getfield 20) 3))))) (tB 86 p (tB 93 p (tB 98 p (tB 99 p (tB 102 p (tL 102 p (.aload_n 0) 0) (tL 99 p (.putfield 156) 25)) (tL 98 p .iadd 0)) (tB 94 p (tB 97 p (tL 97 p (.iconst 1) 0) (tL 94 p (.getfield 156) 25)) (tL 93 p .dup 0))) (tB 90 p (tB 91 p (tB 92 p (tL 92 p (.aload_n 0) 0) (tL 91 p .iastore 0)) (tL 90 p (.iload_n 3) 0)) (tB 87 p (tL 87 p (.getfield 156) 25) (tL 86 p (.aload_n 0) 0)))) (tB 73 p (tB 79 p (tB 82 p (tB 83 p (tL 83 p (.getfield 65) 18) (tL 82 p (.aload_n 0) 0)) (tL 79 p (.if_icmp .ge 23) 102)) (tB 76 p (tL 76 p (.sipush 128) 0) (tL 73 p (.getfield 156) 25))) (tB 68 p (tB 71 p (tB 72 p (tL 72 p (.aload_n 0) 0) (tL 71 p .iastore 0)) (tL 68 p (.getfield 79) 21)) (tB 67 p (tL 67 p (.aload_n 0) 0) (tL 66 p (.iload_n 3) 0)))))) (tB 34 p (tB 48 p (tB 56 p (tB 61 p (tB 62 p (tB 63 p (tL 63 p (.getfield 26) 5) (tL 62 p (.aload_n 0) 0)) (tL 61 p .iastore 0)) (tB 59 p (tB 60 p (tL 60 p (.iconst 2) 0) (tL 59 p (.iload_n 3) 0)) (tL 56 p (.getfield 23) 4))) (tB 51 p (tB 52 p (tB 55 p (tL 55 p (.aload_n 0) 0) (tL 52 p (.if_icmp .ne 63) 115)) (tL 51 p (.iconst 1) 0)) (tB 49 p (tL 49 p (.iload 4) 0) (tL 48 p .return_ 0)))) (tB 39 p (tB 43 p (tB 44 p (tB 45 p (tL 45 p (.ifCond .eq 4) 49) (tL 44 p .iaload 0)) (tL 43 p (.iload_n 3) 0)) (tB 40 p (tL 40 p (.getfield 26) 5) (tL 39 p (.aload_n 0) 0))) (tB 36 p (tB 37 p (tB 38 p (tL 38 p .iastore 0) (tL 37 p .isub 0)) (tL 36 p (.iconst 1) 0)) (tB 35 p (tL 35 p .iaload 0) (tL 34 p (.iload_n 3) 0))))) (tB 13 p (tB 24 p (tB 29 p (tB 30 p (tB 31 p (tL 31 p (.getfield 26) 5) (tL 30 p (.aload_n 0) 0)) (tL 29 p (.iload_n 3) 0)) (tB 25 p (tB 26 p (tL 26 p (.getfield 26) 5) (tL 25 p (.aload_n 0) 0)) (tL 24 p .return_ 0))) (tB 16 p (tB 18 p (tB 21 p (tL 21 p (.ifCond .ne 4) 25) (tL 18 p (.invokevirtual 143) 11)) (tL 16 p (.iload 4) 0)) (tB 15 p (tL 15 p (.aload_n 0) 0) (tL 13 p (.istore 4) 0)))) (tB 6 p (tB 8 p (tB 11 p (tB 12 p (tL 12 p .iaload 0) (tL 11 p (.iload_n 3) 0)) (tL 8 p (.getfield 23) 4)) (tB 7 p (tL 7 p (.aload_n 0) 0) (tL 6 p (.istore_n 3) 0))) (tB 3 p (tB 4 p (tB 5 p (tL 5 p .iadd 0) (tL 4 p (.iload_n 2) 0)) (tL 3 p .imul 0)) (tB 1 p (tL 1 p (.bipush 32) 0) (tL 0 p (.iload_n 1) 0)))))))
def cd11 (p : Nat) : Option (Instr × Nat) := (tB 10 p (tB 15 p (tB 19 p (tB 20 p (tL 20 p .ireturn 0) (tL 19 p (.iconst 0) 0)) (tB 16 p (tL 16 p (.goto 4) 20) (tL 15 p (.iconst 1) 0))) (tB 11 p (tB 12 p (tL 12 p (.if_icmp .ne 7) 19) (tL 11 p (.iconst 3) 0)) (tL 10 p (.iload_n 1) 0))) (tB 5 p (tB 6 p (tB 7 p (tL 7 p (.if_icmp .eq 8) 15) (tL 6 p (.iconst 2) 0)) (tL 5 p (.iload_n 1) 0)) (tB 1 p (tB 2 p (tL 2 p (.if_icmp .eq 13) 15) (tL 1 p (.iconst 1) 0)) (tL 0 p (.iload_n 1) 0))))
def cd12 (p : Nat) : Option (Instr × Nat) := (tB 22 p (tB 29 p (tB 38 p (tB 40 p (tB 43 p (tL 43 p .return_ 0) (tL 40 p (.putfield 156) 25)) (tB 39 p (tL 39 p (.iconst 0) 0) (tL 38 p (.aload_n 0) 0))) (tB 32 p (tB 35 p (tL 35 p (.goto (-33)) 2) (tL 32 p (.iinc 1 1) 0)) (tL 29 p (.invokevirtual 162) 26))) (tB 26 p (tB 27 p (tB 28 p (tL 28 p (.iload_n 2) 0) (tL 27 p (.aload_n 0) 0)) (tL 26 p (.istore_n 2) 0)) (tB 23 p (tB 25 p (tL 25 p .irem 0) (tL 23 p (.bipush 32) 0)) (tL 22 p .iaload 0)))) (tB 10 p (tB 17 p (tB 18 p (tB 21 p (tL 21 p (.iload_n 1) 0) (tL 18 p (.getfield 65) 18)) (tL 17 p (.aload_n 0) 0)) (tB 11 p (tB 14 p (tL 14 p (.if_icmp .ge 24) 38) (tL 11 p (.sipush 128) 0)) (tL 10 p (.iload_n 1) 0))) (tB 3 p (tB 4 p (tB 7 p (tL 7 p (.if_icmp .ge 31) 38) (tL 4 p (.getfield 156) 25)) (tL 3 p (.aload_n 0) 0)) (tB 1 p (tB 2 p (tL 2 p (.iload_n 1) 0) (tL 1 p (.istore_n 1) 0)) (tL 0 p (.iconst 0) 0)))))
def cd13 (p : Nat) : Option (Instr × Nat) := (tB 23 p (tB 34 p (tB 39 p (tB 45 p (tB 48 p (tL 48 p .return_ 0) (tL 45 p (.goto (-22)) 23)) (tB 42 p (tL 42 p (.iinc 6 1) 0) (tL 39 p (.invokevirtual 121) 16))) (tB 35 p (tB 37 p (tL 37 p (.iload 5) 0) (tL 35 p (.iload 4) 0)) (tL 34 p (.iload_n 3) 0))) (tB 29 p (tB 32 p (tB 33 p (tL 33 p (.iload_n 2) 0) (tL 32 p (.iload_n 1) 0)) (tB 30 p (tL 30 p (.iload 6) 0) (tL 29 p (.aload_n 0) 0))) (tB 25 p (tB 26 p (tL 26 p (.if_icmp .ge 22) 48) (tL 25 p (.iconst 4) 0)) (tL 23 p (.iload 6) 0)))) (tB 12 p (tB 15 p (tB 20 p (tB 21 p (tL 21 p (.istore 6) 0) (tL 20 p (.iconst 0) 0)) (tB 17 p (tL 17 p (.invokevirtual 118) 15) (tL 15 p (.iload 5) 0))) (tB 13 p (tB 14 p (tL 14 p (.iload_n 2) 0) (tL 13 p (.iload_n 1) 0)) (tL 12 p (.aload_n 0) 0))) (tB 6 p (tB 7 p (tB 10 p (tL 10 p (.istore 5) 0) (tL 7 p (.invokevirtual 109) 8)) (tL 6 p (.aload_n 0) 0)) (tB 1 p (tB 4 p (tL 4 p (.istore 4) 0) (tL 1 p (.invokevirtual 105) 14)) (tL 0 p (.aload_n 0) 0)))))
def cd14 (p : Nat) : Option (Instr × Nat) := (tB 4 p (tB 5 p (tB 6 p (tL 6 p .ireturn 0) (tL 5 p .isub 0)) (tL 4 p (.iconst 1) 0)) (tB 1 p (tL 1 p (.getfield 85) 23) (tL 0 p (.aload_n 0) 0)))
def cd15 (p : Nat) : Option (Instr × Nat) := (tB 23 p (tB 37 p (tB 43 p (tB 47 p (tB 50 p (tL 50 p .return_ 0) (tL 47 p (.goto (-24)) 23)) (tB 44 p (tL 44 p (.iinc 4 1) 0) (tL 43 p .bastore 0))) (tB 40 p (tB 42 p (tL 42 p (.iconst 0) 0) (tL 40 p (.iload 4) 0)) (tL 37 p (.getfield 13) 1))) (tB 29 p (tB 33 p (tB 36 p (tL 36 p (.aload_n 0) 0) (tL 33 p (.if_icmp .ge 17) 50)) (tB 31 p (tL 31 p (.bipush 32) 0) (tL 29 p (.iload 4) 0))) (tB 25 p (tB 26 p (tL 26 p (.if_icmp .ge 24) 50) (tL 25 p (.iload_n 3) 0)) (tL 23 p (.iload 4) 0)))) (tB 13 p (tB 18 p (tB 20 p (tB 21 p (tL 21 p (.istore 4) 0) (tL 20 p (.iconst 0) 0)) (tB 19 p (tL 19 p .bastore 0) (tL 18 p (.iconst 0) 0))) (tB 14 p (tB 17 p (tL 17 p (.iload_n 2) 0) (tL 14 p (.getfield 13) 1)) (tL 13 p (.aload_n 0) 0))) (tB 5 p (tB 7 p (tB 10 p (tL 10 p (.ifCond .eq 10) 20) (tL 7 p (.invokevirtual 115) 18)) (tB 6 p (tL 6 p (.iload_n 2) 0) (tL 5 p (.aload_n 0) 0))) (tB 1 p (tB 2 p (tL 2 p (.if_icmp .ne 18) 20) (tL 1 p (.iconst 1) 0)) (tL 0 p (.iload_n 1) 0)))))
def cd16 (p : Nat) : Option (Instr × Nat) := (tB 42 p (tB 71 p (tB 85 p (tB 93 p (tB 95 p (tB 98 p (tL 98 p .return_ 0) (tL 95 p (.invokevirtual 140) 28)) (tB 94 p (tL 94 p (.iload_n 3) 0) (tL 93 p (.iload_n 1) 0))) (tB 89 p (tB 92 p (tL 92 p (.aload_n 0) 0) (tL 89 p (.goto 9) 98)) (tB 86 p (tL 86 p (.invokevirtual 136) 21) (tL 85 p (.iload_n 1) 0)))) (tB 78 p (tB 81 p (tB 84 p (tL 84 p (.aload_n 0) 0) (tL 81 p (.invokevirtual 133) 20)) (tB 79 p (tL 79 p (.iload 6) 0) (tL 78 p (.iload_n 1) 0))) (tB 74 p (tB 77 p (tL 77 p (.aload_n 0) 0) (tL 74 p (.invokevirtual 129) 19)) (tB 72 p (tL 72 p (.iload 5) 0) (tL 71 p (.iload_n 1) 0))))) (tB 55 p (tB 65 p (tB 67 p (tB 70 p (tL 70 p (.aload_n 0) 0) (tL 67 p (.if_icmp .ne 25) 92)) (tB 66 p (tL 66 p (.iconst 2) 0) (tL 65 p (.iload_n 2) 0))) (tB 59 p (tB 62 p (tL 62 p (.goto 36) 98) (tL 59 p (.invokevirtual 125) 17)) (tB 57 p (tL 57 p (.iload 6) 0) (tL 55 p (.iload 5) 0)))) (tB 50 p (tB 52 p (tB 53 p (tL 53 p (.iload 4) 0) (tL 52 p (.iload_n 3) 0)) (tB 51 p (tL 51 p (.iload_n 1) 0) (tL 50 p (.aload_n 0) 0))) (tB 46 p (tB 47 p (tL 47 p (.if_icmp .ne 18) 65) (tL 46 p (.iconst 1) 0)) (tB 45 p (tL 45 p (.iload_n 2) 0) (tL 42 p (.ifCond .eq 8) 50)))))) (tB 23 p (tB 33 p (tB 38 p (tB 40 p (tB 41 p (tL 41 p (.iload_n 2) 0) (tL 40 p .return_ 0)) (tB 39 p (tL 39 p .iastore 0) (tL 38 p .iadd 0))) (tB 36 p (tB 37 p (tL 37 p (.iconst 1) 0) (tL 36 p .iaload 0)) (tB 35 p (tL 35 p .dup2 0) (tL 33 p (.bipush 9) 0)))) (tB 27 p (tB 29 p (tB 30 p (tL 30 p (.getfield 20) 3) (tL 29 p (.aload_n 0) 0)) (tB 28 p (tL 28 p .iastore 0) (tL 27 p .iadd 0))) (tB 25 p (tB 26 p (tL 26 p (.iconst 1) 0) (tL 25 p .iaload 0)) (tB 24 p (tL 24 p .dup2 0) (tL 23 p (.iload_n 1) 0))))) (tB 13 p (tB 17 p (tB 19 p (tB 20 p (tL 20 p (.getfield 47) 12) (tL 19 p (.aload_n 0) 0)) (tB 18 p (tL 18 p .iastore 0) (tL 17 p .isub 0))) (tB 15 p (tB 16 p (tL 16 p (.iconst 1) 0) (tL 15 p .iaload 0)) (tB 14 p (tL 14 p .dup2 0) (tL 13 p (.iload_n 1) 0)))) (tB 5 p (tB 9 p (tB 10 p (tL 10 p (.getfield 41) 10) (tL 9 p (.aload_n 0) 0)) (tB 6 p (tL 6 p (.ifCond .le 35) 41) (tL 5 p .iaload 0))) (tB 1 p (tB 4 p (tL 4 p (.iload_n 1) 0) (tL 1 p (.getfield 41) 10)) (tL 0 p (.aload_n 0) 0))))))
def cd17 (p : Nat) : Option (Instr × Nat) := (tB 51 p (tB 73 p (tB 83 p (tB 90 p (tB 92 p (tB 95 p (tL 95 p .return_ 0) (tL 92 p (.invokevirtual 136) 21)) (tB 91 p (tL 91 p (.iload_n 1) 0) (tL 90 p (.aload_n 0) 0))) (tB 85 p (tB 87 p (tL 87 p (.invokevirtual 133) 20) (tL 85 p (.iload 5) 0)) (tB 84 p (tL 84 p (.iload_n 1) 0) (tL 83 p (.aload_n 0) 0)))) (tB 76 p (tB 78 p (tB 80 p (tL 80 p (.invokevirtual 129) 19) (tL 78 p (.iload 4) 0)) (tB 77 p (tL 77 p (.iload_n 1) 0) (tL 76 p (.aload_n 0) 0))) (tB 74 p (tB 75 p (tL 75 p .iastore 0) (tL 74 p .iadd 0)) (tL 73 p (.iconst 1) 0)))) (tB 62 p (tB 67 p (tB 71 p (tB 72 p (tL 72 p .iaload 0) (tL 71 p .dup2 0)) (tB 70 p (tL 70 p (.iload_n 1) 0) (tL 67 p (.getfield 44) 11))) (tB 63 p (tB 66 p (tL 66 p (.aload_n 0) 0) (tL 63 p (.goto 13) 76)) (tL 62 p .iastore 0))) (tB 55 p (tB 59 p (tB 61 p (tL 61 p (.iconst 0) 0) (tL 59 p (.iload 6) 0)) (tB 56 p (tL 56 p (.getfield 26) 5) (tL 55 p (.aload_n 0) 0))) (tB 53 p (tB 54 p (tL 54 p .iastore 0) (tL 53 p (.iload_n 3) 0)) (tL 51 p (.iload 6) 0))))) (tB 23 p (tB 39 p (tB 45 p (tB 47 p (tB 48 p (tL 48 p (.getfield 29) 6) (tL 47 p (.aload_n 0) 0)) (tB 46 p (tL 46 p .iastore 0) (tL 45 p (.iconst 4) 0))) (tB 40 p (tB 43 p (tL 43 p (.iload 6) 0) (tL 40 p (.getfield 23) 4)) (tL 39 p (.aload_n 0) 0))) (tB 30 p (tB 33 p (tB 36 p (tL 36 p (.ifCond .eq 30) 66) (tL 33 p (.invokevirtual 143) 11)) (tB 31 p (tL 31 p (.iload 7) 0) (tL 30 p (.aload_n 0) 0))) (tB 25 p (tB 27 p (tL 27 p (.ifCond .eq 12) 39) (tL 25 p (.iload 7) 0)) (tL 23 p (.istore 7) 0)))) (tB 12 p (tB 16 p (tB 20 p (tB 22 p (tL 22 p .iaload 0) (tL 20 p (.iload 6) 0)) (tB 17 p (tL 17 p (.getfield 23) 4) (tL 16 p (.aload_n 0) 0))) (tB 13 p (tB 14 p (tL 14 p (.istore 6) 0) (tL 13 p .iadd 0)) (tL 12 p (.iload_n 2) 0))) (tB 5 p (tB 9 p (tB 11 p (tL 11 p .imul 0) (tL 9 p (.bipush 32) 0)) (tB 8 p (tL 8 p (.iload_n 1) 0) (tL 5 p (.ifCond .eq 71) 76))) (tB 1 p (tB 2 p (tL 2 p (.invokevirtual 115) 18) (tL 1 p (.iload_n 2) 0)) (tL 0 p (.aload_n 0) 0))))))
def cd18 (p : Nat) : Option (Instr × Nat) := (tB 7 p (tB 11 p (tB 14 p (tB 15 p (tL 15 p .ireturn 0) (tL 14 p (.iconst 0) 0)) (tL 11 p (.goto 4) 15)) (tB 10 p (tL 10 p (.iconst 1) 0) (tL 7 p (.if_icmp .ge 7) 14))) (tB 4 p (tB 5 p (tL 5 p (.bipush 32) 0) (tL 4 p (.iload_n 1) 0)) (tB 1 p (tL 1 p (.ifCond .lt 13) 14) (tL 0 p (.iload_n 1) 0))))
def cd19 (p : Nat) : Option (Instr × Nat) := (tB 46 p (tB 70 p (tB 83 p (tB 90 p (tB 92 p (tB 93 p (tL 93 p .return_ 0) (tL 92 p .iastore 0)) (tB 91 p (tL 91 p (.iload_n 2) 0) (tL 90 p (.iload_n 1) 0))) (tB 86 p (tB 87 p (tL 87 p (.getfield 35) 8) (tL 86 p (.aload_n 0) 0)) (tL 83 p (.if_icmp .le 10) 93))) (tB 77 p (tB 81 p (tB 82 p (tL 82 p .iaload 0) (tL 81 p (.iload_n 1) 0)) (tB 78 p (tL 78 p (.getfield 35) 8) (tL 77 p (.aload_n 0) 0))) (tB 73 p (tB 76 p (tL 76 p (.iload_n 2) 0) (tL 73 p (.goto (-55)) 18)) (tL 70 p (.iinc 4 1) 0)))) (tB 58 p (tB 64 p (tB 66 p (tB 69 p (tL 69 p .iastore 0) (tL 66 p (.invokevirtual 146) 24)) (tB 65 p (tL 65 p (.iload_n 1) 0) (tL 64 p (.aload_n 0) 0))) (tB 59 p (tB 62 p (tL 62 p (.iload 5) 0) (tL 59 p (.getfield 26) 5)) (tL 58 p (.aload_n 0) 0))) (tB 51 p (tB 56 p (tB 57 p (tL 57 p .iastore 0) (tL 56 p (.iconst 1) 0)) (tB 54 p (tL 54 p (.iload 5) 0) (tL 51 p (.getfield 23) 4))) (tB 47 p (tB 50 p (tL 50 p (.aload_n 0) 0) (tL 47 p (.ifCond .ne 23) 70)) (tL 46 p .iaload 0))))) (tB 20 p (tB 34 p (tB 38 p (tB 41 p (tB 44 p (tL 44 p (.iload 5) 0) (tL 41 p (.getfield 23) 4)) (tB 40 p (tL 40 p (.aload_n 0) 0) (tL 38 p (.istore 5) 0))) (tB 35 p (tB 37 p (tL 37 p .iadd 0) (tL 35 p (.iload 4) 0)) (tL 34 p .imul 0))) (tB 26 p (tB 31 p (tB 32 p (tL 32 p (.bipush 32) 0) (tL 31 p (.iload_n 1) 0)) (tB 28 p (tL 28 p (.if_icmp .ge 48) 76) (tL 26 p (.bipush 32) 0))) (tB 21 p (tB 24 p (tL 24 p (.iload 4) 0) (tL 21 p (.if_icmp .gt 55) 76)) (tL 20 p (.iload_n 2) 0)))) (tB 9 p (tB 14 p (tB 16 p (tB 18 p (tL 18 p (.iload 4) 0) (tL 16 p (.istore 4) 0)) (tB 15 p (tL 15 p (.iload_n 3) 0) (tL 14 p (.istore_n 3) 0))) (tB 10 p (tB 13 p (tL 13 p (.iconst 0) 0) (tL 10 p (.ifCond .ge 5) 15)) (tL 9 p (.iload_n 3) 0))) (tB 5 p (tB 7 p (tB 8 p (tL 8 p (.istore_n 3) 0) (tL 7 p .iadd 0)) (tB 6 p (tL 6 p (.iconst 1) 0) (tL 5 p .iaload 0))) (tB 1 p (tB 4 p (tL 4 p (.iload_n 1) 0) (tL 1 p (.getfield 35) 8)) (tL 0 p (.aload_n 0) 0))))))
def cd20 (p : Nat) : Option (Instr × Nat) := (tB 53 p (tB 84 p (tB 99 p (tB 103 p (tB 108 p (tB 111 p (tB 114 p (tL 114 p .return_ 0) (tL 111 p (.goto (-77)) 34)) (tL 108 p (.iinc 4 1) 0)) (tB 105 p (tL 105 p (.invokevirtual 150) 25) (tL 103 p (.iload 4) 0))) (tB 101 p (tB 102 p (tL 102 p (.iload_n 1) 0) (tL 101 p (.aload_n 0) 0)) (tB 100 p (tL 100 p .iastore 0) (tL 99 p (.iconst 0) 0)))) (tB 92 p (tB 94 p (tB 97 p (tL 97 p (.iload 5) 0) (tL 94 p (.getfield 26) 5)) (tB 93 p (tL 93 p (.aload_n 0) 0) (tL 92 p .iastore 0))) (tB 88 p (tB 90 p (tL 90 p (.bipush 6) 0) (tL 88 p (.iload 5) 0)) (tB 85 p (tL 85 p (.getfield 23) 4) (tL 84 p (.aload_n 0) 0))))) (tB 67 p (tB 74 p (tB 79 p (tB 81 p (tL 81 p (.if_icmp .eq 27) 108) (tL 79 p (.bipush 6) 0)) (tB 77 p (tL 77 p (.iload 6) 0) (tL 74 p (.if_icmp .eq 34) 108))) (tB 71 p (tB 73 p (tL 73 p (.iconst 5) 0) (tL 71 p (.iload 6) 0)) (tB 68 p (tL 68 p (.if_icmp .eq 40) 108) (tL 67 p (.iconst 4) 0)))) (tB 60 p (tB 63 p (tB 65 p (tL 65 p (.iload 6) 0) (tL 63 p (.istore 6) 0)) (tB 62 p (tL 62 p .iaload 0) (tL 60 p (.iload 5) 0))) (tB 56 p (tB 57 p (tL 57 p (.getfield 23) 4) (tL 56 p (.aload_n 0) 0)) (tB 54 p (tL 54 p (.istore 5) 0) (tL 53 p .iadd 0)))))) (tB 24 p (tB 36 p (tB 44 p (tB 48 p (tB 50 p (tB 51 p (tL 51 p (.iload 4) 0) (tL 50 p .imul 0)) (tL 48 p (.bipush 32) 0)) (tB 47 p (tL 47 p (.iload_n 1) 0) (tL 44 p (.if_icmp .ge 70) 114))) (tB 40 p (tB 42 p (tL 42 p (.bipush 32) 0) (tL 40 p (.iload 4) 0)) (tB 37 p (tL 37 p (.if_icmp .ge 77) 114) (tL 36 p (.iload_n 2) 0)))) (tB 30 p (tB 32 p (tB 34 p (tL 34 p (.iload 4) 0) (tL 32 p (.istore 4) 0)) (tB 31 p (tL 31 p (.iload_n 3) 0) (tL 30 p (.istore_n 3) 0))) (tB 26 p (tB 29 p (tL 29 p (.iconst 0) 0) (tL 26 p (.ifCond .ge 5) 31)) (tB 25 p (tL 25 p (.iload_n 3) 0) (tL 24 p (.istore_n 3) 0))))) (tB 12 p (tB 18 p (tB 22 p (tB 23 p (tL 23 p .iaload 0) (tL 22 p (.iload_n 1) 0)) (tB 19 p (tL 19 p (.getfield 32) 7) (tL 18 p (.aload_n 0) 0))) (tB 16 p (tB 17 p (tL 17 p .iastore 0) (tL 16 p (.iload_n 2) 0)) (tB 15 p (tL 15 p (.iload_n 1) 0) (tL 12 p (.getfield 38) 9)))) (tB 6 p (tB 10 p (tB 11 p (tL 11 p (.aload_n 0) 0) (tL 10 p .return_ 0)) (tB 7 p (tL 7 p (.if_icmp .gt 4) 11) (tL 6 p .iaload 0))) (tB 2 p (tB 5 p (tL 5 p (.iload_n 1) 0) (tL 2 p (.getfield 38) 9)) (tB 1 p (tL 1 p (.aload_n 0) 0) (tL 0 p (.iload_n 2) 0)))))))
def cd21 (p : Nat) : Option (Instr × Nat) := (tB 45 p (tB 67 p (tB 78 p (tB 81 p (tB 85 p (tB 88 p (tL 88 p .return_ 0) (tL 85 p (.goto (-78)) 7)) (tB 82 p (tL 82 p (.iinc 2 1) 0) (tL 81 p .iastore 0))) (tB 79 p (tB 80 p (tL 80 p .iadd 0) (tL 79 p (.iconst 1) 0)) (tL 78 p (.iload_n 2) 0))) (tB 72 p (tB 74 p (tB 77 p (tL 77 p (.iload_n 1) 0) (tL 74 p (.getfield 32) 7)) (tB 73 p (tL 73 p (.aload_n 0) 0) (tL 72 p .iastore 0))) (tB 70 p (tB 71 p (tL 71 p (.iconst 5) 0) (tL 70 p (.iload_n 3) 0)) (tL 67 p (.getfield 23) 4)))) (tB 56 p (tB 61 p (tB 63 p (tB 66 p (tL 66 p (.aload_n 0) 0) (tL 63 p (.invokevirtual 153) 22)) (tB 62 p (tL 62 p .iaload 0) (tL 61 p (.iload_n 3) 0))) (tB 57 p (tB 58 p (tL 58 p (.getfield 29) 6) (tL 57 p (.aload_n 0) 0)) (tL 56 p (.iload_n 2) 0))) (tB 51 p (tB 54 p (tB 55 p (tL 55 p (.iload_n 1) 0) (tL 54 p (.aload_n 0) 0)) (tL 51 p (.if_icmp .ne 22) 73)) (tB 48 p (tB 50 p (tL 50 p (.iconst 4) 0) (tL 48 p (.iload 4) 0)) (tL 45 p (.goto 43) 88))))) (tB 21 p (tB 30 p (tB 35 p (tB 40 p (tB 42 p (tL 42 p (.if_icmp .eq 6) 48) (tL 40 p (.bipush 6) 0)) (tB 38 p (tL 38 p (.iload 4) 0) (tL 35 p (.if_icmp .eq 13) 48))) (tB 32 p (tB 34 p (tL 34 p (.iconst 4) 0) (tL 32 p (.iload 4) 0)) (tL 30 p (.istore 4) 0))) (tB 24 p (tB 28 p (tB 29 p (tL 29 p .iaload 0) (tL 28 p (.iload_n 3) 0)) (tB 25 p (tL 25 p (.getfield 23) 4) (tL 24 p (.aload_n 0) 0))) (tB 22 p (tB 23 p (tL 23 p (.istore_n 3) 0) (tL 22 p .iadd 0)) (tL 21 p (.iload_n 2) 0)))) (tB 8 p (tB 14 p (tB 18 p (tB 20 p (tL 20 p .imul 0) (tL 18 p (.bipush 32) 0)) (tB 17 p (tL 17 p (.iload_n 1) 0) (tL 14 p (.if_icmp .ge 74) 88))) (tB 11 p (tB 12 p (tL 12 p (.bipush 32) 0) (tL 11 p (.iload_n 2) 0)) (tL 8 p (.ifCond .lt 80) 88))) (tB 5 p (tB 6 p (tB 7 p (tL 7 p (.iload_n 2) 0) (tL 6 p (.istore_n 2) 0)) (tL 5 p .iaload 0)) (tB 1 p (tB 4 p (tL 4 p (.iload_n 1) 0) (tL 1 p (.getfield 32) 7)) (tL 0 p (.aload_n 0) 0))))))
def cd22 (p : Nat) : Option (Instr × Nat) := (tB 28 p (tB 40 p (tB 46 p (tB 48 p (tB 49 p (tB 50 p (tL 50 p .return_ 0) (tL 49 p .iastore 0)) (tL 48 p .iadd 0)) (tB 47 p (tL 47 p (.iconst 1) 0) (tL 46 p .iaload 0))) (tB 44 p (tB 45 p (tL 45 p .dup2 0) (tL 44 p (.iload_n 1) 0)) (tB 41 p (tL 41 p (.getfield 56) 15) (tL 40 p (.aload_n 0) 0)))) (tB 33 p (tB 38 p (tB 39 p (tL 39 p .iastore 0) (tL 38 p (.iload_n 3) 0)) (tB 36 p (tL 36 p (.iload 4) 0) (tL 33 p (.getfield 53) 14))) (tB 31 p (tB 32 p (tL 32 p (.aload_n 0) 0) (tL 31 p .iastore 0)) (tB 30 p (tL 30 p (.iload_n 2) 0) (tL 28 p (.iload 4) 0))))) (tB 14 p (tB 20 p (tB 22 p (tB 24 p (tB 25 p (tL 25 p (.getfield 50) 13) (tL 24 p (.aload_n 0) 0)) (tL 22 p (.istore 4) 0)) (tB 21 p (tL 21 p .iadd 0) (tL 20 p .iaload 0))) (tB 16 p (tB 19 p (tL 19 p (.iload_n 1) 0) (tL 16 p (.getfield 56) 15)) (tB 15 p (tL 15 p (.aload_n 0) 0) (tL 14 p .imul 0)))) (tB 6 p (tB 11 p (tB 12 p (tL 12 p (.bipush 32) 0) (tL 11 p (.iload_n 1) 0)) (tB 8 p (tL 8 p (.if_icmp .ge 42) 50) (tL 6 p (.bipush 32) 0))) (tB 4 p (tB 5 p (tL 5 p .iaload 0) (tL 4 p (.iload_n 1) 0)) (tB 1 p (tL 1 p (.getfield 56) 15) (tL 0 p (.aload_n 0) 0))))))
def cd23 (p : Nat) : Option (Instr × Nat) := (tB 9 p (tB 12 p (tB 14 p (tB 17 p (tL 17 p .return_ 0) (tL 14 p (.invokevirtual 88) 13)) (tB 13 p (tL 13 p (.iconst 0) 0) (tL 12 p (.iconst 0) 0))) (tB 10 p (tB 11 p (tL 11 p (.iconst 2) 0) (tL 10 p (.aload_n 0) 0)) (tL 9 p .iastore 0))) (tB 5 p (tB 7 p (tB 8 p (tL 8 p .iadd 0) (tL 7 p (.iconst 1) 0)) (tB 6 p (tL 6 p .iaload 0) (tL 5 p .dup2 0))) (tB 1 p (tB 4 p (tL 4 p (.iconst 3) 0) (tL 1 p (.getfield 20) 3)) (tL 0 p (.aload_n 0) 0))))
def cd24 (p : Nat) : Option (Instr × Nat) := (tB 4 p (tB 5 p (tB 6 p (tL 6 p .ireturn 0) (tL 5 p .iadd 0)) (tL 4 p (.iload_n 1) 0)) (tB 1 p (tL 1 p (.getfield 76) 20) (tL 0 p (.aload_n 0) 0)))
def cd25 (p : Nat) : Option (Instr × Nat) := (tB 23 p (tB 32 p (tB 35 p (tB 37 p (tB 38 p (tL 38 p .return_ 0) (tL 37 p .iastore 0)) (tB 36 p (tL 36 p .iadd 0) (tL 35 p (.iconst 1) 0))) (tB 33 p (tB 34 p (tL 34 p .iaload 0) (tL 33 p .dup2 0)) (tL 32 p (.iload_n 1) 0))) (tB 26 p (tB 28 p (tB 29 p (tL 29 p (.getfield 62) 17) (tL 28 p (.aload_n 0) 0)) (tB 27 p (tL 27 p .iastore 0) (tL 26 p (.iload_n 2) 0))) (tB 24 p (tB 25 p (tL 25 p .iadd 0) (tL 24 p .iaload 0)) (tL 23 p (.iload_n 1) 0)))) (tB 11 p (tB 16 p (tB 19 p (tB 20 p (tL 20 p (.getfield 62) 17) (tL 19 p (.aload_n 0) 0)) (tB 18 p (tL 18 p .imul 0) (tL 16 p (.bipush 32) 0))) (tB 12 p (tB 15 p (tL 15 p (.iload_n 1) 0) (tL 12 p (.getfield 59) 16)) (tL 11 p (.aload_n 0) 0))) (tB 5 p (tB 6 p (tB 8 p (tL 8 p (.if_icmp .ge 30) 38) (tL 6 p (.bipush 32) 0)) (tL 5 p .iaload 0)) (tB 1 p (tB 4 p (tL 4 p (.iload_n 1) 0) (tL 1 p (.getfield 62) 17)) (tL 0 p (.aload_n 0) 0)))))
def cd26 (p : Nat) : Option (Instr × Nat) := (tB 52 p (tB 75 p (tB 84 p (tB 91 p (tB 93 p (tB 94 p (tL 94 p .return_ 0) (tL 93 p .iastore 0)) (tB 92 p (tL 92 p .iadd 0) (tL 91 p (.iconst 1) 0))) (tB 89 p (tB 90 p (tL 90 p .iaload 0) (tL 89 p .dup2 0)) (tB 87 p (tL 87 p (.bipush 7) 0) (tL 84 p (.getfield 20) 3)))) (tB 78 p (tB 80 p (tB 83 p (tL 83 p (.aload_n 0) 0) (tL 80 p (.invokevirtual 165) 27)) (tB 79 p (tL 79 p (.iload_n 1) 0) (tL 78 p (.aload_n 0) 0))) (tB 76 p (tB 77 p (tL 77 p .iastore 0) (tL 76 p .iadd 0)) (tL 75 p (.iconst 1) 0)))) (tB 63 p (tB 69 p (tB 73 p (tB 74 p (tL 74 p .iaload 0) (tL 73 p .dup2 0)) (tB 72 p (tL 72 p (.iconst 5) 0) (tL 69 p (.getfield 20) 3))) (tB 65 p (tB 68 p (tL 68 p (.aload_n 0) 0) (tL 65 p (.putfield 112) 24)) (tB 64 p (tL 64 p .iadd 0) (tL 63 p (.iconst 1) 0)))) (tB 57 p (tB 59 p (tB 60 p (tL 60 p (.getfield 112) 24) (tL 59 p .dup 0)) (tB 58 p (tL 58 p (.aload_n 0) 0) (tL 57 p .iastore 0))) (tB 53 p (tB 56 p (tL 56 p (.iload_n 1) 0) (tL 53 p (.getfield 112) 24)) (tL 52 p (.aload_n 0) 0))))) (tB 26 p (tB 37 p (tB 43 p (tB 48 p (tB 49 p (tL 49 p (.getfield 17) 2) (tL 48 p (.aload_n 0) 0)) (tB 45 p (tL 45 p (.if_icmp .ge 23) 68) (tL 43 p (.bipush 64) 0))) (tB 39 p (tB 40 p (tL 40 p (.getfield 112) 24) (tL 39 p (.aload_n 0) 0)) (tB 38 p (tL 38 p .bastore 0) (tL 37 p (.iconst 1) 0)))) (tB 29 p (tB 33 p (tB 36 p (tL 36 p (.iload_n 1) 0) (tL 33 p (.getfield 13) 1)) (tB 32 p (tL 32 p (.aload_n 0) 0) (tL 29 p (.goto 49) 78))) (tB 27 p (tB 28 p (tL 28 p .iastore 0) (tL 27 p .iadd 0)) (tL 26 p (.iconst 1) 0)))) (tB 13 p (tB 19 p (tB 24 p (tB 25 p (tL 25 p .iaload 0) (tL 24 p .dup2 0)) (tB 22 p (tL 22 p (.bipush 6) 0) (tL 19 p (.getfield 20) 3))) (tB 15 p (tB 18 p (tL 18 p (.aload_n 0) 0) (tL 15 p (.ifCond .eq 17) 32)) (tB 14 p (tL 14 p .baload 0) (tL 13 p (.iload_n 1) 0)))) (tB 5 p (tB 9 p (tB 10 p (tL 10 p (.getfield 13) 1) (tL 9 p (.aload_n 0) 0)) (tB 8 p (tL 8 p .return_ 0) (tL 5 p (.ifCond .ne 4) 9))) (tB 1 p (tB 2 p (tL 2 p (.invokevirtual 115) 18) (tL 1 p (.iload_n 1) 0)) (tL 0 p (.aload_n 0) 0))))))
def cd27 (p : Nat) : Option (Instr × Nat) := (tB 10 p (tB 14 p (tB 20 p (tB 23 p (tL 23 p .return_ 0) (tL 20 p (.goto (-18)) 2)) (tB 17 p (tL 17 p (.iinc 2 1) 0) (tL 14 p (.invokevirtual 121) 16))) (tB 12 p (tB 13 p (tL 13 p (.iconst 0) 0) (tL 12 p (.iconst 0) 0)) (tB 11 p (tL 11 p (.iconst 0) 0) (tL 10 p (.iload_n 1) 0)))) (tB 4 p (tB 8 p (tB 9 p (tL 9 p (.iconst 3) 0) (tL 8 p (.iload_n 2) 0)) (tB 7 p (tL 7 p (.aload_n 0) 0) (tL 4 p (.if_icmp .ge 19) 23))) (tB 2 p (tB 3 p (tL 3 p (.iconst 4) 0) (tL 2 p (.iload_n 2) 0)) (tB 1 p (tL 1 p (.istore_n 2) 0) (tL 0 p (.iconst 0) 0)))))
def cd28 (p : Nat) : Option (Instr × Nat) := (tB 26 p (tB 41 p (tB 47 p (tB 49 p (tB 52 p (tB 53 p (tL 53 p .return_ 0) (tL 52 p .iastore 0)) (tL 49 p (.getfield 79) 21)) (tB 48 p (tL 48 p (.aload_n 0) 0) (tL 47 p (.iload_n 3) 0))) (tB 43 p (tB 44 p (tL 44 p (.getfield 26) 5) (tL 43 p (.aload_n 0) 0)) (tB 42 p (tL 42 p .iastore 0) (tL 41 p (.iconst 3) 0)))) (tB 33 p (tB 37 p (tB 40 p (tL 40 p (.iload_n 3) 0) (tL 37 p (.getfield 23) 4)) (tB 36 p (tL 36 p (.aload_n 0) 0) (tL 33 p (.if_icmp .ne 20) 53))) (tB 30 p (tB 32 p (tL 32 p (.iconst 2) 0) (tL 30 p (.iload 4) 0)) (tB 27 p (tL 27 p (.if_icmp .eq 9) 36) (tL 26 p (.iconst 1) 0))))) (tB 13 p (tB 17 p (tB 21 p (tB 22 p (tB 24 p (tL 24 p (.iload 4) 0) (tL 22 p (.istore 4) 0)) (tL 21 p .iaload 0)) (tB 20 p (tL 20 p (.iload_n 3) 0) (tL 17 p (.getfield 23) 4))) (tB 15 p (tB 16 p (tL 16 p (.aload_n 0) 0) (tL 15 p (.istore_n 3) 0)) (tB 14 p (tL 14 p .iadd 0) (tL 13 p (.iload_n 2) 0)))) (tB 8 p (tB 10 p (tB 12 p (tL 12 p .imul 0) (tL 10 p (.bipush 32) 0)) (tB 9 p (tL 9 p (.iload_n 1) 0) (tL 8 p .return_ 0))) (tB 2 p (tB 5 p (tL 5 p (.ifCond .ne 4) 9) (tL 2 p (.invokevirtual 115) 18)) (tB 1 p (tL 1 p (.iload_n 2) 0) (tL 0 p (.aload_n 0) 0))))))
def cd29 (p : Nat) : Option (Instr × Nat) := (tB 123 p (tB 182 p (tB 212 p (tB 225 p (tB 233 p (tB 239 p (tB 242 p (tB 243 p (tL 243 p .ireturn 0) (tL 242 p (.iconst 1) 0)) (tL 239 p (.goto (-138)) 101)) (tB 236 p (tL 236 p (.iinc 2 1) 0) (tL 233 p (.goto (-94)) 139))) (tB 229 p (tB 230 p (tL 230 p (.iinc 3 1) 0) (tL 229 p .ireturn 0)) (tB 228 p (tL 228 p (.iconst 0) 0) (tL 225 p (.if_icmp .eq 5) 230)))) (tB 216 p (tB 220 p (tB 221 p (tB 222 p (tL 222 p (.invokevirtual 65) 40) (tL 221 p (.iload_n 3) 0)) (tL 220 p (.iload_n 2) 0)) (tB 219 p (tL 219 p (.aload_n 1) 0) (tL 216 p (.invokevirtual 65) 40))) (tB 214 p (tB 215 p (tL 215 p (.iload_n 3) 0) (tL 214 p (.iload_n 2) 0)) (tB 213 p (tL 213 p (.aload_n 0) 0) (tL 212 p .ireturn 0))))) (tB 197 p (tB 203 p (tB 205 p (tB 208 p (tB 211 p (tL 211 p (.iconst 0) 0) (tL 208 p (.if_icmp .eq 5) 213)) (tL 205 p (.invokevirtual 62) 39)) (tB 204 p (tL 204 p (.iload_n 3) 0) (tL 203 p (.iload_n 2) 0))) (tB 199 p (tB 202 p (tL 202 p (.aload_n 1) 0) (tL 199 p (.invokevirtual 62) 39)) (tB 198 p (tL 198 p (.iload_n 3) 0) (tL 197 p (.iload_n 2) 0)))) (tB 188 p (tB 194 p (tB 195 p (tB 196 p (tL 196 p (.aload_n 0) 0) (tL 195 p .ireturn 0)) (tL 194 p (.iconst 0) 0)) (tB 191 p (tL 191 p (.if_icmp .eq 5) 196) (tL 188 p (.invokevirtual 59) 38))) (tB 186 p (tB 187 p (tL 187 p (.iload_n 3) 0) (tL 186 p (.iload_n 2) 0)) (tB 185 p (tL 185 p (.aload_n 1) 0) (tL 182 p (.invokevirtual 59) 38)))))) (tB 154 p (tB 169 p (tB 177 p (tB 179 p (tB 180 p (tB 181 p (tL 181 p (.iload_n 3) 0) (tL 180 p (.iload_n 2) 0)) (tL 179 p (.aload_n 0) 0)) (tB 178 p (tL 178 p .ireturn 0) (tL 177 p (.iconst 0) 0))) (tB 171 p (tB 174 p (tL 174 p (.if_icmp .eq 5) 179) (tL 171 p (.invokevirtual 56) 37)) (tB 170 p (tL 170 p (.iload_n 3) 0) (tL 169 p (.iload_n 2) 0)))) (tB 162 p (tB 164 p (tB 165 p (tB 168 p (tL 168 p (.aload_n 1) 0) (tL 165 p (.invokevirtual 56) 37)) (tL 164 p (.iload_n 3) 0)) (tB 163 p (tL 163 p (.iload_n 2) 0) (tL 162 p (.aload_n 0) 0))) (tB 160 p (tB 161 p (tL 161 p .ireturn 0) (tL 160 p (.iconst 0) 0)) (tB 157 p (tL 157 p (.if_icmp .eq 5) 162) (tL 154 p (.invokevirtual 53) 36))))) (tB 140 p (tB 147 p (tB 151 p (tB 152 p (tB 153 p (tL 153 p (.iload_n 3) 0) (tL 152 p (.iload_n 2) 0)) (tL 151 p (.aload_n 1) 0)) (tB 148 p (tL 148 p (.invokevirtual 53) 36) (tL 147 p (.iload_n 3) 0))) (tB 145 p (tB 146 p (tL 146 p (.iload_n 2) 0) (tL 145 p (.aload_n 0) 0)) (tB 142 p (tL 142 p (.if_icmp .ge 94) 236) (tL 140 p (.bipush 32) 0)))) (tB 131 p (tB 137 p (tB 138 p (tB 139 p (tL 139 p (.iload_n 3) 0) (tL 138 p (.istore_n 3) 0)) (tL 137 p (.iconst 0) 0)) (tB 134 p (tL 134 p (.goto (-26)) 108) (tL 131 p (.iinc 3 1) 0))) (tB 129 p (tB 130 p (tL 130 p .ireturn 0) (tL 129 p (.iconst 0) 0)) (tB 126 p (tL 126 p (.if_icmp .eq 5) 131) (tL 123 p (.invokevirtual 49) 35))))))) (tB 64 p (tB 96 p (tB 109 p (tB 116 p (tB 120 p (tB 121 p (tB 122 p (tL 122 p (.iload_n 3) 0) (tL 121 p (.iload_n 2) 0)) (tL 120 p (.aload_n 1) 0)) (tB 117 p (tL 117 p (.invokevirtual 49) 35) (tL 116 p (.iload_n 3) 0))) (tB 114 p (tB 115 p (tL 115 p (.iload_n 2) 0) (tL 114 p (.aload_n 0) 0)) (tB 111 p (tL 111 p (.if_icmp .ge 26) 137) (tL 109 p (.bipush 8) 0)))) (tB 102 p (tB 106 p (tB 107 p (tB 108 p (tL 108 p (.iload_n 3) 0) (tL 107 p (.istore_n 3) 0)) (tL 106 p (.iconst 0) 0)) (tB 103 p (tL 103 p (.if_icmp .ge 139) 242) (tL 102 p (.iconst 4) 0))) (tB 100 p (tB 101 p (tL 101 p (.iload_n 2) 0) (tL 100 p (.istore_n 2) 0)) (tB 99 p (tL 99 p (.iconst 0) 0) (tL 96 p (.goto (-39)) 57))))) (tB 79 p (tB 85 p (tB 91 p (tB 92 p (tB 93 p (tL 93 p (.iinc 2 1) 0) (tL 92 p .ireturn 0)) (tL 91 p (.iconst 0) 0)) (tB 88 p (tL 88 p (.if_icmp .eq 5) 93) (tL 85 p (.invokevirtual 46) 34))) (tB 83 p (tB 84 p (tL 84 p (.iload_n 2) 0) (tL 83 p (.aload_n 1) 0)) (tB 80 p (tL 80 p (.invokevirtual 46) 34) (tL 79 p (.iload_n 2) 0)))) (tB 70 p (tB 76 p (tB 77 p (tB 78 p (tL 78 p (.aload_n 0) 0) (tL 77 p .ireturn 0)) (tL 76 p (.iconst 0) 0)) (tB 73 p (tL 73 p (.if_icmp .eq 5) 78) (tL 70 p (.invokevirtual 42) 33))) (tB 68 p (tB 69 p (tL 69 p (.iload_n 2) 0) (tL 68 p (.aload_n 1) 0)) (tB 65 p (tL 65 p (.invokevirtual 42) 33) (tL 64 p (.iload_n 2) 0)))))) (tB 31 p (tB 48 p (tB 56 p (tB 58 p (tB 60 p (tB 63 p (tL 63 p (.aload_n 0) 0) (tL 60 p (.if_icmp .ge 39) 99)) (tL 58 p (.bipush 32) 0)) (tB 57 p (tL 57 p (.iload_n 2) 0) (tL 56 p (.istore_n 2) 0))) (tB 52 p (tB 55 p (tL 55 p (.iconst 0) 0) (tL 52 p (.goto (-24)) 28)) (tB 49 p (tL 49 p (.iinc 2 1) 0) (tL 48 p .ireturn 0)))) (tB 39 p (tB 41 p (tB 44 p (tB 47 p (tL 47 p (.iconst 0) 0) (tL 44 p (.if_icmp .eq 5) 49)) (tL 41 p (.invokevirtual 39) 32)) (tB 40 p (tL 40 p (.iload_n 2) 0) (tL 39 p (.aload_n 1) 0))) (tB 35 p (tB 36 p (tL 36 p (.invokevirtual 39) 32) (tL 35 p (.iload_n 2) 0)) (tB 34 p (tL 34 p (.aload_n 0) 0) (tL 31 p (.if_icmp .ge 24) 55))))) (tB 17 p (tB 25 p (tB 27 p (tB 28 p (tB 29 p (tL 29 p (.bipush 10) 0) (tL 28 p (.iload_n 2) 0)) (tL 27 p (.istore_n 2) 0)) (tB 26 p (tL 26 p (.iconst 0) 0) (tL 25 p .ireturn 0))) (tB 21 p (tB 24 p (tL 24 p (.iconst 0) 0) (tL 21 p (.if_icmp .eq 5) 26)) (tB 18 p (tL 18 p (.invokevirtual 36) 31) (tL 17 p (.aload_n 1) 0)))) (tB 8 p (tB 12 p (tB 13 p (tB 14 p (tL 14 p (.invokevirtual 36) 31) (tL 13 p (.aload_n 0) 0)) (tL 12 p .ireturn 0)) (tB 11 p (tL 11 p (.iconst 0) 0) (tL 8 p (.if_icmp .eq 5) 13))) (tB 4 p (tB 5 p (tL 5 p (.invokevirtual 32) 30) (tL 4 p (.aload_n 1) 0)) (tB 1 p (tL 1 p (.invokevirtual 32) 30) (tL 0 p (.aload_n 0) 0))))))))
def cd30 (p : Nat) : Option (Instr × Nat) := (tB 1 p (tB 4 p (tL 4 p .ireturn 0) (tL 1 p (.invokevirtual 105) 14)) (tL 0 p (.aload_n 0) 0))
def cd31 (p : Nat) : Option (Instr × Nat) := (tB 1 p (tB 4 p (tL 4 p .ireturn 0) (tL 1 p (.invokevirtual 109) 8)) (tL 0 p (.aload_n 0) 0))
def cd32 (p : Nat) : Option (Instr × Nat) := (tB 16 p (tB 23 p (tB 27 p (tB 28 p (tB 29 p (tL 29 p .ireturn 0) (tL 28 p .iaload 0)) (tL 27 p (.iload_n 1) 0)) (tB 24 p (tL 24 p (.getfield 20) 3) (tL 23 p (.aload_n 0) 0))) (tB 21 p (tB 22 p (tL 22 p .ireturn 0) (tL 21 p (.iconst (-1)) 0)) (tB 18 p (tL 18 p (.if_icmp .le 5) 23) (tL 16 p (.bipush 9) 0)))) (tB 7 p (tB 11 p (tB 12 p (tB 15 p (tL 15 p (.iload_n 1) 0) (tL 12 p (.ifCond .lt 9) 21)) (tL 11 p (.iload_n 1) 0)) (tB 10 p (tL 10 p .ireturn 0) (tL 7 p (.getfield 112) 24))) (tB 3 p (tB 6 p (tL 6 p (.aload_n 0) 0) (tL 3 p (.if_icmp .ne 8) 11)) (tB 1 p (tL 1 p (.bipush 8) 0) (tL 0 p (.iload_n 1) 0)))))
def cd33 (p : Nat) : Option (Instr × Nat) := (tB 9 p (tB 14 p (tB 15 p (tB 16 p (tL 16 p .ireturn 0) (tL 15 p .baload 0)) (tL 14 p (.iload_n 1) 0)) (tB 10 p (tB 11 p (tL 11 p (.getfield 13) 1) (tL 10 p (.aload_n 0) 0)) (tL 9 p .ireturn 0))) (tB 2 p (tB 5 p (tB 8 p (tL 8 p (.iconst 0) 0) (tL 5 p (.ifCond .ne 5) 10)) (tL 2 p (.invokevirtual 115) 18)) (tB 1 p (tL 1 p (.iload_n 1) 0) (tL 0 p (.aload_n 0) 0))))
def cd34 (p : Nat) : Option (Instr × Nat) := (tB 12 p (tB 15 p (tB 19 p (tB 20 p (tL 20 p .ireturn 0) (tL 19 p .iaload 0)) (tB 18 p (tL 18 p (.iload_n 1) 0) (tL 15 p (.getfield 17) 2))) (tB 13 p (tB 14 p (tL 14 p (.aload_n 0) 0) (tL 13 p .ireturn 0)) (tL 12 p (.iconst (-1)) 0))) (tB 5 p (tB 6 p (tB 9 p (tL 9 p (.if_icmp .lt 5) 14) (tL 6 p (.getfield 112) 24)) (tL 5 p (.aload_n 0) 0)) (tB 1 p (tB 4 p (tL 4 p (.iload_n 1) 0) (tL 1 p (.ifCond .lt 11) 12)) (tL 0 p (.iload_n 1) 0))))
def cd35 (p : Nat) : Option (Instr × Nat) := (tB 56 p (tB 82 p (tB 96 p (tB 105 p (tB 107 p (tB 108 p (tB 110 p (tL 110 p .ireturn 0) (tL 108 p (.bipush (-2)) 0)) (tL 107 p .ireturn 0)) (tB 106 p (tL 106 p .iaload 0) (tL 105 p (.iload_n 1) 0))) (tB 101 p (tB 102 p (tL 102 p (.getfield 47) 12) (tL 101 p (.aload_n 0) 0)) (tB 98 p (tL 98 p (.if_icmp .ne 10) 108) (tL 96 p (.bipush 7) 0)))) (tB 89 p (tB 93 p (tB 94 p (tB 95 p (tL 95 p (.iload_n 2) 0) (tL 94 p .ireturn 0)) (tL 93 p .iaload 0)) (tB 92 p (tL 92 p (.iload_n 1) 0) (tL 89 p (.getfield 44) 11))) (tB 85 p (tB 88 p (tL 88 p (.aload_n 0) 0) (tL 85 p (.if_icmp .ne 10) 95)) (tB 83 p (tL 83 p (.bipush 6) 0) (tL 82 p (.iload_n 2) 0))))) (tB 69 p (tB 75 p (tB 79 p (tB 80 p (tB 81 p (tL 81 p .ireturn 0) (tL 80 p .iaload 0)) (tL 79 p (.iload_n 1) 0)) (tB 76 p (tL 76 p (.getfield 41) 10) (tL 75 p (.aload_n 0) 0))) (tB 71 p (tB 72 p (tL 72 p (.if_icmp .ne 10) 82) (tL 71 p (.iconst 5) 0)) (tB 70 p (tL 70 p (.iload_n 2) 0) (tL 69 p .ireturn 0)))) (tB 60 p (tB 64 p (tB 67 p (tB 68 p (tL 68 p .iaload 0) (tL 67 p (.iload_n 1) 0)) (tL 64 p (.getfield 62) 17)) (tB 63 p (tL 63 p (.aload_n 0) 0) (tL 60 p (.if_icmp .ne 10) 70))) (tB 58 p (tB 59 p (tL 59 p (.iconst 4) 0) (tL 58 p (.iload_n 2) 0)) (tB 57 p (tL 57 p .ireturn 0) (tL 56 p .iaload 0)))))) (tB 28 p (tB 43 p (tB 47 p (tB 51 p (tB 52 p (tB 55 p (tL 55 p (.iload_n 1) 0) (tL 52 p (.getfield 56) 15)) (tL 51 p (.aload_n 0) 0)) (tB 48 p (tL 48 p (.if_icmp .ne 10) 58) (tL 47 p (.iconst 3) 0))) (tB 45 p (tB 46 p (tL 46 p (.iload_n 2) 0) (tL 45 p .ireturn 0)) (tB 44 p (tL 44 p .iaload 0) (tL 43 p (.iload_n 1) 0)))) (tB 34 p (tB 36 p (tB 39 p (tB 40 p (tL 40 p (.getfield 38) 9) (tL 39 p (.aload_n 0) 0)) (tL 36 p (.if_icmp .ne 10) 46)) (tB 35 p (tL 35 p (.iconst 2) 0) (tL 34 p (.iload_n 2) 0))) (tB 32 p (tB 33 p (tL 33 p .ireturn 0) (tL 32 p .iaload 0)) (tB 31 p (tL 31 p (.iload_n 1) 0) (tL 28 p (.getfield 35) 8))))) (tB 15 p (tB 21 p (tB 23 p (tB 24 p (tB 27 p (tL 27 p (.aload_n 0) 0) (tL 24 p (.if_icmp .ne 10) 34)) (tL 23 p (.iconst 1) 0)) (tB 22 p (tL 22 p (.iload_n 2) 0) (tL 21 p .ireturn 0))) (tB 19 p (tB 20 p (tL 20 p .iaload 0) (tL 19 p (.iload_n 1) 0)) (tB 16 p (tL 16 p (.getfield 32) 7) (tL 15 p (.aload_n 0) 0)))) (tB 8 p (tB 11 p (tB 12 p (tL 12 p (.ifCond .ne 10) 22) (tL 11 p (.iload_n 2) 0)) (tB 10 p (tL 10 p .ireturn 0) (tL 8 p (.bipush (-2)) 0))) (tB 2 p (tB 5 p (tL 5 p (.ifCond .ne 6) 11) (tL 2 p (.invokevirtual 92) 5)) (tB 1 p (tL 1 p (.iload_n 1) 0) (tL 0 p (.aload_n 0) 0)))))))
def cd36 (p : Nat) : Option (Instr × Nat) := (tB 17 p (tB 25 p (tB 27 p (tB 28 p (tB 29 p (tL 29 p .ireturn 0) (tL 28 p .iaload 0)) (tL 27 p .iadd 0)) (tB 26 p (tL 26 p (.iload_n 2) 0) (tL 25 p .imul 0))) (tB 19 p (tB 22 p (tB 23 p (tL 23 p (.bipush 32) 0) (tL 22 p (.iload_n 1) 0)) (tL 19 p (.getfield 23) 4)) (tB 18 p (tL 18 p (.aload_n 0) 0) (tL 17 p .ireturn 0)))) (tB 8 p (tB 10 p (tB 13 p (tB 16 p (tL 16 p (.iconst (-1)) 0) (tL 13 p (.ifCond .ne 5) 18)) (tL 10 p (.invokevirtual 115) 18)) (tB 9 p (tL 9 p (.iload_n 2) 0) (tL 8 p (.aload_n 0) 0))) (tB 2 p (tB 5 p (tL 5 p (.ifCond .eq 11) 16) (tL 2 p (.invokevirtual 92) 5)) (tB 1 p (tL 1 p (.iload_n 1) 0) (tL 0 p (.aload_n 0) 0)))))
def cd37 (p : Nat) : Option (Instr × Nat) := (tB 17 p (tB 25 p (tB 27 p (tB 28 p (tB 29 p (tL 29 p .ireturn 0) (tL 28 p .iaload 0)) (tL 27 p .iadd 0)) (tB 26 p (tL 26 p (.iload_n 2) 0) (tL 25 p .imul 0))) (tB 19 p (tB 22 p (tB 23 p (tL 23 p (.bipush 32) 0) (tL 22 p (.iload_n 1) 0)) (tL 19 p (.getfield 26) 5)) (tB 18 p (tL 18 p (.aload_n 0) 0) (tL 17 p .ireturn 0)))) (tB 8 p (tB 10 p (tB 13 p (tB 16 p (tL 16 p (.iconst (-1)) 0) (tL 13 p (.ifCond .ne 5) 18)) (tL 10 p (.invokevirtual 115) 18)) (tB 9 p (tL 9 p (.iload_n 2) 0) (tL 8 p (.aload_n 0) 0))) (tB 2 p (tB 5 p (tL 5 p (.ifCond .eq 11) 16) (tL 2 p (.invokevirtual 92) 5)) (tB 1 p (tL 1 p (.iload_n 1) 0) (tL 0 p (.aload_n 0) 0)))))
def cd38 (p : Nat) : Option (Instr × Nat) := (tB 19 p (tB 29 p (tB 33 p (tB 34 p (tB 35 p (tL 35 p .ireturn 0) (tL 34 p .iaload 0)) (tL 33 p .iadd 0)) (tB 31 p (tB 32 p (tL 32 p (.iload_n 2) 0) (tL 31 p .imul 0)) (tL 29 p (.bipush 32) 0))) (tB 24 p (tB 25 p (tB 28 p (tL 28 p (.iload_n 1) 0) (tL 25 p (.getfield 50) 13)) (tL 24 p (.aload_n 0) 0)) (tB 22 p (tB 23 p (tL 23 p .ireturn 0) (tL 22 p (.iconst (-1)) 0)) (tL 19 p (.if_icmp .lt 5) 24)))) (tB 9 p (tB 14 p (tB 17 p (tB 18 p (tL 18 p .iaload 0) (tL 17 p (.iload_n 1) 0)) (tL 14 p (.getfield 56) 15)) (tB 12 p (tB 13 p (tL 13 p (.aload_n 0) 0) (tL 12 p (.iload_n 2) 0)) (tL 9 p (.ifCond .lt 13) 22))) (tB 2 p (tB 5 p (tB 8 p (tL 8 p (.iload_n 2) 0) (tL 5 p (.ifCond .eq 17) 22)) (tL 2 p (.invokevirtual 92) 5)) (tB 1 p (tL 1 p (.iload_n 1) 0) (tL 0 p (.aload_n 0) 0)))))
def cd39 (p : Nat) : Option (Instr × Nat) := (tB 19 p (tB 29 p (tB 33 p (tB 34 p (tB 35 p (tL 35 p .ireturn 0) (tL 34 p .iaload 0)) (tL 33 p .iadd 0)) (tB 31 p (tB 32 p (tL 32 p (.iload_n 2) 0) (tL 31 p .imul 0)) (tL 29 p (.bipush 32) 0))) (tB 24 p (tB 25 p (tB 28 p (tL 28 p (.iload_n 1) 0) (tL 25 p (.getfield 53) 14)) (tL 24 p (.aload_n 0) 0)) (tB 22 p (tB 23 p (tL 23 p .ireturn 0) (tL 22 p (.iconst (-1)) 0)) (tL 19 p (.if_icmp .lt 5) 24)))) (tB 9 p (tB 14 p (tB 17 p (tB 18 p (tL 18 p .iaload 0) (tL 17 p (.iload_n 1) 0)) (tL 14 p (.getfield 56) 15)) (tB 12 p (tB 13 p (tL 13 p (.aload_n 0) 0) (tL 12 p (.iload_n 2) 0)) (tL 9 p (.ifCond .lt 13) 22))) (tB 2 p (tB 5 p (tB 8 p (tL 8 p (.iload_n 2) 0) (tL 5 p (.ifCond .eq 17) 22)) (tL 2 p (.invokevirtual 92) 5)) (tB 1 p (tL 1 p (.iload_n 1) 0) (tL 0 p (.aload_n 0) 0)))))
def cd40 (p : Nat) : Option (Instr × Nat) := (tB 19 p (tB 29 p (tB 33 p (tB 34 p (tB 35 p (tL 35 p .ireturn 0) (tL 34 p .iaload 0)) (tL 33 p .iadd 0)) (tB 31 p (tB 32 p (tL 32 p (.iload_n 2) 0) (tL 31 p .imul 0)) (tL 29 p (.bipush 32) 0))) (tB 24 p (tB 25 p (tB 28 p (tL 28 p (.iload_n 1) 0) (tL 25 p (.getfield 59) 16)) (tL 24 p (.aload_n 0) 0)) (tB 22 p (tB 23 p (tL 23 p .ireturn 0) (tL 22 p (.iconst (-1)) 0)) (tL 19 p (.if_icmp .lt 5) 24)))) (tB 9 p (tB 14 p (tB 17 p (tB 18 p (tL 18 p .iaload 0) (tL 17 p (.iload_n 1) 0)) (tL 14 p (.getfield 62) 17)) (tB 12 p (tB 13 p (tL 13 p (.aload_n 0) 0) (tL 12 p (.iload_n 2) 0)) (tL 9 p (.ifCond .lt 13) 22))) (tB 2 p (tB 5 p (tB 8 p (tL 8 p (.iload_n 2) 0) (tL 5 p (.ifCond .eq 17) 22)) (tL 2 p (.invokevirtual 92) 5)) (tB 1 p (tL 1 p (.iload_n 1) 0) (tL 0 p (.aload_n 0) 0)))))
def pCode (m pc : Nat) : Option (Instr × Nat) := bif Nat.ble pN m then none else bif Nat.ble pTop pc then none else (bif Nat.ble 20 m then (bif Nat.ble 30 m then (bif Nat.ble 35 m then (bif Nat.ble 38 m then (bif Nat.ble 39 m then (bif Nat.ble 40 m then cd40 pc else cd39 pc) else cd38 pc) else (bif Nat.ble 36 m then (bif Nat.ble 37 m then cd37 pc else cd36 pc) else cd35 pc)) else (bif Nat.ble 32 m then (bif Nat.ble 33 m then (bif Nat.ble 34 m then cd34 pc else cd33 pc) else cd32 pc) else (bif Nat.ble 31 m then cd31 pc else cd30 pc))) else (bif Nat.ble 25 m then (bif Nat.ble 27 m then (bif Nat.ble 28 m then (bif Nat.ble 29 m then cd29 pc else cd28 pc) else cd27 pc) else (bif Nat.ble 26 m then cd26 pc else cd25 pc)) else (bif Nat.ble 22 m then (bif Nat.ble 23 m then (bif Nat.ble 24 m then cd24 pc else cd23 pc) else cd22 pc) else (bif Nat.ble 21 m then cd21 pc else cd20 pc)))) else (bif Nat.ble 10 m then (bif Nat.ble 15 m then (bif Nat.ble 17 m then (bif Nat.ble 18 m then (bif Nat.ble 19 m then cd19 pc else cd18 pc) else cd17 pc) else (bif Nat.ble 16 m then cd16 pc else cd15 pc)) else (bif Nat.ble 12 m then (bif Nat.ble 13 m then (bif Nat.ble 14 m then cd14 pc else cd13 pc) else cd12 pc) else (bif Nat.ble 11 m then cd11 pc else cd10 pc))) else (bif Nat.ble 5 m then (bif Nat.ble 7 m then (bif Nat.ble 8 m then (bif Nat.ble 9 m then cd9 pc else cd8 pc) else cd7 pc) else (bif Nat.ble 6 m then cd6 pc else cd5 pc)) else (bif Nat.ble 2 m then (bif Nat.ble 3 m then (bif Nat.ble 4 m then cd4 pc else cd3 pc) else cd2 pc) else (bif Nat.ble 1 m then cd1 pc else cd0 pc)))))
def lkF : List (Nat × Nat × Nat) := [(1, 7, 0), (1, 13, 1), (1, 17, 2), (1, 20, 3), (1, 23, 4), (1, 26, 5), (1, 29, 6), (1, 32, 7), (1, 35, 8), (1, 38, 9), (1, 41, 10), (1, 44, 11), (1, 47, 12), (1, 50, 13), (1, 53, 14), (1, 56, 15), (1, 59, 16), (1, 62, 17), (1, 65, 18), (1, 72, 19), (1, 76, 20), (1, 79, 21), (1, 82, 22), (1, 85, 23), (1, 112, 24), (1, 156, 25)]
def lkN : List (Nat × Nat) := [(0, 7)]
def lkC : List (Nat × Nat × Nat) := []
def lkD : List (Nat × Nat × Nat) := []
def lkV : List (Nat × Nat × Nat) := [(0, 9, 1), (1, 68, 2), (0, 12, 3), (0, 16, 4), (1, 92, 5), (0, 23, 6), (1, 96, 7), (1, 109, 8), (1, 99, 9), (1, 159, 10), (1, 143, 11), (1, 102, 12), (1, 88, 13), (1, 105, 14), (1, 118, 15), (1, 121, 16), (1, 125, 17), (1, 115, 18), (1, 129, 19), (1, 133, 20), (1, 136, 21), (1, 153, 22), (0, 20, 23), (1, 146, 24), (1, 150, 25), (1, 162, 26), (1, 165, 27), (1, 140, 28), (0, 26, 29), (0, 32, 30), (0, 36, 31), (0, 39, 32), (0, 42, 33), (0, 46, 34), (0, 49, 35), (0, 53, 36), (0, 56, 37), (0, 59, 38), (0, 62, 39), (0, 65, 40)]
def lkO : List (Nat × Nat) := [(1, 1)]
def mV : List Nat := [3, 4, 6, 23, 30, 31, 32, 33, 34, 35, 36, 37, 38, 39, 40]
def mP : List Nat := [2, 5, 7, 8, 9, 10, 11, 12, 13, 14, 15, 16, 17, 18, 19, 20, 21, 22, 24, 25, 26, 27, 28]
def mS : List Nat := [29]
def mI : List Nat := [1]
def mA : List Nat := [1, 2, 3, 4, 5, 6, 7, 8, 9, 10, 11, 12, 13, 14, 15, 16, 17, 18, 19, 20, 21, 22, 23, 24, 25, 26, 27, 28, 29, 30, 31, 32, 33, 34, 35, 36, 37, 38, 39, 40]
def aTys : List FieldType := [.int, .boolean]
abbrev QCell := List Value ⊕ ((FieldType × List Int32) ⊕ List Int64)
abbrev QHeap := List QCell
abbrev QLoc := List (Option Value)
abbrev vI (x : Int32) : Option Value := some (.int x)
abbrev vR (a : Addr) : Option Value := some (.ref a)
abbrev QSt := Nat × QLoc × List Value × QHeap
def qv (ad : Nat → Addr) : Value → Value
 | .ref k => .ref (ad k)
 | v => v
def qsz : QCell → Nat
 | .inl _ => cN
 | .inr (.inl x) => x.2.length
 | .inr (.inr x) => x.length
def qhs : QHeap → Nat
 | [] => 0
 | c :: t => qsz c + qhs t
def aget {α : Type} (xs : List α) (j : Int32) : Option α := if j < 0 then none else xs[j.toNatClampNeg]?
def aset {α : Type} (xs : List α) (j : Int32) (v : α) : Option (List α) := if j < 0 then none else if j.toNatClampNeg < xs.length then some (xs.set j.toNatClampNeg v) else none
def qnew (n : Int32) : Option Nat := if n < 0 then none else if n.toNatClampNeg ≤ 67108864 then some n.toNatClampNeg else none
def qdiv (x y : Int32) : Option Int32 := if y = 0 then none else some (x / y)
def qrem (x y : Int32) : Option Int32 := if y = 0 then none else some (x % y)
def qboo (x : Int32) : Option Int32 := if x = 0 then some x else if x = 1 then some x else none
def lget : QLoc → Nat → Option Value
 | [], _ => none
 | v :: _, 0 => v
 | _ :: t, k + 1 => lget t k
def hget : QHeap → Nat → Option QCell
 | [], _ => none
 | v :: _, 0 => some v
 | _ :: t, k + 1 => hget t k
def vget : List Value → Nat → Option Value
 | [], _ => none
 | v :: _, 0 => some v
 | _ :: t, k + 1 => vget t k
def lkill (L : QLoc) : Nat → QLoc
 | 0 => L
 | k + 1 => match lget L k with
  | some (.long _) => L.set k none
  | some (.double _) => L.set k none
  | _ => L
def lput (L : QLoc) (k : Nat) (v : Value) : Option QLoc :=
 match v with
 | .long x => bif Nat.ble (k + 2) L.length then some (((lkill L k).set k (some (.long x))).set (k + 1) none) else none
 | .double _ => none
 | v => bif Nat.ble (k + 1) L.length then some ((lkill L k).set k (some v)) else none
def qload (pc : Nat) (L : QLoc) (S : List Value) (σ : QHeap) (k : Nat) (ok : Value → Bool) : Option QSt :=
 match lget L k with
 | some v => bif ok v then some (pc, L, v :: S, σ) else none
 | none => none
def isI : Value → Bool | .int _ => true | _ => false
def isJ : Value → Bool | .long _ => true | _ => false
def isR : Value → Bool | .ref _ => true | _ => false
def qstore (pc : Nat) (L : QLoc) (S : List Value) (σ : QHeap) (k : Nat) (ok : Value → Bool) : Option QSt :=
 match S with
 | v :: S' => bif ok v then (match lput L k v with | some L' => some (pc, L', S', σ) | none => none) else none
 | [] => none
def qbin (pc : Nat) (L : QLoc) (S : List Value) (σ : QHeap) (f : Int32 → Int32 → Int32) : Option QSt :=
 match S with
 | .int y :: .int x :: S' => some (pc, L, .int (f x y) :: S', σ)
 | _ => none
def qbino (pc : Nat) (L : QLoc) (S : List Value) (σ : QHeap) (f : Int32 → Int32 → Option Int32) : Option QSt :=
 match S with
 | .int y :: .int x :: S' => (f x y).bind fun z => some (pc, L, .int z :: S', σ)
 | _ => none
def qbinJ (pc : Nat) (L : QLoc) (S : List Value) (σ : QHeap) (f : Int64 → Int64 → Int64) : Option QSt :=
 match S with
 | .long y :: .long x :: S' => some (pc, L, .long (f x y) :: S', σ)
 | _ => none
def qshJ (pc : Nat) (L : QLoc) (S : List Value) (σ : QHeap) (f : Int64 → Int32 → Int64) : Option QSt :=
 match S with
 | .int y :: .long x :: S' => some (pc, L, .long (f x y) :: S', σ)
 | _ => none
def quni (pc : Nat) (L : QLoc) (S : List Value) (σ : QHeap) (f : Int32 → Value) : Option QSt :=
 match S with
 | .int x :: S' => some (pc, L, f x :: S', σ)
 | _ => none
def quniJ (pc : Nat) (L : QLoc) (S : List Value) (σ : QHeap) (f : Int64 → Value) : Option QSt :=
 match S with
 | .long x :: S' => some (pc, L, f x :: S', σ)
 | _ => none
def qald (pc : Nat) (L : QLoc) (S : List Value) (σ : QHeap) (ok : FieldType → Bool) : Option QSt :=
 match S with
 | .int j :: .ref a :: S' => (match hget σ a with
  | some (.inr (.inl x)) => bif ok x.1 then (aget x.2 j).bind fun v => some (pc, L, .int v :: S', σ) else none
  | _ => none)
 | _ => none
def qaldJ (pc : Nat) (L : QLoc) (S : List Value) (σ : QHeap) : Option QSt :=
 match S with
 | .int j :: .ref a :: S' => (match hget σ a with
  | some (.inr (.inr x)) => (aget x j).bind fun v => some (pc, L, .long v :: S', σ)
  | _ => none)
 | _ => none
def qnar : FieldType → Int32 → Int32
 | .boolean, x => x &&& 1
 | .byte, x => x.toInt8.toInt32
 | _, x => x
def qast (pc : Nat) (L : QLoc) (S : List Value) (σ : QHeap) (ok : FieldType → Bool) : Option QSt :=
 match S with
 | .int v :: .int j :: .ref a :: S' => (match hget σ a with
  | some (.inr (.inl x)) => bif ok x.1 && Nat.ble k0 a then (aset x.2 j (qnar x.1 v)).bind fun y => some (pc, L, S', σ.set a (.inr (.inl (x.1, y)))) else none
  | _ => none)
 | _ => none
def qastJ (pc : Nat) (L : QLoc) (S : List Value) (σ : QHeap) : Option QSt :=
 match S with
 | .long v :: .int j :: .ref a :: S' => (match hget σ a with
  | some (.inr (.inr x)) => bif Nat.ble k0 a then (aset x j v).bind fun y => some (pc, L, S', σ.set a (.inr (.inr y))) else none
  | _ => none)
 | _ => none
def tyI : FieldType → Bool | .int => true | _ => false
def tyB : FieldType → Bool | .boolean => true | .byte => true | _ => false
def qfit : FieldType → Value → Option Value
 | .int, .int x => some (.int x)
 | .boolean, .int x => (qboo x).bind fun y => some (.int y)
 | .long, .long x => some (.long x)
 | .array t, .ref a => some (.ref a)
 | _, _ => none
def qget (pc : Nat) (L : QLoc) (S : List Value) (σ : QHeap) (k : Nat) : Option QSt :=
 match S with
 | .ref a :: S' => (match hget σ a with
  | some (.inl vs) => (match vget vs k with | some v => some (pc, L, v :: S', σ) | none => none)
  | _ => none)
 | _ => none
def qput (pc : Nat) (L : QLoc) (S : List Value) (σ : QHeap) (k : Nat) : Option QSt :=
 match S with
 | v :: .ref a :: S' => (match hget σ a with
  | some (.inl vs) => bif Nat.ble k0 a && Nat.ble (k + 1) vs.length then (qfit (fTy k) v).bind fun w => some (pc, L, S', σ.set a (.inl (vs.set k w))) else none
  | _ => none)
 | _ => none
def qnewA (pc : Nat) (L : QLoc) (S : List Value) (σ : QHeap) (t : ArrayType) : Option QSt :=
 match S with
 | .int n :: S' => (match t with
  | .int => (qnew n).bind fun k => some (pc, L, .ref σ.length :: S', σ ++ [.inr (.inl (.int, List.replicate k 0))])
  | .boolean => (qnew n).bind fun k => some (pc, L, .ref σ.length :: S', σ ++ [.inr (.inl (.boolean, List.replicate k 0))])
  | .byte => (qnew n).bind fun k => some (pc, L, .ref σ.length :: S', σ ++ [.inr (.inl (.byte, List.replicate k 0))])
  | .long => (qnew n).bind fun k => some (pc, L, .ref σ.length :: S', σ ++ [.inr (.inr (List.replicate k 0))])
  | _ => none)
 | _ => none
def qlen (pc : Nat) (L : QLoc) (S : List Value) (σ : QHeap) : Option QSt :=
 match S with
 | .ref a :: S' => (match hget σ a with
  | some (.inr (.inl x)) => some (pc, L, .int x.2.length.toInt32 :: S', σ)
  | some (.inr (.inr x)) => some (pc, L, .int x.length.toInt32 :: S', σ)
  | _ => none)
 | _ => none
def qdup (pc : Nat) (L : QLoc) (S : List Value) (σ : QHeap) : Option QSt :=
 match S with
 | .int x :: S' => some (pc, L, .int x :: .int x :: S', σ)
 | .ref x :: S' => some (pc, L, .ref x :: .ref x :: S', σ)
 | _ => none
def qdup2 (pc : Nat) (L : QLoc) (S : List Value) (σ : QHeap) : Option QSt :=
 match S with
 | .int x :: .ref y :: S' => some (pc, L, .int x :: .ref y :: .int x :: .ref y :: S', σ)
 | .int x :: .int y :: S' => some (pc, L, .int x :: .int y :: .int x :: .int y :: S', σ)
 | .long x :: S' => some (pc, L, .long x :: .long x :: S', σ)
 | _ => none
def qpop (pc : Nat) (L : QLoc) (S : List Value) (σ : QHeap) : Option QSt :=
 match S with
 | .int _ :: S' => some (pc, L, S', σ)
 | .ref _ :: S' => some (pc, L, S', σ)
 | _ => none
def qif (pc : Nat) (L : QLoc) (S : List Value) (σ : QHeap) (cd : ClassFile.Cond) (tgt : Nat) : Option QSt :=
 match S with
 | .int x :: S' => some (bif ifCond.holds cd x then tgt else pc, L, S', σ)
 | _ => none
def qicmp (pc : Nat) (L : QLoc) (S : List Value) (σ : QHeap) (cd : ClassFile.Cond) (tgt : Nat) : Option QSt :=
 match S with
 | .int y :: .int x :: S' => some (bif if_icmp.holds cd x y then tgt else pc, L, S', σ)
 | _ => none
def qinc (pc : Nat) (L : QLoc) (S : List Value) (σ : QHeap) (k : Nat) (i : Int) : Option QSt :=
 match lget L k with
 | some (.int x) => (match lput L k (.int (x + Int32.ofInt i)) with | some L' => some (pc, L', S, σ) | none => none)
 | _ => none
def qldc (pc : Nat) (L : QLoc) (S : List Value) (σ : QHeap) (k : Nat) : Option QSt :=
 match vget cK k with
 | some v => some (pc, L, v :: S, σ)
 | none => none
def qexec (pc : Nat) (L : QLoc) (S : List Value) (σ : QHeap) (aux : Nat) : Instr → Option QSt
 | .aload_n k => qload (pc + 1) L S σ k.val isR
 | .aload k => qload (pc + 2) L S σ k isR
 | .iload_n k => qload (pc + 1) L S σ k.val isI
 | .iload k => qload (pc + 2) L S σ k isI
 | .lload_n k => qload (pc + 1) L S σ k.val isJ
 | .lload k => qload (pc + 2) L S σ k isJ
 | .iconst i => some (pc + 1, L, .int (Int32.ofInt i) :: S, σ)
 | .bipush i => some (pc + 2, L, .int (Int8.ofInt i).toInt32 :: S, σ)
 | .sipush i => some (pc + 3, L, .int (Int16.ofInt i).toInt32 :: S, σ)
 | .lconst k => some (pc + 1, L, .long (Int64.ofNat k.val) :: S, σ)
 | .ldc _ => qldc (pc + 2) L S σ aux
 | .ldc2_w _ => qldc (pc + 3) L S σ aux
 | .istore_n k => qstore (pc + 1) L S σ k.val isI
 | .istore k => qstore (pc + 2) L S σ k isI
 | .lstore_n k => qstore (pc + 1) L S σ k.val isJ
 | .lstore k => qstore (pc + 2) L S σ k isJ
 | .astore_n k => qstore (pc + 1) L S σ k.val isR
 | .astore k => qstore (pc + 2) L S σ k isR
 | .iinc k i => qinc (pc + 3) L S σ k i
 | .iadd => qbin (pc + 1) L S σ fun x y => x + y
 | .isub => qbin (pc + 1) L S σ fun x y => x - y
 | .imul => qbin (pc + 1) L S σ fun x y => x * y
 | .iand => qbin (pc + 1) L S σ fun x y => x &&& y
 | .ior => qbin (pc + 1) L S σ fun x y => x ||| y
 | .ixor => qbin (pc + 1) L S σ fun x y => x ^^^ y
 | .ishl => qbin (pc + 1) L S σ fun x y => x <<< (y &&& 31)
 | .ishr => qbin (pc + 1) L S σ fun x y => x >>> (y &&& 31)
 | .iushr => qbin (pc + 1) L S σ fun x y => XT.ushr x y
 | .idiv => qbino (pc + 1) L S σ qdiv
 | .irem => qbino (pc + 1) L S σ qrem
 | .ineg => quni (pc + 1) L S σ fun x => .int (-x)
 | .i2l => quni (pc + 1) L S σ fun x => .long x.toInt64
 | .i2b => quni (pc + 1) L S σ fun x => .int x.toInt8.toInt32
 | .l2i => quniJ (pc + 1) L S σ fun x => .int x.toInt32
 | .lneg => quniJ (pc + 1) L S σ fun x => .long (-x)
 | .ladd => qbinJ (pc + 1) L S σ fun x y => x + y
 | .lsub => qbinJ (pc + 1) L S σ fun x y => x - y
 | .lmul => qbinJ (pc + 1) L S σ fun x y => x * y
 | .land => qbinJ (pc + 1) L S σ fun x y => x &&& y
 | .lor => qbinJ (pc + 1) L S σ fun x y => x ||| y
 | .lxor => qbinJ (pc + 1) L S σ fun x y => x ^^^ y
 | .lshl => qshJ (pc + 1) L S σ fun x y => x <<< (y.toInt64 &&& 63)
 | .lshr => qshJ (pc + 1) L S σ fun x y => x >>> (y.toInt64 &&& 63)
 | .lushr => qshJ (pc + 1) L S σ fun x y => XT.ushrL x y
 | .lcmp => (match S with
  | .long y :: .long x :: S' => some (pc + 1, L, .int (XT.cmpL x y) :: S', σ)
  | _ => none)
 | .goto _ => some (aux, L, S, σ)
 | .ifCond cd _ => qif (pc + 3) L S σ cd aux
 | .if_icmp cd _ => qicmp (pc + 3) L S σ cd aux
 | .dup => qdup (pc + 1) L S σ
 | .dup2 => qdup2 (pc + 1) L S σ
 | .pop => qpop (pc + 1) L S σ
 | .getfield _ => qget (pc + 3) L S σ aux
 | .putfield _ => qput (pc + 3) L S σ aux
 | .iaload => qald (pc + 1) L S σ tyI
 | .baload => qald (pc + 1) L S σ tyB
 | .laload => qaldJ (pc + 1) L S σ
 | .iastore => qast (pc + 1) L S σ tyI
 | .bastore => qast (pc + 1) L S σ tyB
 | .lastore => qastJ (pc + 1) L S σ
 | .arraylength => qlen (pc + 1) L S σ
 | .newarray t => qnewA (pc + 2) L S σ t
 | .new _ => some (pc + 3, L, .ref σ.length :: S, σ ++ [.inl cDef])
 | _ => none
def qstep (m : Nat) (st : QSt) : Option QSt :=
 match pCode m st.1 with
 | some (i, aux) => qexec st.1 st.2.1 st.2.2.1 st.2.2.2 aux i
 | none => none
def qsteps (m : Nat) : Nat → QSt → Option QSt
 | 0, st => some st
 | n + 1, st => match qstep m st with | some st' => qsteps m n st' | none => none
def qentry (args : List Value) (mx : Nat) : QLoc := (args.flatMap fun v => match v with | .long x => [some (.long x), none] | .double x => [some (.double x), none] | v => [some v]) ++ List.replicate (mx - (args.map fun v => v.category).sum) none
def ilen : Instr → Nat
 | .aload _ | .iload _ | .lload _ | .istore _ | .lstore _ | .astore _ | .bipush _ | .ldc _ | .newarray _ => 2
 | .sipush _ | .ldc2_w _ | .iinc _ _ | .goto _ | .ifCond _ _ | .if_icmp _ _ | .getfield _ | .putfield _ | .new _ | .invokevirtual _ | .invokespecial _ | .invokestatic _ => 3
 | _ => 1
def qtgt (pc : Nat) (o : Int) (aux : Nat) : Bool := decide (0 ≤ (pc : Int) + o) && decide (((pc : Int) + o).toNat = aux)
def qlk (m pc : Nat) (i : Instr) (aux : Nat) : Bool :=
 match i with
 | .goto o => qtgt pc o aux
 | .ifCond _ o => qtgt pc o aux
 | .if_icmp _ o => qtgt pc o aux
 | .getfield idx => lkF.contains (pK m, idx, aux)
 | .putfield idx => lkF.contains (pK m, idx, aux) && (!fFin aux || (pK m == 1 && pNm m == "<init>"))
 | .new idx => lkN.contains (pK m, idx)
 | .newarray t => aTys.contains (newarray.typeOf t)
 | .ldc idx => lkC.contains (pK m, idx, aux)
 | .ldc2_w idx => lkD.contains (pK m, idx, aux)
 | _ => true
def qchk (m pc : Nat) (i : Instr) (aux : Nat) : Bool := decide (decode (pBytes m) pc = .ok (i, ilen i)) && qlk m pc i aux
def QCellOk (Z : State) (ad : Nat → Addr) (h : Heap) (a : Addr) : QCell → Prop
 | .inl vs => Exa Z h a cName ∧ vs.length = nF ∧ ∀ (k : Nat) (v : Value), k < nF → vget vs k = some v → Fld Z h a cName (fNm k) (fDs k) (qv ad v)
 | .inr (.inl x) => ∃ c : Cell, Arr Z h a c x.1 ∧ c.slots = (x.2.map Value.int).toArray
 | .inr (.inr x) => ∃ c : Cell, Arr Z h a c .long ∧ c.slots = (x.map Value.long).toArray
def QAd (n0 : Nat) (ad : Nat → Addr) : Prop := (∀ k, k0 ≤ k → ad k = n0 + (k - k0)) ∧ ∀ i j, ad i = ad j → i = j
def QRep (Z : State) (n0 : Nat) (ad : Nat → Addr) (h : Heap) (σ : QHeap) : Prop := k0 ≤ σ.length ∧ h.size = n0 + (σ.length - k0) ∧ ∀ k c, hget σ k = some c → QCellOk Z ad h (ad k) c
def QLocOk (ad : Nat → Addr) (L : QLoc) (C : Array Slot) : Prop :=
 L.length = C.size ∧ (∀ k v, lget L k = some v → C[k]? = some (.val (qv ad v))) ∧ (∀ k w, C[k]? = some (.val w) → w.category = 2 → C[k + 1]? = some .second) ∧ ∀ k, C[k]? = some .second → ∃ j w, k = j + 1 ∧ C[j]? = some (.val w) ∧ w.category = 2
def QW (Z : State) (a0 : Array Value) : Prop :=
 (∀ t ∈ lkF, (Cond.fieldLink (kName t.1) t.2.1 cName (fNm t.2.2) (fDs t.2.2)).before a0 Z = true) ∧
 (∀ t ∈ lkN, (Cond.classLink (kName t.1) t.2 cName).before a0 Z = true) ∧
 (∀ t ∈ lkC, ∃ v, vget cK t.2.2 = some (.int v) ∧ (Cond.constant (kName t.1) t.2.1 v).before a0 Z = true) ∧
 (∀ t ∈ lkD, ∃ v, vget cK t.2.2 = some (.long v) ∧ (Cond.constantLong (kName t.1) t.2.1 v).before a0 Z = true) ∧
 (∀ t ∈ lkV, (Cond.methodLink (kName t.1) t.2.1 (pName t.2.2)).before a0 Z = true) ∧
 (∀ t ∈ lkO, (Cond.methodLink (kName t.1) t.2 Lib.objectInit).before a0 Z = true) ∧
 (∀ m ∈ mV, (Cond.declares (pName m)).before a0 Z = true ∧ (Cond.selects cName (pName m) (pName m)).before a0 Z = true ∧ (Cond.instanceMethod (pName m)).before a0 Z = true) ∧
 (∀ m ∈ mP, (Cond.instanceMethod (pName m)).before a0 Z = true ∧ (Cond.privateMethod (pName m)).before a0 Z = true) ∧
 (∀ m ∈ mS, (Cond.static (pName m)).before a0 Z = true) ∧
 (∀ m ∈ mI, (Cond.instanceMethod (pName m)).before a0 Z = true) ∧
 (∀ m ∈ mA, (Cond.code (pName m) (pBytes m) (pMaxL m) (pRet m)).before a0 Z = true ∧ (Cond.initialized (kName (pK m))).before a0 Z = true) ∧
 (Cond.instanceMethod Lib.objectInit).before a0 Z = true ∧ (Cond.code Lib.objectInit ⟨#[0xb1]⟩ 1 none).before a0 Z = true ∧
 (∀ k, k < nF → bif fFin k then (Cond.laysFinal cName cName (fNm k) (fDs k)).before a0 Z = true else (Cond.lays cName cName (fNm k) (fDs k)).before a0 Z = true) ∧
 (Cond.instantiable cName cN).before a0 Z = true ∧ (Cond.initialized cName).before a0 Z = true ∧
 ∀ ty ∈ aTys, (Cond.arrayClass ty).before a0 Z = true
section Words
variable {Z : State} {a0 : Array Value}
theorem qw_fl (W : QW Z a0) : ∀ t ∈ lkF, (Cond.fieldLink (kName t.1) t.2.1 cName (fNm t.2.2) (fDs t.2.2)).before a0 Z = true := W.1
theorem qw_nw (W : QW Z a0) : ∀ t ∈ lkN, (Cond.classLink (kName t.1) t.2 cName).before a0 Z = true := W.2.1
theorem qw_cI (W : QW Z a0) : ∀ t ∈ lkC, ∃ v, vget cK t.2.2 = some (.int v) ∧ (Cond.constant (kName t.1) t.2.1 v).before a0 Z = true := W.2.2.1
theorem qw_cJ (W : QW Z a0) : ∀ t ∈ lkD, ∃ v, vget cK t.2.2 = some (.long v) ∧ (Cond.constantLong (kName t.1) t.2.1 v).before a0 Z = true := W.2.2.2.1
theorem qw_ml (W : QW Z a0) : ∀ t ∈ lkV, (Cond.methodLink (kName t.1) t.2.1 (pName t.2.2)).before a0 Z = true := W.2.2.2.2.1
theorem qw_mo (W : QW Z a0) : ∀ t ∈ lkO, (Cond.methodLink (kName t.1) t.2 Lib.objectInit).before a0 Z = true := W.2.2.2.2.2.1
theorem qw_vi (W : QW Z a0) : ∀ m ∈ mV, (Cond.declares (pName m)).before a0 Z = true ∧ (Cond.selects cName (pName m) (pName m)).before a0 Z = true ∧ (Cond.instanceMethod (pName m)).before a0 Z = true := W.2.2.2.2.2.2.1
theorem qw_pr (W : QW Z a0) : ∀ m ∈ mP, (Cond.instanceMethod (pName m)).before a0 Z = true ∧ (Cond.privateMethod (pName m)).before a0 Z = true := W.2.2.2.2.2.2.2.1
theorem qw_st (W : QW Z a0) : ∀ m ∈ mS, (Cond.static (pName m)).before a0 Z = true := W.2.2.2.2.2.2.2.2.1
theorem qw_ini (W : QW Z a0) : ∀ m ∈ mI, (Cond.instanceMethod (pName m)).before a0 Z = true := W.2.2.2.2.2.2.2.2.2.1
theorem qw_cod (W : QW Z a0) : ∀ m ∈ mA, (Cond.code (pName m) (pBytes m) (pMaxL m) (pRet m)).before a0 Z = true ∧ (Cond.initialized (kName (pK m))).before a0 Z = true := W.2.2.2.2.2.2.2.2.2.2.1
theorem qw_oi (W : QW Z a0) : (Cond.instanceMethod Lib.objectInit).before a0 Z = true := W.2.2.2.2.2.2.2.2.2.2.2.1
theorem qw_oc (W : QW Z a0) : (Cond.code Lib.objectInit ⟨#[0xb1]⟩ 1 none).before a0 Z = true := W.2.2.2.2.2.2.2.2.2.2.2.2.1
theorem qw_lay (W : QW Z a0) : ∀ k, k < nF → bif fFin k then (Cond.laysFinal cName cName (fNm k) (fDs k)).before a0 Z = true else (Cond.lays cName cName (fNm k) (fDs k)).before a0 Z = true := W.2.2.2.2.2.2.2.2.2.2.2.2.2.1
theorem qw_inst (W : QW Z a0) : (Cond.instantiable cName cN).before a0 Z = true := W.2.2.2.2.2.2.2.2.2.2.2.2.2.2.1
theorem qw_init (W : QW Z a0) : (Cond.initialized cName).before a0 Z = true := W.2.2.2.2.2.2.2.2.2.2.2.2.2.2.2.1
theorem qw_arr (W : QW Z a0) : ∀ ty ∈ aTys, (Cond.arrayClass ty).before a0 Z = true := W.2.2.2.2.2.2.2.2.2.2.2.2.2.2.2.2
end Words
theorem hget_eq : ∀ (σ : QHeap) k, hget σ k = σ[k]?
 | [], _ => by simp [hget]
 | _ :: _, 0 => by simp [hget]
 | _ :: t, k + 1 => by simp [hget, hget_eq t k]
theorem vget_eq : ∀ (σ : List Value) k, vget σ k = σ[k]?
 | [], _ => by simp [vget]
 | _ :: _, 0 => by simp [vget]
 | _ :: t, k + 1 => by simp [vget, vget_eq t k]
theorem lget_eq : ∀ (L : QLoc) k, lget L k = (L[k]?).getD none
 | [], _ => by simp [lget]
 | _ :: _, 0 => by simp [lget]
 | _ :: t, k + 1 => by simp [lget, lget_eq t k]
theorem lget_lt {L : QLoc} {k : Nat} {v : Value} (h : lget L k = some v) : k < L.length := by
 rw [lget_eq] at h
 rcases Nat.lt_or_ge k L.length with q | q
 ·exact q
 ·simp [List.getElem?_eq_none q] at h
theorem lget_set {L : QLoc} {k j : Nat} {o : Option Value} (hk : k < L.length) : lget (L.set k o) j = if j = k then o else lget L j := by
 simp only [lget_eq, List.getElem?_set]
 by_cases e : k = j
 ·subst e; simp [hk]
 ·simp [e, Ne.symm e]
theorem qhs_app (σ τ : QHeap) : qhs (σ ++ τ) = qhs σ + qhs τ := by
 induction σ with
 | nil => simp [qhs]
 | cons c t ih => simp [qhs, ih, Nat.add_assoc]
theorem qhs_set {σ : QHeap} {k : Nat} {c d : QCell} (h : hget σ k = some c) (hs : qsz d = qsz c) : qhs (σ.set k d) = qhs σ := by
 induction σ generalizing k with
 | nil => simp [hget] at h
 | cons x t ih =>
  cases k with
  | zero => simp only [hget, Option.some.injEq] at h; subst h; simp [qhs, hs]
  | succ k => simp only [hget] at h; simp [qhs, ih h]
theorem hget_set {σ : QHeap} {k j : Nat} {c d : QCell} (h : hget σ k = some c) : hget (σ.set k d) j = if j = k then some d else hget σ j := by
 rw [hget_eq] at h
 have hk := (List.getElem?_eq_some_iff.mp h).1
 simp only [hget_eq, List.getElem?_set]
 by_cases e : k = j
 ·subst e; simp [hk]
 ·simp [e, Ne.symm e]
theorem lkill_len (L : QLoc) (k : Nat) : (lkill L k).length = L.length := by
 cases k with
 | zero => rfl
 | succ k => simp only [lkill]; split <;> simp
theorem lget_kill {L : QLoc} {k j : Nat} {v : Value} (h : lget (lkill L k) j = some v) : lget L j = some v ∧ (k = j + 1 → v.category ≠ 2) := by
 cases k with
 | zero => exact ⟨h, fun e => by omega⟩
 | succ k =>
  simp only [lkill] at h
  split at h
  ·rename_i x q
   rw [lget_set (lget_lt q)] at h
   split at h
   ·cases h
   ·rename_i ne; exact ⟨h, fun e => absurd (by omega) ne⟩
  ·rename_i x q
   rw [lget_set (lget_lt q)] at h
   split at h
   ·cases h
   ·rename_i ne; exact ⟨h, fun e => absurd (by omega) ne⟩
  ·rename_i q1 q2
   refine ⟨h, fun e hc => ?_⟩
   obtain rfl : j = k := by omega
   cases v with
   | long x => exact q1 _ h
   | double x => exact q2 _ h
   | _ => simp [Value.category] at hc
theorem qv_cat (ad : Nat → Addr) (v : Value) : (qv ad v).category = v.category := by cases v <;> rfl
def kA (C : Array Slot) (k j : Nat) : Prop := k = j + 1 ∧ C[k]? = some .second
def kB (C : Array Slot) (k j : Nat) : Prop := j = k + 1 ∧ ∃ u, C[k]? = some (.val u) ∧ u.category = 2
def kD (C : Array Slot) (k j : Nat) : Prop := j = k + 2 ∧ ∃ u, C[k + 1]? = some (.val u) ∧ u.category = 2
theorem set1_at {C D : Array Slot} {k : Nat} {w : Value} (hk : k < C.size) (hw : w.category = 1) (h : storeLocals C k w = some D) :
  D.size = C.size ∧ D[k]? = some (.val w) ∧ ∀ j, j ≠ k → (D[j]? = C[j]? ∧ ¬ kA C k j ∧ ¬ kB C k j) ∨ D[j]? = some .unset ∧ (kA C k j ∨ kB C k j) := by
 have hck : C[k]? = some C[k] := Array.getElem?_eq_getElem hk
 unfold storeLocals at h
 simp only [hck, Option.bind_eq_bind, Option.bind_some] at h
 have self : ∀ {E : Array Slot}, k < E.size → storeSelf E k w = some D → D = E.setIfInBounds k (.val w) := by
  intro E hE q
  simp only [storeSelf, setAt, hE, if_true, Option.bind_eq_bind, Option.bind_some, hw] at q
  simpa using q.symm
 split at h
 ·rename_i q
  have hk1 : k - 1 < C.size := by omega
  simp only [setAt, hk1, if_true, Option.bind_some] at h
  have e := self (by simpa using hk) h
  subst e
  refine ⟨by simp, by simp [hk], fun j hj => ?_⟩
  by_cases ej : k = j + 1
  ·refine Or.inr ⟨?_, Or.inl ⟨ej, by rw [hck, q]⟩⟩
   rw [Array.getElem?_setIfInBounds_ne (Ne.symm hj), show j = k - 1 by omega]
   simp [hk1]
  ·refine Or.inl ⟨?_, fun x => ej x.1, fun x => ?_⟩
   ·rw [Array.getElem?_setIfInBounds_ne (Ne.symm hj), Array.getElem?_setIfInBounds_ne (by omega)]
   ·obtain ⟨-, u, x1, -⟩ := x
    rw [hck, q] at x1; cases x1
 ·rename_i u q
  split at h
  ·rename_i hu
   by_cases hk1 : k + 1 < C.size
   ·simp only [setAt, hk1, if_true, Option.bind_some] at h
    have e := self (by simpa using hk) h
    subst e
    refine ⟨by simp, by simp [hk], fun j hj => ?_⟩
    by_cases ej : j = k + 1
    ·refine Or.inr ⟨?_, Or.inr ⟨ej, u, by rw [hck, q], hu⟩⟩
     rw [Array.getElem?_setIfInBounds_ne (Ne.symm hj), ej]
     simp [hk1]
    ·refine Or.inl ⟨?_, fun x => ?_, fun x => ej x.1⟩
     ·rw [Array.getElem?_setIfInBounds_ne (Ne.symm hj), Array.getElem?_setIfInBounds_ne (by omega)]
     ·obtain ⟨-, x1⟩ := x
      rw [hck, q] at x1; cases x1
   ·simp [setAt, hk1] at h
  ·rename_i hu
   have e := self hk h
   subst e
   refine ⟨by simp, by simp [hk], fun j hj => Or.inl ⟨Array.getElem?_setIfInBounds_ne (Ne.symm hj), fun x => ?_, fun x => ?_⟩⟩
   ·obtain ⟨-, x1⟩ := x
    rw [hck, q] at x1; cases x1
   ·obtain ⟨-, u', x1, x2⟩ := x
    rw [hck, q] at x1; cases x1; exact hu x2
 ·rename_i q
  have e := self hk h
  subst e
  refine ⟨by simp, by simp [hk], fun j hj => Or.inl ⟨Array.getElem?_setIfInBounds_ne (Ne.symm hj), fun x => ?_, fun x => ?_⟩⟩
  ·obtain ⟨-, x1⟩ := x
   rw [hck, q] at x1; cases x1
  ·obtain ⟨-, u', x1, x2⟩ := x
   rw [hck, q] at x1; cases x1
theorem set2_at {C D : Array Slot} {k : Nat} {w : Value} (hk : k + 1 < C.size) (hw : w.category = 2) (wf : ∀ k w, C[k]? = some (.val w) → w.category = 2 → C[k + 1]? = some .second) (h : storeLocals C k w = some D) :
  D.size = C.size ∧ D[k]? = some (.val w) ∧ D[k + 1]? = some .second ∧ ∀ j, j ≠ k → j ≠ k + 1 → (D[j]? = C[j]? ∧ ¬ kA C k j ∧ ¬ kD C k j) ∨ D[j]? = some .unset ∧ (kA C k j ∨ kD C k j) := by
 have hk0 : k < C.size := by omega
 have hck : C[k]? = some C[k] := Array.getElem?_eq_getElem hk0
 unfold storeLocals at h
 simp only [hck, Option.bind_eq_bind, Option.bind_some] at h
 have self : ∀ {E : Array Slot}, E.size = C.size → storeSelf E k w = some D → D.size = C.size ∧ D[k]? = some (.val w) ∧ D[k + 1]? = some .second ∧ ∀ j, j ≠ k → j ≠ k + 1 → (D[j]? = E[j]? ∧ ¬ kD E k j) ∨ D[j]? = some .unset ∧ kD E k j := by
  intro E hs q
  have h1 : k < E.size := by omega
  have h2 : k + 1 < E.size := by omega
  have h3 : (E.setIfInBounds k (.val w))[k + 1]? = some E[k + 1] := by rw [Array.getElem?_setIfInBounds_ne (by omega)]; exact Array.getElem?_eq_getElem h2
  simp only [storeSelf, setAt, h1, if_true, Option.bind_eq_bind, Option.bind_some, hw, h3] at q
  have plain : (¬ ∃ u, E[k + 1]? = some (.val u) ∧ u.category = 2) → some ((E.setIfInBounds k (.val w)).setIfInBounds (k + 1) .second) = some D → D.size = C.size ∧ D[k]? = some (.val w) ∧ D[k + 1]? = some .second ∧ ∀ j, j ≠ k → j ≠ k + 1 → (D[j]? = E[j]? ∧ ¬ kD E k j) ∨ D[j]? = some .unset ∧ kD E k j := by
   intro no q
   cases q
   refine ⟨by simp [hs], ?_, ?_, fun j hj hj1 => Or.inl ⟨?_, fun x => no x.2⟩⟩
   ·rw [Array.getElem?_setIfInBounds_ne (by omega)]; simp [h1]
   ·simp [h2]
   ·rw [Array.getElem?_setIfInBounds_ne (by omega), Array.getElem?_setIfInBounds_ne (by omega)]
  split at q
  ·rename_i u hu
   split at q
   ·rename_i hu2
    by_cases h5 : k + 2 < E.size
    ·simp [h5, h2] at q
     cases q
     refine ⟨by simp [hs], ?_, ?_, fun j hj hj1 => ?_⟩
     ·rw [Array.getElem?_setIfInBounds_ne (by omega), Array.getElem?_setIfInBounds_ne (by omega)]; simp [h1]
     ·simp [h2]
     ·by_cases e : j = k + 2
      ·refine Or.inr ⟨?_, e, u, by rw [Array.getElem?_eq_getElem h2, hu], hu2⟩
       rw [Array.getElem?_setIfInBounds_ne (by omega), e]
       simp [h5]
      ·refine Or.inl ⟨?_, fun x => e x.1⟩
       rw [Array.getElem?_setIfInBounds_ne (by omega), Array.getElem?_setIfInBounds_ne (by omega), Array.getElem?_setIfInBounds_ne (by omega)]
    ·simp [h5] at q
   ·rename_i hu2
    refine plain ?_ (by simpa [h2] using q)
    rintro ⟨u', x1, x2⟩
    rw [Array.getElem?_eq_getElem h2, hu] at x1; cases x1; exact hu2 x2
  ·rename_i hu
   refine plain ?_ (by simpa [h2] using q)
   rintro ⟨u', x1, x2⟩
   rw [Array.getElem?_eq_getElem h2] at x1; exact hu _ (Option.some.inj x1)
 split at h
 ·rename_i q
  have hk1 : k - 1 < C.size := by omega
  simp only [setAt, hk1, if_true, Option.bind_some] at h
  obtain ⟨e1, e2, e3, e4⟩ := self (by simp) h
  refine ⟨e1, e2, e3, fun j hj hj1 => ?_⟩
  have h6 : ∀ i, i + 1 ≠ k ∨ k = 0 → i ≠ k ∨ k ≠ 0 → (C.setIfInBounds (k - 1) Slot.unset)[i]? = C[i]? := fun i hi hi2 => Array.getElem?_setIfInBounds_ne (by omega)
  have h7 : (C.setIfInBounds (k - 1) Slot.unset)[k + 1]? = C[k + 1]? := Array.getElem?_setIfInBounds_ne (by omega)
  rcases e4 j hj hj1 with ⟨r, r'⟩ | ⟨r, r1, u, r2, r3⟩
  ·by_cases ej : k = j + 1
   ·refine Or.inr ⟨?_, Or.inl ⟨ej, by rw [hck, q]⟩⟩
    rw [r, show j = k - 1 by omega]; simp [hk1]
   ·refine Or.inl ⟨by rw [r]; exact h6 _ (by omega) (by omega), fun x => ej x.1, fun x => r' ⟨x.1, ?_⟩⟩
    rw [h7]; exact x.2
  ·exact Or.inr ⟨r, Or.inr ⟨r1, u, by rw [← h7]; exact r2, r3⟩⟩
 ·rename_i u q
  split at h
  ·rename_i hu
   simp only [setAt, hk, if_true, Option.bind_some] at h
   obtain ⟨e1, e2, e3, e4⟩ := self (by simp) h
   have hsec := wf k u (by rw [hck, q]) hu
   refine ⟨e1, e2, e3, fun j hj hj1 => ?_⟩
   rcases e4 j hj hj1 with ⟨r, r'⟩ | ⟨r, r1, u', r2, r3⟩
   ·refine Or.inl ⟨by rw [r]; exact Array.getElem?_setIfInBounds_ne (by omega), fun x => ?_, fun x => ?_⟩
    ·obtain ⟨-, x1⟩ := x
     rw [hck, q] at x1; cases x1
    ·obtain ⟨-, u', x1, x2⟩ := x
     rw [hsec] at x1; cases x1
   ·simp [hk] at r2
  ·rename_i hu
   obtain ⟨e1, e2, e3, e4⟩ := self rfl h
   refine ⟨e1, e2, e3, fun j hj hj1 => ?_⟩
   rcases e4 j hj hj1 with ⟨r, r'⟩ | ⟨r, r'⟩
   ·refine Or.inl ⟨r, fun x => ?_, r'⟩
    obtain ⟨-, x1⟩ := x
    rw [hck, q] at x1; cases x1
   ·exact Or.inr ⟨r, Or.inr r'⟩
 ·rename_i q
  obtain ⟨e1, e2, e3, e4⟩ := self rfl h
  refine ⟨e1, e2, e3, fun j hj hj1 => ?_⟩
  rcases e4 j hj hj1 with ⟨r, r'⟩ | ⟨r, r'⟩
  ·refine Or.inl ⟨r, fun x => ?_, r'⟩
   obtain ⟨-, x1⟩ := x
   rw [hck, q] at x1; cases x1
  ·exact Or.inr ⟨r, Or.inr r'⟩
theorem store_some {C : Array Slot} {k : Nat} {w : Value} (hk : k + (w.category - 1) < C.size) (hc : w.category = 1 ∨ w.category = 2) (wf : ∀ k w, C[k]? = some (.val w) → w.category = 2 → C[k + 1]? = some .second) :
  ∃ D, storeLocals C k w = some D := by
 have hk0 : k < C.size := by omega
 have hck : C[k]? = some C[k] := Array.getElem?_eq_getElem hk0
 have self : ∀ {E : Array Slot}, E.size = C.size → (∀ u, E[k + 1]? = some (.val u) → u.category = 2 → k + 2 < E.size) → ∃ D, storeSelf E k w = some D := by
  intro E hs hn
  have h1 : k < E.size := by omega
  simp only [storeSelf, setAt, h1, if_true, Option.bind_eq_bind, Option.bind_some]
  rcases hc with hc | hc
  ·exact ⟨E.setIfInBounds k (.val w), by simp [hc]⟩
  ·have h2 : k + 1 < E.size := by omega
   have h3 : (E.setIfInBounds k (.val w))[k + 1]? = some E[k + 1] := by rw [Array.getElem?_setIfInBounds_ne (by omega)]; exact Array.getElem?_eq_getElem h2
   simp only [hc, if_true, h3, Option.bind_some]
   split
   ·rename_i u hu
    split
    ·rename_i hu2
     have h5 := hn u (by rw [Array.getElem?_eq_getElem h2, hu]) hu2
     exact ⟨_, by simp [h5, h2]; rfl⟩
    ·exact ⟨_, by simp [h2]; rfl⟩
   ·exact ⟨_, by simp [h2]; rfl⟩
 have next : ∀ u, C[k + 1]? = some (.val u) → u.category = 2 → k + 2 < C.size := fun u h1 h2 => (Array.getElem?_eq_some_iff.mp (wf _ _ h1 h2)).1
 unfold storeLocals
 simp only [hck, Option.bind_eq_bind, Option.bind_some]
 split
 ·have hk1 : k - 1 < C.size := by omega
  simp only [setAt, hk1, if_true, Option.bind_some]
  refine self (by simp) fun u h1 h2 => ?_
  rw [Array.getElem?_setIfInBounds_ne (by omega)] at h1
  simpa using next u h1 h2
 ·rename_i u q
  split
  ·rename_i hu
   have h5 := (Array.getElem?_eq_some_iff.mp (wf k u (by rw [hck, q]) hu)).1
   simp only [setAt, h5, if_true, Option.bind_some]
   refine self (by simp) fun u h1 h2 => ?_
   simp [h5] at h1
  ·exact self rfl next
 ·exact self rfl next
theorem store_ok1 {ad : Nat → Addr} {L : QLoc} {C : Array Slot} {k : Nat} {v : Value} (H : QLocOk ad L C) (hv : v.category = 1) (hk : k < L.length) :
  ∃ D, storeLocals C k (qv ad v) = some D ∧ QLocOk ad ((lkill L k).set k (some v)) D ∧ D.size = C.size := by
 obtain ⟨H1, H2, H3, H4⟩ := H
 have hc : (qv ad v).category = 1 := by rw [qv_cat, hv]
 obtain ⟨D, hD⟩ := store_some (C := C) (k := k) (w := qv ad v) (by rw [hc]; omega) (Or.inl hc) H3
 obtain ⟨d1, d2, d3⟩ := set1_at (by omega) hc hD
 refine ⟨D, hD, ⟨by simp [lkill_len, H1, d1], fun j u hj => ?_, fun j w hj hw => ?_, fun j hj => ?_⟩, d1⟩
 ·rw [lget_set (by rw [lkill_len]; exact hk)] at hj
  split at hj
  ·rename_i e; cases hj; rw [e]; exact d2
  ·rename_i ne
   obtain ⟨g1, g2⟩ := lget_kill hj
   have g3 := H2 j u g1
   rcases d3 j ne with ⟨r, -, -⟩ | ⟨-, ⟨r1, r2⟩ | ⟨r1, w, r2, r3⟩⟩
   ·rw [r]; exact g3
   ·obtain ⟨i, w, z1, z2, z3⟩ := H4 k r2
    obtain rfl : i = j := by omega
    rw [g3] at z2
    cases z2
    rw [qv_cat] at z3
    exact absurd z3 (g2 r1)
   ·have := H3 k w r2 r3
    rw [← r1, g3] at this
    cases this
 ·by_cases e : j = k
  ·subst e; rw [d2] at hj; cases hj; rw [hc] at hw; cases hw
  ·rcases d3 j e with ⟨r, nA, nB⟩ | ⟨r, -⟩
   ·rw [r] at hj
    have g := H3 j w hj hw
    have e2 : j + 1 ≠ k := fun q => nA ⟨q.symm, by rw [← q]; exact g⟩
    rcases d3 (j + 1) e2 with ⟨z, -, -⟩ | ⟨-, ⟨z1, z2⟩ | ⟨z1, -⟩⟩
    ·rw [z]; exact g
    ·obtain ⟨i, u, y1, y2, y3⟩ := H4 k z2
     obtain rfl : i = j + 1 := by omega
     rw [g] at y2; cases y2
    ·omega
   ·rw [r] at hj; cases hj
 ·by_cases e : j = k
  ·subst e; rw [d2] at hj; cases hj
  ·rcases d3 j e with ⟨r, nA, nB⟩ | ⟨r, -⟩
   ·rw [r] at hj
    obtain ⟨i, w, y1, y2, y3⟩ := H4 j hj
    refine ⟨i, w, y1, ?_, y3⟩
    have ei : i ≠ k := fun q => nB ⟨by omega, w, by rw [← q]; exact y2, y3⟩
    rcases d3 i ei with ⟨z, -, -⟩ | ⟨-, ⟨z1, z2⟩ | ⟨z1, u, z2, z3⟩⟩
    ·rw [z]; exact y2
    ·omega
    ·have := H3 k u z2 z3
     rw [← z1, y2] at this; cases this
   ·rw [r] at hj; cases hj
theorem store_ok2 {ad : Nat → Addr} {L : QLoc} {C : Array Slot} {k : Nat} {x : Int64} (H : QLocOk ad L C) (hk : k + 1 < L.length) :
  ∃ D, storeLocals C k (.long x) = some D ∧ QLocOk ad (((lkill L k).set k (some (.long x))).set (k + 1) none) D ∧ D.size = C.size := by
 obtain ⟨H1, H2, H3, H4⟩ := H
 have hc : (Value.long x).category = 2 := rfl
 obtain ⟨D, hD⟩ := store_some (C := C) (k := k) (w := .long x) (by rw [hc]; omega) (Or.inr hc) H3
 obtain ⟨d1, d2, d2', d3⟩ := set2_at (by omega) hc H3 hD
 refine ⟨D, hD, ⟨by simp [lkill_len, H1, d1], fun j u hj => ?_, fun j w hj hw => ?_, fun j hj => ?_⟩, d1⟩
 ·rw [lget_set (by simp [lkill_len]; exact hk)] at hj
  split at hj
  ·cases hj
  ·rename_i ne1
   rw [lget_set (by rw [lkill_len]; omega)] at hj
   split at hj
   ·rename_i e; cases hj; rw [e]; exact d2
   ·rename_i ne
    obtain ⟨g1, g2⟩ := lget_kill hj
    have g3 := H2 j u g1
    rcases d3 j ne ne1 with ⟨r, -, -⟩ | ⟨-, ⟨r1, r2⟩ | ⟨r1, w, r2, r3⟩⟩
    ·rw [r]; exact g3
    ·obtain ⟨i, w, z1, z2, z3⟩ := H4 k r2
     obtain rfl : i = j := by omega
     rw [g3] at z2
     cases z2
     rw [qv_cat] at z3
     exact absurd z3 (g2 r1)
    ·have := H3 (k + 1) w r2 r3
     rw [show k + 1 + 1 = j by omega, g3] at this
     cases this
 ·by_cases e : j = k
  ·rw [e]; exact d2'
  ·by_cases e1 : j = k + 1
   ·rw [e1, d2'] at hj; cases hj
   ·rcases d3 j e e1 with ⟨r, nA, nB⟩ | ⟨r, -⟩
    ·rw [r] at hj
     have g := H3 j w hj hw
     have e2 : j + 1 ≠ k := fun q => nA ⟨q.symm, by rw [← q]; exact g⟩
     rcases d3 (j + 1) e2 (by omega) with ⟨z, -, -⟩ | ⟨-, ⟨z1, z2⟩ | ⟨z1, -⟩⟩
     ·rw [z]; exact g
     ·obtain ⟨i, u, y1, y2, y3⟩ := H4 k z2
      obtain rfl : i = j + 1 := by omega
      rw [g] at y2; cases y2
     ·omega
    ·rw [r] at hj; cases hj
 ·by_cases e : j = k
  ·rw [e, d2] at hj; cases hj
  ·by_cases e1 : j = k + 1
   ·exact ⟨k, _, e1, d2, hc⟩
   ·rcases d3 j e e1 with ⟨r, nA, nB⟩ | ⟨r, -⟩
    ·rw [r] at hj
     obtain ⟨i, w, y1, y2, y3⟩ := H4 j hj
     refine ⟨i, w, y1, ?_, y3⟩
     have ei : i ≠ k := fun q => e1 (by omega)
     have ei1 : i ≠ k + 1 := fun q => nB ⟨by omega, w, by rw [← q]; exact y2, y3⟩
     rcases d3 i ei ei1 with ⟨z, -, -⟩ | ⟨-, ⟨z1, z2⟩ | ⟨z1, u, z2, z3⟩⟩
     ·rw [z]; exact y2
     ·omega
     ·have := H3 (k + 1) u z2 z3
      rw [show k + 1 + 1 = i by omega, y2] at this; cases this
    ·rw [r] at hj; cases hj
theorem store_ok {ad : Nat → Addr} {L L' : QLoc} {C : Array Slot} {k : Nat} {v : Value} (H : QLocOk ad L C) (h : lput L k v = some L') :
  ∃ D, storeLocals C k (qv ad v) = some D ∧ QLocOk ad L' D ∧ D.size = C.size := by
 have one : v.category = 1 → (bif Nat.ble (k + 1) L.length then some ((lkill L k).set k (some v)) else none) = some L' → ∃ D, storeLocals C k (qv ad v) = some D ∧ QLocOk ad L' D ∧ D.size = C.size := by
  intro hv h
  cases hb : Nat.ble (k + 1) L.length with
  | false => rw [hb] at h; cases h
  | true => rw [hb] at h; cases h; exact store_ok1 H hv (Nat.le_of_ble_eq_true hb)
 cases v with
 | long x =>
  simp only [lput] at h
  cases hb : Nat.ble (k + 2) L.length with
  | false => rw [hb] at h; cases h
  | true => rw [hb] at h; cases h; exact store_ok2 H (Nat.le_of_ble_eq_true hb)
 | double x => simp [lput] at h
 | int x => exact one rfl h
 | float x => exact one rfl h
 | null => exact one rfl h
 | ref x => exact one rfl h
 | retAddr x => exact one rfl h
theorem fInj : ∀ i, i < nF → ∀ j, j < nF → fNm i = fNm j → i = j := by decide +kernel
theorem fPrs : ∀ i, i < nF → parseFieldDescriptor (fDs i) = some (fTy i) := by decide +kernel
theorem cDefs : ∀ i, i < nF → vget cDef i = some (defaultValue (fTy i)) := by decide +kernel
theorem cDefL : cDef.length = nF := by decide +kernel
theorem fDef : ∀ i, i < nF → ∀ a, defaultValue (fTy i) ≠ .ref a := by
 intro i _ a
 cases fTy i <;> simp [defaultValue]
theorem kPlain : ∀ k, k < 2 → plainName (kName k) = true := by
 intro k hk
 rcases k with _ | _ | k
 ·first | decide +kernel | (simp [kName, plainName, overriddenIn]; done)
 ·first | decide +kernel | (simp [kName, plainName, overriddenIn]; done)
 ·omega
theorem pKlt : ∀ m, m < pN → pK m < 2 := by decide +kernel
theorem pSig : ∀ m, m < pN → (parseMethodDescriptor (pDs m)).map (fun sg => sg.parameters.length) = some (pNA m) := by decide +kernel
theorem pOwn : ∀ k, k < 2 → kName k ≠ "java/lang/invoke/MethodHandle" ∧ kName k ≠ "java/lang/invoke/VarHandle" := by decide +kernel
theorem mAlt : ∀ m ∈ mA, m < pN := by decide +kernel
theorem mVlt : ∀ m ∈ mV, m ∈ mA ∧ pK m = 1 := by decide +kernel
theorem mPlt : ∀ m ∈ mP, m ∈ mA ∧ pK m = 1 := by decide +kernel
theorem mSlt : ∀ m ∈ mS, m ∈ mA := by decide +kernel
theorem mIlt : ∀ m ∈ mI, m ∈ mA ∧ pK m = 1 ∧ pNm m = "<init>" ∧ pRet m = none := by decide +kernel
theorem kOne : kName 1 = cName := rfl
set_option maxRecDepth 100000 in
theorem pChk0 : ∀ m, m < pN → ∀ pc, pc < pTop → (match pCode m pc with | some t => qchk m pc t.1 t.2 | none => true) = true := by decide +kernel
theorem pIn {m pc : Nat} {t : Instr × Nat} (h : pCode m pc = some t) : m < pN ∧ pc < pTop := by
 unfold pCode at h
 cases h1 : Nat.ble pN m with
 | true => rw [h1] at h; cases h
 | false =>
  cases h2 : Nat.ble pTop pc with
  | true => rw [h1, h2] at h; cases h
  | false => exact ⟨Nat.lt_of_not_le (fun q => by rw [Nat.ble_eq_true_of_le q] at h1; cases h1), Nat.lt_of_not_le (fun q => by rw [Nat.ble_eq_true_of_le q] at h2; cases h2)⟩
theorem pChk {m pc : Nat} {i : Instr} {aux : Nat} (h : pCode m pc = some (i, aux)) : qchk m pc i aux = true := by
 have q := pChk0 m (pIn h).1 pc (pIn h).2
 rw [h] at q
 exact q
theorem pDec {m pc : Nat} {i : Instr} {aux : Nat} (h : pCode m pc = some (i, aux)) : decode (pBytes m) pc = .ok (i, ilen i) := by
 have q := pChk h
 unfold qchk at q
 exact of_decide_eq_true (Bool.and_eq_true_iff.mp q).1
theorem pDecN {m pc n : Nat} {i : Instr} {aux : Nat} (h : pCode m pc = some (i, aux)) (hn : ilen i = n) : decode (pBytes m) pc = .ok (i, n) := by
 rw [← hn]; exact pDec h
theorem pRest {m pc : Nat} {i : Instr} {aux : Nat} (h : pCode m pc = some (i, aux)) : qlk m pc i aux = true := by
 have q := pChk h
 unfold qchk at q
 exact (Bool.and_eq_true_iff.mp q).2
theorem qtgt_spec {pc : Nat} {o : Int} {aux : Nat} (h : qtgt pc o aux = true) : 0 ≤ (pc : Int) + o ∧ ((pc : Int) + o).toNat = aux := by
 unfold qtgt at h
 have h2 := Bool.and_eq_true_iff.mp h
 exact ⟨of_decide_eq_true h2.1, of_decide_eq_true h2.2⟩
def QCx (Z : State) (p : Program) (R : Room) (s : State) (mid : MethodId) (meth : Method) (c : Code) (m : Nat) : Prop :=
 p.tables.exec = Jvm.exec ∧ Z.Warmed39 s.vm ∧ c.code = pBytes m ∧ c.maxLocals = pMaxL m ∧ meth.sig.returnType = pRet m ∧ s.vm.findClass (kName (pK m)) = some mid.cls ∧ meth.name = pNm m ∧ pFr m ≤ R.frames ∧ pLo m ≤ R.locals
def QTri (l : Launch) (Z : State) (n0 : Nat) (ad : Nat → Addr) (m : Nat) (st : QSt) (v : Option Value) (σ' : QHeap) : Prop :=
 st.2.2.2.length ≤ σ'.length ∧ qhs st.2.2.2 ≤ qhs σ' ∧
 ∀ (p : Program) (e : Env) (R : Room) (s : State) (mid : MethodId) (args : Array Value) (below : List Frame) (meth : Method) (c : Code) (T : State) (locs : List Loc) (cells slots : Nat) (C : Array Slot),
  QCx Z p R s mid meth c m → Stand p l e R s mid args below meth c T locs cells slots → QRep Z n0 ad T.heap st.2.2.2 → Fr n0 locs → QLocOk ad st.2.1 C → C.size = c.maxLocals →
  n0 + (st.2.2.2.length - k0) = s.heap.size + cells → cells + (σ'.length - st.2.2.2.length) ≤ R.cells → slots + (qhs σ' - qhs st.2.2.2) ≤ R.slots →
  ∃ T' locs', Stand p l e R s mid args below meth c T' locs' (cells + (σ'.length - st.2.2.2.length)) (slots + (qhs σ' - qhs st.2.2.2)) ∧ QRep Z n0 ad T'.heap σ' ∧ Fr n0 locs' ∧
   ∀ fs, (∀ (f : JFrame) (acts : List Action), f.method = mid → f.locked = none → f.entered = [] → (doReturn e (T'.setTop f) acts (v.map (qv ad))).1 = T'.setFrames fs) →
    Steps p.tables e below (T.setTop (mkF mid st.1 C (st.2.2.1.map (qv ad)))) (T'.setFrames fs)
section Triples
variable {l : Launch} {Z : State} {n0 : Nat} {ad : Nat → Addr} {a0 : Array Value} {m : Nat} {v : Option Value} {σ' : QHeap}
theorem QTri.gen {st st' : QSt} (h : QTri l Z n0 ad m st' v σ') (g1 : st.2.2.2.length ≤ st'.2.2.2.length) (g2 : qhs st.2.2.2 ≤ qhs st'.2.2.2)
  (hs : ∀ (p : Program) (e : Env) (R : Room) (s : State) (mid : MethodId) (args : Array Value) (below : List Frame) (meth : Method) (c : Code) (T : State) (locs : List Loc) (cells slots : Nat) (C : Array Slot),
   QCx Z p R s mid meth c m → Stand p l e R s mid args below meth c T locs cells slots → QRep Z n0 ad T.heap st.2.2.2 → Fr n0 locs → QLocOk ad st.2.1 C → C.size = c.maxLocals →
   n0 + (st.2.2.2.length - k0) = s.heap.size + cells → cells + (st'.2.2.2.length - st.2.2.2.length) ≤ R.cells → slots + (qhs st'.2.2.2 - qhs st.2.2.2) ≤ R.slots →
   ∃ T₁ locs₁ C₁, Stand p l e R s mid args below meth c T₁ locs₁ (cells + (st'.2.2.2.length - st.2.2.2.length)) (slots + (qhs st'.2.2.2 - qhs st.2.2.2)) ∧ QRep Z n0 ad T₁.heap st'.2.2.2 ∧ Fr n0 locs₁ ∧ QLocOk ad st'.2.1 C₁ ∧ C₁.size = c.maxLocals ∧
    ∀ target, Steps p.tables e below (T₁.setTop (mkF mid st'.1 C₁ (st'.2.2.1.map (qv ad)))) target → Steps p.tables e below (T.setTop (mkF mid st.1 C (st.2.2.1.map (qv ad)))) target) :
  QTri l Z n0 ad m st v σ' := by
 obtain ⟨h1, h2, h3⟩ := h
 refine ⟨Nat.le_trans g1 h1, Nat.le_trans g2 h2, fun p e R s mid args below meth c T locs cells slots C hcx X hR hF hL hC hn hc hsl => ?_⟩
 obtain ⟨T₁, locs₁, C₁, X₁, R₁, F₁, L₁, C1, S₁⟩ := hs p e R s mid args below meth c T locs cells slots C hcx X hR hF hL hC hn (by omega) (by omega)
 have hk := hR.1
 obtain ⟨T', locs', X', R', F', S'⟩ := h3 p e R s mid args below meth c T₁ locs₁ _ _ C₁ hcx X₁ R₁ F₁ L₁ C1 (by omega) (by omega) (by omega)
 have e1 : cells + (st'.2.2.2.length - st.2.2.2.length) + (σ'.length - st'.2.2.2.length) = cells + (σ'.length - st.2.2.2.length) := by omega
 have e2 : slots + (qhs st'.2.2.2 - qhs st.2.2.2) + (qhs σ' - qhs st'.2.2.2) = slots + (qhs σ' - qhs st.2.2.2) := by omega
 rw [e1, e2] at X'
 exact ⟨T', locs', X', R', F', fun fs hf => S₁ _ (S' fs hf)⟩
theorem QTri.pure {st st' : QSt} (h : QTri l Z n0 ad m st' v σ') (hσ : st'.2.2.2 = st.2.2.2)
  (hs : ∀ (p : Program) (e : Env) (R : Room) (s : State) (mid : MethodId) (args : Array Value) (below : List Frame) (meth : Method) (c : Code) (T : State) (locs : List Loc) (cells slots : Nat) (C : Array Slot),
   QCx Z p R s mid meth c m → Stand p l e R s mid args below meth c T locs cells slots → QRep Z n0 ad T.heap st.2.2.2 → QLocOk ad st.2.1 C → C.size = c.maxLocals →
   ∃ T₁ C₁, Stand p l e R s mid args below meth c T₁ locs cells slots ∧ T₁.heap = T.heap ∧ QLocOk ad st'.2.1 C₁ ∧ C₁.size = c.maxLocals ∧
    ∀ target, Steps p.tables e below (T₁.setTop (mkF mid st'.1 C₁ (st'.2.2.1.map (qv ad)))) target → Steps p.tables e below (T.setTop (mkF mid st.1 C (st.2.2.1.map (qv ad)))) target) :
  QTri l Z n0 ad m st v σ' := by
 refine QTri.gen h (by rw [hσ]; exact Nat.le_refl _) (by rw [hσ]; exact Nat.le_refl _) fun p e R s mid args below meth c T locs cells slots C hcx X hR hF hL hC hn hc hsl => ?_
 obtain ⟨T₁, C₁, X₁, hh, L₁, C1, S₁⟩ := hs p e R s mid args below meth c T locs cells slots C hcx X hR hL hC
 refine ⟨T₁, locs, C₁, ?_, by rw [hσ, hh]; exact hR, hF, L₁, C1, S₁⟩
 rw [hσ, Nat.sub_self, Nat.sub_self]
 exact X₁
theorem QTri.frame {pc pc' : Nat} {L L' : QLoc} {S S' : List Value} {σ : QHeap} (h : QTri l Z n0 ad m (pc', L', S', σ) v σ')
  (hs : ∀ (p : Program) (e : Env) (R : Room) (s : State) (mid : MethodId) (args : Array Value) (below : List Frame) (meth : Method) (c : Code) (T : State) (locs : List Loc) (cells slots : Nat) (C : Array Slot),
   QCx Z p R s mid meth c m → Stand p l e R s mid args below meth c T locs cells slots → QRep Z n0 ad T.heap σ → QLocOk ad L C → C.size = c.maxLocals →
   ∃ C₁, QLocOk ad L' C₁ ∧ C₁.size = c.maxLocals ∧ ∀ target, Steps p.tables e below (T.setTop (mkF mid pc' C₁ (S'.map (qv ad)))) target → Steps p.tables e below (T.setTop (mkF mid pc C (S.map (qv ad)))) target) :
  QTri l Z n0 ad m (pc, L, S, σ) v σ' :=
 QTri.pure h rfl fun p e R s mid args below meth c T locs cells slots C hcx X hR hL hC => by
  obtain ⟨C₁, h1, h2, h3⟩ := hs p e R s mid args below meth c T locs cells slots C hcx X hR hL hC
  exact ⟨T, C₁, X, rfl, h1, h2, h3⟩
theorem QTri.stack {pc pc' : Nat} {L : QLoc} {S S' : List Value} {σ : QHeap} (h : QTri l Z n0 ad m (pc', L, S', σ) v σ')
  (hs : ∀ (p : Program) (e : Env) (R : Room) (s : State) (mid : MethodId) (args : Array Value) (below : List Frame) (meth : Method) (c : Code) (T : State) (locs : List Loc) (cells slots : Nat) (C : Array Slot) (target : State),
   p.tables.exec = Jvm.exec → Z.Warmed39 s.vm → c.code = pBytes m → s.vm.findClass (kName (pK m)) = some mid.cls → Stand p l e R s mid args below meth c T locs cells slots → QRep Z n0 ad T.heap σ → QLocOk ad L C →
   Steps p.tables e below (T.setTop (mkF mid pc' C (S'.map (qv ad)))) target → Steps p.tables e below (T.setTop (mkF mid pc C (S.map (qv ad)))) target) :
  QTri l Z n0 ad m (pc, L, S, σ) v σ' :=
 QTri.frame h fun p e R s mid args below meth c T locs cells slots C hcx X hR hL hC => ⟨C, hL, hC, fun target k => hs p e R s mid args below meth c T locs cells slots C target hcx.1 hcx.2.1 hcx.2.2.1 hcx.2.2.2.2.2.1 X hR hL k⟩
theorem qload_inv {pc : Nat} {L : QLoc} {S : List Value} {σ : QHeap} {k : Nat} {ok : Value → Bool} {st' : QSt} (h : qload pc L S σ k ok = some st') : ∃ v, lget L k = some v ∧ ok v = true ∧ st' = (pc, L, v :: S, σ) := by
 unfold qload at h
 split at h
 ·rename_i v hv
  cases ho : ok v with
  | true => rw [ho] at h; cases h; exact ⟨v, hv, ho, rfl⟩
  | false => rw [ho] at h; cases h
 ·cases h
theorem qstore_inv {pc : Nat} {L : QLoc} {S : List Value} {σ : QHeap} {k : Nat} {ok : Value → Bool} {st' : QSt} (h : qstore pc L S σ k ok = some st') : ∃ v S' L', S = v :: S' ∧ ok v = true ∧ lput L k v = some L' ∧ st' = (pc, L', S', σ) := by
 unfold qstore at h
 split at h
 ·rename_i v S'
  cases ho : ok v with
  | true =>
   rw [ho] at h
   simp only [cond_true] at h
   split at h
   ·rename_i L' hL'
    cases h; exact ⟨v, S', L', rfl, ho, hL', rfl⟩
   ·cases h
  | false => rw [ho] at h; cases h
 ·cases h
theorem qbin_inv {pc : Nat} {L : QLoc} {S : List Value} {σ : QHeap} {f : Int32 → Int32 → Int32} {st' : QSt} (h : qbin pc L S σ f = some st') : ∃ x y S', S = .int y :: .int x :: S' ∧ st' = (pc, L, .int (f x y) :: S', σ) := by
 unfold qbin at h
 split at h
 ·cases h; exact ⟨_, _, _, rfl, rfl⟩
 ·cases h
theorem qbino_inv {pc : Nat} {L : QLoc} {S : List Value} {σ : QHeap} {f : Int32 → Int32 → Option Int32} {st' : QSt} (h : qbino pc L S σ f = some st') : ∃ x y z S', S = .int y :: .int x :: S' ∧ f x y = some z ∧ st' = (pc, L, .int z :: S', σ) := by
 unfold qbino at h
 split at h
 ·obtain ⟨z, hz, h⟩ := Option.bind_eq_some_iff.mp h
  cases h; exact ⟨_, _, _, _, rfl, hz, rfl⟩
 ·cases h
theorem qbinJ_inv {pc : Nat} {L : QLoc} {S : List Value} {σ : QHeap} {f : Int64 → Int64 → Int64} {st' : QSt} (h : qbinJ pc L S σ f = some st') : ∃ x y S', S = .long y :: .long x :: S' ∧ st' = (pc, L, .long (f x y) :: S', σ) := by
 unfold qbinJ at h
 split at h
 ·cases h; exact ⟨_, _, _, rfl, rfl⟩
 ·cases h
theorem qshJ_inv {pc : Nat} {L : QLoc} {S : List Value} {σ : QHeap} {f : Int64 → Int32 → Int64} {st' : QSt} (h : qshJ pc L S σ f = some st') : ∃ x y S', S = .int y :: .long x :: S' ∧ st' = (pc, L, .long (f x y) :: S', σ) := by
 unfold qshJ at h
 split at h
 ·cases h; exact ⟨_, _, _, rfl, rfl⟩
 ·cases h
theorem quni_inv {pc : Nat} {L : QLoc} {S : List Value} {σ : QHeap} {f : Int32 → Value} {st' : QSt} (h : quni pc L S σ f = some st') : ∃ x S', S = .int x :: S' ∧ st' = (pc, L, f x :: S', σ) := by
 unfold quni at h
 split at h
 ·cases h; exact ⟨_, _, rfl, rfl⟩
 ·cases h
theorem quniJ_inv {pc : Nat} {L : QLoc} {S : List Value} {σ : QHeap} {f : Int64 → Value} {st' : QSt} (h : quniJ pc L S σ f = some st') : ∃ x S', S = .long x :: S' ∧ st' = (pc, L, f x :: S', σ) := by
 unfold quniJ at h
 split at h
 ·cases h; exact ⟨_, _, rfl, rfl⟩
 ·cases h
theorem qif_inv {pc : Nat} {L : QLoc} {S : List Value} {σ : QHeap} {cd : ClassFile.Cond} {t : Nat} {st' : QSt} (h : qif pc L S σ cd t = some st') : ∃ x S', S = .int x :: S' ∧ st' = (bif ifCond.holds cd x then t else pc, L, S', σ) := by
 unfold qif at h
 split at h
 ·cases h; exact ⟨_, _, rfl, rfl⟩
 ·cases h
theorem qicmp_inv {pc : Nat} {L : QLoc} {S : List Value} {σ : QHeap} {cd : ClassFile.Cond} {t : Nat} {st' : QSt} (h : qicmp pc L S σ cd t = some st') : ∃ x y S', S = .int y :: .int x :: S' ∧ st' = (bif if_icmp.holds cd x y then t else pc, L, S', σ) := by
 unfold qicmp at h
 split at h
 ·cases h; exact ⟨_, _, _, rfl, rfl⟩
 ·cases h
theorem qget_inv {pc : Nat} {L : QLoc} {S : List Value} {σ : QHeap} {k : Nat} {st' : QSt} (h : qget pc L S σ k = some st') : ∃ a S' vs v, S = .ref a :: S' ∧ hget σ a = some (.inl vs) ∧ vget vs k = some v ∧ st' = (pc, L, v :: S', σ) := by
 unfold qget at h
 split at h
 ·split at h
  ·split at h
   ·cases h; exact ⟨_, _, _, _, rfl, by assumption, by assumption, rfl⟩
   ·cases h
  ·cases h
 ·cases h
theorem qput_inv {pc : Nat} {L : QLoc} {S : List Value} {σ : QHeap} {k : Nat} {st' : QSt} (h : qput pc L S σ k = some st') : ∃ v a S' vs w, S = v :: .ref a :: S' ∧ hget σ a = some (.inl vs) ∧ k0 ≤ a ∧ k < vs.length ∧ qfit (fTy k) v = some w ∧ st' = (pc, L, S', σ.set a (.inl (vs.set k w))) := by
 unfold qput at h
 split at h
 ·rename_i v a S'
  split at h
  ·rename_i vs hvs
   cases hbb : (Nat.ble k0 a && Nat.ble (k + 1) vs.length) with
   | false => rw [hbb] at h; cases h
   | true =>
    rw [hbb] at h
    simp only [cond_true] at h
    obtain ⟨u, hu, h⟩ := Option.bind_eq_some_iff.mp h
    cases h
    obtain ⟨b1, b2⟩ := Bool.and_eq_true_iff.mp hbb
    exact ⟨v, a, S', vs, u, rfl, hvs, Nat.le_of_ble_eq_true b1, Nat.le_of_ble_eq_true b2, hu, rfl⟩
  ·cases h
 ·cases h
theorem qald_inv {pc : Nat} {L : QLoc} {S : List Value} {σ : QHeap} {ok : FieldType → Bool} {st' : QSt} (h : qald pc L S σ ok = some st') : ∃ j a S' ty xs v, S = .int j :: .ref a :: S' ∧ hget σ a = some (.inr (.inl (ty, xs))) ∧ ok ty = true ∧ aget xs j = some v ∧ st' = (pc, L, .int v :: S', σ) := by
 unfold qald at h
 split at h
 ·rename_i j a S'
  split at h
  ·rename_i x hx
   cases ht : ok x.1 with
   | false => rw [ht] at h; cases h
   | true =>
    rw [ht] at h
    simp only [cond_true] at h
    obtain ⟨u, hu, h⟩ := Option.bind_eq_some_iff.mp h
    cases h
    exact ⟨j, a, S', x.1, x.2, u, rfl, hx, ht, hu, rfl⟩
  ·cases h
 ·cases h
theorem qaldJ_inv {pc : Nat} {L : QLoc} {S : List Value} {σ : QHeap} {st' : QSt} (h : qaldJ pc L S σ = some st') : ∃ j a S' xs v, S = .int j :: .ref a :: S' ∧ hget σ a = some (.inr (.inr xs)) ∧ aget xs j = some v ∧ st' = (pc, L, .long v :: S', σ) := by
 unfold qaldJ at h
 split at h
 ·rename_i j a S'
  split at h
  ·rename_i x hx
   obtain ⟨u, hu, h⟩ := Option.bind_eq_some_iff.mp h
   cases h
   exact ⟨j, a, S', x, u, rfl, hx, hu, rfl⟩
  ·cases h
 ·cases h
theorem qast_inv {pc : Nat} {L : QLoc} {S : List Value} {σ : QHeap} {ok : FieldType → Bool} {st' : QSt} (h : qast pc L S σ ok = some st') : ∃ v j a S' ty xs ys, S = .int v :: .int j :: .ref a :: S' ∧ hget σ a = some (.inr (.inl (ty, xs))) ∧ ok ty = true ∧ k0 ≤ a ∧ aset xs j (qnar ty v) = some ys ∧ st' = (pc, L, S', σ.set a (.inr (.inl (ty, ys)))) := by
 unfold qast at h
 split at h
 ·rename_i v j a S'
  split at h
  ·rename_i x hx
   cases ht : (ok x.1 && Nat.ble k0 a) with
   | false => rw [ht] at h; cases h
   | true =>
    rw [ht] at h
    simp only [cond_true] at h
    obtain ⟨u, hu, h⟩ := Option.bind_eq_some_iff.mp h
    cases h
    obtain ⟨b1, b2⟩ := Bool.and_eq_true_iff.mp ht
    exact ⟨v, j, a, S', x.1, x.2, u, rfl, hx, b1, Nat.le_of_ble_eq_true b2, hu, rfl⟩
  ·cases h
 ·cases h
theorem qastJ_inv {pc : Nat} {L : QLoc} {S : List Value} {σ : QHeap} {st' : QSt} (h : qastJ pc L S σ = some st') : ∃ v j a S' xs ys, S = .long v :: .int j :: .ref a :: S' ∧ hget σ a = some (.inr (.inr xs)) ∧ k0 ≤ a ∧ aset xs j v = some ys ∧ st' = (pc, L, S', σ.set a (.inr (.inr ys))) := by
 unfold qastJ at h
 split at h
 ·rename_i v j a S'
  split at h
  ·rename_i x hx
   cases ht : (Nat.ble k0 a) with
   | false => rw [ht] at h; cases h
   | true =>
    rw [ht] at h
    simp only [cond_true] at h
    obtain ⟨u, hu, h⟩ := Option.bind_eq_some_iff.mp h
    cases h
    exact ⟨v, j, a, S', x, u, rfl, hx, Nat.le_of_ble_eq_true ht, hu, rfl⟩
  ·cases h
 ·cases h
theorem qlen_inv {pc : Nat} {L : QLoc} {S : List Value} {σ : QHeap} {st' : QSt} (h : qlen pc L S σ = some st') : ∃ a S' n, S = .ref a :: S' ∧ ((∃ ty xs, hget σ a = some (.inr (.inl (ty, xs))) ∧ n = xs.length) ∨ ∃ xs, hget σ a = some (.inr (.inr xs)) ∧ n = xs.length) ∧ st' = (pc, L, .int n.toInt32 :: S', σ) := by
 unfold qlen at h
 split at h
 ·rename_i a S'
  split at h
  ·rename_i x hx
   cases h; exact ⟨a, S', _, rfl, Or.inl ⟨x.1, x.2, hx, rfl⟩, rfl⟩
  ·rename_i x hx
   cases h; exact ⟨a, S', _, rfl, Or.inr ⟨x, hx, rfl⟩, rfl⟩
  ·cases h
 ·cases h
theorem isI_inv {v : Value} (h : isI v = true) : ∃ x, v = .int x := by cases v <;> simp [isI] at h; exact ⟨_, rfl⟩
theorem isJ_inv {v : Value} (h : isJ v = true) : ∃ x, v = .long x := by cases v <;> simp [isJ] at h; exact ⟨_, rfl⟩
theorem isR_inv {v : Value} (h : isR v = true) : ∃ x, v = .ref x := by cases v <;> simp [isR] at h; exact ⟨_, rfl⟩
theorem aget_inv {α : Type} {xs : List α} {j : Int32} {x : α} (h : aget xs j = some x) : ¬ j < 0 ∧ xs[j.toNatClampNeg]? = some x := by
 unfold aget at h
 split at h
 ·cases h
 ·rename_i q; exact ⟨q, h⟩
theorem aset_inv {α : Type} {xs ys : List α} {j : Int32} {x : α} (h : aset xs j x = some ys) : ¬ j < 0 ∧ j.toNatClampNeg < xs.length ∧ ys = xs.set j.toNatClampNeg x := by
 unfold aset at h
 split at h
 ·cases h
 ·rename_i q
  split at h
  ·rename_i q2; cases h; exact ⟨q, q2, rfl⟩
  ·cases h
theorem qnew_inv {n : Int32} {k : Nat} (h : qnew n = some k) : ¬ n < 0 ∧ n.toNatClampNeg = k ∧ k ≤ 67108864 := by
 unfold qnew at h
 split at h
 ·cases h
 ·rename_i q
  split at h
  ·rename_i q2; cases h; exact ⟨q, rfl, q2⟩
  ·cases h
theorem QCellOk.other {h h' : Heap} {a b : Addr} {sl : Nat} {w : Value} {c : QCell} (H : QCellOk Z ad h b c) (W : Wr h h' a sl w) (ne : b ≠ a) : QCellOk Z ad h' b c := by
 rcases c with vs | ⟨ty, xs⟩ | xs
 ·obtain ⟨h1, h2, h3⟩ := H
  exact ⟨h1.wr W, h2, fun k u hk hu => (h3 k u hk hu).other W (Or.inl ne)⟩
 ·obtain ⟨c, h1, h2⟩ := H
  exact ⟨c, h1.other W ne, h2⟩
 ·obtain ⟨c, h1, h2⟩ := H
  exact ⟨c, h1.other W ne, h2⟩
theorem QCellOk.ext {h h' : Heap} {b : Addr} {c : QCell} (H : QCellOk Z ad h b c) (E : Ext h h') : QCellOk Z ad h' b c := by
 rcases c with vs | ⟨ty, xs⟩ | xs
 ·obtain ⟨h1, h2, h3⟩ := H
  exact ⟨h1.ext E, h2, fun k u hk hu => (h3 k u hk hu).ext E⟩
 ·obtain ⟨c, h1, h2⟩ := H
  exact ⟨c, h1.ext E, h2⟩
 ·obtain ⟨c, h1, h2⟩ := H
  exact ⟨c, h1.ext E, h2⟩
theorem QRep.set {h h' : Heap} {σ : QHeap} {a : Nat} {sl : Nat} {w : Value} {c d : QCell} (H : QRep Z n0 ad h σ) (Ad : QAd n0 ad) (W : Wr h h' (ad a) sl w) (hc : hget σ a = some c) (hd : QCellOk Z ad h' (ad a) d) : QRep Z n0 ad h' (σ.set a d) := by
 obtain ⟨h1, h2, h3⟩ := H
 refine ⟨by simpa using h1, by rw [W.size, h2]; simp, fun k e he => ?_⟩
 rw [hget_set hc] at he
 split at he
 ·rename_i q; cases he; rw [q]; exact hd
 ·rename_i q; exact (h3 k e he).other W fun z => q (Ad.2 _ _ z)
theorem QRep.push {h h' : Heap} {σ : QHeap} {c : QCell} (H : QRep Z n0 ad h σ) (Ad : QAd n0 ad) (E : Ext h h') (hs : h'.size = h.size + 1) (hc : QCellOk Z ad h' h.size c) : QRep Z n0 ad h' (σ ++ [c]) := by
 obtain ⟨h1, h2, h3⟩ := H
 refine ⟨by simp; omega, by rw [hs, h2]; simp; omega, fun k e he => ?_⟩
 rw [hget_eq] at he
 rcases Nat.lt_or_ge k σ.length with q | q
 ·rw [List.getElem?_append_left q, ← hget_eq] at he
  exact (h3 k e he).ext E
 ·rw [List.getElem?_append_right q] at he
  obtain rfl : k = σ.length := by
   rcases Nat.lt_or_ge (k - σ.length) 1 with z | z
   ·omega
   ·rw [List.getElem?_eq_none (by simpa using z)] at he; cases he
  simp at he
  rw [← he, Ad.1 _ h1, ← h2]
  exact hc
theorem mem_of_contains {α : Type} [BEq α] [LawfulBEq α] {L : List α} {a : α} (h : L.contains a = true) : a ∈ L := by simpa using h
theorem lkF_lt : ∀ t ∈ lkF, t.2.2 < nF := by decide +kernel
theorem laid_of (W : QW Z a0) {k : Nat} (hk : k < nF) : Laid Z a0 cName cName (fNm k) (fDs k) := by
 have q := (qw_lay W) k hk
 cases hf : fFin k with
 | true => rw [hf] at q; exact Or.inr q
 | false => rw [hf] at q; exact Or.inl q
theorem qfit_inv {ty : FieldType} {v w : Value} (h : qfit ty v = some w) : v = w ∧ narrow ty (qv ad w) = qv ad w ∧ fits ty (qv ad w) = true := by
 unfold qfit at h
 split at h
 ·cases h; exact ⟨rfl, rfl, rfl⟩
 ·rename_i x
  obtain ⟨y, hy, h⟩ := Option.bind_eq_some_iff.mp h
  cases h
  unfold qboo at hy
  split at hy
  ·rename_i e; cases hy; subst e; exact ⟨rfl, rfl, rfl⟩
  ·split at hy
   ·rename_i e; cases hy; subst e; exact ⟨rfl, rfl, rfl⟩
   ·cases hy
 ·cases h; exact ⟨rfl, rfl, rfl⟩
 ·cases h; exact ⟨rfl, rfl, rfl⟩
 ·cases h
theorem vget_set {vs : List Value} {k j : Nat} {w : Value} (hk : k < vs.length) : vget (vs.set k w) j = if j = k then some w else vget vs j := by
 simp only [vget_eq, List.getElem?_set]
 by_cases e : k = j
 ·subst e; simp [hk]
 ·simp [e, Ne.symm e]
theorem ald_in {α : Type} {f : α → Value} {xs : List α} {c : Cell} {j : Int32} {x : α} (hc : c.slots = (xs.map f).toArray) (h : aget xs j = some x) : ¬ (j < 0 ∨ c.slots.size ≤ j.toNatClampNeg) ∧ c.slots[j.toNatClampNeg]? = some (f x) := by
 obtain ⟨h1, h2⟩ := aget_inv h
 have h3 := (List.getElem?_eq_some_iff.mp h2).1
 refine ⟨fun q => ?_, by rw [hc]; simp [h2]⟩
 rcases q with q | q
 ·exact h1 q
 ·rw [hc] at q; simp at q; omega
theorem ast_in {α : Type} {f : α → Value} {xs ys : List α} {c : Cell} {j : Int32} {x : α} (hc : c.slots = (xs.map f).toArray) (h : aset xs j x = some ys) : ¬ (j < 0 ∨ c.slots.size ≤ j.toNatClampNeg) ∧ (c.setSlot j.toNatClampNeg (f x)).slots = (ys.map f).toArray := by
 obtain ⟨h1, h2, rfl⟩ := aset_inv h
 refine ⟨fun q => ?_, by simp [Cell.setSlot, hc, List.map_set]⟩
 rcases q with q | q
 ·exact h1 q
 ·rw [hc] at q; simp at q; omega
theorem qgrow {σ : QHeap} {c : QCell} : qhs (σ ++ [c]) - qhs σ = qsz c := by rw [qhs_app]; simp [qhs]
set_option maxHeartbeats 4000000 in
theorem QTri.newArr (Ad : QAd n0 ad) (W : QW Z a0) {pc aux : Nat} {L : QLoc} {S : List Value} {σ : QHeap} {aty : ArrayType} {n : Int32} {k : Nat} {c : QCell} (hk : qnew n = some k) (hc : pCode m pc = some (.newarray aty, aux)) (hz : qsz c = k)
  (hq : ∀ (h' : Heap) (a : Addr) (cA : ClassId), Arr Z h' a (newA cA (newarray.typeOf aty) n) (newarray.typeOf aty) → QCellOk Z ad h' a c)
  (h : QTri l Z n0 ad m (pc + 2, L, .ref σ.length :: S, σ ++ [c]) v σ') : QTri l Z n0 ad m (pc, L, .int n :: S, σ) v σ' := by
 have hd : decode (pBytes m) pc = .ok (.newarray aty, 2) := pDecN hc rfl
 obtain ⟨n1, n2, n3⟩ := qnew_inv hk
 refine QTri.gen h (by simp) (by simp [qhs_app]) fun p e R s mid args below meth c' T locs cells slots C hcx X hR hF hL hC hn hc1 hsl => ?_
 obtain ⟨hx, hZ, hby, hml, hret, hown, hnm, hfr, hlo⟩ := hcx
 have hd2 : decode c'.code pc = .ok (.newarray aty, 2) := by rw [hby]; exact hd
 simp only [List.length_append, List.length_singleton, Nat.add_sub_cancel_left, qgrow, hz] at hc1 hsl ⊢
 obtain ⟨T₁, h₁, cA, X₁, e₁, E₁, A₁, st⟩ := newP X hx hZ (aty := aty) (qw_arr W (newarray.typeOf aty) (mem_of_contains (show aTys.contains (newarray.typeOf aty) = true from pRest hc))) rfl (g := mkF mid pc C (.int n :: S.map (qv ad))) rfl hd2 rfl n1 (cap := k) (by omega) (by omega) hc1 hsl
 have hsz : h₁.size = T.heap.size + 1 := by
  have q1 := X₁.heapSize
  have q2 : T.heap.size < h₁.size := A₁.lt
  have q3 := hR.2.1
  rw [e₁] at q1
  have : n0 + (σ.length - k0) = s.heap.size + cells := hn
  have q3' : T.heap.size = n0 + (σ.length - k0) := q3
  omega
 refine ⟨T₁, locs, C, X₁, ?_, hF, hL, hC, fun target q => ?_⟩
 ·rw [e₁]; exact QRep.push hR Ad E₁ hsz (hq _ _ _ A₁)
 ·refine st _ ?_
  have e2 : ad σ.length = T.heap.size := by rw [Ad.1 _ hR.1]; exact hR.2.1.symm
  simp only [List.map_cons, qv, e2] at q
  exact q
set_option maxHeartbeats 4000000 in
theorem QTri.getfield (W : QW Z a0) {pc idx aux : Nat} {L : QLoc} {S : List Value} {σ : QHeap} {st' : QSt} (h : QTri l Z n0 ad m st' v σ') (hc : pCode m pc = some (.getfield idx, aux)) (hs : qget (pc + 3) L S σ aux = some st') : QTri l Z n0 ad m (pc, L, S, σ) v σ' := by
 have hd : decode (pBytes m) pc = .ok (.getfield idx, 3) := pDecN hc rfl
 obtain ⟨a, S', vs, w, rfl, hvs, hw, rfl⟩ := qget_inv hs
 have hm := mem_of_contains (show lkF.contains (pK m, idx, aux) = true from pRest hc)
 have hlt := lkF_lt _ hm
 refine QTri.pure h rfl fun p e R s mid args below meth c T locs cells slots C hcx X hR hL hC => ?_
 obtain ⟨hx, hZ, hby, hml, hret, hown, hnm, hfr, hlo⟩ := hcx
 have hd2 : decode c.code pc = .ok (.getfield idx, 3) := by rw [hby]; exact hd
 have F := (hR.2.2 _ _ hvs).2.2 aux w hlt hw
 obtain ⟨T₁, X₁, e₁, st⟩ := getF X hx hZ hown (host := "") (index := idx) (Or.inl (qw_fl W (pK m, idx, aux) hm)) Via.refl rfl F (g := mkF mid pc C (List.map (qv ad) (.ref a :: S'))) rfl rfl hd2
 exact ⟨T₁, C, X₁, e₁, hL, hC, st⟩
set_option maxHeartbeats 4000000 in
theorem QTri.putfield (Ad : QAd n0 ad) (W : QW Z a0) {pc idx aux : Nat} {L : QLoc} {S : List Value} {σ : QHeap} {st' : QSt} (h : QTri l Z n0 ad m st' v σ') (hc : pCode m pc = some (.putfield idx, aux)) (hs : qput (pc + 3) L S σ aux = some st') : QTri l Z n0 ad m (pc, L, S, σ) v σ' := by
 have hd : decode (pBytes m) pc = .ok (.putfield idx, 3) := pDecN hc rfl
 obtain ⟨w, a, S', vs, u, rfl, hvs, b1, b2, hu, rfl⟩ := qput_inv hs
 obtain ⟨r1, r2⟩ := Bool.and_eq_true_iff.mp (show (lkF.contains (pK m, idx, aux) && (!fFin aux || (pK m == 1 && pNm m == "<init>"))) = true from pRest hc)
 have hm := mem_of_contains r1
 have hlt := lkF_lt _ hm
 obtain ⟨rfl, q2, q3⟩ := qfit_inv (ad := ad) hu
 have hsz : qhs (σ.set a (Sum.inl (vs.set aux w))) = qhs σ := qhs_set hvs rfl
 refine QTri.gen h (by simp) (by show qhs σ ≤ qhs (σ.set a (Sum.inl (vs.set aux w))); rw [hsz]; exact Nat.le_refl _) fun p e R s mid args below meth c T locs cells slots C hcx X hR hF hL hC hn hc1 hsl => ?_
 obtain ⟨hx, hZ, hby, hml, hret, hown, hnm, hfr, hlo⟩ := hcx
 have hd2 : decode c.code pc = .ok (.putfield idx, 3) := by rw [hby]; exact hd
 obtain ⟨E, l1, Fs⟩ := hR.2.2 _ _ hvs
 obtain ⟨old, hold⟩ : ∃ old, vget vs aux = some old := by rw [vget_eq]; exact ⟨_, List.getElem?_eq_getElem b2⟩
 have lay : (Cond.lays cName cName (fNm aux) (fDs aux)).before a0 Z = true ∨ ((Cond.laysFinal cName cName (fNm aux) (fDs aux)).before a0 Z = true ∧ kName (pK m) = cName ∧ meth.name = "<init>") := by
  have q := (qw_lay W) aux hlt
  cases hf : fFin aux with
  | false => rw [hf] at q; exact Or.inl q
  | true =>
   rw [hf] at q r2
   simp at r2
   exact Or.inr ⟨q, by rw [r2.1]; exact kOne, by rw [hnm]; exact r2.2⟩
 obtain ⟨T₁, h₁, X₁, e₁, W₁, st⟩ := putF X hx hZ hown (host := "") (index := idx) (Or.inl (qw_fl W (pK m, idx, aux) hm)) Via.refl rfl (Fs aux old hlt hold) E lay ((qw_inst W)) (fPrs aux hlt) q2 q3 (g := mkF mid pc C (List.map (qv ad) (w :: .ref a :: S'))) rfl rfl hd2
 refine ⟨T₁, _, C, ?_, ?_, Fr.snoc X₁ hF (by rw [Ad.1 a b1]; exact Nat.le_add_right _ _), hL, hC, st⟩
 ·show Stand _ _ _ _ _ _ _ _ _ _ _ _ (cells + ((σ.set a (Sum.inl (vs.set aux w))).length - σ.length)) (slots + (qhs (σ.set a (Sum.inl (vs.set aux w))) - qhs σ))
  rw [hsz, Nat.sub_self, List.length_set, Nat.sub_self]
  exact X₁
 ·rw [e₁]
  refine QRep.set hR Ad W₁ hvs ⟨E.wr W₁, by simpa using l1, fun k u hk hu => ?_⟩
  rw [vget_set b2] at hu
  split at hu
  ·rename_i e; cases hu; rw [e]; exact (Fs aux old hlt hold).same W₁
  ·rename_i ne
   exact (Fs k u hk hu).other W₁ (Or.inr (slot_ne (laid_of W hk) (laid_of W hlt) (fun z => ne (fInj _ hk _ hlt z)) (fPrs _ hk) (fPrs _ hlt)))
theorem tyI_inv {ty : FieldType} (h : tyI ty = true) : ty = .int := by cases ty <;> simp [tyI] at h; rfl
theorem tyB_inv {ty : FieldType} (h : tyB ty = true) : ty = .boolean ∨ ty = .byte := by cases ty <;> simp [tyB] at h <;> simp
set_option maxHeartbeats 4000000 in
theorem QTri.iaload {pc aux : Nat} {L : QLoc} {S : List Value} {σ : QHeap} {st' : QSt} (h : QTri l Z n0 ad m st' v σ') (hc : pCode m pc = some (.iaload, aux)) (hs : qald (pc + 1) L S σ tyI = some st') : QTri l Z n0 ad m (pc, L, S, σ) v σ' := by
 have hd : decode (pBytes m) pc = .ok (.iaload, 1) := pDecN hc rfl
 obtain ⟨j, a, S', ty, xs, w, rfl, hx1, ht, hw, rfl⟩ := qald_inv hs
 obtain rfl := tyI_inv ht
 refine QTri.stack h fun p e R s mid args below meth c T locs cells slots C target hx hZ hby hown X hR hL k => ?_
 have hd2 : decode c.code pc = .ok (.iaload, 1) := by rw [hby]; exact hd
 obtain ⟨cl, A, hsl⟩ := hR.2.2 _ _ hx1
 obtain ⟨i1, i2⟩ := ald_in hsl hw
 exact X.iaload hx A.1 (State.isArrayOf_alike hZ.alike A.2.1) A.2.2 i1 i2 (g := mkF mid pc C (List.map (qv ad) (.int j :: .ref a :: S'))) rfl rfl hd2 _ k
set_option maxHeartbeats 4000000 in
theorem QTri.baload {pc aux : Nat} {L : QLoc} {S : List Value} {σ : QHeap} {st' : QSt} (h : QTri l Z n0 ad m st' v σ') (hc : pCode m pc = some (.baload, aux)) (hs : qald (pc + 1) L S σ tyB = some st') : QTri l Z n0 ad m (pc, L, S, σ) v σ' := by
 have hd : decode (pBytes m) pc = .ok (.baload, 1) := pDecN hc rfl
 obtain ⟨j, a, S', ty, xs, w, rfl, hx1, ht, hw, rfl⟩ := qald_inv hs
 refine QTri.stack h fun p e R s mid args below meth c T locs cells slots C target hx hZ hby hown X hR hL k => ?_
 have hd2 : decode c.code pc = .ok (.baload, 1) := by rw [hby]; exact hd
 obtain ⟨cl, A, hsl⟩ := hR.2.2 _ _ hx1
 obtain ⟨i1, i2⟩ := ald_in hsl hw
 rcases tyB_inv ht with rfl | rfl
 ·exact X.baloadBooleans hx A.1 (State.isArrayOf_alike hZ.alike A.2.1) A.2.2 i1 i2 (g := mkF mid pc C (List.map (qv ad) (.int j :: .ref a :: S'))) rfl rfl hd2 _ k
 ·exact X.baloadBytes hx A.1 (State.isArrayOf_alike hZ.alike A.2.1) A.2.2 i1 i2 (g := mkF mid pc C (List.map (qv ad) (.int j :: .ref a :: S'))) rfl rfl hd2 _ k
set_option maxHeartbeats 4000000 in
theorem QTri.laload {pc aux : Nat} {L : QLoc} {S : List Value} {σ : QHeap} {st' : QSt} (h : QTri l Z n0 ad m st' v σ') (hc : pCode m pc = some (.laload, aux)) (hs : qaldJ (pc + 1) L S σ = some st') : QTri l Z n0 ad m (pc, L, S, σ) v σ' := by
 have hd : decode (pBytes m) pc = .ok (.laload, 1) := pDecN hc rfl
 obtain ⟨j, a, S', xs, w, rfl, hx1, hw, rfl⟩ := qaldJ_inv hs
 refine QTri.stack h fun p e R s mid args below meth c T locs cells slots C target hx hZ hby hown X hR hL k => ?_
 have hd2 : decode c.code pc = .ok (.laload, 1) := by rw [hby]; exact hd
 obtain ⟨cl, A, hsl⟩ := hR.2.2 _ _ hx1
 obtain ⟨i1, i2⟩ := ald_in hsl hw
 exact X.laload hx A.1 (State.isArrayOf_alike hZ.alike A.2.1) A.2.2 i1 i2 (g := mkF mid pc C (List.map (qv ad) (.int j :: .ref a :: S'))) rfl rfl hd2 _ k
theorem QTri.stored (Ad : QAd n0 ad) {pc : Nat} {L : QLoc} {S S' : List Value} {σ : QHeap} {a j : Nat} {w : Value} {c d : QCell} (hx1 : hget σ a = some c) (b1 : k0 ≤ a) (hz : qsz d = qsz c) (h : QTri l Z n0 ad m (pc + 1, L, S', σ.set a d) v σ')
  (hs : ∀ (p : Program) (e : Env) (R : Room) (s : State) (mid : MethodId) (args : Array Value) (below : List Frame) (meth : Method) (c : Code) (T : State) (locs : List Loc) (cells slots : Nat) (C : Array Slot),
   QCx Z p R s mid meth c m → Stand p l e R s mid args below meth c T locs cells slots → QRep Z n0 ad T.heap σ →
   ∃ T' h', Stand p l e R s mid args below meth c T' (locs ++ [⟨ad a, j⟩]) cells slots ∧ T'.heap = h' ∧ Wr T.heap h' (ad a) j w ∧ QCellOk Z ad h' (ad a) d ∧ ∀ target, Steps p.tables e below (T'.setTop (mkF mid (pc + 1) C (S'.map (qv ad)))) target → Steps p.tables e below (T.setTop (mkF mid pc C (S.map (qv ad)))) target) :
  QTri l Z n0 ad m (pc, L, S, σ) v σ' := by
 have hsz : qhs (σ.set a d) = qhs σ := qhs_set hx1 hz
 refine QTri.gen h (by simp) (by show qhs σ ≤ qhs (σ.set a d); rw [hsz]; exact Nat.le_refl _) fun p e R s mid args below meth c T locs cells slots C hcx X hR hF hL hC hn hc1 hsl => ?_
 obtain ⟨T₁, h₁, X₁, e₁, W₁, Q₁, st⟩ := hs p e R s mid args below meth c T locs cells slots C hcx X hR
 refine ⟨T₁, _, C, ?_, ?_, Fr.snoc X₁ hF (by rw [Ad.1 a b1]; exact Nat.le_add_right _ _), hL, hC, st⟩
 ·show Stand _ _ _ _ _ _ _ _ _ _ _ _ (cells + ((σ.set a d).length - σ.length)) (slots + (qhs (σ.set a d) - qhs σ))
  rw [hsz, Nat.sub_self, List.length_set, Nat.sub_self]
  exact X₁
 ·rw [e₁]
  exact QRep.set hR Ad W₁ hx1 Q₁
set_option maxHeartbeats 4000000 in
theorem QTri.iastore (Ad : QAd n0 ad) {pc aux : Nat} {L : QLoc} {S : List Value} {σ : QHeap} {st' : QSt} (h : QTri l Z n0 ad m st' v σ') (hc : pCode m pc = some (.iastore, aux)) (hs : qast (pc + 1) L S σ tyI = some st') : QTri l Z n0 ad m (pc, L, S, σ) v σ' := by
 have hd : decode (pBytes m) pc = .ok (.iastore, 1) := pDecN hc rfl
 obtain ⟨w, j, a, S', ty, xs, ys, rfl, hx1, ht, b1, hw, rfl⟩ := qast_inv hs
 obtain rfl := tyI_inv ht
 refine QTri.stored Ad (j := j.toNatClampNeg) (w := .int w) hx1 b1 (by rw [(aset_inv hw).2.2]; simp [qsz]) h fun p e R s mid args below meth c T locs cells slots C hcx X hR => ?_
 have hd2 : decode c.code pc = .ok (.iastore, 1) := by rw [hcx.2.2.1]; exact hd
 obtain ⟨cl, A, hsl⟩ := hR.2.2 _ _ hx1
 obtain ⟨i1, i2⟩ := ast_in hsl hw
 obtain ⟨T₁, h₁, X₁, e₁, W₁, st⟩ := stI X hcx.1 hcx.2.1 rfl A i1 (g := mkF mid pc C (List.map (qv ad) (.int w :: .int j :: .ref a :: S'))) rfl rfl hd2
 exact ⟨T₁, h₁, X₁, e₁, W₁, ⟨_, A.same W₁, i2⟩, st⟩
set_option maxHeartbeats 4000000 in
theorem QTri.bastore (Ad : QAd n0 ad) {pc aux : Nat} {L : QLoc} {S : List Value} {σ : QHeap} {st' : QSt} (h : QTri l Z n0 ad m st' v σ') (hc : pCode m pc = some (.bastore, aux)) (hs : qast (pc + 1) L S σ tyB = some st') : QTri l Z n0 ad m (pc, L, S, σ) v σ' := by
 have hd : decode (pBytes m) pc = .ok (.bastore, 1) := pDecN hc rfl
 obtain ⟨w, j, a, S', ty, xs, ys, rfl, hx1, ht, b1, hw, rfl⟩ := qast_inv hs
 refine QTri.stored Ad (j := j.toNatClampNeg) (w := .int (qnar ty w)) hx1 b1 (by rw [(aset_inv hw).2.2]; simp [qsz]) h fun p e R s mid args below meth c T locs cells slots C hcx X hR => ?_
 have hd2 : decode c.code pc = .ok (.bastore, 1) := by rw [hcx.2.2.1]; exact hd
 obtain ⟨cl, A, hsl⟩ := hR.2.2 _ _ hx1
 obtain ⟨i1, i2⟩ := ast_in hsl hw
 rcases tyB_inv ht with rfl | rfl
 ·obtain ⟨T₁, h₁, X₁, e₁, W₁, st⟩ := stZ X hcx.1 hcx.2.1 rfl A i1 (g := mkF mid pc C (List.map (qv ad) (.int w :: .int j :: .ref a :: S'))) rfl rfl hd2
  exact ⟨T₁, h₁, X₁, e₁, W₁, ⟨_, A.same W₁, i2⟩, st⟩
 ·obtain ⟨T₁, h₁, X₁, e₁, W₁, st⟩ := stB X hcx.1 hcx.2.1 rfl A i1 (g := mkF mid pc C (List.map (qv ad) (.int w :: .int j :: .ref a :: S'))) rfl rfl hd2
  exact ⟨T₁, h₁, X₁, e₁, W₁, ⟨_, A.same W₁, i2⟩, st⟩
set_option maxHeartbeats 4000000 in
theorem QTri.lastore (Ad : QAd n0 ad) {pc aux : Nat} {L : QLoc} {S : List Value} {σ : QHeap} {st' : QSt} (h : QTri l Z n0 ad m st' v σ') (hc : pCode m pc = some (.lastore, aux)) (hs : qastJ (pc + 1) L S σ = some st') : QTri l Z n0 ad m (pc, L, S, σ) v σ' := by
 have hd : decode (pBytes m) pc = .ok (.lastore, 1) := pDecN hc rfl
 obtain ⟨w, j, a, S', xs, ys, rfl, hx1, b1, hw, rfl⟩ := qastJ_inv hs
 refine QTri.stored Ad (j := j.toNatClampNeg) (w := .long w) hx1 b1 (by rw [(aset_inv hw).2.2]; simp [qsz]) h fun p e R s mid args below meth c T locs cells slots C hcx X hR => ?_
 have hd2 : decode c.code pc = .ok (.lastore, 1) := by rw [hcx.2.2.1]; exact hd
 obtain ⟨cl, A, hsl⟩ := hR.2.2 _ _ hx1
 obtain ⟨i1, i2⟩ := ast_in hsl hw
 obtain ⟨T₁, h₁, X₁, e₁, W₁, st⟩ := stJ X hcx.1 hcx.2.1 rfl A i1 (g := mkF mid pc C (List.map (qv ad) (.long w :: .int j :: .ref a :: S'))) rfl rfl hd2
 exact ⟨T₁, h₁, X₁, e₁, W₁, ⟨_, A.same W₁, i2⟩, st⟩
set_option maxHeartbeats 4000000 in
theorem QTri.alen {pc aux : Nat} {L : QLoc} {S : List Value} {σ : QHeap} {st' : QSt} (h : QTri l Z n0 ad m st' v σ') (hc : pCode m pc = some (.arraylength, aux)) (hs : qlen (pc + 1) L S σ = some st') : QTri l Z n0 ad m (pc, L, S, σ) v σ' := by
 have hd : decode (pBytes m) pc = .ok (.arraylength, 1) := pDecN hc rfl
 obtain ⟨a, S', n, rfl, hx1, rfl⟩ := qlen_inv hs
 refine QTri.stack h fun p e R s mid args below meth c T locs cells slots C target hx hZ hby hown X hR hL k => ?_
 have hd2 : decode c.code pc = .ok (.arraylength, 1) := by rw [hby]; exact hd
 rcases hx1 with ⟨ty, xs, hx1, rfl⟩ | ⟨xs, hx1, rfl⟩
 ·obtain ⟨cl, A, hsl⟩ := hR.2.2 _ _ hx1
  have e1 : cl.slots.size = xs.length := by rw [hsl]; simp
  rw [← e1] at k
  exact X.arraylength hx A.1 (State.isArrayOf_alike hZ.alike A.2.1) (g := mkF mid pc C (List.map (qv ad) (.ref a :: S'))) rfl rfl hd2 _ k
 ·obtain ⟨cl, A, hsl⟩ := hR.2.2 _ _ hx1
  have e1 : cl.slots.size = xs.length := by rw [hsl]; simp
  rw [← e1] at k
  exact X.arraylength hx A.1 (State.isArrayOf_alike hZ.alike A.2.1) (g := mkF mid pc C (List.map (qv ad) (.ref a :: S'))) rfl rfl hd2 _ k
set_option maxHeartbeats 4000000 in
theorem QTri.newObj (Ad : QAd n0 ad) (W : QW Z a0) {pc idx aux : Nat} {L : QLoc} {S : List Value} {σ : QHeap} (h : QTri l Z n0 ad m (pc + 3, L, .ref σ.length :: S, σ ++ [.inl cDef]) v σ') (hc : pCode m pc = some (.new idx, aux)) : QTri l Z n0 ad m (pc, L, S, σ) v σ' := by
 have hd : decode (pBytes m) pc = .ok (.new idx, 3) := pDecN hc rfl
 have hm := mem_of_contains (show lkN.contains (pK m, idx) = true from pRest hc)
 refine QTri.gen h (by simp) (by simp [qhs_app]) fun p e R s mid args below meth c T locs cells slots C hcx X hR hF hL hC hn hc1 hsl => ?_
 obtain ⟨hx, hZ, hby, hml, hret, hown, hnm, hfr, hlo⟩ := hcx
 have hd2 : decode c.code pc = .ok (.new idx, 3) := by rw [hby]; exact hd
 simp only [List.length_append, List.length_singleton, Nat.add_sub_cancel_left, qgrow, qsz] at hc1 hsl ⊢
 obtain ⟨T₁, h₁, X₁, e₁, E₁, A₁, D₁, -, st⟩ := newO X hx hZ hown (index := idx) (qw_nw W (pK m, idx) hm) ((qw_inst W)) ((qw_init W)) rfl (g := mkF mid pc C (S.map (qv ad))) rfl hd2 hc1 hsl
 have hsz : h₁.size = T.heap.size + 1 := by
  have q1 := X₁.heapSize
  have q2 : T.heap.size < h₁.size := A₁.lt
  have q3 : T.heap.size = n0 + (σ.length - k0) := hR.2.1
  rw [e₁] at q1
  have : n0 + (σ.length - k0) = s.heap.size + cells := hn
  omega
 refine ⟨T₁, locs, C, X₁, ?_, hF, hL, hC, fun target q => ?_⟩
 ·rw [e₁]
  refine QRep.push hR Ad E₁ hsz ⟨A₁, cDefL, fun k u hk hu => ?_⟩
  rw [cDefs k hk] at hu
  cases hu
  have e3 : qv ad (defaultValue (fTy k)) = defaultValue (fTy k) := by
   cases hq : defaultValue (fTy k) with
   | ref a => exact absurd hq (fDef k hk a)
   | _ => rfl
  rw [e3]
  exact D₁ (laid_of W hk) (fPrs k hk)
 ·refine st _ ?_
  have e2 : ad σ.length = T.heap.size := by rw [Ad.1 _ hR.1]; exact hR.2.1.symm
  simp only [List.map_cons, qv, e2] at q
  exact q
set_option maxHeartbeats 8000000 in
theorem QTri.step (Ad : QAd n0 ad) (W : QW Z a0) {st st' : QSt} (h : QTri l Z n0 ad m st' v σ') (hs : qstep m st = some st') : QTri l Z n0 ad m st v σ' := by
 obtain ⟨pc, L, S, σ⟩ := st
 unfold qstep at hs
 dsimp only at hs
 split at hs
 rotate_left
 ·cases hs
 rename_i i aux hc
 have hd := pDecN hc rfl
 have hr := pRest hc
 unfold qexec at hs
 split at hs
 ·-- aload_n
  obtain ⟨w, h1, h2, rfl⟩ := qload_inv hs
  obtain ⟨a, rfl⟩ := isR_inv h2
  exact QTri.stack h fun p e R s mid args below meth c T locs cells slots C target hx hZ hby hown X hR hL k => XS.aloadN X.here hx rfl (hb hby hd) (hL.2.1 _ _ h1) rfl k
 ·obtain ⟨w, h1, h2, rfl⟩ := qload_inv hs
  obtain ⟨a, rfl⟩ := isR_inv h2
  exact QTri.stack h fun p e R s mid args below meth c T locs cells slots C target hx hZ hby hown X hR hL k => XS.aload X.here hx rfl (hb hby hd) (hL.2.1 _ _ h1) rfl k
 ·obtain ⟨w, h1, h2, rfl⟩ := qload_inv hs
  obtain ⟨a, rfl⟩ := isI_inv h2
  exact QTri.stack h fun p e R s mid args below meth c T locs cells slots C target hx hZ hby hown X hR hL k => XS.iloadN X.here hx rfl (hb hby hd) (hL.2.1 _ _ h1) k
 ·obtain ⟨w, h1, h2, rfl⟩ := qload_inv hs
  obtain ⟨a, rfl⟩ := isI_inv h2
  exact QTri.stack h fun p e R s mid args below meth c T locs cells slots C target hx hZ hby hown X hR hL k => XS.iload X.here hx rfl (hb hby hd) (hL.2.1 _ _ h1) k
 ·obtain ⟨w, h1, h2, rfl⟩ := qload_inv hs
  obtain ⟨a, rfl⟩ := isJ_inv h2
  exact QTri.stack h fun p e R s mid args below meth c T locs cells slots C target hx hZ hby hown X hR hL k => XT.lloadN X.here hx rfl (hb hby hd) (hL.2.1 _ _ h1) k
 ·obtain ⟨w, h1, h2, rfl⟩ := qload_inv hs
  obtain ⟨a, rfl⟩ := isJ_inv h2
  exact QTri.stack h fun p e R s mid args below meth c T locs cells slots C target hx hZ hby hown X hR hL k => XT.lload X.here hx rfl (hb hby hd) (hL.2.1 _ _ h1) k
 ·cases hs -- iconst
  exact QTri.stack h fun p e R s mid args below meth c T locs cells slots C target hx hZ hby hown X hR hL k => XS.iconst X.here hx rfl (hb hby hd) k
 ·cases hs
  exact QTri.stack h fun p e R s mid args below meth c T locs cells slots C target hx hZ hby hown X hR hL k => XS.bipush X.here hx rfl (hb hby hd) k
 ·cases hs
  exact QTri.stack h fun p e R s mid args below meth c T locs cells slots C target hx hZ hby hown X hR hL k => XS.sipush X.here hx rfl (hb hby hd) k
 ·cases hs
  exact QTri.stack h fun p e R s mid args below meth c T locs cells slots C target hx hZ hby hown X hR hL k => XT.lconst X.here hx rfl (hb hby hd) k
 ·-- ldc
  unfold qldc at hs
  split at hs
  ·rename_i w hw
   cases hs
   obtain ⟨x, hx1, hx2⟩ := qw_cI W (pK m, _, aux) (mem_of_contains (show lkC.contains (pK m, _, aux) = true from hr))
   rw [show vget cK aux = some w from hw] at hx1
   cases hx1
   exact QTri.stack h fun p e R s mid args below meth c T locs cells slots C target hx hZ hby hown X hR hL k => X.ldcI hx hown (mv hZ hx2) rfl (hb hby hd) k
  ·cases hs
 ·unfold qldc at hs
  split at hs
  ·rename_i w hw
   cases hs
   obtain ⟨x, hx1, hx2⟩ := qw_cJ W (pK m, _, aux) (mem_of_contains (show lkD.contains (pK m, _, aux) = true from hr))
   rw [show vget cK aux = some w from hw] at hx1
   cases hx1
   exact QTri.stack h fun p e R s mid args below meth c T locs cells slots C target hx hZ hby hown X hR hL k => X.ldc2J hx hown (mv hZ hx2) rfl (hb hby hd) k
  ·cases hs
 ·-- istore_n
  obtain ⟨w, S', L', rfl, h2, h3, rfl⟩ := qstore_inv hs
  obtain ⟨a, rfl⟩ := isI_inv h2
  exact QTri.frame h fun p e R s mid args below meth c T locs cells slots C hcx X hR hL hC => by
   obtain ⟨D, d1, d2, d3⟩ := store_ok hL h3
   exact ⟨D, d2, d3.trans hC, fun target k => XS.istoreN X.here hcx.1 rfl (hb hcx.2.2.1 hd) rfl d1 k⟩
 ·obtain ⟨w, S', L', rfl, h2, h3, rfl⟩ := qstore_inv hs
  obtain ⟨a, rfl⟩ := isI_inv h2
  exact QTri.frame h fun p e R s mid args below meth c T locs cells slots C hcx X hR hL hC => by
   obtain ⟨D, d1, d2, d3⟩ := store_ok hL h3
   exact ⟨D, d2, d3.trans hC, fun target k => XS.istore X.here hcx.1 rfl (hb hcx.2.2.1 hd) rfl d1 k⟩
 ·obtain ⟨w, S', L', rfl, h2, h3, rfl⟩ := qstore_inv hs
  obtain ⟨a, rfl⟩ := isJ_inv h2
  exact QTri.frame h fun p e R s mid args below meth c T locs cells slots C hcx X hR hL hC => by
   obtain ⟨D, d1, d2, d3⟩ := store_ok hL h3
   exact ⟨D, d2, d3.trans hC, fun target k => XT.lstoreN X.here hcx.1 rfl (hb hcx.2.2.1 hd) rfl d1 k⟩
 ·obtain ⟨w, S', L', rfl, h2, h3, rfl⟩ := qstore_inv hs
  obtain ⟨a, rfl⟩ := isJ_inv h2
  exact QTri.frame h fun p e R s mid args below meth c T locs cells slots C hcx X hR hL hC => by
   obtain ⟨D, d1, d2, d3⟩ := store_ok hL h3
   exact ⟨D, d2, d3.trans hC, fun target k => XT.lstore X.here hcx.1 rfl (hb hcx.2.2.1 hd) rfl d1 k⟩
 ·obtain ⟨w, S', L', rfl, h2, h3, rfl⟩ := qstore_inv hs
  obtain ⟨a, rfl⟩ := isR_inv h2
  exact QTri.frame h fun p e R s mid args below meth c T locs cells slots C hcx X hR hL hC => by
   obtain ⟨D, d1, d2, d3⟩ := store_ok hL h3
   exact ⟨D, d2, d3.trans hC, fun target k => XS.astoreN X.here hcx.1 rfl (hb hcx.2.2.1 hd) rfl rfl d1 k⟩
 ·obtain ⟨w, S', L', rfl, h2, h3, rfl⟩ := qstore_inv hs
  obtain ⟨a, rfl⟩ := isR_inv h2
  exact QTri.frame h fun p e R s mid args below meth c T locs cells slots C hcx X hR hL hC => by
   obtain ⟨D, d1, d2, d3⟩ := store_ok hL h3
   exact ⟨D, d2, d3.trans hC, fun target k => XS.astore X.here hcx.1 rfl (hb hcx.2.2.1 hd) rfl rfl d1 k⟩
 ·-- iinc
  unfold qinc at hs
  split at hs
  ·rename_i x hx1
   split at hs
   ·rename_i L' hL'
    cases hs
    exact QTri.frame h fun p e R s mid args below meth c T locs cells slots C hcx X hR hL hC => by
     obtain ⟨D, d1, d2, d3⟩ := store_ok hL hL'
     exact ⟨D, d2, d3.trans hC, fun target k => XS.iinc X.here hcx.1 rfl (hb hcx.2.2.1 hd) (hL.2.1 _ _ hx1) d1 k⟩
   ·cases hs
  ·cases hs
 ·obtain ⟨x, y, S', rfl, rfl⟩ := qbin_inv hs -- iadd
  exact QTri.stack h fun p e R s mid args below meth c T locs cells slots C target hx hZ hby hown X hR hL k => XS.iadd X.here hx rfl (hb hby hd) rfl k
 ·obtain ⟨x, y, S', rfl, rfl⟩ := qbin_inv hs
  exact QTri.stack h fun p e R s mid args below meth c T locs cells slots C target hx hZ hby hown X hR hL k => XS.isub X.here hx rfl (hb hby hd) rfl k
 ·obtain ⟨x, y, S', rfl, rfl⟩ := qbin_inv hs
  exact QTri.stack h fun p e R s mid args below meth c T locs cells slots C target hx hZ hby hown X hR hL k => XS.imul X.here hx rfl (hb hby hd) rfl k
 ·obtain ⟨x, y, S', rfl, rfl⟩ := qbin_inv hs
  exact QTri.stack h fun p e R s mid args below meth c T locs cells slots C target hx hZ hby hown X hR hL k => XS.iand X.here hx rfl (hb hby hd) rfl k
 ·obtain ⟨x, y, S', rfl, rfl⟩ := qbin_inv hs
  exact QTri.stack h fun p e R s mid args below meth c T locs cells slots C target hx hZ hby hown X hR hL k => XT.ior X.here hx rfl (hb hby hd) rfl k
 ·obtain ⟨x, y, S', rfl, rfl⟩ := qbin_inv hs
  exact QTri.stack h fun p e R s mid args below meth c T locs cells slots C target hx hZ hby hown X hR hL k => XT.ixor X.here hx rfl (hb hby hd) rfl k
 ·obtain ⟨x, y, S', rfl, rfl⟩ := qbin_inv hs
  exact QTri.stack h fun p e R s mid args below meth c T locs cells slots C target hx hZ hby hown X hR hL k => XT.ishl X.here hx rfl (hb hby hd) rfl k
 ·obtain ⟨x, y, S', rfl, rfl⟩ := qbin_inv hs
  exact QTri.stack h fun p e R s mid args below meth c T locs cells slots C target hx hZ hby hown X hR hL k => XT.ishr X.here hx rfl (hb hby hd) rfl k
 ·obtain ⟨x, y, S', rfl, rfl⟩ := qbin_inv hs
  exact QTri.stack h fun p e R s mid args below meth c T locs cells slots C target hx hZ hby hown X hR hL k => XT.iushr X.here hx rfl (hb hby hd) rfl k
 ·obtain ⟨x, y, z, S', rfl, hz, rfl⟩ := qbino_inv hs -- idiv
  unfold qdiv at hz
  split at hz
  ·cases hz
  ·rename_i hy
   cases hz
   exact QTri.stack h fun p e R s mid args below meth c T locs cells slots C target hx hZ hby hown X hR hL k => XS.idiv X.here hx rfl (hb hby hd) rfl hy k
 ·obtain ⟨x, y, z, S', rfl, hz, rfl⟩ := qbino_inv hs
  unfold qrem at hz
  split at hz
  ·cases hz
  ·rename_i hy
   cases hz
   exact QTri.stack h fun p e R s mid args below meth c T locs cells slots C target hx hZ hby hown X hR hL k => iremM X hx rfl (hb hby hd) rfl hy k
 ·obtain ⟨x, S', rfl, rfl⟩ := quni_inv hs -- ineg
  exact QTri.stack h fun p e R s mid args below meth c T locs cells slots C target hx hZ hby hown X hR hL k => XS.ineg X.here hx rfl (hb hby hd) rfl k
 ·obtain ⟨x, S', rfl, rfl⟩ := quni_inv hs
  exact QTri.stack h fun p e R s mid args below meth c T locs cells slots C target hx hZ hby hown X hR hL k => XT.i2l X.here hx rfl (hb hby hd) rfl k
 ·obtain ⟨x, S', rfl, rfl⟩ := quni_inv hs
  exact QTri.stack h fun p e R s mid args below meth c T locs cells slots C target hx hZ hby hown X hR hL k => XT.i2b X.here hx rfl (hb hby hd) rfl k
 ·obtain ⟨x, S', rfl, rfl⟩ := quniJ_inv hs
  exact QTri.stack h fun p e R s mid args below meth c T locs cells slots C target hx hZ hby hown X hR hL k => XT.l2i X.here hx rfl (hb hby hd) rfl k
 ·obtain ⟨x, S', rfl, rfl⟩ := quniJ_inv hs
  exact QTri.stack h fun p e R s mid args below meth c T locs cells slots C target hx hZ hby hown X hR hL k => XT.lneg X.here hx rfl (hb hby hd) rfl k
 ·obtain ⟨x, y, S', rfl, rfl⟩ := qbinJ_inv hs
  exact QTri.stack h fun p e R s mid args below meth c T locs cells slots C target hx hZ hby hown X hR hL k => XT.ladd X.here hx rfl (hb hby hd) rfl k
 ·obtain ⟨x, y, S', rfl, rfl⟩ := qbinJ_inv hs
  exact QTri.stack h fun p e R s mid args below meth c T locs cells slots C target hx hZ hby hown X hR hL k => XT.lsub X.here hx rfl (hb hby hd) rfl k
 ·obtain ⟨x, y, S', rfl, rfl⟩ := qbinJ_inv hs
  exact QTri.stack h fun p e R s mid args below meth c T locs cells slots C target hx hZ hby hown X hR hL k => XT.lmul X.here hx rfl (hb hby hd) rfl k
 ·obtain ⟨x, y, S', rfl, rfl⟩ := qbinJ_inv hs
  exact QTri.stack h fun p e R s mid args below meth c T locs cells slots C target hx hZ hby hown X hR hL k => XT.land X.here hx rfl (hb hby hd) rfl k
 ·obtain ⟨x, y, S', rfl, rfl⟩ := qbinJ_inv hs
  exact QTri.stack h fun p e R s mid args below meth c T locs cells slots C target hx hZ hby hown X hR hL k => XT.lor X.here hx rfl (hb hby hd) rfl k
 ·obtain ⟨x, y, S', rfl, rfl⟩ := qbinJ_inv hs
  exact QTri.stack h fun p e R s mid args below meth c T locs cells slots C target hx hZ hby hown X hR hL k => XT.lxor X.here hx rfl (hb hby hd) rfl k
 ·obtain ⟨x, y, S', rfl, rfl⟩ := qshJ_inv hs
  exact QTri.stack h fun p e R s mid args below meth c T locs cells slots C target hx hZ hby hown X hR hL k => XT.lshl X.here hx rfl (hb hby hd) rfl k
 ·obtain ⟨x, y, S', rfl, rfl⟩ := qshJ_inv hs
  exact QTri.stack h fun p e R s mid args below meth c T locs cells slots C target hx hZ hby hown X hR hL k => XT.lshr X.here hx rfl (hb hby hd) rfl k
 ·obtain ⟨x, y, S', rfl, rfl⟩ := qshJ_inv hs
  exact QTri.stack h fun p e R s mid args below meth c T locs cells slots C target hx hZ hby hown X hR hL k => XT.lushr X.here hx rfl (hb hby hd) rfl k
 ·split at hs -- lcmp
  ·cases hs
   exact QTri.stack h fun p e R s mid args below meth c T locs cells slots C target hx hZ hby hown X hR hL k => XT.lcmp X.here hx rfl (hb hby hd) rfl k
  ·cases hs
 ·cases hs -- goto
  obtain ⟨t1, t2⟩ := qtgt_spec hr
  exact QTri.stack h fun p e R s mid args below meth c T locs cells slots C target hx hZ hby hown X hR hL k => XS.goto X.here hx rfl rfl (hb hby hd) t1 t2 k
 ·obtain ⟨x, S', rfl, rfl⟩ := qif_inv hs
  obtain ⟨t1, t2⟩ := qtgt_spec hr
  cases hh : ifCond.holds _ x with
  | true => rw [hh] at h; exact QTri.stack h fun p e R s mid args below meth c T locs cells slots C target hx hZ hby hown X hR hL k => XS.ifYes X.here hx rfl rfl (hb hby hd) rfl hh t1 t2 k
  | false => rw [hh] at h; exact QTri.stack h fun p e R s mid args below meth c T locs cells slots C target hx hZ hby hown X hR hL k => XS.ifNo X.here hx rfl (hb hby hd) rfl hh k
 ·obtain ⟨x, y, S', rfl, rfl⟩ := qicmp_inv hs
  obtain ⟨t1, t2⟩ := qtgt_spec hr
  cases hh : if_icmp.holds _ x y with
  | true => rw [hh] at h; exact QTri.stack h fun p e R s mid args below meth c T locs cells slots C target hx hZ hby hown X hR hL k => XS.icmpYes X.here hx rfl rfl (hb hby hd) rfl hh t1 t2 k
  | false => rw [hh] at h; exact QTri.stack h fun p e R s mid args below meth c T locs cells slots C target hx hZ hby hown X hR hL k => XS.icmpNo X.here hx rfl (hb hby hd) rfl hh k
 ·unfold qdup at hs
  split at hs
  ·cases hs
   exact QTri.stack h fun p e R s mid args below meth c T locs cells slots C target hx hZ hby hown X hR hL k => XS.dup X.here hx rfl (hb hby hd) rfl rfl k
  ·cases hs
   exact QTri.stack h fun p e R s mid args below meth c T locs cells slots C target hx hZ hby hown X hR hL k => XS.dup X.here hx rfl (hb hby hd) rfl rfl k
  ·cases hs
 ·unfold qdup2 at hs
  split at hs
  ·cases hs
   exact QTri.stack h fun p e R s mid args below meth c T locs cells slots C target hx hZ hby hown X hR hL k => XT.dup2 X.here hx rfl (hb hby hd) rfl rfl rfl k
  ·cases hs
   exact QTri.stack h fun p e R s mid args below meth c T locs cells slots C target hx hZ hby hown X hR hL k => XT.dup2 X.here hx rfl (hb hby hd) rfl rfl rfl k
  ·cases hs
   exact QTri.stack h fun p e R s mid args below meth c T locs cells slots C target hx hZ hby hown X hR hL k => XT.dup2L X.here hx rfl (hb hby hd) rfl k
  ·cases hs
 ·unfold qpop at hs
  split at hs
  ·cases hs
   exact QTri.stack h fun p e R s mid args below meth c T locs cells slots C target hx hZ hby hown X hR hL k => XT.pop X.here hx rfl (hb hby hd) rfl rfl k
  ·cases hs
   exact QTri.stack h fun p e R s mid args below meth c T locs cells slots C target hx hZ hby hown X hR hL k => XT.pop X.here hx rfl (hb hby hd) rfl rfl k
  ·cases hs
 ·exact QTri.getfield W h hc hs
 ·exact QTri.putfield Ad W h hc hs
 ·exact QTri.iaload h hc hs
 ·exact QTri.baload h hc hs
 ·exact QTri.laload h hc hs
 ·exact QTri.iastore Ad h hc hs
 ·exact QTri.bastore Ad h hc hs
 ·exact QTri.lastore Ad h hc hs
 ·exact QTri.alen h hc hs
 ·-- newarray
  unfold qnewA at hs
  split at hs
  ·split at hs
   ·obtain ⟨k, hk, hs⟩ := Option.bind_eq_some_iff.mp hs
    cases hs
    exact QTri.newArr (c := .inr (.inl (.int, List.replicate k 0))) Ad W hk hc (by simp [qsz]) (fun h' a cA A => ⟨_, A, by simp [newA, (qnew_inv hk).2.1]; exact Or.inr rfl⟩) h
   ·obtain ⟨k, hk, hs⟩ := Option.bind_eq_some_iff.mp hs
    cases hs
    exact QTri.newArr (c := .inr (.inl (.boolean, List.replicate k 0))) Ad W hk hc (by simp [qsz]) (fun h' a cA A => ⟨_, A, by simp [newA, (qnew_inv hk).2.1]; exact Or.inr rfl⟩) h
   ·obtain ⟨k, hk, hs⟩ := Option.bind_eq_some_iff.mp hs
    cases hs
    exact QTri.newArr (c := .inr (.inl (.byte, List.replicate k 0))) Ad W hk hc (by simp [qsz]) (fun h' a cA A => ⟨_, A, by simp [newA, (qnew_inv hk).2.1]; exact Or.inr rfl⟩) h
   ·obtain ⟨k, hk, hs⟩ := Option.bind_eq_some_iff.mp hs
    cases hs
    exact QTri.newArr (c := .inr (.inr (List.replicate k 0))) Ad W hk hc (by simp [qsz]) (fun h' a cA A => ⟨_, A, by simp [newA, (qnew_inv hk).2.1]; exact Or.inr rfl⟩) h
   ·cases hs
  ·cases hs
 ·cases hs; exact QTri.newObj Ad W h hc
 ·cases hs
theorem QTri.steps (Ad : QAd n0 ad) (W : QW Z a0) : ∀ (n : Nat) {st st' : QSt}, qsteps m n st = some st' → QTri l Z n0 ad m st' v σ' → QTri l Z n0 ad m st v σ'
 | 0, st, st', h, k => by cases h; exact k
 | n + 1, st, st', h, k => by
  simp only [qsteps] at h
  split at h
  ·rename_i st₁ h1
   exact QTri.step Ad W (QTri.steps Ad W n h k) h1
  ·cases h
def lmask : List Bool → QLoc → QLoc
 | b :: t, x :: u => (bif b then x else none) :: lmask t u
 | _, L => L.map fun _ => none
theorem lmask_len : ∀ (b : List Bool) (L : QLoc), (lmask b L).length = L.length
 | [], L => by simp [lmask]
 | _ :: _, [] => by simp [lmask]
 | _ :: t, _ :: u => by simp [lmask, lmask_len t u]
theorem lmask_get : ∀ (b : List Bool) (L : QLoc) (k : Nat) (v : Value), lget (lmask b L) k = some v → lget L k = some v
 | [], L, k, v, h => by
  simp only [lmask, lget_eq, List.getElem?_map] at h
  cases hq : L[k]? <;> simp [hq] at h
 | _ :: _, [], k, v, h => by simp [lmask, lget] at h
 | b :: t, x :: u, 0, v, h => by
  simp only [lmask, lget] at h ⊢
  cases b
  ·cases h
  ·exact h
 | b :: t, x :: u, k + 1, v, h => by
  simp only [lmask, lget] at h ⊢
  exact lmask_get t u k v h
theorem QTri.mask {pc : Nat} {L : QLoc} {S : List Value} {σ : QHeap} (b : List Bool) (h : QTri l Z n0 ad m (pc, lmask b L, S, σ) v σ') : QTri l Z n0 ad m (pc, L, S, σ) v σ' :=
 QTri.frame h fun p e R s mid args below meth c T locs cells slots C hcx X hR hL hC => ⟨C, ⟨by rw [lmask_len]; exact hL.1, fun k u hk => hL.2.1 k u (lmask_get b L k u hk), hL.2.2⟩, hC, fun target k => k⟩
theorem QTri.ret0 {pc aux : Nat} {L : QLoc} {σ : QHeap} (hc : pCode m pc = some (.return_, aux)) (hr : pRet m = none) : QTri l Z n0 ad m (pc, L, [], σ) none σ :=
 have hd : decode (pBytes m) pc = .ok (.return_, 1) := pDecN hc rfl
 ⟨Nat.le_refl _, Nat.le_refl _, fun p e R s mid args below meth c T locs cells slots C hcx X hR hF hL hC hn hc1 hsl => ⟨T, locs, by simpa using X, hR, hF, fun fs hf => X.returnOut hcx.1 (hcx.2.2.2.2.1.trans hr) (hb hcx.2.2.1 hd) hf⟩⟩
theorem QTri.retI {pc aux : Nat} {L : QLoc} {S : List Value} {σ : QHeap} {x : Int32} (hc : pCode m pc = some (.ireturn, aux)) (hr : pRet m = some .int) : QTri l Z n0 ad m (pc, L, .int x :: S, σ) (some (.int x)) σ :=
 have hd : decode (pBytes m) pc = .ok (.ireturn, 1) := pDecN hc rfl
 ⟨Nat.le_refl _, Nat.le_refl _, fun p e R s mid args below meth c T locs cells slots C hcx X hR hF hL hC hn hc1 hsl => ⟨T, locs, by simpa using X, hR, hF, fun fs hf => Jvm.RoadKit.retI X hcx.1 (hcx.2.2.2.2.1.trans hr) (hb hcx.2.2.1 hd) hf⟩⟩
theorem QTri.retZ {pc aux : Nat} {L : QLoc} {S : List Value} {σ : QHeap} {x : Int32} (hc : pCode m pc = some (.ireturn, aux)) (hr : pRet m = some .boolean) : QTri l Z n0 ad m (pc, L, .int x :: S, σ) (some (.int (x &&& 1))) σ :=
 have hd : decode (pBytes m) pc = .ok (.ireturn, 1) := pDecN hc rfl
 ⟨Nat.le_refl _, Nat.le_refl _, fun p e R s mid args below meth c T locs cells slots C hcx X hR hF hL hC hn hc1 hsl => ⟨T, locs, by simpa using X, hR, hF, fun fs hf => retN X hcx.1 (t := .boolean) (hcx.2.2.2.2.1.trans hr) (by simp) (hb hcx.2.2.1 hd) hf⟩⟩
theorem QTri.retJ {pc aux : Nat} {L : QLoc} {S : List Value} {σ : QHeap} {x : Int64} (hc : pCode m pc = some (.lreturn, aux)) (hr : pRet m = some .long) : QTri l Z n0 ad m (pc, L, .long x :: S, σ) (some (.long x)) σ :=
 have hd : decode (pBytes m) pc = .ok (.lreturn, 1) := pDecN hc rfl
 ⟨Nat.le_refl _, Nat.le_refl _, fun p e R s mid args below meth c T locs cells slots C hcx X hR hF hL hC hn hc1 hsl => ⟨T, locs, by simpa using X, hR, hF, fun fs hf => retOut X hcx.1 (t := .long) (hcx.2.2.2.2.1.trans hr) rfl (Or.inr (Or.inl ⟨rfl, rfl, _, rfl⟩)) (hb hcx.2.2.1 hd) hf⟩⟩
def LOk (ad : Nat → Addr) (L : QLoc) (C : List Slot) : Prop :=
 L.length = C.length ∧ (∀ k v, lget L k = some v → C[k]? = some (.val (qv ad v))) ∧ (∀ k w, C[k]? = some (.val w) → w.category = 2 → C[k + 1]? = some .second) ∧ ∀ k, C[k]? = some .second → ∃ j w, k = j + 1 ∧ C[j]? = some (.val w) ∧ w.category = 2
theorem LOk.base (ad : Nat → Addr) (n : Nat) : LOk ad (List.replicate n none) (List.replicate n .unset) := by
 refine ⟨by simp, fun k u h => ?_, fun k w h => ?_, fun k h => ?_⟩
 ·rw [lget_eq] at h
  rcases Nat.lt_or_ge k n with q | q
  ·simp [List.getElem?_replicate, q] at h
  ·simp [List.getElem?_eq_none, q] at h
 ·rcases Nat.lt_or_ge k n with q | q
  ·simp [List.getElem?_replicate, q] at h
  ·simp [List.getElem?_eq_none, q] at h
 ·rcases Nat.lt_or_ge k n with q | q
  ·simp [List.getElem?_replicate, q] at h
  ·simp [List.getElem?_eq_none, q] at h
theorem LOk.one {L : QLoc} {C : List Slot} (H : LOk ad L C) {u : Value} (hu : u.category = 1) : LOk ad (some u :: L) (.val (qv ad u) :: C) := by
 obtain ⟨h1, h2, h3, h4⟩ := H
 refine ⟨by simp [h1], fun k w h => ?_, fun k w h hw => ?_, fun k h => ?_⟩
 ·cases k with
  | zero => simp only [lget] at h; cases h; simp
  | succ k => simp only [lget] at h; simpa using h2 k w h
 ·cases k with
  | zero => simp at h; rw [← h, qv_cat, hu] at hw; cases hw
  | succ k => simpa using h3 k w (by simpa using h) hw
 ·cases k with
  | zero => simp at h
  | succ k =>
   obtain ⟨j, w, z1, z2, z3⟩ := h4 k (by simpa using h)
   exact ⟨j + 1, w, by omega, by simpa using z2, z3⟩
theorem LOk.two {L : QLoc} {C : List Slot} (H : LOk ad L C) {u : Value} (hu : u.category = 2) : LOk ad (some u :: none :: L) (.val (qv ad u) :: .second :: C) := by
 obtain ⟨h1, h2, h3, h4⟩ := H
 refine ⟨by simp [h1], fun k w h => ?_, fun k w h hw => ?_, fun k h => ?_⟩
 ·rcases k with _ | _ | k
  ·simp only [lget] at h; cases h; simp
  ·simp [lget] at h
  ·simp only [lget] at h; simpa using h2 k w h
 ·rcases k with _ | _ | k
  ·simp
  ·simp at h
  ·simpa using h3 k w (by simpa using h) hw
 ·rcases k with _ | _ | k
  ·simp at h
  ·exact ⟨0, qv ad u, rfl, by simp, by rw [qv_cat]; exact hu⟩
  ·obtain ⟨j, w, z1, z2, z3⟩ := h4 k (by simpa using h)
   exact ⟨j + 2, w, by omega, by simpa using z2, z3⟩
def slotsOf (u : Value) : List Slot := if u.category = 2 then [.val u, .second] else [.val u]
theorem fold_slots : ∀ (as : List Value) (acc : Array Slot), (as.foldl (fun acc v => if v.category = 2 then (acc.push (.val v)).push .second else acc.push (.val v)) acc).toList = acc.toList ++ as.flatMap slotsOf
 | [], acc => by simp
 | u :: t, acc => by
  rw [List.foldl_cons, fold_slots t]
  by_cases hc : u.category = 2 <;> simp [slotsOf, hc]
theorem slots_len : ∀ (as : List Value), (as.flatMap slotsOf).length = (as.map fun v => v.category).sum
 | [] => rfl
 | u :: t => by
  rw [List.flatMap_cons, List.length_append, slots_len t, List.map_cons, List.sum_cons]
  cases u <;> simp [slotsOf, Value.category]
theorem cats_qv (as : List Value) : ((as.map (qv ad)).map fun v => v.category).sum = (as.map fun v => v.category).sum := by
 rw [List.map_map]
 congr 1
 exact List.map_congr_left fun x _ => qv_cat ad x
theorem entry_list : ∀ (as : List Value) (n : Nat), LOk ad ((as.flatMap fun v => match v with | .long x => [some (.long x), none] | .double x => [some (.double x), none] | v => [some v]) ++ List.replicate n none) ((as.map (qv ad)).flatMap slotsOf ++ List.replicate n .unset)
 | [], n => by simpa using LOk.base ad n
 | u :: t, n => by
  have ih := entry_list t n
  cases u with
  | long x => exact LOk.two ih rfl
  | double x => exact LOk.two ih rfl
  | int x => exact LOk.one ih rfl
  | float x => exact LOk.one ih rfl
  | null => exact LOk.one ih rfl
  | ref x => exact LOk.one ih rfl
  | retAddr x => exact LOk.one ih rfl
theorem qentry_ok (as : List Value) (mx : Nat) (h : (as.map fun v => v.category).sum ≤ mx) : QLocOk ad (qentry as mx) (argsToLocals (as.map (qv ad)).toArray mx) ∧ (argsToLocals (as.map (qv ad)).toArray mx).size = mx := by
 have e : (argsToLocals (as.map (qv ad)).toArray mx).toList = (as.map (qv ad)).flatMap slotsOf ++ List.replicate (mx - (as.map fun v => v.category).sum) .unset := by
  unfold argsToLocals
  have q := fold_slots (as.map (qv ad)) #[]
  simp only [List.foldl_toArray', Array.toList_append, Array.toList_replicate]
  have q2 : ((as.map (qv ad)).foldl (fun (acc : Array Slot) (v : Value) => if v.category = 2 then (acc.push (.val v)).push .second else acc.push (.val v)) #[]).size = (as.map fun v => v.category).sum := by
   rw [← Array.length_toList, q]
   simp only [List.nil_append]
   rw [slots_len, cats_qv]
  rw [q, q2]
  simp
 have H := entry_list (ad := ad) as (mx - (as.map fun v => v.category).sum)
 rw [← e] at H
 obtain ⟨h1, h2, h3, h4⟩ := H
 have hs : (argsToLocals (as.map (qv ad)).toArray mx).size = mx := by
  rw [← Array.length_toList, e, List.length_append, slots_len, cats_qv, List.length_replicate]
  omega
 refine ⟨⟨h1.trans Array.length_toList, fun k u hk => ?_, fun k w hk hw => ?_, fun k hk => ?_⟩, hs⟩
 ·have := h2 k u hk; rwa [Array.getElem?_toList] at this
 ·have := h3 k w (by rw [Array.getElem?_toList]; exact hk) hw; rwa [Array.getElem?_toList] at this
 ·obtain ⟨j, w, z1, z2, z3⟩ := h4 k (by rw [Array.getElem?_toList]; exact hk)
  exact ⟨j, w, z1, by rwa [Array.getElem?_toList] at z2, z3⟩
set_option maxHeartbeats 4000000 in
theorem QTri.met {k : Nat} {as : List Value} {σ σ₁ : QHeap} {w : Option Value} {h0 : Heap} (hk : k < pN) (h : QTri l Z n0 ad k (0, qentry as (pMaxL k), [], σ) w σ₁) (hR : QRep Z n0 ad h0 σ) (hlen : (as.map fun v => v.category).sum ≤ pMaxL k) (hret : pRet k = none → w = none) (ws : List Jvm.Cond) {rm : Room}
  (r1 : pFr k ≤ rm.frames) (r2 : pLo k ≤ rm.locals) (r3 : σ₁.length - σ.length ≤ rm.cells) (r4 : qhs σ₁ - qhs σ ≤ rm.slots) :
  MetFree l (pName k) (head1 (Jvm.Cond.code (pName k) (pBytes k) (pMaxL k) (pRet k) :: ws) rm) (fun a U => a = (as.map (qv ad)).toArray ∧ Z.Warmed39 U.vm ∧ U.heap = h0) (fun _ _ _ _ _ => True)
   (fun _ U o U' => ∃ v L, o = .returned v ∧ (v = w.map (qv ad) ∧ QRep Z n0 ad U'.heap σ₁ ∧ Fr n0 L) ∧ FrameEnd U o U' L (σ₁.length - σ.length) (qhs σ₁ - qhs σ)) := by
 refine MetFree.of_bodySF (plainFor_of_name (kPlain _ (pKlt k hk))) hisR ?_
 intro p e s mid args below meth c s₁ Bd hml0 hP hK
 obtain ⟨rfl, hZ, hh⟩ := hP
 have e0 : s₁.heap = h0 := by rw [← hh, Bd.state]; rfl
 obtain ⟨hl1, hl2⟩ := qentry_ok (ad := ad) as (pMaxL k) hlen
 have hX : Stand p l e rm s mid (as.map (qv ad)).toArray below meth c s₁ [] 0 0 := Stand.of_body Bd
 obtain ⟨T', locs', X', R', F', S'⟩ := h.2.2 p e rm s mid _ below meth c s₁ [] 0 0 _ ⟨Bd.exec, hZ, Bd.bytes, hml0, Bd.returns, findClass_of_methodNamed Bd.named, (name_of_methodNamed Bd.named Bd.method).1, r1, r2⟩ hX (by rw [e0]; exact hR) (Fr.nil _) hl1 (hl2.trans hml0.symm) (by rw [hh, Nat.add_zero]; exact hR.2.1.symm) (by rw [Nat.zero_add]; exact r3) (by rw [Nat.zero_add]; exact r4)
 obtain ⟨fs, hr, hrun, hended, hW, hsame⟩ := X'.leave (v := w.map (qv ad)) (fun q => by rw [hret (Bd.returns.symm.trans q)]; rfl)
 refine ⟨_, _, S' fs hr, hrun, hended, _, _, rfl, ⟨rfl, R', F'⟩, ⟨_, rfl⟩, hW, ?_⟩
 simp only [Nat.zero_add] at hsame
 exact hsame
theorem QTri.room {k : Nat} {σ σ₁ : QHeap} {rest : List Value} {R : Room} (hroom : (Nat.ble (pFr k + 1) (pFr m) && Nat.ble ((rest.map fun v => v.category).sum + (pMaxL k + 11) + pLo k) (pLo m)) = true) (hfr : pFr m ≤ R.frames) (hlo : pLo m ≤ R.locals) :
  pFr k + 1 ≤ R.frames ∧ (rest.map fun v => v.category).sum + (pMaxL k + 11) + pLo k ≤ R.locals := by
 obtain ⟨q1, q2⟩ := Bool.and_eq_true_iff.mp hroom
 exact ⟨Nat.le_trans (Nat.le_of_ble_eq_true q1) hfr, Nat.le_trans (Nat.le_of_ble_eq_true q2) hlo⟩
theorem sig_len {k : Nat} (hk : k < pN) {as : List Value} (hna : as.length = pNA k) : ∀ sig, parseMethodDescriptor (pName k).desc = some sig → (as.map (qv ad)).length = sig.parameters.length := fun sig hs => by
 have q := pSig k hk
 rw [show parseMethodDescriptor (pDs k) = some sig from hs] at q
 simp at q
 simp [hna, q]
theorem ret_map (w : Option Value) (rest : List Value) : (w.toList ++ rest).map (qv ad) = (w.map (qv ad)).toList ++ rest.map (qv ad) := by cases w <;> simp
theorem QTri.after {as0 : List Value} {pc : Nat} {L : QLoc} {S rest : List Value} {σ σ₁ : QHeap} {w : Option Value} {k : Nat} (hcal : QTri l Z n0 ad k (0, qentry as0 (pMaxL k), [], σ) w σ₁) (h : QTri l Z n0 ad m (pc + 3, L, w.toList ++ rest, σ₁) v σ')
  (hs : ∀ (p : Program) (e : Env) (R : Room) (s : State) (mid : MethodId) (args : Array Value) (below : List Frame) (meth : Method) (c : Code) (T : State) (locs : List Loc) (cells slots : Nat) (C : Array Slot),
   QCx Z p R s mid meth c m → Stand p l e R s mid args below meth c T locs cells slots → QRep Z n0 ad T.heap σ → C.size = c.maxLocals → cells + (σ₁.length - σ.length) ≤ R.cells → slots + (qhs σ₁ - qhs σ) ≤ R.slots →
   ∃ T₁ Lc, Stand p l e R s mid args below meth c T₁ (locs ++ Lc) (cells + (σ₁.length - σ.length)) (slots + (qhs σ₁ - qhs σ)) ∧ QRep Z n0 ad T₁.heap σ₁ ∧ Fr n0 Lc ∧
    ∀ target, Steps p.tables e below (T₁.setTop (mkF mid (pc + 3) C ((w.map (qv ad)).toList ++ rest.map (qv ad)))) target → Steps p.tables e below (T.setTop (mkF mid pc C (S.map (qv ad)))) target) :
  QTri l Z n0 ad m (pc, L, S, σ) v σ' := by
 refine QTri.gen h hcal.1 hcal.2.1 fun p e R s mid args below meth c T locs cells slots C hcx X hR hF hL hC hn hc1 hsl => ?_
 obtain ⟨T₁, Lc, X₁, R₁, F₁, st⟩ := hs p e R s mid args below meth c T locs cells slots C hcx X hR hC hc1 hsl
 refine ⟨T₁, locs ++ Lc, C, X₁, R₁, hF.app F₁, hL, hC, fun target q => st target ?_⟩
 rw [← ret_map]
 exact q
set_option maxHeartbeats 4000000 in
theorem QTri.callV (W : QW Z a0) {pc idx k a : Nat} {L : QLoc} {S as rest vs : List Value} {σ σ₁ : QHeap} {w : Option Value} (hc : pCode m pc = some (.invokevirtual idx, k)) (hm : (lkV.contains (pK m, idx, k) && mV.contains k) = true) (hcell : hget σ a = some (.inl vs)) (hS : S = as.reverse ++ .ref a :: rest)
  (hna : as.length = pNA k) (hlen : Nat.ble (((Value.ref a :: as).map fun v => v.category).sum) (pMaxL k) = true) (hroom : (Nat.ble (pFr k + 1) (pFr m) && Nat.ble ((rest.map fun v => v.category).sum + (pMaxL k + 11) + pLo k) (pLo m)) = true) (hrb : (w.isNone || (pRet k).isSome) = true)
  (hcal : QTri l Z n0 ad k (0, qentry (.ref a :: as) (pMaxL k), [], σ) w σ₁) (h : QTri l Z n0 ad m (pc + 3, L, w.toList ++ rest, σ₁) v σ') : QTri l Z n0 ad m (pc, L, S, σ) v σ' := by
 have hd : decode (pBytes m) pc = .ok (.invokevirtual idx, 3) := pDecN hc rfl
 subst hS
 obtain ⟨m1, m2⟩ := Bool.and_eq_true_iff.mp hm
 have m1 := mem_of_contains m1
 have m2 := mem_of_contains m2
 have hkA := (mVlt k m2).1
 have hkN := mAlt k hkA
 have hret : pRet k = none → w = none := fun q => by
  rw [q] at hrb
  cases w with
  | none => rfl
  | some w => simp at hrb
 refine QTri.after hcal h fun p e R s mid args below meth c T locs cells slots C hcx X hR hC hc1 hsl => ?_
 obtain ⟨hx, hZ, hby, hml, hret', hown, hnm, hfr, hlo⟩ := hcx
 have hd2 : decode c.code pc = .ok (.invokevirtual idx, 3) := by rw [hby]; exact hd
 obtain ⟨f1, f2⟩ := QTri.room (σ := σ) (σ₁ := σ₁) hroom hfr hlo
 obtain ⟨cq, kq, q1, q2, q3⟩ := isOf hZ rfl (hR.2.2 _ _ hcell).1
 obtain ⟨w1, w2, w3⟩ := (qw_vi W) k m2
 obtain ⟨c1, c2⟩ := (qw_cod W) k hkA
 obtain ⟨_, _, ⟨T₁, L₁, k₁, n₁⟩, -, X₁, ⟨Lc, ⟨rfl, hR1, hF1⟩, l₁, y₁, z₁⟩, st⟩ := X.virtualBack hx (own := kName (pK m)) (index := idx) (y := pName k) (z := pName k) hown (mvT hZ (qw_ml W (pK m, idx, k) m1)) (mvT hZ w1) (notFace_of_selects (args := #[]) (mvT hZ w2)) (mvT hZ w2) (mvT hZ w3) (pOwn _ (pKlt k hkN))
  (backOf (W := (rest.map fun v => v.category).sum) (rm := ⟨pFr k, σ₁.length - σ.length, qhs σ₁ - qhs σ, pLo k⟩) (Q := fun v h L => v = Option.map (qv ad) w ∧ QRep Z n0 ad h σ₁ ∧ Fr n0 L) (QTri.met hkN hcal hR (Nat.le_of_ble_eq_true hlen) hret [] (Nat.le_refl _) (Nat.le_refl _) (Nat.le_refl _) (Nat.le_refl _)) hZ c1 c2 f1 f2) q1 q3 (g := mkF mid pc C (List.map (qv ad) (as.reverse ++ .ref a :: rest))) rfl hC (Steps.refl _) (argsL := as.map (qv ad)) (rest := rest.map (qv ad)) (sig_len hkN hna) (by simp [qv]) (by show 2 * 0 + _ ≤ _; rw [cats_qv]; omega) hd2 (fun _ _ => ⟨rfl, rfl, hc1, hsl⟩)
 dsimp only [Pt.U, Pt.locs, Pt.cells, Pt.slots] at X₁ l₁ y₁ z₁ st hR1
 subst l₁ y₁ z₁
 exact ⟨T₁, Lc, X₁, hR1, hF1, fun target q => st.trans q⟩
set_option maxHeartbeats 4000000 in
theorem QTri.callI (W : QW Z a0) {pc idx k a : Nat} {L : QLoc} {S as rest : List Value} {σ σ₁ : QHeap} (hc : pCode m pc = some (.invokespecial idx, k)) (hm : (lkV.contains (pK m, idx, k) && mI.contains k) = true) (hS : S = as.reverse ++ .ref a :: rest)
  (hna : as.length = pNA k) (hlen : Nat.ble (((Value.ref a :: as).map fun v => v.category).sum) (pMaxL k) = true) (hroom : (Nat.ble (pFr k + 1) (pFr m) && Nat.ble ((rest.map fun v => v.category).sum + (pMaxL k + 11) + pLo k) (pLo m)) = true)
  (hcal : QTri l Z n0 ad k (0, qentry (.ref a :: as) (pMaxL k), [], σ) none σ₁) (h : QTri l Z n0 ad m (pc + 3, L, rest, σ₁) v σ') : QTri l Z n0 ad m (pc, L, S, σ) v σ' := by
 have hd : decode (pBytes m) pc = .ok (.invokespecial idx, 3) := pDecN hc rfl
 subst hS
 obtain ⟨m1, m2⟩ := Bool.and_eq_true_iff.mp hm
 have m1 := mem_of_contains m1
 have m2 := mem_of_contains m2
 obtain ⟨hkA, -, hin, hrt⟩ := mIlt k m2
 have hkN := mAlt k hkA
 refine QTri.after (w := none) hcal h fun p e R s mid args below meth c T locs cells slots C hcx X hR hC hc1 hsl => ?_
 obtain ⟨hx, hZ, hby, hml, hret', hown, hnm, hfr, hlo⟩ := hcx
 have hd2 : decode c.code pc = .ok (.invokespecial idx, 3) := by rw [hby]; exact hd
 obtain ⟨f1, f2⟩ := QTri.room (σ := σ) (σ₁ := σ₁) hroom hfr hlo
 obtain ⟨c1, c2⟩ := (qw_cod W) k hkA
 have c1' := c1
 rw [hrt] at c1'
 obtain ⟨_, _, ⟨T₁, L₁, k₁, n₁⟩, -, X₁, ⟨Lc, ⟨rfl, hR1, hF1⟩, l₁, y₁, z₁⟩, st⟩ := X.specialBack hx (own := kName (pK m)) (index := idx) (y := pName k) hin hown (mvT hZ (qw_ml W (pK m, idx, k) m1)) (mvT hZ ((qw_ini W) k m2)) (mvT hZ c1') (pOwn _ (pKlt k hkN))
  (backOf (W := (rest.map fun v => v.category).sum) (rm := ⟨pFr k, σ₁.length - σ.length, qhs σ₁ - qhs σ, pLo k⟩) (Q := fun v h L => v = Option.map (qv ad) none ∧ QRep Z n0 ad h σ₁ ∧ Fr n0 L) (QTri.met hkN hcal hR (Nat.le_of_ble_eq_true hlen) (fun _ => rfl) [] (Nat.le_refl _) (Nat.le_refl _) (Nat.le_refl _) (Nat.le_refl _)) hZ c1 c2 f1 f2) (g := mkF mid pc C (List.map (qv ad) (as.reverse ++ .ref a :: rest))) rfl hC (Steps.refl _) (a := ad a) (argsL := as.map (qv ad)) (rest := rest.map (qv ad)) (sig_len hkN hna) (by simp [qv]) (by show 2 * 0 + _ ≤ _; rw [cats_qv]; omega) hd2 (fun _ _ => ⟨rfl, rfl, hc1, hsl⟩)
 dsimp only [Pt.U, Pt.locs, Pt.cells, Pt.slots] at X₁ l₁ y₁ z₁ st hR1
 subst l₁ y₁ z₁
 exact ⟨T₁, Lc, X₁, hR1, hF1, fun target q => st.trans q⟩
set_option maxHeartbeats 4000000 in
theorem QTri.callP (W : QW Z a0) {pc idx k a : Nat} {L : QLoc} {S as rest vs : List Value} {σ σ₁ : QHeap} {w : Option Value} (hc : pCode m pc = some (.invokevirtual idx, k)) (hm : (lkV.contains (pK m, idx, k) && mP.contains k) = true) (hcell : hget σ a = some (.inl vs)) (hS : S = as.reverse ++ .ref a :: rest)
  (hna : as.length = pNA k) (hlen : Nat.ble (((Value.ref a :: as).map fun v => v.category).sum) (pMaxL k) = true) (hroom : (Nat.ble (pFr k + 1) (pFr m) && Nat.ble ((rest.map fun v => v.category).sum + (pMaxL k + 11) + pLo k) (pLo m)) = true) (hrb : (w.isNone || (pRet k).isSome) = true)
  (hcal : QTri l Z n0 ad k (0, qentry (.ref a :: as) (pMaxL k), [], σ) w σ₁) (h : QTri l Z n0 ad m (pc + 3, L, w.toList ++ rest, σ₁) v σ') : QTri l Z n0 ad m (pc, L, S, σ) v σ' := by
 have hd : decode (pBytes m) pc = .ok (.invokevirtual idx, 3) := pDecN hc rfl
 subst hS
 obtain ⟨m1, m2⟩ := Bool.and_eq_true_iff.mp hm
 have m1 := mem_of_contains m1
 have m2 := mem_of_contains m2
 obtain ⟨hkA, hk1⟩ := mPlt k m2
 have hkN := mAlt k hkA
 have hret : pRet k = none → w = none := fun q => by
  rw [q] at hrb
  cases w with
  | none => rfl
  | some w => simp at hrb
 refine QTri.after hcal h fun p e R s mid args below meth c T locs cells slots C hcx X hR hC hc1 hsl => ?_
 obtain ⟨hx, hZ, hby, hml, hret', hown, hnm, hfr, hlo⟩ := hcx
 have hd2 : decode c.code pc = .ok (.invokevirtual idx, 3) := by rw [hby]; exact hd
 obtain ⟨f1, f2⟩ := QTri.room (σ := σ) (σ₁ := σ₁) hroom hfr hlo
 obtain ⟨cell, h1, h2⟩ := (hR.2.2 _ _ hcell).1.cell
 obtain ⟨w1, w2⟩ := (qw_pr W) k m2
 obtain ⟨c1, c2⟩ := (qw_cod W) k hkA
 have hpr : s.PrivateAt (pName k) := Cond.privateMethod_at (mvP hZ w2 (args := #[]))
 obtain ⟨cC, kC, i1, i2, i3, i4⟩ := Cond.instantiable_spec (args := #[]) (mvT hZ (qw_inst W))
 have hsel : (Cond.selects (pName k).cls (pName k) (pName k)).before args s = true := selects_self_of_private (c := cC) (k := kC) (by show s.vm.findClass (kName (pK k)) = _; rw [hk1]; exact i1) i2 (by have q := i4.1; cases hq : kC.isInterface with | false => rfl | true => rw [hq] at q; simp at q) hpr (mvT hZ w1) (pOwn _ (pKlt k hkN))
 obtain ⟨_, _, ⟨T₁, L₁, k₁, n₁⟩, -, X₁, ⟨Lc, ⟨rfl, hR1, hF1⟩, l₁, y₁, z₁⟩, st⟩ := X.privateBack hx (own := kName (pK m)) (index := idx) (y := pName k) hown (mvT hZ (qw_ml W (pK m, idx, k) m1)) (mvT hZ w1) hsel hpr (mvT hZ c1) (pOwn _ (pKlt k hkN))
  (backOf (W := (rest.map fun v => v.category).sum) (rm := ⟨pFr k, σ₁.length - σ.length, qhs σ₁ - qhs σ, pLo k⟩) (Q := fun v h L => v = Option.map (qv ad) w ∧ QRep Z n0 ad h σ₁ ∧ Fr n0 L) (QTri.met hkN hcal hR (Nat.le_of_ble_eq_true hlen) hret [] (Nat.le_refl _) (Nat.le_refl _) (Nat.le_refl _) (Nat.le_refl _)) hZ c1 c2 f1 f2) (g := mkF mid pc C (List.map (qv ad) (as.reverse ++ .ref a :: rest))) rfl hC (Steps.refl _) (a := ad a) h1 h2 (argsL := as.map (qv ad)) (rest := rest.map (qv ad)) (sig_len hkN hna) (by simp [qv]) (by show 2 * 0 + _ ≤ _; rw [cats_qv]; omega) hd2 (fun _ _ => ⟨rfl, rfl, hc1, hsl⟩)
 dsimp only [Pt.U, Pt.locs, Pt.cells, Pt.slots] at X₁ l₁ y₁ z₁ st hR1
 subst l₁ y₁ z₁
 exact ⟨T₁, Lc, X₁, hR1, hF1, fun target q => st.trans q⟩
set_option maxHeartbeats 4000000 in
theorem QTri.callS (W : QW Z a0) {pc idx k : Nat} {L : QLoc} {S as rest : List Value} {σ σ₁ : QHeap} {w : Option Value} (hc : pCode m pc = some (.invokestatic idx, k)) (hm : (lkV.contains (pK m, idx, k) && mS.contains k) = true) (hS : S = as.reverse ++ rest)
  (hna : as.length = pNA k) (hlen : Nat.ble ((as.map fun v => v.category).sum) (pMaxL k) = true) (hroom : (Nat.ble (pFr k + 1) (pFr m) && Nat.ble ((rest.map fun v => v.category).sum + (pMaxL k + 11) + pLo k) (pLo m)) = true) (hrb : (w.isNone || (pRet k).isSome) = true)
  (hcal : QTri l Z n0 ad k (0, qentry as (pMaxL k), [], σ) w σ₁) (h : QTri l Z n0 ad m (pc + 3, L, w.toList ++ rest, σ₁) v σ') : QTri l Z n0 ad m (pc, L, S, σ) v σ' := by
 have hd : decode (pBytes m) pc = .ok (.invokestatic idx, 3) := pDecN hc rfl
 subst hS
 obtain ⟨m1, m2⟩ := Bool.and_eq_true_iff.mp hm
 have m1 := mem_of_contains m1
 have m2 := mem_of_contains m2
 have hkA := mSlt k m2
 have hkN := mAlt k hkA
 have hret : pRet k = none → w = none := fun q => by
  rw [q] at hrb
  cases w with
  | none => rfl
  | some w => simp at hrb
 refine QTri.after hcal h fun p e R s mid args below meth c T locs cells slots C hcx X hR hC hc1 hsl => ?_
 obtain ⟨hx, hZ, hby, hml, hret', hown, hnm, hfr, hlo⟩ := hcx
 have hd2 : decode c.code pc = .ok (.invokestatic idx, 3) := by rw [hby]; exact hd
 obtain ⟨f1, f2⟩ := QTri.room (σ := σ) (σ₁ := σ₁) hroom hfr hlo
 obtain ⟨c1, c2⟩ := (qw_cod W) k hkA
 obtain ⟨_, _, ⟨T₁, L₁, k₁, n₁⟩, -, X₁, ⟨Lc, ⟨rfl, hR1, hF1⟩, l₁, y₁, z₁⟩, st⟩ := Jvm.LawKit.callS X hx (own := kName (pK m)) (index := idx) (y := pName k) hown (mvT hZ (qw_ml W (pK m, idx, k) m1)) (mvT hZ ((qw_st W) k m2)) (mvT hZ c2) (mvT hZ c1) (pOwn _ (pKlt k hkN))
  (backOf (W := (rest.map fun v => v.category).sum) (rm := ⟨pFr k, σ₁.length - σ.length, qhs σ₁ - qhs σ, pLo k⟩) (Q := fun v h L => v = Option.map (qv ad) w ∧ QRep Z n0 ad h σ₁ ∧ Fr n0 L) (QTri.met hkN hcal hR (Nat.le_of_ble_eq_true hlen) hret [] (Nat.le_refl _) (Nat.le_refl _) (Nat.le_refl _) (Nat.le_refl _)) hZ c1 c2 f1 f2) (g := mkF mid pc C (List.map (qv ad) (as.reverse ++ rest))) rfl hC (argsL := as.map (qv ad)) (rest := rest.map (qv ad)) (sig_len hkN hna) (by simp) (by show 2 * 0 + _ ≤ _; rw [cats_qv]; omega) hd2 (fun _ _ => ⟨rfl, rfl, hc1, hsl⟩)
 dsimp only [Pt.U, Pt.locs, Pt.cells, Pt.slots] at X₁ l₁ y₁ z₁ st hR1
 subst l₁ y₁ z₁
 exact ⟨T₁, Lc, X₁, hR1, hF1, fun target q => st target q⟩
set_option maxHeartbeats 4000000 in
theorem QTri.callO (W : QW Z a0) {pc idx k a : Nat} {L : QLoc} {rest : List Value} {σ : QHeap} (hc : pCode m pc = some (.invokespecial idx, k)) (hm : lkO.contains (pK m, idx) = true) (hroom : (Nat.ble 1 (pFr m) && Nat.ble ((rest.map fun v => v.category).sum + 12) (pLo m)) = true)
  (h : QTri l Z n0 ad m (pc + 3, L, rest, σ) v σ') : QTri l Z n0 ad m (pc, L, .ref a :: rest, σ) v σ' :=
 have hd : decode (pBytes m) pc = .ok (.invokespecial idx, 3) := pDecN hc rfl
 QTri.pure h rfl fun p e R s mid args below meth c T locs cells slots C hcx X hR hL hC => by
  obtain ⟨hx, hZ, hby, hml, hret', hown, hnm, hfr, hlo⟩ := hcx
  have hd2 : decode c.code pc = .ok (.invokespecial idx, 3) := by rw [hby]; exact hd
  obtain ⟨q1, q2⟩ := Bool.and_eq_true_iff.mp hroom
  obtain ⟨T₁, X₁, e₁, st⟩ := initO X hx hZ hown (idx := idx) (qw_mo W (pK m, idx) (mem_of_contains hm)) ((qw_oi W)) ((qw_oc W)) rfl (g := mkF mid pc C (List.map (qv ad) (.ref a :: rest))) rfl hC rfl hd2 (Nat.le_trans (Nat.le_of_ble_eq_true q1) hfr) (W := (rest.map fun v => v.category).sum) (by show 2 * 0 + _ ≤ _; rw [cats_qv]; omega) (Nat.le_trans (Nat.le_of_ble_eq_true q2) hlo)
  exact ⟨T₁, C, X₁, e₁, hL, hC, st⟩
theorem QTri.brT (Ad : QAd n0 ad) (W : QW Z a0) {st : QSt} {t f : Nat} {L : QLoc} {S : List Value} {σ : QHeap} {b : Bool} (hs : qstep m st = some (bif b then t else f, L, S, σ)) (hb : b = true) (h : QTri l Z n0 ad m (t, L, S, σ) v σ') : QTri l Z n0 ad m st v σ' := by
 subst hb; exact QTri.step Ad W h hs
theorem QTri.brF (Ad : QAd n0 ad) (W : QW Z a0) {st : QSt} {t f : Nat} {L : QLoc} {S : List Value} {σ : QHeap} {b : Bool} (hs : qstep m st = some (bif b then t else f, L, S, σ)) (hb : b = false) (h : QTri l Z n0 ad m (f, L, S, σ) v σ') : QTri l Z n0 ad m st v σ' := by
 subst hb; exact QTri.step Ad W h hs
theorem QTri.bnd {α : Type} (Ad : QAd n0 ad) (W : QW Z a0) {st : QSt} {x : Option α} {f : α → QSt} {a : α} (hs : qstep m st = x.bind fun v => some (f v)) (hx : x = some a) (h : QTri l Z n0 ad m (f a) v σ') : QTri l Z n0 ad m st v σ' :=
 QTri.step Ad W h (by rw [hs, hx]; rfl)
theorem QTri.bndB (Ad : QAd n0 ad) (W : QW Z a0) {st : QSt} {x y : Int32} {g : Value → QSt} (hs : qstep m st = ((qboo x).bind fun y => some (Value.int y)).bind fun w => some (g w)) (hx : qboo x = some y) (h : QTri l Z n0 ad m (g (.int y)) v σ') : QTri l Z n0 ad m st v σ' :=
 QTri.step Ad W h (by rw [hs, hx]; rfl)
end Triples
theorem qite {α : Type} {c : Prop} [Decidable c] {a b : Option α} {r : α} (h : (if c then a else b) = some r) : (c ∧ a = some r) ∨ (¬ c ∧ b = some r) := by
 by_cases hc : c
 ·exact Or.inl ⟨hc, by rwa [if_pos hc] at h⟩
 ·exact Or.inr ⟨hc, by rwa [if_neg hc] at h⟩
def qN : Nat := 4000
def loopN {V E : Type} (B : V → Option (E ⊕ V)) : Nat → V → Option E
 | 0, _ => none
 | n + 1, v => match B v with
  | none => none
  | some (.inl e) => some e
  | some (.inr v') => loopN B n v'
theorem loopN_tri {V E : Type} {B : V → Option (E ⊕ V)} {T : V → Prop} {KE : E → Prop} (hB : ∀ v r, B v = some r → (∀ e, r = .inl e → KE e) → (∀ v', r = .inr v' → T v') → T v) : ∀ (n : Nat) (v : V) (e : E), loopN B n v = some e → KE e → T v
 | 0, _, _, h, _ => by cases h
 | n + 1, v, e, h, k => by
  simp only [loopN] at h
  split at h
  ·cases h
  ·rename_i e' he
   cases h
   exact hB v _ he (fun e q => by cases q; exact k) (fun v' q => by cases q)
  ·rename_i v' he
   exact hB v _ he (fun e q => by cases q) (fun v'' q => by cases q; exact loopN_tri hB n v' e h k)
theorem loopN_inv {V E : Type} {B : V → Option (E ⊕ V)} (I : V → Prop) (P : E → Prop) (μ : V → Nat) (hB : ∀ v, I v → (∃ e, B v = some (.inl e) ∧ P e) ∨ ∃ v', B v = some (.inr v') ∧ I v' ∧ μ v' < μ v) : ∀ (n : Nat) (v : V), I v → μ v < n → ∃ e, loopN B n v = some e ∧ P e
 | 0, _, _, h => absurd h (Nat.not_lt_zero _)
 | n + 1, v, hv, hm => by
  rcases hB v hv with ⟨e, h1, h2⟩ | ⟨v', h1, h2, h3⟩
  ·exact ⟨e, by simp only [loopN, h1], h2⟩
  ·obtain ⟨e, g1, g2⟩ := loopN_inv I P μ hB n v' h2 (by omega)
   exact ⟨e, by simp only [loopN, h1]; exact g1, g2⟩
theorem qfn {α : Type} {P : α → Prop} : ∀ t ∈ ([] : List α), P t := fun _ h => nomatch h
theorem qfc {α : Type} {P : α → Prop} {a : α} {t : List α} (h : P a) (ht : ∀ x ∈ t, P x) : ∀ x ∈ a :: t, P x := fun x hx => by rcases List.mem_cons.mp hx with rfl | q; exact h; exact ht x q
theorem QW_ok {Z : State} {a0 : Array Value} (hw : ∀ d ∈ tables_1, d.before a0 Z = true) : QW Z a0 := by
  have w0 : ∀ k ∈ List.range nF, bif fFin k then (Jvm.Cond.laysFinal cName cName (fNm k) (fDs k)).before a0 Z = true else (Jvm.Cond.lays cName cName (fNm k) (fDs k)).before a0 Z = true :=
    show ∀ k ∈ [0, 1, 2, 3, 4, 5, 6, 7, 8, 9, 10, 11, 12, 13, 14, 15, 16, 17, 18, 19, 20, 21, 22, 23, 24, 25], bif fFin k then (Jvm.Cond.laysFinal cName cName (fNm k) (fDs k)).before a0 Z = true else (Jvm.Cond.lays cName cName (fNm k) (fDs k)).before a0 Z = true from
    (qfc (hw _ (List.mem_of_getElem? (i := 11) rfl)) (qfc (hw _ (List.mem_of_getElem? (i := 14) rfl)) (qfc (hw _ (List.mem_of_getElem? (i := 16) rfl)) (qfc (hw _ (List.mem_of_getElem? (i := 18) rfl)) (qfc (hw _ (List.mem_of_getElem? (i := 20) rfl)) (qfc (hw _ (List.mem_of_getElem? (i := 22) rfl)) (qfc (hw _ (List.mem_of_getElem? (i := 24) rfl)) (qfc (hw _ (List.mem_of_getElem? (i := 26) rfl)) (qfc (hw _ (List.mem_of_getElem? (i := 28) rfl)) (qfc (hw _ (List.mem_of_getElem? (i := 30) rfl)) (qfc (hw _ (List.mem_of_getElem? (i := 32) rfl)) (qfc (hw _ (List.mem_of_getElem? (i := 34) rfl)) (qfc (hw _ (List.mem_of_getElem? (i := 36) rfl)) (qfc (hw _ (List.mem_of_getElem? (i := 38) rfl)) (qfc (hw _ (List.mem_of_getElem? (i := 40) rfl)) (qfc (hw _ (List.mem_of_getElem? (i := 42) rfl)) (qfc (hw _ (List.mem_of_getElem? (i := 44) rfl)) (qfc (hw _ (List.mem_of_getElem? (i := 46) rfl)) (qfc (hw _ (List.mem_of_getElem? (i := 48) rfl)) (qfc (hw _ (List.mem_of_getElem? (i := 54) rfl)) (qfc (hw _ (List.mem_of_getElem? (i := 56) rfl)) (qfc (hw _ (List.mem_of_getElem? (i := 58) rfl)) (qfc (hw _ (List.mem_of_getElem? (i := 60) rfl)) (qfc (hw _ (List.mem_of_getElem? (i := 89) rfl)) (qfc (hw _ (List.mem_of_getElem? (i := 91) rfl)) (qfc (hw _ (List.mem_of_getElem? (i := 97) rfl)) qfn))))))))))))))))))))))))))
  refine ⟨?_, ?_, ?_, ?_, ?_, ?_, ?_, ?_, ?_, ?_, ?_, ?_, ?_, (fun k hk => w0 k (List.mem_range.mpr hk)), ?_, ?_, ?_⟩
  · exact (qfc (hw _ (List.mem_of_getElem? (i := 10) rfl)) (qfc (hw _ (List.mem_of_getElem? (i := 13) rfl)) (qfc (hw _ (List.mem_of_getElem? (i := 15) rfl)) (qfc (hw _ (List.mem_of_getElem? (i := 17) rfl)) (qfc (hw _ (List.mem_of_getElem? (i := 19) rfl)) (qfc (hw _ (List.mem_of_getElem? (i := 21) rfl)) (qfc (hw _ (List.mem_of_getElem? (i := 23) rfl)) (qfc (hw _ (List.mem_of_getElem? (i := 25) rfl)) (qfc (hw _ (List.mem_of_getElem? (i := 27) rfl)) (qfc (hw _ (List.mem_of_getElem? (i := 29) rfl)) (qfc (hw _ (List.mem_of_getElem? (i := 31) rfl)) (qfc (hw _ (List.mem_of_getElem? (i := 33) rfl)) (qfc (hw _ (List.mem_of_getElem? (i := 35) rfl)) (qfc (hw _ (List.mem_of_getElem? (i := 37) rfl)) (qfc (hw _ (List.mem_of_getElem? (i := 39) rfl)) (qfc (hw _ (List.mem_of_getElem? (i := 41) rfl)) (qfc (hw _ (List.mem_of_getElem? (i := 43) rfl)) (qfc (hw _ (List.mem_of_getElem? (i := 45) rfl)) (qfc (hw _ (List.mem_of_getElem? (i := 47) rfl)) (qfc (hw _ (List.mem_of_getElem? (i := 53) rfl)) (qfc (hw _ (List.mem_of_getElem? (i := 55) rfl)) (qfc (hw _ (List.mem_of_getElem? (i := 57) rfl)) (qfc (hw _ (List.mem_of_getElem? (i := 59) rfl)) (qfc (hw _ (List.mem_of_getElem? (i := 88) rfl)) (qfc (hw _ (List.mem_of_getElem? (i := 90) rfl)) (qfc (hw _ (List.mem_of_getElem? (i := 96) rfl)) qfn))))))))))))))))))))))))))
  · exact (qfc (hw _ (List.mem_of_getElem? (i := 0) rfl)) qfn)
  · exact qfn
  · exact qfn
  · exact (qfc (hw _ (List.mem_of_getElem? (i := 3) rfl)) (qfc (hw _ (List.mem_of_getElem? (i := 49) rfl)) (qfc (hw _ (List.mem_of_getElem? (i := 61) rfl)) (qfc (hw _ (List.mem_of_getElem? (i := 66) rfl)) (qfc (hw _ (List.mem_of_getElem? (i := 71) rfl)) (qfc (hw _ (List.mem_of_getElem? (i := 75) rfl)) (qfc (hw _ (List.mem_of_getElem? (i := 80) rfl)) (qfc (hw _ (List.mem_of_getElem? (i := 84) rfl)) (qfc (hw _ (List.mem_of_getElem? (i := 92) rfl)) (qfc (hw _ (List.mem_of_getElem? (i := 98) rfl)) (qfc (hw _ (List.mem_of_getElem? (i := 102) rfl)) (qfc (hw _ (List.mem_of_getElem? (i := 106) rfl)) (qfc (hw _ (List.mem_of_getElem? (i := 110) rfl)) (qfc (hw _ (List.mem_of_getElem? (i := 114) rfl)) (qfc (hw _ (List.mem_of_getElem? (i := 118) rfl)) (qfc (hw _ (List.mem_of_getElem? (i := 122) rfl)) (qfc (hw _ (List.mem_of_getElem? (i := 126) rfl)) (qfc (hw _ (List.mem_of_getElem? (i := 130) rfl)) (qfc (hw _ (List.mem_of_getElem? (i := 134) rfl)) (qfc (hw _ (List.mem_of_getElem? (i := 138) rfl)) (qfc (hw _ (List.mem_of_getElem? (i := 142) rfl)) (qfc (hw _ (List.mem_of_getElem? (i := 146) rfl)) (qfc (hw _ (List.mem_of_getElem? (i := 150) rfl)) (qfc (hw _ (List.mem_of_getElem? (i := 155) rfl)) (qfc (hw _ (List.mem_of_getElem? (i := 159) rfl)) (qfc (hw _ (List.mem_of_getElem? (i := 163) rfl)) (qfc (hw _ (List.mem_of_getElem? (i := 167) rfl)) (qfc (hw _ (List.mem_of_getElem? (i := 171) rfl)) (qfc (hw _ (List.mem_of_getElem? (i := 175) rfl)) (qfc (hw _ (List.mem_of_getElem? (i := 179) rfl)) (qfc (hw _ (List.mem_of_getElem? (i := 184) rfl)) (qfc (hw _ (List.mem_of_getElem? (i := 189) rfl)) (qfc (hw _ (List.mem_of_getElem? (i := 194) rfl)) (qfc (hw _ (List.mem_of_getElem? (i := 199) rfl)) (qfc (hw _ (List.mem_of_getElem? (i := 204) rfl)) (qfc (hw _ (List.mem_of_getElem? (i := 209) rfl)) (qfc (hw _ (List.mem_of_getElem? (i := 214) rfl)) (qfc (hw _ (List.mem_of_getElem? (i := 219) rfl)) (qfc (hw _ (List.mem_of_getElem? (i := 224) rfl)) (qfc (hw _ (List.mem_of_getElem? (i := 229) rfl)) qfn))))))))))))))))))))))))))))))))))))))))
  · exact (qfc (hw _ (List.mem_of_getElem? (i := 6) rfl)) qfn)
  · exact (qfc ⟨(hw _ (List.mem_of_getElem? (i := 62) rfl)), (hw _ (List.mem_of_getElem? (i := 64) rfl)), (hw _ (List.mem_of_getElem? (i := 63) rfl))⟩ (qfc ⟨(hw _ (List.mem_of_getElem? (i := 67) rfl)), (hw _ (List.mem_of_getElem? (i := 69) rfl)), (hw _ (List.mem_of_getElem? (i := 68) rfl))⟩ (qfc ⟨(hw _ (List.mem_of_getElem? (i := 76) rfl)), (hw _ (List.mem_of_getElem? (i := 78) rfl)), (hw _ (List.mem_of_getElem? (i := 77) rfl))⟩ (qfc ⟨(hw _ (List.mem_of_getElem? (i := 151) rfl)), (hw _ (List.mem_of_getElem? (i := 153) rfl)), (hw _ (List.mem_of_getElem? (i := 152) rfl))⟩ (qfc ⟨(hw _ (List.mem_of_getElem? (i := 180) rfl)), (hw _ (List.mem_of_getElem? (i := 182) rfl)), (hw _ (List.mem_of_getElem? (i := 181) rfl))⟩ (qfc ⟨(hw _ (List.mem_of_getElem? (i := 185) rfl)), (hw _ (List.mem_of_getElem? (i := 187) rfl)), (hw _ (List.mem_of_getElem? (i := 186) rfl))⟩ (qfc ⟨(hw _ (List.mem_of_getElem? (i := 190) rfl)), (hw _ (List.mem_of_getElem? (i := 192) rfl)), (hw _ (List.mem_of_getElem? (i := 191) rfl))⟩ (qfc ⟨(hw _ (List.mem_of_getElem? (i := 195) rfl)), (hw _ (List.mem_of_getElem? (i := 197) rfl)), (hw _ (List.mem_of_getElem? (i := 196) rfl))⟩ (qfc ⟨(hw _ (List.mem_of_getElem? (i := 200) rfl)), (hw _ (List.mem_of_getElem? (i := 202) rfl)), (hw _ (List.mem_of_getElem? (i := 201) rfl))⟩ (qfc ⟨(hw _ (List.mem_of_getElem? (i := 205) rfl)), (hw _ (List.mem_of_getElem? (i := 207) rfl)), (hw _ (List.mem_of_getElem? (i := 206) rfl))⟩ (qfc ⟨(hw _ (List.mem_of_getElem? (i := 210) rfl)), (hw _ (List.mem_of_getElem? (i := 212) rfl)), (hw _ (List.mem_of_getElem? (i := 211) rfl))⟩ (qfc ⟨(hw _ (List.mem_of_getElem? (i := 215) rfl)), (hw _ (List.mem_of_getElem? (i := 217) rfl)), (hw _ (List.mem_of_getElem? (i := 216) rfl))⟩ (qfc ⟨(hw _ (List.mem_of_getElem? (i := 220) rfl)), (hw _ (List.mem_of_getElem? (i := 222) rfl)), (hw _ (List.mem_of_getElem? (i := 221) rfl))⟩ (qfc ⟨(hw _ (List.mem_of_getElem? (i := 225) rfl)), (hw _ (List.mem_of_getElem? (i := 227) rfl)), (hw _ (List.mem_of_getElem? (i := 226) rfl))⟩ (qfc ⟨(hw _ (List.mem_of_getElem? (i := 230) rfl)), (hw _ (List.mem_of_getElem? (i := 232) rfl)), (hw _ (List.mem_of_getElem? (i := 231) rfl))⟩ qfn)))))))))))))))
  · exact (qfc ⟨(hw _ (List.mem_of_getElem? (i := 50) rfl)), (hw _ (List.mem_of_getElem? (i := 51) rfl))⟩ (qfc ⟨(hw _ (List.mem_of_getElem? (i := 72) rfl)), (hw _ (List.mem_of_getElem? (i := 73) rfl))⟩ (qfc ⟨(hw _ (List.mem_of_getElem? (i := 81) rfl)), (hw _ (List.mem_of_getElem? (i := 82) rfl))⟩ (qfc ⟨(hw _ (List.mem_of_getElem? (i := 85) rfl)), (hw _ (List.mem_of_getElem? (i := 86) rfl))⟩ (qfc ⟨(hw _ (List.mem_of_getElem? (i := 93) rfl)), (hw _ (List.mem_of_getElem? (i := 94) rfl))⟩ (qfc ⟨(hw _ (List.mem_of_getElem? (i := 99) rfl)), (hw _ (List.mem_of_getElem? (i := 100) rfl))⟩ (qfc ⟨(hw _ (List.mem_of_getElem? (i := 103) rfl)), (hw _ (List.mem_of_getElem? (i := 104) rfl))⟩ (qfc ⟨(hw _ (List.mem_of_getElem? (i := 107) rfl)), (hw _ (List.mem_of_getElem? (i := 108) rfl))⟩ (qfc ⟨(hw _ (List.mem_of_getElem? (i := 111) rfl)), (hw _ (List.mem_of_getElem? (i := 112) rfl))⟩ (qfc ⟨(hw _ (List.mem_of_getElem? (i := 115) rfl)), (hw _ (List.mem_of_getElem? (i := 116) rfl))⟩ (qfc ⟨(hw _ (List.mem_of_getElem? (i := 119) rfl)), (hw _ (List.mem_of_getElem? (i := 120) rfl))⟩ (qfc ⟨(hw _ (List.mem_of_getElem? (i := 123) rfl)), (hw _ (List.mem_of_getElem? (i := 124) rfl))⟩ (qfc ⟨(hw _ (List.mem_of_getElem? (i := 127) rfl)), (hw _ (List.mem_of_getElem? (i := 128) rfl))⟩ (qfc ⟨(hw _ (List.mem_of_getElem? (i := 131) rfl)), (hw _ (List.mem_of_getElem? (i := 132) rfl))⟩ (qfc ⟨(hw _ (List.mem_of_getElem? (i := 135) rfl)), (hw _ (List.mem_of_getElem? (i := 136) rfl))⟩ (qfc ⟨(hw _ (List.mem_of_getElem? (i := 139) rfl)), (hw _ (List.mem_of_getElem? (i := 140) rfl))⟩ (qfc ⟨(hw _ (List.mem_of_getElem? (i := 143) rfl)), (hw _ (List.mem_of_getElem? (i := 144) rfl))⟩ (qfc ⟨(hw _ (List.mem_of_getElem? (i := 147) rfl)), (hw _ (List.mem_of_getElem? (i := 148) rfl))⟩ (qfc ⟨(hw _ (List.mem_of_getElem? (i := 156) rfl)), (hw _ (List.mem_of_getElem? (i := 157) rfl))⟩ (qfc ⟨(hw _ (List.mem_of_getElem? (i := 160) rfl)), (hw _ (List.mem_of_getElem? (i := 161) rfl))⟩ (qfc ⟨(hw _ (List.mem_of_getElem? (i := 164) rfl)), (hw _ (List.mem_of_getElem? (i := 165) rfl))⟩ (qfc ⟨(hw _ (List.mem_of_getElem? (i := 168) rfl)), (hw _ (List.mem_of_getElem? (i := 169) rfl))⟩ (qfc ⟨(hw _ (List.mem_of_getElem? (i := 172) rfl)), (hw _ (List.mem_of_getElem? (i := 173) rfl))⟩ qfn)))))))))))))))))))))))
  · exact (qfc (hw _ (List.mem_of_getElem? (i := 176) rfl)) qfn)
  · exact (qfc (hw _ (List.mem_of_getElem? (i := 4) rfl)) qfn)
  · exact (qfc ⟨(hw _ (List.mem_of_getElem? (i := 5) rfl)), (hw _ (List.mem_of_getElem? (i := 2) rfl))⟩ (qfc ⟨(hw _ (List.mem_of_getElem? (i := 52) rfl)), (hw _ (List.mem_of_getElem? (i := 2) rfl))⟩ (qfc ⟨(hw _ (List.mem_of_getElem? (i := 65) rfl)), (hw _ (List.mem_of_getElem? (i := 2) rfl))⟩ (qfc ⟨(hw _ (List.mem_of_getElem? (i := 70) rfl)), (hw _ (List.mem_of_getElem? (i := 2) rfl))⟩ (qfc ⟨(hw _ (List.mem_of_getElem? (i := 74) rfl)), (hw _ (List.mem_of_getElem? (i := 2) rfl))⟩ (qfc ⟨(hw _ (List.mem_of_getElem? (i := 79) rfl)), (hw _ (List.mem_of_getElem? (i := 2) rfl))⟩ (qfc ⟨(hw _ (List.mem_of_getElem? (i := 83) rfl)), (hw _ (List.mem_of_getElem? (i := 2) rfl))⟩ (qfc ⟨(hw _ (List.mem_of_getElem? (i := 87) rfl)), (hw _ (List.mem_of_getElem? (i := 2) rfl))⟩ (qfc ⟨(hw _ (List.mem_of_getElem? (i := 95) rfl)), (hw _ (List.mem_of_getElem? (i := 2) rfl))⟩ (qfc ⟨(hw _ (List.mem_of_getElem? (i := 101) rfl)), (hw _ (List.mem_of_getElem? (i := 2) rfl))⟩ (qfc ⟨(hw _ (List.mem_of_getElem? (i := 105) rfl)), (hw _ (List.mem_of_getElem? (i := 2) rfl))⟩ (qfc ⟨(hw _ (List.mem_of_getElem? (i := 109) rfl)), (hw _ (List.mem_of_getElem? (i := 2) rfl))⟩ (qfc ⟨(hw _ (List.mem_of_getElem? (i := 113) rfl)), (hw _ (List.mem_of_getElem? (i := 2) rfl))⟩ (qfc ⟨(hw _ (List.mem_of_getElem? (i := 117) rfl)), (hw _ (List.mem_of_getElem? (i := 2) rfl))⟩ (qfc ⟨(hw _ (List.mem_of_getElem? (i := 121) rfl)), (hw _ (List.mem_of_getElem? (i := 2) rfl))⟩ (qfc ⟨(hw _ (List.mem_of_getElem? (i := 125) rfl)), (hw _ (List.mem_of_getElem? (i := 2) rfl))⟩ (qfc ⟨(hw _ (List.mem_of_getElem? (i := 129) rfl)), (hw _ (List.mem_of_getElem? (i := 2) rfl))⟩ (qfc ⟨(hw _ (List.mem_of_getElem? (i := 133) rfl)), (hw _ (List.mem_of_getElem? (i := 2) rfl))⟩ (qfc ⟨(hw _ (List.mem_of_getElem? (i := 137) rfl)), (hw _ (List.mem_of_getElem? (i := 2) rfl))⟩ (qfc ⟨(hw _ (List.mem_of_getElem? (i := 141) rfl)), (hw _ (List.mem_of_getElem? (i := 2) rfl))⟩ (qfc ⟨(hw _ (List.mem_of_getElem? (i := 145) rfl)), (hw _ (List.mem_of_getElem? (i := 2) rfl))⟩ (qfc ⟨(hw _ (List.mem_of_getElem? (i := 149) rfl)), (hw _ (List.mem_of_getElem? (i := 2) rfl))⟩ (qfc ⟨(hw _ (List.mem_of_getElem? (i := 154) rfl)), (hw _ (List.mem_of_getElem? (i := 2) rfl))⟩ (qfc ⟨(hw _ (List.mem_of_getElem? (i := 158) rfl)), (hw _ (List.mem_of_getElem? (i := 2) rfl))⟩ (qfc ⟨(hw _ (List.mem_of_getElem? (i := 162) rfl)), (hw _ (List.mem_of_getElem? (i := 2) rfl))⟩ (qfc ⟨(hw _ (List.mem_of_getElem? (i := 166) rfl)), (hw _ (List.mem_of_getElem? (i := 2) rfl))⟩ (qfc ⟨(hw _ (List.mem_of_getElem? (i := 170) rfl)), (hw _ (List.mem_of_getElem? (i := 2) rfl))⟩ (qfc ⟨(hw _ (List.mem_of_getElem? (i := 174) rfl)), (hw _ (List.mem_of_getElem? (i := 2) rfl))⟩ (qfc ⟨(hw _ (List.mem_of_getElem? (i := 178) rfl)), (hw _ (List.mem_of_getElem? (i := 177) rfl))⟩ (qfc ⟨(hw _ (List.mem_of_getElem? (i := 183) rfl)), (hw _ (List.mem_of_getElem? (i := 2) rfl))⟩ (qfc ⟨(hw _ (List.mem_of_getElem? (i := 188) rfl)), (hw _ (List.mem_of_getElem? (i := 2) rfl))⟩ (qfc ⟨(hw _ (List.mem_of_getElem? (i := 193) rfl)), (hw _ (List.mem_of_getElem? (i := 2) rfl))⟩ (qfc ⟨(hw _ (List.mem_of_getElem? (i := 198) rfl)), (hw _ (List.mem_of_getElem? (i := 2) rfl))⟩ (qfc ⟨(hw _ (List.mem_of_getElem? (i := 203) rfl)), (hw _ (List.mem_of_getElem? (i := 2) rfl))⟩ (qfc ⟨(hw _ (List.mem_of_getElem? (i := 208) rfl)), (hw _ (List.mem_of_getElem? (i := 2) rfl))⟩ (qfc ⟨(hw _ (List.mem_of_getElem? (i := 213) rfl)), (hw _ (List.mem_of_getElem? (i := 2) rfl))⟩ (qfc ⟨(hw _ (List.mem_of_getElem? (i := 218) rfl)), (hw _ (List.mem_of_getElem? (i := 2) rfl))⟩ (qfc ⟨(hw _ (List.mem_of_getElem? (i := 223) rfl)), (hw _ (List.mem_of_getElem? (i := 2) rfl))⟩ (qfc ⟨(hw _ (List.mem_of_getElem? (i := 228) rfl)), (hw _ (List.mem_of_getElem? (i := 2) rfl))⟩ (qfc ⟨(hw _ (List.mem_of_getElem? (i := 233) rfl)), (hw _ (List.mem_of_getElem? (i := 2) rfl))⟩ qfn))))))))))))))))))))))))))))))))))))))))
  · exact (hw _ (List.mem_of_getElem? (i := 7) rfl))
  · exact (hw _ (List.mem_of_getElem? (i := 8) rfl))
  · exact (hw _ (List.mem_of_getElem? (i := 1) rfl))
  · exact (hw _ (List.mem_of_getElem? (i := 2) rfl))
  · exact (qfc (hw _ (List.mem_of_getElem? (i := 9) rfl)) (qfc (hw _ (List.mem_of_getElem? (i := 12) rfl)) qfn))
abbrev Ob := List Int32 × List Int32 × List Int32 × List Int32 × List Int32 × List Int32 × List Int32 × List Int32 × List Int32 × List Int32 × List Int32 × List Int32 × List Int32 × List Int32 × List Int32 × List Int32 × List Int32 × List Int32 × List Int32 × Int32 × Int32 × Int32 × Int32 × Int32 × Int32 × Int32
def f_srcPayload (o : Ob) : List Int32 := o.1
def f_pend (o : Ob) : List Int32 := o.2.1
def f_queue (o : Ob) : List Int32 := o.2.2.1
def f_stats (o : Ob) : List Int32 := o.2.2.2.1
def f_state (o : Ob) : List Int32 := o.2.2.2.2.1
def f_timer (o : Ob) : List Int32 := o.2.2.2.2.2.1
def f_rxVal (o : Ob) : List Int32 := o.2.2.2.2.2.2.1
def f_rxNext (o : Ob) : List Int32 := o.2.2.2.2.2.2.2.1
def f_rxLead (o : Ob) : List Int32 := o.2.2.2.2.2.2.2.2.1
def f_rxTrail (o : Ob) : List Int32 := o.2.2.2.2.2.2.2.2.2.1
def f_lossLeft (o : Ob) : List Int32 := o.2.2.2.2.2.2.2.2.2.2.1
def f_dups (o : Ob) : List Int32 := o.2.2.2.2.2.2.2.2.2.2.2.1
def f_drops (o : Ob) : List Int32 := o.2.2.2.2.2.2.2.2.2.2.2.2.1
def f_delSeq (o : Ob) : List Int32 := o.2.2.2.2.2.2.2.2.2.2.2.2.2.1
def f_delVal (o : Ob) : List Int32 := o.2.2.2.2.2.2.2.2.2.2.2.2.2.2.1
def f_delLen (o : Ob) : List Int32 := o.2.2.2.2.2.2.2.2.2.2.2.2.2.2.2.1
def f_lostLog (o : Ob) : List Int32 := o.2.2.2.2.2.2.2.2.2.2.2.2.2.2.2.2.1
def f_lostLen (o : Ob) : List Int32 := o.2.2.2.2.2.2.2.2.2.2.2.2.2.2.2.2.2.1
def f_nakBuf (o : Ob) : List Int32 := o.2.2.2.2.2.2.2.2.2.2.2.2.2.2.2.2.2.2.1
def f_win (o : Ob) : Int32 := o.2.2.2.2.2.2.2.2.2.2.2.2.2.2.2.2.2.2.2.1
def f_back (o : Ob) : Int32 := o.2.2.2.2.2.2.2.2.2.2.2.2.2.2.2.2.2.2.2.2.1
def f_repair (o : Ob) : Int32 := o.2.2.2.2.2.2.2.2.2.2.2.2.2.2.2.2.2.2.2.2.2.1
def f_period (o : Ob) : Int32 := o.2.2.2.2.2.2.2.2.2.2.2.2.2.2.2.2.2.2.2.2.2.2.1
def f_nextSeq (o : Ob) : Int32 := o.2.2.2.2.2.2.2.2.2.2.2.2.2.2.2.2.2.2.2.2.2.2.2.1
def f_qLen (o : Ob) : Int32 := o.2.2.2.2.2.2.2.2.2.2.2.2.2.2.2.2.2.2.2.2.2.2.2.2.1
def f_nakLen (o : Ob) : Int32 := o.2.2.2.2.2.2.2.2.2.2.2.2.2.2.2.2.2.2.2.2.2.2.2.2.2
def s_srcPayload (o : Ob) (v : List Int32) : Ob := (v, o.2.1, o.2.2.1, o.2.2.2.1, o.2.2.2.2.1, o.2.2.2.2.2.1, o.2.2.2.2.2.2.1, o.2.2.2.2.2.2.2.1, o.2.2.2.2.2.2.2.2.1, o.2.2.2.2.2.2.2.2.2.1, o.2.2.2.2.2.2.2.2.2.2.1, o.2.2.2.2.2.2.2.2.2.2.2.1, o.2.2.2.2.2.2.2.2.2.2.2.2.1, o.2.2.2.2.2.2.2.2.2.2.2.2.2.1, o.2.2.2.2.2.2.2.2.2.2.2.2.2.2.1, o.2.2.2.2.2.2.2.2.2.2.2.2.2.2.2.1, o.2.2.2.2.2.2.2.2.2.2.2.2.2.2.2.2.1, o.2.2.2.2.2.2.2.2.2.2.2.2.2.2.2.2.2.1, o.2.2.2.2.2.2.2.2.2.2.2.2.2.2.2.2.2.2.1, o.2.2.2.2.2.2.2.2.2.2.2.2.2.2.2.2.2.2.2.1, o.2.2.2.2.2.2.2.2.2.2.2.2.2.2.2.2.2.2.2.2.1, o.2.2.2.2.2.2.2.2.2.2.2.2.2.2.2.2.2.2.2.2.2.1, o.2.2.2.2.2.2.2.2.2.2.2.2.2.2.2.2.2.2.2.2.2.2.1, o.2.2.2.2.2.2.2.2.2.2.2.2.2.2.2.2.2.2.2.2.2.2.2.1, o.2.2.2.2.2.2.2.2.2.2.2.2.2.2.2.2.2.2.2.2.2.2.2.2.1, o.2.2.2.2.2.2.2.2.2.2.2.2.2.2.2.2.2.2.2.2.2.2.2.2.2)
def s_pend (o : Ob) (v : List Int32) : Ob := (o.1, v, o.2.2.1, o.2.2.2.1, o.2.2.2.2.1, o.2.2.2.2.2.1, o.2.2.2.2.2.2.1, o.2.2.2.2.2.2.2.1, o.2.2.2.2.2.2.2.2.1, o.2.2.2.2.2.2.2.2.2.1, o.2.2.2.2.2.2.2.2.2.2.1, o.2.2.2.2.2.2.2.2.2.2.2.1, o.2.2.2.2.2.2.2.2.2.2.2.2.1, o.2.2.2.2.2.2.2.2.2.2.2.2.2.1, o.2.2.2.2.2.2.2.2.2.2.2.2.2.2.1, o.2.2.2.2.2.2.2.2.2.2.2.2.2.2.2.1, o.2.2.2.2.2.2.2.2.2.2.2.2.2.2.2.2.1, o.2.2.2.2.2.2.2.2.2.2.2.2.2.2.2.2.2.1, o.2.2.2.2.2.2.2.2.2.2.2.2.2.2.2.2.2.2.1, o.2.2.2.2.2.2.2.2.2.2.2.2.2.2.2.2.2.2.2.1, o.2.2.2.2.2.2.2.2.2.2.2.2.2.2.2.2.2.2.2.2.1, o.2.2.2.2.2.2.2.2.2.2.2.2.2.2.2.2.2.2.2.2.2.1, o.2.2.2.2.2.2.2.2.2.2.2.2.2.2.2.2.2.2.2.2.2.2.1, o.2.2.2.2.2.2.2.2.2.2.2.2.2.2.2.2.2.2.2.2.2.2.2.1, o.2.2.2.2.2.2.2.2.2.2.2.2.2.2.2.2.2.2.2.2.2.2.2.2.1, o.2.2.2.2.2.2.2.2.2.2.2.2.2.2.2.2.2.2.2.2.2.2.2.2.2)
def s_queue (o : Ob) (v : List Int32) : Ob := (o.1, o.2.1, v, o.2.2.2.1, o.2.2.2.2.1, o.2.2.2.2.2.1, o.2.2.2.2.2.2.1, o.2.2.2.2.2.2.2.1, o.2.2.2.2.2.2.2.2.1, o.2.2.2.2.2.2.2.2.2.1, o.2.2.2.2.2.2.2.2.2.2.1, o.2.2.2.2.2.2.2.2.2.2.2.1, o.2.2.2.2.2.2.2.2.2.2.2.2.1, o.2.2.2.2.2.2.2.2.2.2.2.2.2.1, o.2.2.2.2.2.2.2.2.2.2.2.2.2.2.1, o.2.2.2.2.2.2.2.2.2.2.2.2.2.2.2.1, o.2.2.2.2.2.2.2.2.2.2.2.2.2.2.2.2.1, o.2.2.2.2.2.2.2.2.2.2.2.2.2.2.2.2.2.1, o.2.2.2.2.2.2.2.2.2.2.2.2.2.2.2.2.2.2.1, o.2.2.2.2.2.2.2.2.2.2.2.2.2.2.2.2.2.2.2.1, o.2.2.2.2.2.2.2.2.2.2.2.2.2.2.2.2.2.2.2.2.1, o.2.2.2.2.2.2.2.2.2.2.2.2.2.2.2.2.2.2.2.2.2.1, o.2.2.2.2.2.2.2.2.2.2.2.2.2.2.2.2.2.2.2.2.2.2.1, o.2.2.2.2.2.2.2.2.2.2.2.2.2.2.2.2.2.2.2.2.2.2.2.1, o.2.2.2.2.2.2.2.2.2.2.2.2.2.2.2.2.2.2.2.2.2.2.2.2.1, o.2.2.2.2.2.2.2.2.2.2.2.2.2.2.2.2.2.2.2.2.2.2.2.2.2)
def s_stats (o : Ob) (v : List Int32) : Ob := (o.1, o.2.1, o.2.2.1, v, o.2.2.2.2.1, o.2.2.2.2.2.1, o.2.2.2.2.2.2.1, o.2.2.2.2.2.2.2.1, o.2.2.2.2.2.2.2.2.1, o.2.2.2.2.2.2.2.2.2.1, o.2.2.2.2.2.2.2.2.2.2.1, o.2.2.2.2.2.2.2.2.2.2.2.1, o.2.2.2.2.2.2.2.2.2.2.2.2.1, o.2.2.2.2.2.2.2.2.2.2.2.2.2.1, o.2.2.2.2.2.2.2.2.2.2.2.2.2.2.1, o.2.2.2.2.2.2.2.2.2.2.2.2.2.2.2.1, o.2.2.2.2.2.2.2.2.2.2.2.2.2.2.2.2.1, o.2.2.2.2.2.2.2.2.2.2.2.2.2.2.2.2.2.1, o.2.2.2.2.2.2.2.2.2.2.2.2.2.2.2.2.2.2.1, o.2.2.2.2.2.2.2.2.2.2.2.2.2.2.2.2.2.2.2.1, o.2.2.2.2.2.2.2.2.2.2.2.2.2.2.2.2.2.2.2.2.1, o.2.2.2.2.2.2.2.2.2.2.2.2.2.2.2.2.2.2.2.2.2.1, o.2.2.2.2.2.2.2.2.2.2.2.2.2.2.2.2.2.2.2.2.2.2.1, o.2.2.2.2.2.2.2.2.2.2.2.2.2.2.2.2.2.2.2.2.2.2.2.1, o.2.2.2.2.2.2.2.2.2.2.2.2.2.2.2.2.2.2.2.2.2.2.2.2.1, o.2.2.2.2.2.2.2.2.2.2.2.2.2.2.2.2.2.2.2.2.2.2.2.2.2)
def s_state (o : Ob) (v : List Int32) : Ob := (o.1, o.2.1, o.2.2.1, o.2.2.2.1, v, o.2.2.2.2.2.1, o.2.2.2.2.2.2.1, o.2.2.2.2.2.2.2.1, o.2.2.2.2.2.2.2.2.1, o.2.2.2.2.2.2.2.2.2.1, o.2.2.2.2.2.2.2.2.2.2.1, o.2.2.2.2.2.2.2.2.2.2.2.1, o.2.2.2.2.2.2.2.2.2.2.2.2.1, o.2.2.2.2.2.2.2.2.2.2.2.2.2.1, o.2.2.2.2.2.2.2.2.2.2.2.2.2.2.1, o.2.2.2.2.2.2.2.2.2.2.2.2.2.2.2.1, o.2.2.2.2.2.2.2.2.2.2.2.2.2.2.2.2.1, o.2.2.2.2.2.2.2.2.2.2.2.2.2.2.2.2.2.1, o.2.2.2.2.2.2.2.2.2.2.2.2.2.2.2.2.2.2.1, o.2.2.2.2.2.2.2.2.2.2.2.2.2.2.2.2.2.2.2.1, o.2.2.2.2.2.2.2.2.2.2.2.2.2.2.2.2.2.2.2.2.1, o.2.2.2.2.2.2.2.2.2.2.2.2.2.2.2.2.2.2.2.2.2.1, o.2.2.2.2.2.2.2.2.2.2.2.2.2.2.2.2.2.2.2.2.2.2.1, o.2.2.2.2.2.2.2.2.2.2.2.2.2.2.2.2.2.2.2.2.2.2.2.1, o.2.2.2.2.2.2.2.2.2.2.2.2.2.2.2.2.2.2.2.2.2.2.2.2.1, o.2.2.2.2.2.2.2.2.2.2.2.2.2.2.2.2.2.2.2.2.2.2.2.2.2)
def s_timer (o : Ob) (v : List Int32) : Ob := (o.1, o.2.1, o.2.2.1, o.2.2.2.1, o.2.2.2.2.1, v, o.2.2.2.2.2.2.1, o.2.2.2.2.2.2.2.1, o.2.2.2.2.2.2.2.2.1, o.2.2.2.2.2.2.2.2.2.1, o.2.2.2.2.2.2.2.2.2.2.1, o.2.2.2.2.2.2.2.2.2.2.2.1, o.2.2.2.2.2.2.2.2.2.2.2.2.1, o.2.2.2.2.2.2.2.2.2.2.2.2.2.1, o.2.2.2.2.2.2.2.2.2.2.2.2.2.2.1, o.2.2.2.2.2.2.2.2.2.2.2.2.2.2.2.1, o.2.2.2.2.2.2.2.2.2.2.2.2.2.2.2.2.1, o.2.2.2.2.2.2.2.2.2.2.2.2.2.2.2.2.2.1, o.2.2.2.2.2.2.2.2.2.2.2.2.2.2.2.2.2.2.1, o.2.2.2.2.2.2.2.2.2.2.2.2.2.2.2.2.2.2.2.1, o.2.2.2.2.2.2.2.2.2.2.2.2.2.2.2.2.2.2.2.2.1, o.2.2.2.2.2.2.2.2.2.2.2.2.2.2.2.2.2.2.2.2.2.1, o.2.2.2.2.2.2.2.2.2.2.2.2.2.2.2.2.2.2.2.2.2.2.1, o.2.2.2.2.2.2.2.2.2.2.2.2.2.2.2.2.2.2.2.2.2.2.2.1, o.2.2.2.2.2.2.2.2.2.2.2.2.2.2.2.2.2.2.2.2.2.2.2.2.1, o.2.2.2.2.2.2.2.2.2.2.2.2.2.2.2.2.2.2.2.2.2.2.2.2.2)
def s_rxVal (o : Ob) (v : List Int32) : Ob := (o.1, o.2.1, o.2.2.1, o.2.2.2.1, o.2.2.2.2.1, o.2.2.2.2.2.1, v, o.2.2.2.2.2.2.2.1, o.2.2.2.2.2.2.2.2.1, o.2.2.2.2.2.2.2.2.2.1, o.2.2.2.2.2.2.2.2.2.2.1, o.2.2.2.2.2.2.2.2.2.2.2.1, o.2.2.2.2.2.2.2.2.2.2.2.2.1, o.2.2.2.2.2.2.2.2.2.2.2.2.2.1, o.2.2.2.2.2.2.2.2.2.2.2.2.2.2.1, o.2.2.2.2.2.2.2.2.2.2.2.2.2.2.2.1, o.2.2.2.2.2.2.2.2.2.2.2.2.2.2.2.2.1, o.2.2.2.2.2.2.2.2.2.2.2.2.2.2.2.2.2.1, o.2.2.2.2.2.2.2.2.2.2.2.2.2.2.2.2.2.2.1, o.2.2.2.2.2.2.2.2.2.2.2.2.2.2.2.2.2.2.2.1, o.2.2.2.2.2.2.2.2.2.2.2.2.2.2.2.2.2.2.2.2.1, o.2.2.2.2.2.2.2.2.2.2.2.2.2.2.2.2.2.2.2.2.2.1, o.2.2.2.2.2.2.2.2.2.2.2.2.2.2.2.2.2.2.2.2.2.2.1, o.2.2.2.2.2.2.2.2.2.2.2.2.2.2.2.2.2.2.2.2.2.2.2.1, o.2.2.2.2.2.2.2.2.2.2.2.2.2.2.2.2.2.2.2.2.2.2.2.2.1, o.2.2.2.2.2.2.2.2.2.2.2.2.2.2.2.2.2.2.2.2.2.2.2.2.2)
def s_rxNext (o : Ob) (v : List Int32) : Ob := (o.1, o.2.1, o.2.2.1, o.2.2.2.1, o.2.2.2.2.1, o.2.2.2.2.2.1, o.2.2.2.2.2.2.1, v, o.2.2.2.2.2.2.2.2.1, o.2.2.2.2.2.2.2.2.2.1, o.2.2.2.2.2.2.2.2.2.2.1, o.2.2.2.2.2.2.2.2.2.2.2.1, o.2.2.2.2.2.2.2.2.2.2.2.2.1, o.2.2.2.2.2.2.2.2.2.2.2.2.2.1, o.2.2.2.2.2.2.2.2.2.2.2.2.2.2.1, o.2.2.2.2.2.2.2.2.2.2.2.2.2.2.2.1, o.2.2.2.2.2.2.2.2.2.2.2.2.2.2.2.2.1, o.2.2.2.2.2.2.2.2.2.2.2.2.2.2.2.2.2.1, o.2.2.2.2.2.2.2.2.2.2.2.2.2.2.2.2.2.2.1, o.2.2.2.2.2.2.2.2.2.2.2.2.2.2.2.2.2.2.2.1, o.2.2.2.2.2.2.2.2.2.2.2.2.2.2.2.2.2.2.2.2.1, o.2.2.2.2.2.2.2.2.2.2.2.2.2.2.2.2.2.2.2.2.2.1, o.2.2.2.2.2.2.2.2.2.2.2.2.2.2.2.2.2.2.2.2.2.2.1, o.2.2.2.2.2.2.2.2.2.2.2.2.2.2.2.2.2.2.2.2.2.2.2.1, o.2.2.2.2.2.2.2.2.2.2.2.2.2.2.2.2.2.2.2.2.2.2.2.2.1, o.2.2.2.2.2.2.2.2.2.2.2.2.2.2.2.2.2.2.2.2.2.2.2.2.2)
def s_rxLead (o : Ob) (v : List Int32) : Ob := (o.1, o.2.1, o.2.2.1, o.2.2.2.1, o.2.2.2.2.1, o.2.2.2.2.2.1, o.2.2.2.2.2.2.1, o.2.2.2.2.2.2.2.1, v, o.2.2.2.2.2.2.2.2.2.1, o.2.2.2.2.2.2.2.2.2.2.1, o.2.2.2.2.2.2.2.2.2.2.2.1, o.2.2.2.2.2.2.2.2.2.2.2.2.1, o.2.2.2.2.2.2.2.2.2.2.2.2.2.1, o.2.2.2.2.2.2.2.2.2.2.2.2.2.2.1, o.2.2.2.2.2.2.2.2.2.2.2.2.2.2.2.1, o.2.2.2.2.2.2.2.2.2.2.2.2.2.2.2.2.1, o.2.2.2.2.2.2.2.2.2.2.2.2.2.2.2.2.2.1, o.2.2.2.2.2.2.2.2.2.2.2.2.2.2.2.2.2.2.1, o.2.2.2.2.2.2.2.2.2.2.2.2.2.2.2.2.2.2.2.1, o.2.2.2.2.2.2.2.2.2.2.2.2.2.2.2.2.2.2.2.2.1, o.2.2.2.2.2.2.2.2.2.2.2.2.2.2.2.2.2.2.2.2.2.1, o.2.2.2.2.2.2.2.2.2.2.2.2.2.2.2.2.2.2.2.2.2.2.1, o.2.2.2.2.2.2.2.2.2.2.2.2.2.2.2.2.2.2.2.2.2.2.2.1, o.2.2.2.2.2.2.2.2.2.2.2.2.2.2.2.2.2.2.2.2.2.2.2.2.1, o.2.2.2.2.2.2.2.2.2.2.2.2.2.2.2.2.2.2.2.2.2.2.2.2.2)
def s_rxTrail (o : Ob) (v : List Int32) : Ob := (o.1, o.2.1, o.2.2.1, o.2.2.2.1, o.2.2.2.2.1, o.2.2.2.2.2.1, o.2.2.2.2.2.2.1, o.2.2.2.2.2.2.2.1, o.2.2.2.2.2.2.2.2.1, v, o.2.2.2.2.2.2.2.2.2.2.1, o.2.2.2.2.2.2.2.2.2.2.2.1, o.2.2.2.2.2.2.2.2.2.2.2.2.1, o.2.2.2.2.2.2.2.2.2.2.2.2.2.1, o.2.2.2.2.2.2.2.2.2.2.2.2.2.2.1, o.2.2.2.2.2.2.2.2.2.2.2.2.2.2.2.1, o.2.2.2.2.2.2.2.2.2.2.2.2.2.2.2.2.1, o.2.2.2.2.2.2.2.2.2.2.2.2.2.2.2.2.2.1, o.2.2.2.2.2.2.2.2.2.2.2.2.2.2.2.2.2.2.1, o.2.2.2.2.2.2.2.2.2.2.2.2.2.2.2.2.2.2.2.1, o.2.2.2.2.2.2.2.2.2.2.2.2.2.2.2.2.2.2.2.2.1, o.2.2.2.2.2.2.2.2.2.2.2.2.2.2.2.2.2.2.2.2.2.1, o.2.2.2.2.2.2.2.2.2.2.2.2.2.2.2.2.2.2.2.2.2.2.1, o.2.2.2.2.2.2.2.2.2.2.2.2.2.2.2.2.2.2.2.2.2.2.2.1, o.2.2.2.2.2.2.2.2.2.2.2.2.2.2.2.2.2.2.2.2.2.2.2.2.1, o.2.2.2.2.2.2.2.2.2.2.2.2.2.2.2.2.2.2.2.2.2.2.2.2.2)
def s_lossLeft (o : Ob) (v : List Int32) : Ob := (o.1, o.2.1, o.2.2.1, o.2.2.2.1, o.2.2.2.2.1, o.2.2.2.2.2.1, o.2.2.2.2.2.2.1, o.2.2.2.2.2.2.2.1, o.2.2.2.2.2.2.2.2.1, o.2.2.2.2.2.2.2.2.2.1, v, o.2.2.2.2.2.2.2.2.2.2.2.1, o.2.2.2.2.2.2.2.2.2.2.2.2.1, o.2.2.2.2.2.2.2.2.2.2.2.2.2.1, o.2.2.2.2.2.2.2.2.2.2.2.2.2.2.1, o.2.2.2.2.2.2.2.2.2.2.2.2.2.2.2.1, o.2.2.2.2.2.2.2.2.2.2.2.2.2.2.2.2.1, o.2.2.2.2.2.2.2.2.2.2.2.2.2.2.2.2.2.1, o.2.2.2.2.2.2.2.2.2.2.2.2.2.2.2.2.2.2.1, o.2.2.2.2.2.2.2.2.2.2.2.2.2.2.2.2.2.2.2.1, o.2.2.2.2.2.2.2.2.2.2.2.2.2.2.2.2.2.2.2.2.1, o.2.2.2.2.2.2.2.2.2.2.2.2.2.2.2.2.2.2.2.2.2.1, o.2.2.2.2.2.2.2.2.2.2.2.2.2.2.2.2.2.2.2.2.2.2.1, o.2.2.2.2.2.2.2.2.2.2.2.2.2.2.2.2.2.2.2.2.2.2.2.1, o.2.2.2.2.2.2.2.2.2.2.2.2.2.2.2.2.2.2.2.2.2.2.2.2.1, o.2.2.2.2.2.2.2.2.2.2.2.2.2.2.2.2.2.2.2.2.2.2.2.2.2)
def s_dups (o : Ob) (v : List Int32) : Ob := (o.1, o.2.1, o.2.2.1, o.2.2.2.1, o.2.2.2.2.1, o.2.2.2.2.2.1, o.2.2.2.2.2.2.1, o.2.2.2.2.2.2.2.1, o.2.2.2.2.2.2.2.2.1, o.2.2.2.2.2.2.2.2.2.1, o.2.2.2.2.2.2.2.2.2.2.1, v, o.2.2.2.2.2.2.2.2.2.2.2.2.1, o.2.2.2.2.2.2.2.2.2.2.2.2.2.1, o.2.2.2.2.2.2.2.2.2.2.2.2.2.2.1, o.2.2.2.2.2.2.2.2.2.2.2.2.2.2.2.1, o.2.2.2.2.2.2.2.2.2.2.2.2.2.2.2.2.1, o.2.2.2.2.2.2.2.2.2.2.2.2.2.2.2.2.2.1, o.2.2.2.2.2.2.2.2.2.2.2.2.2.2.2.2.2.2.1, o.2.2.2.2.2.2.2.2.2.2.2.2.2.2.2.2.2.2.2.1, o.2.2.2.2.2.2.2.2.2.2.2.2.2.2.2.2.2.2.2.2.1, o.2.2.2.2.2.2.2.2.2.2.2.2.2.2.2.2.2.2.2.2.2.1, o.2.2.2.2.2.2.2.2.2.2.2.2.2.2.2.2.2.2.2.2.2.2.1, o.2.2.2.2.2.2.2.2.2.2.2.2.2.2.2.2.2.2.2.2.2.2.2.1, o.2.2.2.2.2.2.2.2.2.2.2.2.2.2.2.2.2.2.2.2.2.2.2.2.1, o.2.2.2.2.2.2.2.2.2.2.2.2.2.2.2.2.2.2.2.2.2.2.2.2.2)
def s_drops (o : Ob) (v : List Int32) : Ob := (o.1, o.2.1, o.2.2.1, o.2.2.2.1, o.2.2.2.2.1, o.2.2.2.2.2.1, o.2.2.2.2.2.2.1, o.2.2.2.2.2.2.2.1, o.2.2.2.2.2.2.2.2.1, o.2.2.2.2.2.2.2.2.2.1, o.2.2.2.2.2.2.2.2.2.2.1, o.2.2.2.2.2.2.2.2.2.2.2.1, v, o.2.2.2.2.2.2.2.2.2.2.2.2.2.1, o.2.2.2.2.2.2.2.2.2.2.2.2.2.2.1, o.2.2.2.2.2.2.2.2.2.2.2.2.2.2.2.1, o.2.2.2.2.2.2.2.2.2.2.2.2.2.2.2.2.1, o.2.2.2.2.2.2.2.2.2.2.2.2.2.2.2.2.2.1, o.2.2.2.2.2.2.2.2.2.2.2.2.2.2.2.2.2.2.1, o.2.2.2.2.2.2.2.2.2.2.2.2.2.2.2.2.2.2.2.1, o.2.2.2.2.2.2.2.2.2.2.2.2.2.2.2.2.2.2.2.2.1, o.2.2.2.2.2.2.2.2.2.2.2.2.2.2.2.2.2.2.2.2.2.1, o.2.2.2.2.2.2.2.2.2.2.2.2.2.2.2.2.2.2.2.2.2.2.1, o.2.2.2.2.2.2.2.2.2.2.2.2.2.2.2.2.2.2.2.2.2.2.2.1, o.2.2.2.2.2.2.2.2.2.2.2.2.2.2.2.2.2.2.2.2.2.2.2.2.1, o.2.2.2.2.2.2.2.2.2.2.2.2.2.2.2.2.2.2.2.2.2.2.2.2.2)
def s_delSeq (o : Ob) (v : List Int32) : Ob := (o.1, o.2.1, o.2.2.1, o.2.2.2.1, o.2.2.2.2.1, o.2.2.2.2.2.1, o.2.2.2.2.2.2.1, o.2.2.2.2.2.2.2.1, o.2.2.2.2.2.2.2.2.1, o.2.2.2.2.2.2.2.2.2.1, o.2.2.2.2.2.2.2.2.2.2.1, o.2.2.2.2.2.2.2.2.2.2.2.1, o.2.2.2.2.2.2.2.2.2.2.2.2.1, v, o.2.2.2.2.2.2.2.2.2.2.2.2.2.2.1, o.2.2.2.2.2.2.2.2.2.2.2.2.2.2.2.1, o.2.2.2.2.2.2.2.2.2.2.2.2.2.2.2.2.1, o.2.2.2.2.2.2.2.2.2.2.2.2.2.2.2.2.2.1, o.2.2.2.2.2.2.2.2.2.2.2.2.2.2.2.2.2.2.1, o.2.2.2.2.2.2.2.2.2.2.2.2.2.2.2.2.2.2.2.1, o.2.2.2.2.2.2.2.2.2.2.2.2.2.2.2.2.2.2.2.2.1, o.2.2.2.2.2.2.2.2.2.2.2.2.2.2.2.2.2.2.2.2.2.1, o.2.2.2.2.2.2.2.2.2.2.2.2.2.2.2.2.2.2.2.2.2.2.1, o.2.2.2.2.2.2.2.2.2.2.2.2.2.2.2.2.2.2.2.2.2.2.2.1, o.2.2.2.2.2.2.2.2.2.2.2.2.2.2.2.2.2.2.2.2.2.2.2.2.1, o.2.2.2.2.2.2.2.2.2.2.2.2.2.2.2.2.2.2.2.2.2.2.2.2.2)
def s_delVal (o : Ob) (v : List Int32) : Ob := (o.1, o.2.1, o.2.2.1, o.2.2.2.1, o.2.2.2.2.1, o.2.2.2.2.2.1, o.2.2.2.2.2.2.1, o.2.2.2.2.2.2.2.1, o.2.2.2.2.2.2.2.2.1, o.2.2.2.2.2.2.2.2.2.1, o.2.2.2.2.2.2.2.2.2.2.1, o.2.2.2.2.2.2.2.2.2.2.2.1, o.2.2.2.2.2.2.2.2.2.2.2.2.1, o.2.2.2.2.2.2.2.2.2.2.2.2.2.1, v, o.2.2.2.2.2.2.2.2.2.2.2.2.2.2.2.1, o.2.2.2.2.2.2.2.2.2.2.2.2.2.2.2.2.1, o.2.2.2.2.2.2.2.2.2.2.2.2.2.2.2.2.2.1, o.2.2.2.2.2.2.2.2.2.2.2.2.2.2.2.2.2.2.1, o.2.2.2.2.2.2.2.2.2.2.2.2.2.2.2.2.2.2.2.1, o.2.2.2.2.2.2.2.2.2.2.2.2.2.2.2.2.2.2.2.2.1, o.2.2.2.2.2.2.2.2.2.2.2.2.2.2.2.2.2.2.2.2.2.1, o.2.2.2.2.2.2.2.2.2.2.2.2.2.2.2.2.2.2.2.2.2.2.1, o.2.2.2.2.2.2.2.2.2.2.2.2.2.2.2.2.2.2.2.2.2.2.2.1, o.2.2.2.2.2.2.2.2.2.2.2.2.2.2.2.2.2.2.2.2.2.2.2.2.1, o.2.2.2.2.2.2.2.2.2.2.2.2.2.2.2.2.2.2.2.2.2.2.2.2.2)
def s_delLen (o : Ob) (v : List Int32) : Ob := (o.1, o.2.1, o.2.2.1, o.2.2.2.1, o.2.2.2.2.1, o.2.2.2.2.2.1, o.2.2.2.2.2.2.1, o.2.2.2.2.2.2.2.1, o.2.2.2.2.2.2.2.2.1, o.2.2.2.2.2.2.2.2.2.1, o.2.2.2.2.2.2.2.2.2.2.1, o.2.2.2.2.2.2.2.2.2.2.2.1, o.2.2.2.2.2.2.2.2.2.2.2.2.1, o.2.2.2.2.2.2.2.2.2.2.2.2.2.1, o.2.2.2.2.2.2.2.2.2.2.2.2.2.2.1, v, o.2.2.2.2.2.2.2.2.2.2.2.2.2.2.2.2.1, o.2.2.2.2.2.2.2.2.2.2.2.2.2.2.2.2.2.1, o.2.2.2.2.2.2.2.2.2.2.2.2.2.2.2.2.2.2.1, o.2.2.2.2.2.2.2.2.2.2.2.2.2.2.2.2.2.2.2.1, o.2.2.2.2.2.2.2.2.2.2.2.2.2.2.2.2.2.2.2.2.1, o.2.2.2.2.2.2.2.2.2.2.2.2.2.2.2.2.2.2.2.2.2.1, o.2.2.2.2.2.2.2.2.2.2.2.2.2.2.2.2.2.2.2.2.2.2.1, o.2.2.2.2.2.2.2.2.2.2.2.2.2.2.2.2.2.2.2.2.2.2.2.1, o.2.2.2.2.2.2.2.2.2.2.2.2.2.2.2.2.2.2.2.2.2.2.2.2.1, o.2.2.2.2.2.2.2.2.2.2.2.2.2.2.2.2.2.2.2.2.2.2.2.2.2)
def s_lostLog (o : Ob) (v : List Int32) : Ob := (o.1, o.2.1, o.2.2.1, o.2.2.2.1, o.2.2.2.2.1, o.2.2.2.2.2.1, o.2.2.2.2.2.2.1, o.2.2.2.2.2.2.2.1, o.2.2.2.2.2.2.2.2.1, o.2.2.2.2.2.2.2.2.2.1, o.2.2.2.2.2.2.2.2.2.2.1, o.2.2.2.2.2.2.2.2.2.2.2.1, o.2.2.2.2.2.2.2.2.2.2.2.2.1, o.2.2.2.2.2.2.2.2.2.2.2.2.2.1, o.2.2.2.2.2.2.2.2.2.2.2.2.2.2.1, o.2.2.2.2.2.2.2.2.2.2.2.2.2.2.2.1, v, o.2.2.2.2.2.2.2.2.2.2.2.2.2.2.2.2.2.1, o.2.2.2.2.2.2.2.2.2.2.2.2.2.2.2.2.2.2.1, o.2.2.2.2.2.2.2.2.2.2.2.2.2.2.2.2.2.2.2.1, o.2.2.2.2.2.2.2.2.2.2.2.2.2.2.2.2.2.2.2.2.1, o.2.2.2.2.2.2.2.2.2.2.2.2.2.2.2.2.2.2.2.2.2.1, o.2.2.2.2.2.2.2.2.2.2.2.2.2.2.2.2.2.2.2.2.2.2.1, o.2.2.2.2.2.2.2.2.2.2.2.2.2.2.2.2.2.2.2.2.2.2.2.1, o.2.2.2.2.2.2.2.2.2.2.2.2.2.2.2.2.2.2.2.2.2.2.2.2.1, o.2.2.2.2.2.2.2.2.2.2.2.2.2.2.2.2.2.2.2.2.2.2.2.2.2)
def s_lostLen (o : Ob) (v : List Int32) : Ob := (o.1, o.2.1, o.2.2.1, o.2.2.2.1, o.2.2.2.2.1, o.2.2.2.2.2.1, o.2.2.2.2.2.2.1, o.2.2.2.2.2.2.2.1, o.2.2.2.2.2.2.2.2.1, o.2.2.2.2.2.2.2.2.2.1, o.2.2.2.2.2.2.2.2.2.2.1, o.2.2.2.2.2.2.2.2.2.2.2.1, o.2.2.2.2.2.2.2.2.2.2.2.2.1, o.2.2.2.2.2.2.2.2.2.2.2.2.2.1, o.2.2.2.2.2.2.2.2.2.2.2.2.2.2.1, o.2.2.2.2.2.2.2.2.2.2.2.2.2.2.2.1, o.2.2.2.2.2.2.2.2.2.2.2.2.2.2.2.2.1, v, o.2.2.2.2.2.2.2.2.2.2.2.2.2.2.2.2.2.2.1, o.2.2.2.2.2.2.2.2.2.2.2.2.2.2.2.2.2.2.2.1, o.2.2.2.2.2.2.2.2.2.2.2.2.2.2.2.2.2.2.2.2.1, o.2.2.2.2.2.2.2.2.2.2.2.2.2.2.2.2.2.2.2.2.2.1, o.2.2.2.2.2.2.2.2.2.2.2.2.2.2.2.2.2.2.2.2.2.2.1, o.2.2.2.2.2.2.2.2.2.2.2.2.2.2.2.2.2.2.2.2.2.2.2.1, o.2.2.2.2.2.2.2.2.2.2.2.2.2.2.2.2.2.2.2.2.2.2.2.2.1, o.2.2.2.2.2.2.2.2.2.2.2.2.2.2.2.2.2.2.2.2.2.2.2.2.2)
def s_nakBuf (o : Ob) (v : List Int32) : Ob := (o.1, o.2.1, o.2.2.1, o.2.2.2.1, o.2.2.2.2.1, o.2.2.2.2.2.1, o.2.2.2.2.2.2.1, o.2.2.2.2.2.2.2.1, o.2.2.2.2.2.2.2.2.1, o.2.2.2.2.2.2.2.2.2.1, o.2.2.2.2.2.2.2.2.2.2.1, o.2.2.2.2.2.2.2.2.2.2.2.1, o.2.2.2.2.2.2.2.2.2.2.2.2.1, o.2.2.2.2.2.2.2.2.2.2.2.2.2.1, o.2.2.2.2.2.2.2.2.2.2.2.2.2.2.1, o.2.2.2.2.2.2.2.2.2.2.2.2.2.2.2.1, o.2.2.2.2.2.2.2.2.2.2.2.2.2.2.2.2.1, o.2.2.2.2.2.2.2.2.2.2.2.2.2.2.2.2.2.1, v, o.2.2.2.2.2.2.2.2.2.2.2.2.2.2.2.2.2.2.2.1, o.2.2.2.2.2.2.2.2.2.2.2.2.2.2.2.2.2.2.2.2.1, o.2.2.2.2.2.2.2.2.2.2.2.2.2.2.2.2.2.2.2.2.2.1, o.2.2.2.2.2.2.2.2.2.2.2.2.2.2.2.2.2.2.2.2.2.2.1, o.2.2.2.2.2.2.2.2.2.2.2.2.2.2.2.2.2.2.2.2.2.2.2.1, o.2.2.2.2.2.2.2.2.2.2.2.2.2.2.2.2.2.2.2.2.2.2.2.2.1, o.2.2.2.2.2.2.2.2.2.2.2.2.2.2.2.2.2.2.2.2.2.2.2.2.2)
def s_win (o : Ob) (v : Int32) : Ob := (o.1, o.2.1, o.2.2.1, o.2.2.2.1, o.2.2.2.2.1, o.2.2.2.2.2.1, o.2.2.2.2.2.2.1, o.2.2.2.2.2.2.2.1, o.2.2.2.2.2.2.2.2.1, o.2.2.2.2.2.2.2.2.2.1, o.2.2.2.2.2.2.2.2.2.2.1, o.2.2.2.2.2.2.2.2.2.2.2.1, o.2.2.2.2.2.2.2.2.2.2.2.2.1, o.2.2.2.2.2.2.2.2.2.2.2.2.2.1, o.2.2.2.2.2.2.2.2.2.2.2.2.2.2.1, o.2.2.2.2.2.2.2.2.2.2.2.2.2.2.2.1, o.2.2.2.2.2.2.2.2.2.2.2.2.2.2.2.2.1, o.2.2.2.2.2.2.2.2.2.2.2.2.2.2.2.2.2.1, o.2.2.2.2.2.2.2.2.2.2.2.2.2.2.2.2.2.2.1, v, o.2.2.2.2.2.2.2.2.2.2.2.2.2.2.2.2.2.2.2.2.1, o.2.2.2.2.2.2.2.2.2.2.2.2.2.2.2.2.2.2.2.2.2.1, o.2.2.2.2.2.2.2.2.2.2.2.2.2.2.2.2.2.2.2.2.2.2.1, o.2.2.2.2.2.2.2.2.2.2.2.2.2.2.2.2.2.2.2.2.2.2.2.1, o.2.2.2.2.2.2.2.2.2.2.2.2.2.2.2.2.2.2.2.2.2.2.2.2.1, o.2.2.2.2.2.2.2.2.2.2.2.2.2.2.2.2.2.2.2.2.2.2.2.2.2)
def s_back (o : Ob) (v : Int32) : Ob := (o.1, o.2.1, o.2.2.1, o.2.2.2.1, o.2.2.2.2.1, o.2.2.2.2.2.1, o.2.2.2.2.2.2.1, o.2.2.2.2.2.2.2.1, o.2.2.2.2.2.2.2.2.1, o.2.2.2.2.2.2.2.2.2.1, o.2.2.2.2.2.2.2.2.2.2.1, o.2.2.2.2.2.2.2.2.2.2.2.1, o.2.2.2.2.2.2.2.2.2.2.2.2.1, o.2.2.2.2.2.2.2.2.2.2.2.2.2.1, o.2.2.2.2.2.2.2.2.2.2.2.2.2.2.1, o.2.2.2.2.2.2.2.2.2.2.2.2.2.2.2.1, o.2.2.2.2.2.2.2.2.2.2.2.2.2.2.2.2.1, o.2.2.2.2.2.2.2.2.2.2.2.2.2.2.2.2.2.1, o.2.2.2.2.2.2.2.2.2.2.2.2.2.2.2.2.2.2.1, o.2.2.2.2.2.2.2.2.2.2.2.2.2.2.2.2.2.2.2.1, v, o.2.2.2.2.2.2.2.2.2.2.2.2.2.2.2.2.2.2.2.2.2.1, o.2.2.2.2.2.2.2.2.2.2.2.2.2.2.2.2.2.2.2.2.2.2.1, o.2.2.2.2.2.2.2.2.2.2.2.2.2.2.2.2.2.2.2.2.2.2.2.1, o.2.2.2.2.2.2.2.2.2.2.2.2.2.2.2.2.2.2.2.2.2.2.2.2.1, o.2.2.2.2.2.2.2.2.2.2.2.2.2.2.2.2.2.2.2.2.2.2.2.2.2)
def s_repair (o : Ob) (v : Int32) : Ob := (o.1, o.2.1, o.2.2.1, o.2.2.2.1, o.2.2.2.2.1, o.2.2.2.2.2.1, o.2.2.2.2.2.2.1, o.2.2.2.2.2.2.2.1, o.2.2.2.2.2.2.2.2.1, o.2.2.2.2.2.2.2.2.2.1, o.2.2.2.2.2.2.2.2.2.2.1, o.2.2.2.2.2.2.2.2.2.2.2.1, o.2.2.2.2.2.2.2.2.2.2.2.2.1, o.2.2.2.2.2.2.2.2.2.2.2.2.2.1, o.2.2.2.2.2.2.2.2.2.2.2.2.2.2.1, o.2.2.2.2.2.2.2.2.2.2.2.2.2.2.2.1, o.2.2.2.2.2.2.2.2.2.2.2.2.2.2.2.2.1, o.2.2.2.2.2.2.2.2.2.2.2.2.2.2.2.2.2.1, o.2.2.2.2.2.2.2.2.2.2.2.2.2.2.2.2.2.2.1, o.2.2.2.2.2.2.2.2.2.2.2.2.2.2.2.2.2.2.2.1, o.2.2.2.2.2.2.2.2.2.2.2.2.2.2.2.2.2.2.2.2.1, v, o.2.2.2.2.2.2.2.2.2.2.2.2.2.2.2.2.2.2.2.2.2.2.1, o.2.2.2.2.2.2.2.2.2.2.2.2.2.2.2.2.2.2.2.2.2.2.2.1, o.2.2.2.2.2.2.2.2.2.2.2.2.2.2.2.2.2.2.2.2.2.2.2.2.1, o.2.2.2.2.2.2.2.2.2.2.2.2.2.2.2.2.2.2.2.2.2.2.2.2.2)
def s_period (o : Ob) (v : Int32) : Ob := (o.1, o.2.1, o.2.2.1, o.2.2.2.1, o.2.2.2.2.1, o.2.2.2.2.2.1, o.2.2.2.2.2.2.1, o.2.2.2.2.2.2.2.1, o.2.2.2.2.2.2.2.2.1, o.2.2.2.2.2.2.2.2.2.1, o.2.2.2.2.2.2.2.2.2.2.1, o.2.2.2.2.2.2.2.2.2.2.2.1, o.2.2.2.2.2.2.2.2.2.2.2.2.1, o.2.2.2.2.2.2.2.2.2.2.2.2.2.1, o.2.2.2.2.2.2.2.2.2.2.2.2.2.2.1, o.2.2.2.2.2.2.2.2.2.2.2.2.2.2.2.1, o.2.2.2.2.2.2.2.2.2.2.2.2.2.2.2.2.1, o.2.2.2.2.2.2.2.2.2.2.2.2.2.2.2.2.2.1, o.2.2.2.2.2.2.2.2.2.2.2.2.2.2.2.2.2.2.1, o.2.2.2.2.2.2.2.2.2.2.2.2.2.2.2.2.2.2.2.1, o.2.2.2.2.2.2.2.2.2.2.2.2.2.2.2.2.2.2.2.2.1, o.2.2.2.2.2.2.2.2.2.2.2.2.2.2.2.2.2.2.2.2.2.1, v, o.2.2.2.2.2.2.2.2.2.2.2.2.2.2.2.2.2.2.2.2.2.2.2.1, o.2.2.2.2.2.2.2.2.2.2.2.2.2.2.2.2.2.2.2.2.2.2.2.2.1, o.2.2.2.2.2.2.2.2.2.2.2.2.2.2.2.2.2.2.2.2.2.2.2.2.2)
def s_nextSeq (o : Ob) (v : Int32) : Ob := (o.1, o.2.1, o.2.2.1, o.2.2.2.1, o.2.2.2.2.1, o.2.2.2.2.2.1, o.2.2.2.2.2.2.1, o.2.2.2.2.2.2.2.1, o.2.2.2.2.2.2.2.2.1, o.2.2.2.2.2.2.2.2.2.1, o.2.2.2.2.2.2.2.2.2.2.1, o.2.2.2.2.2.2.2.2.2.2.2.1, o.2.2.2.2.2.2.2.2.2.2.2.2.1, o.2.2.2.2.2.2.2.2.2.2.2.2.2.1, o.2.2.2.2.2.2.2.2.2.2.2.2.2.2.1, o.2.2.2.2.2.2.2.2.2.2.2.2.2.2.2.1, o.2.2.2.2.2.2.2.2.2.2.2.2.2.2.2.2.1, o.2.2.2.2.2.2.2.2.2.2.2.2.2.2.2.2.2.1, o.2.2.2.2.2.2.2.2.2.2.2.2.2.2.2.2.2.2.1, o.2.2.2.2.2.2.2.2.2.2.2.2.2.2.2.2.2.2.2.1, o.2.2.2.2.2.2.2.2.2.2.2.2.2.2.2.2.2.2.2.2.1, o.2.2.2.2.2.2.2.2.2.2.2.2.2.2.2.2.2.2.2.2.2.1, o.2.2.2.2.2.2.2.2.2.2.2.2.2.2.2.2.2.2.2.2.2.2.1, v, o.2.2.2.2.2.2.2.2.2.2.2.2.2.2.2.2.2.2.2.2.2.2.2.2.1, o.2.2.2.2.2.2.2.2.2.2.2.2.2.2.2.2.2.2.2.2.2.2.2.2.2)
def s_qLen (o : Ob) (v : Int32) : Ob := (o.1, o.2.1, o.2.2.1, o.2.2.2.1, o.2.2.2.2.1, o.2.2.2.2.2.1, o.2.2.2.2.2.2.1, o.2.2.2.2.2.2.2.1, o.2.2.2.2.2.2.2.2.1, o.2.2.2.2.2.2.2.2.2.1, o.2.2.2.2.2.2.2.2.2.2.1, o.2.2.2.2.2.2.2.2.2.2.2.1, o.2.2.2.2.2.2.2.2.2.2.2.2.1, o.2.2.2.2.2.2.2.2.2.2.2.2.2.1, o.2.2.2.2.2.2.2.2.2.2.2.2.2.2.1, o.2.2.2.2.2.2.2.2.2.2.2.2.2.2.2.1, o.2.2.2.2.2.2.2.2.2.2.2.2.2.2.2.2.1, o.2.2.2.2.2.2.2.2.2.2.2.2.2.2.2.2.2.1, o.2.2.2.2.2.2.2.2.2.2.2.2.2.2.2.2.2.2.1, o.2.2.2.2.2.2.2.2.2.2.2.2.2.2.2.2.2.2.2.1, o.2.2.2.2.2.2.2.2.2.2.2.2.2.2.2.2.2.2.2.2.1, o.2.2.2.2.2.2.2.2.2.2.2.2.2.2.2.2.2.2.2.2.2.1, o.2.2.2.2.2.2.2.2.2.2.2.2.2.2.2.2.2.2.2.2.2.2.1, o.2.2.2.2.2.2.2.2.2.2.2.2.2.2.2.2.2.2.2.2.2.2.2.1, v, o.2.2.2.2.2.2.2.2.2.2.2.2.2.2.2.2.2.2.2.2.2.2.2.2.2)
def s_nakLen (o : Ob) (v : Int32) : Ob := (o.1, o.2.1, o.2.2.1, o.2.2.2.1, o.2.2.2.2.1, o.2.2.2.2.2.1, o.2.2.2.2.2.2.1, o.2.2.2.2.2.2.2.1, o.2.2.2.2.2.2.2.2.1, o.2.2.2.2.2.2.2.2.2.1, o.2.2.2.2.2.2.2.2.2.2.1, o.2.2.2.2.2.2.2.2.2.2.2.1, o.2.2.2.2.2.2.2.2.2.2.2.2.1, o.2.2.2.2.2.2.2.2.2.2.2.2.2.1, o.2.2.2.2.2.2.2.2.2.2.2.2.2.2.1, o.2.2.2.2.2.2.2.2.2.2.2.2.2.2.2.1, o.2.2.2.2.2.2.2.2.2.2.2.2.2.2.2.2.1, o.2.2.2.2.2.2.2.2.2.2.2.2.2.2.2.2.2.1, o.2.2.2.2.2.2.2.2.2.2.2.2.2.2.2.2.2.2.1, o.2.2.2.2.2.2.2.2.2.2.2.2.2.2.2.2.2.2.2.1, o.2.2.2.2.2.2.2.2.2.2.2.2.2.2.2.2.2.2.2.2.1, o.2.2.2.2.2.2.2.2.2.2.2.2.2.2.2.2.2.2.2.2.2.1, o.2.2.2.2.2.2.2.2.2.2.2.2.2.2.2.2.2.2.2.2.2.2.1, o.2.2.2.2.2.2.2.2.2.2.2.2.2.2.2.2.2.2.2.2.2.2.2.1, o.2.2.2.2.2.2.2.2.2.2.2.2.2.2.2.2.2.2.2.2.2.2.2.2.1, v)
theorem fs (o : Ob) : f_srcPayload o = o.1 ∧ f_pend o = o.2.1 ∧ f_queue o = o.2.2.1 ∧ f_stats o = o.2.2.2.1 ∧ f_state o = o.2.2.2.2.1 ∧ f_timer o = o.2.2.2.2.2.1 ∧ f_rxVal o = o.2.2.2.2.2.2.1 ∧ f_rxNext o = o.2.2.2.2.2.2.2.1 ∧ f_rxLead o = o.2.2.2.2.2.2.2.2.1 ∧ f_rxTrail o = o.2.2.2.2.2.2.2.2.2.1 ∧ f_lossLeft o = o.2.2.2.2.2.2.2.2.2.2.1 ∧ f_dups o = o.2.2.2.2.2.2.2.2.2.2.2.1 ∧ f_drops o = o.2.2.2.2.2.2.2.2.2.2.2.2.1 ∧ f_delSeq o = o.2.2.2.2.2.2.2.2.2.2.2.2.2.1 ∧ f_delVal o = o.2.2.2.2.2.2.2.2.2.2.2.2.2.2.1 ∧ f_delLen o = o.2.2.2.2.2.2.2.2.2.2.2.2.2.2.2.1 ∧ f_lostLog o = o.2.2.2.2.2.2.2.2.2.2.2.2.2.2.2.2.1 ∧ f_lostLen o = o.2.2.2.2.2.2.2.2.2.2.2.2.2.2.2.2.2.1 ∧ f_nakBuf o = o.2.2.2.2.2.2.2.2.2.2.2.2.2.2.2.2.2.2.1 ∧ f_win o = o.2.2.2.2.2.2.2.2.2.2.2.2.2.2.2.2.2.2.2.1 ∧ f_back o = o.2.2.2.2.2.2.2.2.2.2.2.2.2.2.2.2.2.2.2.2.1 ∧ f_repair o = o.2.2.2.2.2.2.2.2.2.2.2.2.2.2.2.2.2.2.2.2.2.1 ∧ f_period o = o.2.2.2.2.2.2.2.2.2.2.2.2.2.2.2.2.2.2.2.2.2.2.1 ∧ f_nextSeq o = o.2.2.2.2.2.2.2.2.2.2.2.2.2.2.2.2.2.2.2.2.2.2.2.1 ∧ f_qLen o = o.2.2.2.2.2.2.2.2.2.2.2.2.2.2.2.2.2.2.2.2.2.2.2.2.1 ∧ f_nakLen o = o.2.2.2.2.2.2.2.2.2.2.2.2.2.2.2.2.2.2.2.2.2.2.2.2.2 := by simp only [f_srcPayload, f_pend, f_queue, f_stats, f_state, f_timer, f_rxVal, f_rxNext, f_rxLead, f_rxTrail, f_lossLeft, f_dups, f_drops, f_delSeq, f_delVal, f_delLen, f_lostLog, f_lostLen, f_nakBuf, f_win, f_back, f_repair, f_period, f_nextSeq, f_qLen, f_nakLen, and_self]
def ob0 : Ob := ([], [], [], [], [], [], [], [], [], [], [], [], [], [], [], [], [], [], [], 0, 0, 0, 0, 0, 0, 0)
section Walks
variable {l : Launch} {Z : State} {n0 : Nat} {ad : Nat → Addr} {a0 : Array Value}
set_option maxRecDepth 20000
abbrev tt : Bool := true
abbrev ff : Bool := false
open QTri renaming steps → zS, brT → zT, brF → zF, bnd → zB, mask → zM
open Option (bind_eq_some_iff)
open Classical (em)
def H0 (s : List Int32) (o0 : Ob) : QHeap := [.inr (.inl (.int, s)), .inl [.ref 2, .ref 3, .ref 4, .ref 5, .ref 6, .ref 7, .ref 8, .ref 9, .ref 10, .ref 11, .ref 12, .ref 13, .ref 14, .ref 15, .ref 16, .ref 17, .ref 18, .ref 19, .ref 20, .int (f_win o0), .int (f_back o0), .int (f_repair o0), .int (f_period o0), .int (f_nextSeq o0), .int (f_qLen o0), .int (f_nakLen o0)], .inr (.inl (.int, (f_srcPayload o0))), .inr (.inl (.boolean, (f_pend o0))), .inr (.inl (.int, (f_queue o0))), .inr (.inl (.int, (f_stats o0))), .inr (.inl (.int, (f_state o0))), .inr (.inl (.int, (f_timer o0))), .inr (.inl (.int, (f_rxVal o0))), .inr (.inl (.int, (f_rxNext o0))), .inr (.inl (.int, (f_rxLead o0))), .inr (.inl (.int, (f_rxTrail o0))), .inr (.inl (.int, (f_lossLeft o0))), .inr (.inl (.int, (f_dups o0))), .inr (.inl (.int, (f_drops o0))), .inr (.inl (.int, (f_delSeq o0))), .inr (.inl (.int, (f_delVal o0))), .inr (.inl (.int, (f_delLen o0))), .inr (.inl (.int, (f_lostLog o0))), .inr (.inl (.int, (f_lostLen o0))), .inr (.inl (.int, (f_nakBuf o0)))]
def H0v (s : List Int32) (a0_0 : List Int32) (a0_1 : List Int32) (a0_2 : List Int32) (a0_3 : List Int32) (a0_4 : List Int32) (a0_5 : List Int32) (a0_6 : List Int32) (a0_7 : List Int32) (a0_8 : List Int32) (a0_9 : List Int32) (a0_10 : List Int32) (a0_11 : List Int32) (a0_12 : List Int32) (a0_13 : List Int32) (a0_14 : List Int32) (a0_15 : List Int32) (a0_16 : List Int32) (a0_17 : List Int32) (a0_18 : List Int32) (a0_19 : Int32) (a0_20 : Int32) (a0_21 : Int32) (a0_22 : Int32) (a0_23 : Int32) (a0_24 : Int32) (a0_25 : Int32) : QHeap := [.inr (.inl (.int, s)), .inl [.ref 2, .ref 3, .ref 4, .ref 5, .ref 6, .ref 7, .ref 8, .ref 9, .ref 10, .ref 11, .ref 12, .ref 13, .ref 14, .ref 15, .ref 16, .ref 17, .ref 18, .ref 19, .ref 20, .int a0_19, .int a0_20, .int a0_21, .int a0_22, .int a0_23, .int a0_24, .int a0_25], .inr (.inl (.int, a0_0)), .inr (.inl (.boolean, a0_1)), .inr (.inl (.int, a0_2)), .inr (.inl (.int, a0_3)), .inr (.inl (.int, a0_4)), .inr (.inl (.int, a0_5)), .inr (.inl (.int, a0_6)), .inr (.inl (.int, a0_7)), .inr (.inl (.int, a0_8)), .inr (.inl (.int, a0_9)), .inr (.inl (.int, a0_10)), .inr (.inl (.int, a0_11)), .inr (.inl (.int, a0_12)), .inr (.inl (.int, a0_13)), .inr (.inl (.int, a0_14)), .inr (.inl (.int, a0_15)), .inr (.inl (.int, a0_16)), .inr (.inl (.int, a0_17)), .inr (.inl (.int, a0_18))]
def H0x0 (s : List Int32) (o0 : Ob) (a0_0 : List Int32) (a0_1 : List Int32) (a0_2 : List Int32) (a0_3 : List Int32) (a0_4 : List Int32) (a0_5 : List Int32) (a0_6 : List Int32) (a0_7 : List Int32) (a0_8 : List Int32) (a0_9 : List Int32) (a0_10 : List Int32) (a0_11 : List Int32) (a0_12 : List Int32) (a0_13 : List Int32) (a0_14 : List Int32) (a0_15 : List Int32) (a0_16 : List Int32) (a0_17 : List Int32) (a0_18 : List Int32) : QHeap := H0v s a0_0 a0_1 a0_2 a0_3 a0_4 a0_5 a0_6 a0_7 a0_8 a0_9 a0_10 a0_11 a0_12 a0_13 a0_14 a0_15 a0_16 a0_17 a0_18 (f_win o0) (f_back o0) (f_repair o0) (f_period o0) (f_nextSeq o0) (f_qLen o0) (f_nakLen o0)
/-- clamp(III)I -/
def F2 (x1 : Int32) (x2 : Int32) (x3 : Int32) : Option (Int32) :=
 (if x1 < x2 then some x2 else (if x3 < x1 then some x3 else some x1))
theorem tF2 (Ad : QAd n0 ad) (W : QW Z a0) {a : Nat} {σ : QHeap} (x1 : Int32) (x2 : Int32) (x3 : Int32) {r : Int32} (h : F2 x1 x2 x3 = some r) : QTri l Z n0 ad 2 (0, qentry [.ref a, .int x1, .int x2, .int x3] (pMaxL 2), [], σ) (some (Value.int r)) σ := by
 unfold F2 at h
 refine zS Ad W 2 (st' := (2, [vR a, vI x1, vI x2, vI x3], [.int x2, .int x1], σ)) rfl ?_
 rcases qite h with ⟨hc1, h⟩ | ⟨hc1, h⟩
 ·refine zF Ad W (t := 7) (f := 5) rfl (XT.ii_ge_f hc1) ?_
  refine zS Ad W 1 (st' := (6, [vR a, vI x1, vI x2, vI x3], [.int x2], σ)) rfl ?_
  obtain rfl := Option.some.inj h
  exact QTri.retI rfl rfl
 ·refine zT Ad W (t := 7) (f := 5) rfl (XT.ii_ge_t hc1) ?_
  refine zS Ad W 2 (st' := (9, [vR a, vI x1, vI x2, vI x3], [.int x3, .int x1], σ)) rfl ?_
  rcases qite h with ⟨hc2, h⟩ | ⟨hc2, h⟩
  ·refine zF Ad W (t := 14) (f := 12) rfl (XT.ii_le_f hc2) ?_
   refine zS Ad W 1 (st' := (13, [vR a, vI x1, vI x2, vI x3], [.int x3], σ)) rfl ?_
   obtain rfl := Option.some.inj h
   exact QTri.retI rfl rfl
  ·refine zT Ad W (t := 14) (f := 12) rfl (XT.ii_le_t hc2) ?_
   refine zS Ad W 1 (st' := (15, [vR a, vI x1, vI x2, vI x3], [.int x1], σ)) rfl ?_
   obtain rfl := Option.some.inj h
   exact QTri.retI rfl rfl
def H0x1 (s : List Int32) (o0 : Ob) (a0_0 : List Int32) (a0_1 : List Int32) (a0_2 : List Int32) (a0_3 : List Int32) (a0_4 : List Int32) (a0_5 : List Int32) (a0_6 : List Int32) (a0_7 : List Int32) (a0_8 : List Int32) (a0_9 : List Int32) (a0_10 : List Int32) (a0_11 : List Int32) (a0_12 : List Int32) (a0_13 : List Int32) (a0_14 : List Int32) (a0_15 : List Int32) (a0_16 : List Int32) (a0_17 : List Int32) (a0_18 : List Int32) (a0_19 : Int32) : QHeap := H0v s a0_0 a0_1 a0_2 a0_3 a0_4 a0_5 a0_6 a0_7 a0_8 a0_9 a0_10 a0_11 a0_12 a0_13 a0_14 a0_15 a0_16 a0_17 a0_18 a0_19 (f_back o0) (f_repair o0) (f_period o0) (f_nextSeq o0) (f_qLen o0) (f_nakLen o0)
def H0x2 (s : List Int32) (o0 : Ob) (a0_0 : List Int32) (a0_1 : List Int32) (a0_2 : List Int32) (a0_3 : List Int32) (a0_4 : List Int32) (a0_5 : List Int32) (a0_6 : List Int32) (a0_7 : List Int32) (a0_8 : List Int32) (a0_9 : List Int32) (a0_10 : List Int32) (a0_11 : List Int32) (a0_12 : List Int32) (a0_13 : List Int32) (a0_14 : List Int32) (a0_15 : List Int32) (a0_16 : List Int32) (a0_17 : List Int32) (a0_18 : List Int32) (a0_19 : Int32) (a0_20 : Int32) : QHeap := H0v s a0_0 a0_1 a0_2 a0_3 a0_4 a0_5 a0_6 a0_7 a0_8 a0_9 a0_10 a0_11 a0_12 a0_13 a0_14 a0_15 a0_16 a0_17 a0_18 a0_19 a0_20 (f_repair o0) (f_period o0) (f_nextSeq o0) (f_qLen o0) (f_nakLen o0)
def H0x3 (s : List Int32) (o0 : Ob) (a0_0 : List Int32) (a0_1 : List Int32) (a0_2 : List Int32) (a0_3 : List Int32) (a0_4 : List Int32) (a0_5 : List Int32) (a0_6 : List Int32) (a0_7 : List Int32) (a0_8 : List Int32) (a0_9 : List Int32) (a0_10 : List Int32) (a0_11 : List Int32) (a0_12 : List Int32) (a0_13 : List Int32) (a0_14 : List Int32) (a0_15 : List Int32) (a0_16 : List Int32) (a0_17 : List Int32) (a0_18 : List Int32) (a0_19 : Int32) (a0_20 : Int32) (a0_21 : Int32) : QHeap := H0v s a0_0 a0_1 a0_2 a0_3 a0_4 a0_5 a0_6 a0_7 a0_8 a0_9 a0_10 a0_11 a0_12 a0_13 a0_14 a0_15 a0_16 a0_17 a0_18 a0_19 a0_20 a0_21 (f_period o0) (f_nextSeq o0) (f_qLen o0) (f_nakLen o0)
def H0x4 (s : List Int32) (o0 : Ob) (a0_0 : List Int32) (a0_1 : List Int32) (a0_2 : List Int32) (a0_3 : List Int32) (a0_4 : List Int32) (a0_5 : List Int32) (a0_6 : List Int32) (a0_7 : List Int32) (a0_8 : List Int32) (a0_9 : List Int32) (a0_10 : List Int32) (a0_11 : List Int32) (a0_12 : List Int32) (a0_13 : List Int32) (a0_14 : List Int32) (a0_15 : List Int32) (a0_16 : List Int32) (a0_17 : List Int32) (a0_18 : List Int32) (a0_19 : Int32) (a0_20 : Int32) (a0_21 : Int32) (a0_22 : Int32) : QHeap := H0v s a0_0 a0_1 a0_2 a0_3 a0_4 a0_5 a0_6 a0_7 a0_8 a0_9 a0_10 a0_11 a0_12 a0_13 a0_14 a0_15 a0_16 a0_17 a0_18 a0_19 a0_20 a0_21 a0_22 (f_nextSeq o0) (f_qLen o0) (f_nakLen o0)
def H0x5 (s : List Int32) (o0 : Ob) (a0_8 : List Int32) : QHeap := H0v s (f_srcPayload o0) (f_pend o0) (f_queue o0) (f_stats o0) (f_state o0) (f_timer o0) (f_rxVal o0) (f_rxNext o0) a0_8 (f_rxTrail o0) (f_lossLeft o0) (f_dups o0) (f_drops o0) (f_delSeq o0) (f_delVal o0) (f_delLen o0) (f_lostLog o0) (f_lostLen o0) (f_nakBuf o0) (f_win o0) (f_back o0) (f_repair o0) (f_period o0) (f_nextSeq o0) (f_qLen o0) (f_nakLen o0)
def B1_207 (v : Int32 × Ob) : Option (((Ob)) ⊕ (Int32 × Ob)) :=
  (if v.1 < (4 : Int32) then (aset (f_rxLead v.2) v.1 (-1 : Int32)).bind fun y9 => some (.inr ((v.1 + (1 : Int32)), (s_rxLead v.2 y9))) else some (.inl v.2))
theorem tB1_207 (Ad : QAd n0 ad) (W : QW Z a0) (s : List Int32) (v : Int32 × Ob) {r : ((Ob)) ⊕ (Int32 × Ob)} {u : Option Value} {τ : QHeap} (h : B1_207 v = some r) (hx0 : ∀ x : Ob, r = .inl x → u = (none : Option Value) ∧ τ = (H0 s x)) (hc : ∀ x : Int32 × Ob, r = .inr x → QTri l Z n0 ad 1 (207, [vR 1, none, none, none, none, vI x.1], [], (H0 s x.2)) u τ) : QTri l Z n0 ad 1 (207, [vR 1, none, none, none, none, vI v.1], [], (H0 s v.2)) u τ := by
 unfold B1_207 at h
 refine zS Ad W 2 (st' := (210, [vR 1, none, none, none, none, vI v.1], [.int (4:Int32), .int v.1], (H0 s v.2))) rfl ?_
 rcases qite h with ⟨hc8, h⟩ | ⟨hc8, h⟩
 ·refine zF Ad W (t := 227) (f := 213) rfl (XT.ii_ge_f hc8) ?_
  refine zS Ad W 4 (st' := (220, [vR 1, none, none, none, none, vI v.1], [.int (-1:Int32), .int v.1, .ref 10], (H0 s v.2))) rfl ?_
  obtain ⟨y9, hy9, h⟩ := bind_eq_some_iff.mp h
  refine zB Ad W (f := fun y9 => (221, [vR 1, none, none, none, none, vI v.1], [], (H0x5 s v.2 y9))) rfl hy9 ?_
  refine zS Ad W 2 (st' := (207, [vR 1, none, none, none, none, vI (v.1 + (1:Int32))], [], (H0x5 s v.2 y9))) rfl ?_
  have E10 : ((H0x5 s v.2 y9) : QHeap) = (H0 s (s_rxLead v.2 y9)) := by simp only [fs, H0, H0v, H0x5, s_rxLead]
  rw [E10]
  obtain rfl := Option.some.inj h
  exact zM [tt,ff,ff,ff,ff,tt] (hc ((v.1 + (1:Int32)), (s_rxLead v.2 y9)) rfl)
 ·refine zT Ad W (t := 227) (f := 213) rfl (XT.ii_ge_t hc8) ?_
  obtain rfl := Option.some.inj h
  obtain ⟨rfl, rfl⟩ := hx0 v.2 rfl
  exact QTri.ret0 rfl rfl
/-- init(IIII)V -/
def F1 (x1 : Int32) (x2 : Int32) (x3 : Int32) (x4 : Int32) : Option (Ob) :=
 (F2 x1 (2:Int32) (16:Int32)).bind fun r3 => (F2 x2 (1:Int32) (8:Int32)).bind fun r4 => (F2 x3 (1:Int32) (8:Int32)).bind fun r5 => (F2 x4 (0:Int32) (16:Int32)).bind fun r6 => (loopN (B1_207) qN ((0:Int32), (s_period (s_repair (s_back (s_win (s_nakBuf (s_lostLen (s_lostLog (s_delLen (s_delVal (s_delSeq (s_drops (s_dups (s_lossLeft (s_rxTrail (s_rxLead (s_rxNext (s_rxVal (s_timer (s_state (s_stats (s_queue (s_pend (s_srcPayload ob0 (List.replicate 32 0)) (List.replicate 32 0)) (List.replicate 64 0)) (List.replicate 10 0)) (List.replicate 128 0)) (List.replicate 128 0)) (List.replicate 128 0)) (List.replicate 4 0)) (List.replicate 4 0)) (List.replicate 4 0)) (List.replicate 4 0)) (List.replicate 4 0)) (List.replicate 4 0)) (List.replicate 128 0)) (List.replicate 128 0)) (List.replicate 4 0)) (List.replicate 128 0)) (List.replicate 4 0)) (List.replicate 128 0)) r3) r4) r5) r6))).bind fun e11 => some e11
theorem tF1 (Ad : QAd n0 ad) (W : QW Z a0) (s : List Int32) (x1 : Int32) (x2 : Int32) (x3 : Int32) (x4 : Int32) {r : Ob} (h : F1 x1 x2 x3 x4 = some r) : QTri l Z n0 ad 1 (0, qentry [.ref 1, .int x1, .int x2, .int x3, .int x4] (pMaxL 1), [], [.inr (.inl (.int, s)), .inl [.null, .null, .null, .null, .null, .null, .null, .null, .null, .null, .null, .null, .null, .null, .null, .null, .null, .null, .null, .int (f_win ob0), .int (f_back ob0), .int (f_repair ob0), .int (f_period ob0), .int (f_nextSeq ob0), .int (f_qLen ob0), .int (f_nakLen ob0)]]) (none : Option Value) (H0 s r) := by
 unfold F1 at h
 refine zS Ad W 1 (st' := (1, [vR 1, vI x1, vI x2, vI x3, vI x4, none], [.ref 1], [.inr (.inl (.int, s)), .inl [.null, .null, .null, .null, .null, .null, .null, .null, .null, .null, .null, .null, .null, .null, .null, .null, .null, .null, .null, .int (f_win ob0), .int (f_back ob0), .int (f_repair ob0), .int (f_period ob0), .int (f_nextSeq ob0), .int (f_qLen ob0), .int (f_nakLen ob0)]])) rfl ?_
 refine QTri.callO W rfl rfl rfl ?_
 refine zS Ad W 3 (st' := (9, [vR 1, vI x1, vI x2, vI x3, vI x4, none], [.ref 2, .ref 1], [.inr (.inl (.int, s)), .inl [.null, .null, .null, .null, .null, .null, .null, .null, .null, .null, .null, .null, .null, .null, .null, .null, .null, .null, .null, .int (f_win ob0), .int (f_back ob0), .int (f_repair ob0), .int (f_period ob0), .int (f_nextSeq ob0), .int (f_qLen ob0), .int (f_nakLen ob0)], .inr (.inl (.int, (List.replicate 32 0)))])) rfl ?_
 refine zS Ad W 1 (st' := (12, [vR 1, vI x1, vI x2, vI x3, vI x4, none], [], [.inr (.inl (.int, s)), .inl [.ref 2, .null, .null, .null, .null, .null, .null, .null, .null, .null, .null, .null, .null, .null, .null, .null, .null, .null, .null, .int (f_win ob0), .int (f_back ob0), .int (f_repair ob0), .int (f_period ob0), .int (f_nextSeq ob0), .int (f_qLen ob0), .int (f_nakLen ob0)], .inr (.inl (.int, (List.replicate 32 0)))])) rfl ?_
 refine zS Ad W 3 (st' := (17, [vR 1, vI x1, vI x2, vI x3, vI x4, none], [.ref 3, .ref 1], [.inr (.inl (.int, s)), .inl [.ref 2, .null, .null, .null, .null, .null, .null, .null, .null, .null, .null, .null, .null, .null, .null, .null, .null, .null, .null, .int (f_win ob0), .int (f_back ob0), .int (f_repair ob0), .int (f_period ob0), .int (f_nextSeq ob0), .int (f_qLen ob0), .int (f_nakLen ob0)], .inr (.inl (.int, (List.replicate 32 0))), .inr (.inl (.boolean, (List.replicate 32 0)))])) rfl ?_
 refine zS Ad W 1 (st' := (20, [vR 1, vI x1, vI x2, vI x3, vI x4, none], [], [.inr (.inl (.int, s)), .inl [.ref 2, .ref 3, .null, .null, .null, .null, .null, .null, .null, .null, .null, .null, .null, .null, .null, .null, .null, .null, .null, .int (f_win ob0), .int (f_back ob0), .int (f_repair ob0), .int (f_period ob0), .int (f_nextSeq ob0), .int (f_qLen ob0), .int (f_nakLen ob0)], .inr (.inl (.int, (List.replicate 32 0))), .inr (.inl (.boolean, (List.replicate 32 0)))])) rfl ?_
 refine zS Ad W 3 (st' := (25, [vR 1, vI x1, vI x2, vI x3, vI x4, none], [.ref 4, .ref 1], [.inr (.inl (.int, s)), .inl [.ref 2, .ref 3, .null, .null, .null, .null, .null, .null, .null, .null, .null, .null, .null, .null, .null, .null, .null, .null, .null, .int (f_win ob0), .int (f_back ob0), .int (f_repair ob0), .int (f_period ob0), .int (f_nextSeq ob0), .int (f_qLen ob0), .int (f_nakLen ob0)], .inr (.inl (.int, (List.replicate 32 0))), .inr (.inl (.boolean, (List.replicate 32 0))), .inr (.inl (.int, (List.replicate 64 0)))])) rfl ?_
 refine zS Ad W 1 (st' := (28, [vR 1, vI x1, vI x2, vI x3, vI x4, none], [], [.inr (.inl (.int, s)), .inl [.ref 2, .ref 3, .ref 4, .null, .null, .null, .null, .null, .null, .null, .null, .null, .null, .null, .null, .null, .null, .null, .null, .int (f_win ob0), .int (f_back ob0), .int (f_repair ob0), .int (f_period ob0), .int (f_nextSeq ob0), .int (f_qLen ob0), .int (f_nakLen ob0)], .inr (.inl (.int, (List.replicate 32 0))), .inr (.inl (.boolean, (List.replicate 32 0))), .inr (.inl (.int, (List.replicate 64 0)))])) rfl ?_
 refine zS Ad W 3 (st' := (33, [vR 1, vI x1, vI x2, vI x3, vI x4, none], [.ref 5, .ref 1], [.inr (.inl (.int, s)), .inl [.ref 2, .ref 3, .ref 4, .null, .null, .null, .null, .null, .null, .null, .null, .null, .null, .null, .null, .null, .null, .null, .null, .int (f_win ob0), .int (f_back ob0), .int (f_repair ob0), .int (f_period ob0), .int (f_nextSeq ob0), .int (f_qLen ob0), .int (f_nakLen ob0)], .inr (.inl (.int, (List.replicate 32 0))), .inr (.inl (.boolean, (List.replicate 32 0))), .inr (.inl (.int, (List.replicate 64 0))), .inr (.inl (.int, (List.replicate 10 0)))])) rfl ?_
 refine zS Ad W 1 (st' := (36, [vR 1, vI x1, vI x2, vI x3, vI x4, none], [], [.inr (.inl (.int, s)), .inl [.ref 2, .ref 3, .ref 4, .ref 5, .null, .null, .null, .null, .null, .null, .null, .null, .null, .null, .null, .null, .null, .null, .null, .int (f_win ob0), .int (f_back ob0), .int (f_repair ob0), .int (f_period ob0), .int (f_nextSeq ob0), .int (f_qLen ob0), .int (f_nakLen ob0)], .inr (.inl (.int, (List.replicate 32 0))), .inr (.inl (.boolean, (List.replicate 32 0))), .inr (.inl (.int, (List.replicate 64 0))), .inr (.inl (.int, (List.replicate 10 0)))])) rfl ?_
 refine zS Ad W 3 (st' := (42, [vR 1, vI x1, vI x2, vI x3, vI x4, none], [.ref 6, .ref 1], [.inr (.inl (.int, s)), .inl [.ref 2, .ref 3, .ref 4, .ref 5, .null, .null, .null, .null, .null, .null, .null, .null, .null, .null, .null, .null, .null, .null, .null, .int (f_win ob0), .int (f_back ob0), .int (f_repair ob0), .int (f_period ob0), .int (f_nextSeq ob0), .int (f_qLen ob0), .int (f_nakLen ob0)], .inr (.inl (.int, (List.replicate 32 0))), .inr (.inl (.boolean, (List.replicate 32 0))), .inr (.inl (.int, (List.replicate 64 0))), .inr (.inl (.int, (List.replicate 10 0))), .inr (.inl (.int, (List.replicate 128 0)))])) rfl ?_
 refine zS Ad W 1 (st' := (45, [vR 1, vI x1, vI x2, vI x3, vI x4, none], [], [.inr (.inl (.int, s)), .inl [.ref 2, .ref 3, .ref 4, .ref 5, .ref 6, .null, .null, .null, .null, .null, .null, .null, .null, .null, .null, .null, .null, .null, .null, .int (f_win ob0), .int (f_back ob0), .int (f_repair ob0), .int (f_period ob0), .int (f_nextSeq ob0), .int (f_qLen ob0), .int (f_nakLen ob0)], .inr (.inl (.int, (List.replicate 32 0))), .inr (.inl (.boolean, (List.replicate 32 0))), .inr (.inl (.int, (List.replicate 64 0))), .inr (.inl (.int, (List.replicate 10 0))), .inr (.inl (.int, (List.replicate 128 0)))])) rfl ?_
 refine zS Ad W 3 (st' := (51, [vR 1, vI x1, vI x2, vI x3, vI x4, none], [.ref 7, .ref 1], [.inr (.inl (.int, s)), .inl [.ref 2, .ref 3, .ref 4, .ref 5, .ref 6, .null, .null, .null, .null, .null, .null, .null, .null, .null, .null, .null, .null, .null, .null, .int (f_win ob0), .int (f_back ob0), .int (f_repair ob0), .int (f_period ob0), .int (f_nextSeq ob0), .int (f_qLen ob0), .int (f_nakLen ob0)], .inr (.inl (.int, (List.replicate 32 0))), .inr (.inl (.boolean, (List.replicate 32 0))), .inr (.inl (.int, (List.replicate 64 0))), .inr (.inl (.int, (List.replicate 10 0))), .inr (.inl (.int, (List.replicate 128 0))), .inr (.inl (.int, (List.replicate 128 0)))])) rfl ?_
 refine zS Ad W 1 (st' := (54, [vR 1, vI x1, vI x2, vI x3, vI x4, none], [], [.inr (.inl (.int, s)), .inl [.ref 2, .ref 3, .ref 4, .ref 5, .ref 6, .ref 7, .null, .null, .null, .null, .null, .null, .null, .null, .null, .null, .null, .null, .null, .int (f_win ob0), .int (f_back ob0), .int (f_repair ob0), .int (f_period ob0), .int (f_nextSeq ob0), .int (f_qLen ob0), .int (f_nakLen ob0)], .inr (.inl (.int, (List.replicate 32 0))), .inr (.inl (.boolean, (List.replicate 32 0))), .inr (.inl (.int, (List.replicate 64 0))), .inr (.inl (.int, (List.replicate 10 0))), .inr (.inl (.int, (List.replicate 128 0))), .inr (.inl (.int, (List.replicate 128 0)))])) rfl ?_
 refine zS Ad W 3 (st' := (60, [vR 1, vI x1, vI x2, vI x3, vI x4, none], [.ref 8, .ref 1], [.inr (.inl (.int, s)), .inl [.ref 2, .ref 3, .ref 4, .ref 5, .ref 6, .ref 7, .null, .null, .null, .null, .null, .null, .null, .null, .null, .null, .null, .null, .null, .int (f_win ob0), .int (f_back ob0), .int (f_repair ob0), .int (f_period ob0), .int (f_nextSeq ob0), .int (f_qLen ob0), .int (f_nakLen ob0)], .inr (.inl (.int, (List.replicate 32 0))), .inr (.inl (.boolean, (List.replicate 32 0))), .inr (.inl (.int, (List.replicate 64 0))), .inr (.inl (.int, (List.replicate 10 0))), .inr (.inl (.int, (List.replicate 128 0))), .inr (.inl (.int, (List.replicate 128 0))), .inr (.inl (.int, (List.replicate 128 0)))])) rfl ?_
 refine zS Ad W 1 (st' := (63, [vR 1, vI x1, vI x2, vI x3, vI x4, none], [], [.inr (.inl (.int, s)), .inl [.ref 2, .ref 3, .ref 4, .ref 5, .ref 6, .ref 7, .ref 8, .null, .null, .null, .null, .null, .null, .null, .null, .null, .null, .null, .null, .int (f_win ob0), .int (f_back ob0), .int (f_repair ob0), .int (f_period ob0), .int (f_nextSeq ob0), .int (f_qLen ob0), .int (f_nakLen ob0)], .inr (.inl (.int, (List.replicate 32 0))), .inr (.inl (.boolean, (List.replicate 32 0))), .inr (.inl (.int, (List.replicate 64 0))), .inr (.inl (.int, (List.replicate 10 0))), .inr (.inl (.int, (List.replicate 128 0))), .inr (.inl (.int, (List.replicate 128 0))), .inr (.inl (.int, (List.replicate 128 0)))])) rfl ?_
 refine zS Ad W 3 (st' := (67, [vR 1, vI x1, vI x2, vI x3, vI x4, none], [.ref 9, .ref 1], [.inr (.inl (.int, s)), .inl [.ref 2, .ref 3, .ref 4, .ref 5, .ref 6, .ref 7, .ref 8, .null, .null, .null, .null, .null, .null, .null, .null, .null, .null, .null, .null, .int (f_win ob0), .int (f_back ob0), .int (f_repair ob0), .int (f_period ob0), .int (f_nextSeq ob0), .int (f_qLen ob0), .int (f_nakLen ob0)], .inr (.inl (.int, (List.replicate 32 0))), .inr (.inl (.boolean, (List.replicate 32 0))), .inr (.inl (.int, (List.replicate 64 0))), .inr (.inl (.int, (List.replicate 10 0))), .inr (.inl (.int, (List.replicate 128 0))), .inr (.inl (.int, (List.replicate 128 0))), .inr (.inl (.int, (List.replicate 128 0))), .inr (.inl (.int, (List.replicate 4 0)))])) rfl ?_
 refine zS Ad W 1 (st' := (70, [vR 1, vI x1, vI x2, vI x3, vI x4, none], [], [.inr (.inl (.int, s)), .inl [.ref 2, .ref 3, .ref 4, .ref 5, .ref 6, .ref 7, .ref 8, .ref 9, .null, .null, .null, .null, .null, .null, .null, .null, .null, .null, .null, .int (f_win ob0), .int (f_back ob0), .int (f_repair ob0), .int (f_period ob0), .int (f_nextSeq ob0), .int (f_qLen ob0), .int (f_nakLen ob0)], .inr (.inl (.int, (List.replicate 32 0))), .inr (.inl (.boolean, (List.replicate 32 0))), .inr (.inl (.int, (List.replicate 64 0))), .inr (.inl (.int, (List.replicate 10 0))), .inr (.inl (.int, (List.replicate 128 0))), .inr (.inl (.int, (List.replicate 128 0))), .inr (.inl (.int, (List.replicate 128 0))), .inr (.inl (.int, (List.replicate 4 0)))])) rfl ?_
 refine zS Ad W 3 (st' := (74, [vR 1, vI x1, vI x2, vI x3, vI x4, none], [.ref 10, .ref 1], [.inr (.inl (.int, s)), .inl [.ref 2, .ref 3, .ref 4, .ref 5, .ref 6, .ref 7, .ref 8, .ref 9, .null, .null, .null, .null, .null, .null, .null, .null, .null, .null, .null, .int (f_win ob0), .int (f_back ob0), .int (f_repair ob0), .int (f_period ob0), .int (f_nextSeq ob0), .int (f_qLen ob0), .int (f_nakLen ob0)], .inr (.inl (.int, (List.replicate 32 0))), .inr (.inl (.boolean, (List.replicate 32 0))), .inr (.inl (.int, (List.replicate 64 0))), .inr (.inl (.int, (List.replicate 10 0))), .inr (.inl (.int, (List.replicate 128 0))), .inr (.inl (.int, (List.replicate 128 0))), .inr (.inl (.int, (List.replicate 128 0))), .inr (.inl (.int, (List.replicate 4 0))), .inr (.inl (.int, (List.replicate 4 0)))])) rfl ?_
 refine zS Ad W 1 (st' := (77, [vR 1, vI x1, vI x2, vI x3, vI x4, none], [], [.inr (.inl (.int, s)), .inl [.ref 2, .ref 3, .ref 4, .ref 5, .ref 6, .ref 7, .ref 8, .ref 9, .ref 10, .null, .null, .null, .null, .null, .null, .null, .null, .null, .null, .int (f_win ob0), .int (f_back ob0), .int (f_repair ob0), .int (f_period ob0), .int (f_nextSeq ob0), .int (f_qLen ob0), .int (f_nakLen ob0)], .inr (.inl (.int, (List.replicate 32 0))), .inr (.inl (.boolean, (List.replicate 32 0))), .inr (.inl (.int, (List.replicate 64 0))), .inr (.inl (.int, (List.replicate 10 0))), .inr (.inl (.int, (List.replicate 128 0))), .inr (.inl (.int, (List.replicate 128 0))), .inr (.inl (.int, (List.replicate 128 0))), .inr (.inl (.int, (List.replicate 4 0))), .inr (.inl (.int, (List.replicate 4 0)))])) rfl ?_
 refine zS Ad W 3 (st' := (81, [vR 1, vI x1, vI x2, vI x3, vI x4, none], [.ref 11, .ref 1], [.inr (.inl (.int, s)), .inl [.ref 2, .ref 3, .ref 4, .ref 5, .ref 6, .ref 7, .ref 8, .ref 9, .ref 10, .null, .null, .null, .null, .null, .null, .null, .null, .null, .null, .int (f_win ob0), .int (f_back ob0), .int (f_repair ob0), .int (f_period ob0), .int (f_nextSeq ob0), .int (f_qLen ob0), .int (f_nakLen ob0)], .inr (.inl (.int, (List.replicate 32 0))), .inr (.inl (.boolean, (List.replicate 32 0))), .inr (.inl (.int, (List.replicate 64 0))), .inr (.inl (.int, (List.replicate 10 0))), .inr (.inl (.int, (List.replicate 128 0))), .inr (.inl (.int, (List.replicate 128 0))), .inr (.inl (.int, (List.replicate 128 0))), .inr (.inl (.int, (List.replicate 4 0))), .inr (.inl (.int, (List.replicate 4 0))), .inr (.inl (.int, (List.replicate 4 0)))])) rfl ?_
 refine zS Ad W 1 (st' := (84, [vR 1, vI x1, vI x2, vI x3, vI x4, none], [], [.inr (.inl (.int, s)), .inl [.ref 2, .ref 3, .ref 4, .ref 5, .ref 6, .ref 7, .ref 8, .ref 9, .ref 10, .ref 11, .null, .null, .null, .null, .null, .null, .null, .null, .null, .int (f_win ob0), .int (f_back ob0), .int (f_repair ob0), .int (f_period ob0), .int (f_nextSeq ob0), .int (f_qLen ob0), .int (f_nakLen ob0)], .inr (.inl (.int, (List.replicate 32 0))), .inr (.inl (.boolean, (List.replicate 32 0))), .inr (.inl (.int, (List.replicate 64 0))), .inr (.inl (.int, (List.replicate 10 0))), .inr (.inl (.int, (List.replicate 128 0))), .inr (.inl (.int, (List.replicate 128 0))), .inr (.inl (.int, (List.replicate 128 0))), .inr (.inl (.int, (List.replicate 4 0))), .inr (.inl (.int, (List.replicate 4 0))), .inr (.inl (.int, (List.replicate 4 0)))])) rfl ?_
 refine zS Ad W 3 (st' := (88, [vR 1, vI x1, vI x2, vI x3, vI x4, none], [.ref 12, .ref 1], [.inr (.inl (.int, s)), .inl [.ref 2, .ref 3, .ref 4, .ref 5, .ref 6, .ref 7, .ref 8, .ref 9, .ref 10, .ref 11, .null, .null, .null, .null, .null, .null, .null, .null, .null, .int (f_win ob0), .int (f_back ob0), .int (f_repair ob0), .int (f_period ob0), .int (f_nextSeq ob0), .int (f_qLen ob0), .int (f_nakLen ob0)], .inr (.inl (.int, (List.replicate 32 0))), .inr (.inl (.boolean, (List.replicate 32 0))), .inr (.inl (.int, (List.replicate 64 0))), .inr (.inl (.int, (List.replicate 10 0))), .inr (.inl (.int, (List.replicate 128 0))), .inr (.inl (.int, (List.replicate 128 0))), .inr (.inl (.int, (List.replicate 128 0))), .inr (.inl (.int, (List.replicate 4 0))), .inr (.inl (.int, (List.replicate 4 0))), .inr (.inl (.int, (List.replicate 4 0))), .inr (.inl (.int, (List.replicate 4 0)))])) rfl ?_
 refine zS Ad W 1 (st' := (91, [vR 1, vI x1, vI x2, vI x3, vI x4, none], [], [.inr (.inl (.int, s)), .inl [.ref 2, .ref 3, .ref 4, .ref 5, .ref 6, .ref 7, .ref 8, .ref 9, .ref 10, .ref 11, .ref 12, .null, .null, .null, .null, .null, .null, .null, .null, .int (f_win ob0), .int (f_back ob0), .int (f_repair ob0), .int (f_period ob0), .int (f_nextSeq ob0), .int (f_qLen ob0), .int (f_nakLen ob0)], .inr (.inl (.int, (List.replicate 32 0))), .inr (.inl (.boolean, (List.replicate 32 0))), .inr (.inl (.int, (List.replicate 64 0))), .inr (.inl (.int, (List.replicate 10 0))), .inr (.inl (.int, (List.replicate 128 0))), .inr (.inl (.int, (List.replicate 128 0))), .inr (.inl (.int, (List.replicate 128 0))), .inr (.inl (.int, (List.replicate 4 0))), .inr (.inl (.int, (List.replicate 4 0))), .inr (.inl (.int, (List.replicate 4 0))), .inr (.inl (.int, (List.replicate 4 0)))])) rfl ?_
 refine zS Ad W 3 (st' := (95, [vR 1, vI x1, vI x2, vI x3, vI x4, none], [.ref 13, .ref 1], [.inr (.inl (.int, s)), .inl [.ref 2, .ref 3, .ref 4, .ref 5, .ref 6, .ref 7, .ref 8, .ref 9, .ref 10, .ref 11, .ref 12, .null, .null, .null, .null, .null, .null, .null, .null, .int (f_win ob0), .int (f_back ob0), .int (f_repair ob0), .int (f_period ob0), .int (f_nextSeq ob0), .int (f_qLen ob0), .int (f_nakLen ob0)], .inr (.inl (.int, (List.replicate 32 0))), .inr (.inl (.boolean, (List.replicate 32 0))), .inr (.inl (.int, (List.replicate 64 0))), .inr (.inl (.int, (List.replicate 10 0))), .inr (.inl (.int, (List.replicate 128 0))), .inr (.inl (.int, (List.replicate 128 0))), .inr (.inl (.int, (List.replicate 128 0))), .inr (.inl (.int, (List.replicate 4 0))), .inr (.inl (.int, (List.replicate 4 0))), .inr (.inl (.int, (List.replicate 4 0))), .inr (.inl (.int, (List.replicate 4 0))), .inr (.inl (.int, (List.replicate 4 0)))])) rfl ?_
 refine zS Ad W 1 (st' := (98, [vR 1, vI x1, vI x2, vI x3, vI x4, none], [], [.inr (.inl (.int, s)), .inl [.ref 2, .ref 3, .ref 4, .ref 5, .ref 6, .ref 7, .ref 8, .ref 9, .ref 10, .ref 11, .ref 12, .ref 13, .null, .null, .null, .null, .null, .null, .null, .int (f_win ob0), .int (f_back ob0), .int (f_repair ob0), .int (f_period ob0), .int (f_nextSeq ob0), .int (f_qLen ob0), .int (f_nakLen ob0)], .inr (.inl (.int, (List.replicate 32 0))), .inr (.inl (.boolean, (List.replicate 32 0))), .inr (.inl (.int, (List.replicate 64 0))), .inr (.inl (.int, (List.replicate 10 0))), .inr (.inl (.int, (List.replicate 128 0))), .inr (.inl (.int, (List.replicate 128 0))), .inr (.inl (.int, (List.replicate 128 0))), .inr (.inl (.int, (List.replicate 4 0))), .inr (.inl (.int, (List.replicate 4 0))), .inr (.inl (.int, (List.replicate 4 0))), .inr (.inl (.int, (List.replicate 4 0))), .inr (.inl (.int, (List.replicate 4 0)))])) rfl ?_
 refine zS Ad W 3 (st' := (102, [vR 1, vI x1, vI x2, vI x3, vI x4, none], [.ref 14, .ref 1], [.inr (.inl (.int, s)), .inl [.ref 2, .ref 3, .ref 4, .ref 5, .ref 6, .ref 7, .ref 8, .ref 9, .ref 10, .ref 11, .ref 12, .ref 13, .null, .null, .null, .null, .null, .null, .null, .int (f_win ob0), .int (f_back ob0), .int (f_repair ob0), .int (f_period ob0), .int (f_nextSeq ob0), .int (f_qLen ob0), .int (f_nakLen ob0)], .inr (.inl (.int, (List.replicate 32 0))), .inr (.inl (.boolean, (List.replicate 32 0))), .inr (.inl (.int, (List.replicate 64 0))), .inr (.inl (.int, (List.replicate 10 0))), .inr (.inl (.int, (List.replicate 128 0))), .inr (.inl (.int, (List.replicate 128 0))), .inr (.inl (.int, (List.replicate 128 0))), .inr (.inl (.int, (List.replicate 4 0))), .inr (.inl (.int, (List.replicate 4 0))), .inr (.inl (.int, (List.replicate 4 0))), .inr (.inl (.int, (List.replicate 4 0))), .inr (.inl (.int, (List.replicate 4 0))), .inr (.inl (.int, (List.replicate 4 0)))])) rfl ?_
 refine zS Ad W 1 (st' := (105, [vR 1, vI x1, vI x2, vI x3, vI x4, none], [], [.inr (.inl (.int, s)), .inl [.ref 2, .ref 3, .ref 4, .ref 5, .ref 6, .ref 7, .ref 8, .ref 9, .ref 10, .ref 11, .ref 12, .ref 13, .ref 14, .null, .null, .null, .null, .null, .null, .int (f_win ob0), .int (f_back ob0), .int (f_repair ob0), .int (f_period ob0), .int (f_nextSeq ob0), .int (f_qLen ob0), .int (f_nakLen ob0)], .inr (.inl (.int, (List.replicate 32 0))), .inr (.inl (.boolean, (List.replicate 32 0))), .inr (.inl (.int, (List.replicate 64 0))), .inr (.inl (.int, (List.replicate 10 0))), .inr (.inl (.int, (List.replicate 128 0))), .inr (.inl (.int, (List.replicate 128 0))), .inr (.inl (.int, (List.replicate 128 0))), .inr (.inl (.int, (List.replicate 4 0))), .inr (.inl (.int, (List.replicate 4 0))), .inr (.inl (.int, (List.replicate 4 0))), .inr (.inl (.int, (List.replicate 4 0))), .inr (.inl (.int, (List.replicate 4 0))), .inr (.inl (.int, (List.replicate 4 0)))])) rfl ?_
 refine zS Ad W 3 (st' := (111, [vR 1, vI x1, vI x2, vI x3, vI x4, none], [.ref 15, .ref 1], [.inr (.inl (.int, s)), .inl [.ref 2, .ref 3, .ref 4, .ref 5, .ref 6, .ref 7, .ref 8, .ref 9, .ref 10, .ref 11, .ref 12, .ref 13, .ref 14, .null, .null, .null, .null, .null, .null, .int (f_win ob0), .int (f_back ob0), .int (f_repair ob0), .int (f_period ob0), .int (f_nextSeq ob0), .int (f_qLen ob0), .int (f_nakLen ob0)], .inr (.inl (.int, (List.replicate 32 0))), .inr (.inl (.boolean, (List.replicate 32 0))), .inr (.inl (.int, (List.replicate 64 0))), .inr (.inl (.int, (List.replicate 10 0))), .inr (.inl (.int, (List.replicate 128 0))), .inr (.inl (.int, (List.replicate 128 0))), .inr (.inl (.int, (List.replicate 128 0))), .inr (.inl (.int, (List.replicate 4 0))), .inr (.inl (.int, (List.replicate 4 0))), .inr (.inl (.int, (List.replicate 4 0))), .inr (.inl (.int, (List.replicate 4 0))), .inr (.inl (.int, (List.replicate 4 0))), .inr (.inl (.int, (List.replicate 4 0))), .inr (.inl (.int, (List.replicate 128 0)))])) rfl ?_
 refine zS Ad W 1 (st' := (114, [vR 1, vI x1, vI x2, vI x3, vI x4, none], [], [.inr (.inl (.int, s)), .inl [.ref 2, .ref 3, .ref 4, .ref 5, .ref 6, .ref 7, .ref 8, .ref 9, .ref 10, .ref 11, .ref 12, .ref 13, .ref 14, .ref 15, .null, .null, .null, .null, .null, .int (f_win ob0), .int (f_back ob0), .int (f_repair ob0), .int (f_period ob0), .int (f_nextSeq ob0), .int (f_qLen ob0), .int (f_nakLen ob0)], .inr (.inl (.int, (List.replicate 32 0))), .inr (.inl (.boolean, (List.replicate 32 0))), .inr (.inl (.int, (List.replicate 64 0))), .inr (.inl (.int, (List.replicate 10 0))), .inr (.inl (.int, (List.replicate 128 0))), .inr (.inl (.int, (List.replicate 128 0))), .inr (.inl (.int, (List.replicate 128 0))), .inr (.inl (.int, (List.replicate 4 0))), .inr (.inl (.int, (List.replicate 4 0))), .inr (.inl (.int, (List.replicate 4 0))), .inr (.inl (.int, (List.replicate 4 0))), .inr (.inl (.int, (List.replicate 4 0))), .inr (.inl (.int, (List.replicate 4 0))), .inr (.inl (.int, (List.replicate 128 0)))])) rfl ?_
 refine zS Ad W 3 (st' := (120, [vR 1, vI x1, vI x2, vI x3, vI x4, none], [.ref 16, .ref 1], [.inr (.inl (.int, s)), .inl [.ref 2, .ref 3, .ref 4, .ref 5, .ref 6, .ref 7, .ref 8, .ref 9, .ref 10, .ref 11, .ref 12, .ref 13, .ref 14, .ref 15, .null, .null, .null, .null, .null, .int (f_win ob0), .int (f_back ob0), .int (f_repair ob0), .int (f_period ob0), .int (f_nextSeq ob0), .int (f_qLen ob0), .int (f_nakLen ob0)], .inr (.inl (.int, (List.replicate 32 0))), .inr (.inl (.boolean, (List.replicate 32 0))), .inr (.inl (.int, (List.replicate 64 0))), .inr (.inl (.int, (List.replicate 10 0))), .inr (.inl (.int, (List.replicate 128 0))), .inr (.inl (.int, (List.replicate 128 0))), .inr (.inl (.int, (List.replicate 128 0))), .inr (.inl (.int, (List.replicate 4 0))), .inr (.inl (.int, (List.replicate 4 0))), .inr (.inl (.int, (List.replicate 4 0))), .inr (.inl (.int, (List.replicate 4 0))), .inr (.inl (.int, (List.replicate 4 0))), .inr (.inl (.int, (List.replicate 4 0))), .inr (.inl (.int, (List.replicate 128 0))), .inr (.inl (.int, (List.replicate 128 0)))])) rfl ?_
 refine zS Ad W 1 (st' := (123, [vR 1, vI x1, vI x2, vI x3, vI x4, none], [], [.inr (.inl (.int, s)), .inl [.ref 2, .ref 3, .ref 4, .ref 5, .ref 6, .ref 7, .ref 8, .ref 9, .ref 10, .ref 11, .ref 12, .ref 13, .ref 14, .ref 15, .ref 16, .null, .null, .null, .null, .int (f_win ob0), .int (f_back ob0), .int (f_repair ob0), .int (f_period ob0), .int (f_nextSeq ob0), .int (f_qLen ob0), .int (f_nakLen ob0)], .inr (.inl (.int, (List.replicate 32 0))), .inr (.inl (.boolean, (List.replicate 32 0))), .inr (.inl (.int, (List.replicate 64 0))), .inr (.inl (.int, (List.replicate 10 0))), .inr (.inl (.int, (List.replicate 128 0))), .inr (.inl (.int, (List.replicate 128 0))), .inr (.inl (.int, (List.replicate 128 0))), .inr (.inl (.int, (List.replicate 4 0))), .inr (.inl (.int, (List.replicate 4 0))), .inr (.inl (.int, (List.replicate 4 0))), .inr (.inl (.int, (List.replicate 4 0))), .inr (.inl (.int, (List.replicate 4 0))), .inr (.inl (.int, (List.replicate 4 0))), .inr (.inl (.int, (List.replicate 128 0))), .inr (.inl (.int, (List.replicate 128 0)))])) rfl ?_
 refine zS Ad W 3 (st' := (127, [vR 1, vI x1, vI x2, vI x3, vI x4, none], [.ref 17, .ref 1], [.inr (.inl (.int, s)), .inl [.ref 2, .ref 3, .ref 4, .ref 5, .ref 6, .ref 7, .ref 8, .ref 9, .ref 10, .ref 11, .ref 12, .ref 13, .ref 14, .ref 15, .ref 16, .null, .null, .null, .null, .int (f_win ob0), .int (f_back ob0), .int (f_repair ob0), .int (f_period ob0), .int (f_nextSeq ob0), .int (f_qLen ob0), .int (f_nakLen ob0)], .inr (.inl (.int, (List.replicate 32 0))), .inr (.inl (.boolean, (List.replicate 32 0))), .inr (.inl (.int, (List.replicate 64 0))), .inr (.inl (.int, (List.replicate 10 0))), .inr (.inl (.int, (List.replicate 128 0))), .inr (.inl (.int, (List.replicate 128 0))), .inr (.inl (.int, (List.replicate 128 0))), .inr (.inl (.int, (List.replicate 4 0))), .inr (.inl (.int, (List.replicate 4 0))), .inr (.inl (.int, (List.replicate 4 0))), .inr (.inl (.int, (List.replicate 4 0))), .inr (.inl (.int, (List.replicate 4 0))), .inr (.inl (.int, (List.replicate 4 0))), .inr (.inl (.int, (List.replicate 128 0))), .inr (.inl (.int, (List.replicate 128 0))), .inr (.inl (.int, (List.replicate 4 0)))])) rfl ?_
 refine zS Ad W 1 (st' := (130, [vR 1, vI x1, vI x2, vI x3, vI x4, none], [], [.inr (.inl (.int, s)), .inl [.ref 2, .ref 3, .ref 4, .ref 5, .ref 6, .ref 7, .ref 8, .ref 9, .ref 10, .ref 11, .ref 12, .ref 13, .ref 14, .ref 15, .ref 16, .ref 17, .null, .null, .null, .int (f_win ob0), .int (f_back ob0), .int (f_repair ob0), .int (f_period ob0), .int (f_nextSeq ob0), .int (f_qLen ob0), .int (f_nakLen ob0)], .inr (.inl (.int, (List.replicate 32 0))), .inr (.inl (.boolean, (List.replicate 32 0))), .inr (.inl (.int, (List.replicate 64 0))), .inr (.inl (.int, (List.replicate 10 0))), .inr (.inl (.int, (List.replicate 128 0))), .inr (.inl (.int, (List.replicate 128 0))), .inr (.inl (.int, (List.replicate 128 0))), .inr (.inl (.int, (List.replicate 4 0))), .inr (.inl (.int, (List.replicate 4 0))), .inr (.inl (.int, (List.replicate 4 0))), .inr (.inl (.int, (List.replicate 4 0))), .inr (.inl (.int, (List.replicate 4 0))), .inr (.inl (.int, (List.replicate 4 0))), .inr (.inl (.int, (List.replicate 128 0))), .inr (.inl (.int, (List.replicate 128 0))), .inr (.inl (.int, (List.replicate 4 0)))])) rfl ?_
 refine zS Ad W 3 (st' := (136, [vR 1, vI x1, vI x2, vI x3, vI x4, none], [.ref 18, .ref 1], [.inr (.inl (.int, s)), .inl [.ref 2, .ref 3, .ref 4, .ref 5, .ref 6, .ref 7, .ref 8, .ref 9, .ref 10, .ref 11, .ref 12, .ref 13, .ref 14, .ref 15, .ref 16, .ref 17, .null, .null, .null, .int (f_win ob0), .int (f_back ob0), .int (f_repair ob0), .int (f_period ob0), .int (f_nextSeq ob0), .int (f_qLen ob0), .int (f_nakLen ob0)], .inr (.inl (.int, (List.replicate 32 0))), .inr (.inl (.boolean, (List.replicate 32 0))), .inr (.inl (.int, (List.replicate 64 0))), .inr (.inl (.int, (List.replicate 10 0))), .inr (.inl (.int, (List.replicate 128 0))), .inr (.inl (.int, (List.replicate 128 0))), .inr (.inl (.int, (List.replicate 128 0))), .inr (.inl (.int, (List.replicate 4 0))), .inr (.inl (.int, (List.replicate 4 0))), .inr (.inl (.int, (List.replicate 4 0))), .inr (.inl (.int, (List.replicate 4 0))), .inr (.inl (.int, (List.replicate 4 0))), .inr (.inl (.int, (List.replicate 4 0))), .inr (.inl (.int, (List.replicate 128 0))), .inr (.inl (.int, (List.replicate 128 0))), .inr (.inl (.int, (List.replicate 4 0))), .inr (.inl (.int, (List.replicate 128 0)))])) rfl ?_
 refine zS Ad W 1 (st' := (139, [vR 1, vI x1, vI x2, vI x3, vI x4, none], [], [.inr (.inl (.int, s)), .inl [.ref 2, .ref 3, .ref 4, .ref 5, .ref 6, .ref 7, .ref 8, .ref 9, .ref 10, .ref 11, .ref 12, .ref 13, .ref 14, .ref 15, .ref 16, .ref 17, .ref 18, .null, .null, .int (f_win ob0), .int (f_back ob0), .int (f_repair ob0), .int (f_period ob0), .int (f_nextSeq ob0), .int (f_qLen ob0), .int (f_nakLen ob0)], .inr (.inl (.int, (List.replicate 32 0))), .inr (.inl (.boolean, (List.replicate 32 0))), .inr (.inl (.int, (List.replicate 64 0))), .inr (.inl (.int, (List.replicate 10 0))), .inr (.inl (.int, (List.replicate 128 0))), .inr (.inl (.int, (List.replicate 128 0))), .inr (.inl (.int, (List.replicate 128 0))), .inr (.inl (.int, (List.replicate 4 0))), .inr (.inl (.int, (List.replicate 4 0))), .inr (.inl (.int, (List.replicate 4 0))), .inr (.inl (.int, (List.replicate 4 0))), .inr (.inl (.int, (List.replicate 4 0))), .inr (.inl (.int, (List.replicate 4 0))), .inr (.inl (.int, (List.replicate 128 0))), .inr (.inl (.int, (List.replicate 128 0))), .inr (.inl (.int, (List.replicate 4 0))), .inr (.inl (.int, (List.replicate 128 0)))])) rfl ?_
 refine zS Ad W 3 (st' := (143, [vR 1, vI x1, vI x2, vI x3, vI x4, none], [.ref 19, .ref 1], [.inr (.inl (.int, s)), .inl [.ref 2, .ref 3, .ref 4, .ref 5, .ref 6, .ref 7, .ref 8, .ref 9, .ref 10, .ref 11, .ref 12, .ref 13, .ref 14, .ref 15, .ref 16, .ref 17, .ref 18, .null, .null, .int (f_win ob0), .int (f_back ob0), .int (f_repair ob0), .int (f_period ob0), .int (f_nextSeq ob0), .int (f_qLen ob0), .int (f_nakLen ob0)], .inr (.inl (.int, (List.replicate 32 0))), .inr (.inl (.boolean, (List.replicate 32 0))), .inr (.inl (.int, (List.replicate 64 0))), .inr (.inl (.int, (List.replicate 10 0))), .inr (.inl (.int, (List.replicate 128 0))), .inr (.inl (.int, (List.replicate 128 0))), .inr (.inl (.int, (List.replicate 128 0))), .inr (.inl (.int, (List.replicate 4 0))), .inr (.inl (.int, (List.replicate 4 0))), .inr (.inl (.int, (List.replicate 4 0))), .inr (.inl (.int, (List.replicate 4 0))), .inr (.inl (.int, (List.replicate 4 0))), .inr (.inl (.int, (List.replicate 4 0))), .inr (.inl (.int, (List.replicate 128 0))), .inr (.inl (.int, (List.replicate 128 0))), .inr (.inl (.int, (List.replicate 4 0))), .inr (.inl (.int, (List.replicate 128 0))), .inr (.inl (.int, (List.replicate 4 0)))])) rfl ?_
 refine zS Ad W 1 (st' := (146, [vR 1, vI x1, vI x2, vI x3, vI x4, none], [], [.inr (.inl (.int, s)), .inl [.ref 2, .ref 3, .ref 4, .ref 5, .ref 6, .ref 7, .ref 8, .ref 9, .ref 10, .ref 11, .ref 12, .ref 13, .ref 14, .ref 15, .ref 16, .ref 17, .ref 18, .ref 19, .null, .int (f_win ob0), .int (f_back ob0), .int (f_repair ob0), .int (f_period ob0), .int (f_nextSeq ob0), .int (f_qLen ob0), .int (f_nakLen ob0)], .inr (.inl (.int, (List.replicate 32 0))), .inr (.inl (.boolean, (List.replicate 32 0))), .inr (.inl (.int, (List.replicate 64 0))), .inr (.inl (.int, (List.replicate 10 0))), .inr (.inl (.int, (List.replicate 128 0))), .inr (.inl (.int, (List.replicate 128 0))), .inr (.inl (.int, (List.replicate 128 0))), .inr (.inl (.int, (List.replicate 4 0))), .inr (.inl (.int, (List.replicate 4 0))), .inr (.inl (.int, (List.replicate 4 0))), .inr (.inl (.int, (List.replicate 4 0))), .inr (.inl (.int, (List.replicate 4 0))), .inr (.inl (.int, (List.replicate 4 0))), .inr (.inl (.int, (List.replicate 128 0))), .inr (.inl (.int, (List.replicate 128 0))), .inr (.inl (.int, (List.replicate 4 0))), .inr (.inl (.int, (List.replicate 128 0))), .inr (.inl (.int, (List.replicate 4 0)))])) rfl ?_
 refine zS Ad W 3 (st' := (152, [vR 1, vI x1, vI x2, vI x3, vI x4, none], [.ref 20, .ref 1], [.inr (.inl (.int, s)), .inl [.ref 2, .ref 3, .ref 4, .ref 5, .ref 6, .ref 7, .ref 8, .ref 9, .ref 10, .ref 11, .ref 12, .ref 13, .ref 14, .ref 15, .ref 16, .ref 17, .ref 18, .ref 19, .null, .int (f_win ob0), .int (f_back ob0), .int (f_repair ob0), .int (f_period ob0), .int (f_nextSeq ob0), .int (f_qLen ob0), .int (f_nakLen ob0)], .inr (.inl (.int, (List.replicate 32 0))), .inr (.inl (.boolean, (List.replicate 32 0))), .inr (.inl (.int, (List.replicate 64 0))), .inr (.inl (.int, (List.replicate 10 0))), .inr (.inl (.int, (List.replicate 128 0))), .inr (.inl (.int, (List.replicate 128 0))), .inr (.inl (.int, (List.replicate 128 0))), .inr (.inl (.int, (List.replicate 4 0))), .inr (.inl (.int, (List.replicate 4 0))), .inr (.inl (.int, (List.replicate 4 0))), .inr (.inl (.int, (List.replicate 4 0))), .inr (.inl (.int, (List.replicate 4 0))), .inr (.inl (.int, (List.replicate 4 0))), .inr (.inl (.int, (List.replicate 128 0))), .inr (.inl (.int, (List.replicate 128 0))), .inr (.inl (.int, (List.replicate 4 0))), .inr (.inl (.int, (List.replicate 128 0))), .inr (.inl (.int, (List.replicate 4 0))), .inr (.inl (.int, (List.replicate 128 0)))])) rfl ?_
 refine zS Ad W 1 (st' := (155, [vR 1, vI x1, vI x2, vI x3, vI x4, none], [], (H0x0 s ob0 (List.replicate 32 0) (List.replicate 32 0) (List.replicate 64 0) (List.replicate 10 0) (List.replicate 128 0) (List.replicate 128 0) (List.replicate 128 0) (List.replicate 4 0) (List.replicate 4 0) (List.replicate 4 0) (List.replicate 4 0) (List.replicate 4 0) (List.replicate 4 0) (List.replicate 128 0) (List.replicate 128 0) (List.replicate 4 0) (List.replicate 128 0) (List.replicate 4 0) (List.replicate 128 0)))) rfl ?_
 refine zS Ad W 5 (st' := (161, [vR 1, vI x1, vI x2, vI x3, vI x4, none], [.int (16:Int32), .int (2:Int32), .int x1, .ref 1, .ref 1], (H0x0 s ob0 (List.replicate 32 0) (List.replicate 32 0) (List.replicate 64 0) (List.replicate 10 0) (List.replicate 128 0) (List.replicate 128 0) (List.replicate 128 0) (List.replicate 4 0) (List.replicate 4 0) (List.replicate 4 0) (List.replicate 4 0) (List.replicate 4 0) (List.replicate 4 0) (List.replicate 128 0) (List.replicate 128 0) (List.replicate 4 0) (List.replicate 128 0) (List.replicate 4 0) (List.replicate 128 0)))) rfl ?_
 obtain ⟨r3, hr3, h⟩ := bind_eq_some_iff.mp h
 refine QTri.callP W (a := 1) (as := [.int x1, .int (2:Int32), .int (16:Int32)]) (rest := [.ref 1]) (w := (some (.int r3))) (σ₁ := (H0x0 s ob0 (List.replicate 32 0) (List.replicate 32 0) (List.replicate 64 0) (List.replicate 10 0) (List.replicate 128 0) (List.replicate 128 0) (List.replicate 128 0) (List.replicate 4 0) (List.replicate 4 0) (List.replicate 4 0) (List.replicate 4 0) (List.replicate 4 0) (List.replicate 4 0) (List.replicate 128 0) (List.replicate 128 0) (List.replicate 4 0) (List.replicate 128 0) (List.replicate 4 0) (List.replicate 128 0))) rfl rfl rfl rfl rfl rfl rfl rfl (tF2 Ad W x1 (2:Int32) (16:Int32) hr3) ?_
 refine zS Ad W 1 (st' := (167, [vR 1, vI x1, vI x2, vI x3, vI x4, none], [], (H0x1 s ob0 (List.replicate 32 0) (List.replicate 32 0) (List.replicate 64 0) (List.replicate 10 0) (List.replicate 128 0) (List.replicate 128 0) (List.replicate 128 0) (List.replicate 4 0) (List.replicate 4 0) (List.replicate 4 0) (List.replicate 4 0) (List.replicate 4 0) (List.replicate 4 0) (List.replicate 128 0) (List.replicate 128 0) (List.replicate 4 0) (List.replicate 128 0) (List.replicate 4 0) (List.replicate 128 0) r3))) rfl ?_
 refine zS Ad W 5 (st' := (173, [vR 1, vI x1, vI x2, vI x3, vI x4, none], [.int (8:Int32), .int (1:Int32), .int x2, .ref 1, .ref 1], (H0x1 s ob0 (List.replicate 32 0) (List.replicate 32 0) (List.replicate 64 0) (List.replicate 10 0) (List.replicate 128 0) (List.replicate 128 0) (List.replicate 128 0) (List.replicate 4 0) (List.replicate 4 0) (List.replicate 4 0) (List.replicate 4 0) (List.replicate 4 0) (List.replicate 4 0) (List.replicate 128 0) (List.replicate 128 0) (List.replicate 4 0) (List.replicate 128 0) (List.replicate 4 0) (List.replicate 128 0) r3))) rfl ?_
 obtain ⟨r4, hr4, h⟩ := bind_eq_some_iff.mp h
 refine QTri.callP W (a := 1) (as := [.int x2, .int (1:Int32), .int (8:Int32)]) (rest := [.ref 1]) (w := (some (.int r4))) (σ₁ := (H0x1 s ob0 (List.replicate 32 0) (List.replicate 32 0) (List.replicate 64 0) (List.replicate 10 0) (List.replicate 128 0) (List.replicate 128 0) (List.replicate 128 0) (List.replicate 4 0) (List.replicate 4 0) (List.replicate 4 0) (List.replicate 4 0) (List.replicate 4 0) (List.replicate 4 0) (List.replicate 128 0) (List.replicate 128 0) (List.replicate 4 0) (List.replicate 128 0) (List.replicate 4 0) (List.replicate 128 0) r3)) rfl rfl rfl rfl rfl rfl rfl rfl (tF2 Ad W x2 (1:Int32) (8:Int32) hr4) ?_
 refine zS Ad W 1 (st' := (179, [vR 1, vI x1, vI x2, vI x3, vI x4, none], [], (H0x2 s ob0 (List.replicate 32 0) (List.replicate 32 0) (List.replicate 64 0) (List.replicate 10 0) (List.replicate 128 0) (List.replicate 128 0) (List.replicate 128 0) (List.replicate 4 0) (List.replicate 4 0) (List.replicate 4 0) (List.replicate 4 0) (List.replicate 4 0) (List.replicate 4 0) (List.replicate 128 0) (List.replicate 128 0) (List.replicate 4 0) (List.replicate 128 0) (List.replicate 4 0) (List.replicate 128 0) r3 r4))) rfl ?_
 refine zS Ad W 5 (st' := (185, [vR 1, vI x1, vI x2, vI x3, vI x4, none], [.int (8:Int32), .int (1:Int32), .int x3, .ref 1, .ref 1], (H0x2 s ob0 (List.replicate 32 0) (List.replicate 32 0) (List.replicate 64 0) (List.replicate 10 0) (List.replicate 128 0) (List.replicate 128 0) (List.replicate 128 0) (List.replicate 4 0) (List.replicate 4 0) (List.replicate 4 0) (List.replicate 4 0) (List.replicate 4 0) (List.replicate 4 0) (List.replicate 128 0) (List.replicate 128 0) (List.replicate 4 0) (List.replicate 128 0) (List.replicate 4 0) (List.replicate 128 0) r3 r4))) rfl ?_
 obtain ⟨r5, hr5, h⟩ := bind_eq_some_iff.mp h
 refine QTri.callP W (a := 1) (as := [.int x3, .int (1:Int32), .int (8:Int32)]) (rest := [.ref 1]) (w := (some (.int r5))) (σ₁ := (H0x2 s ob0 (List.replicate 32 0) (List.replicate 32 0) (List.replicate 64 0) (List.replicate 10 0) (List.replicate 128 0) (List.replicate 128 0) (List.replicate 128 0) (List.replicate 4 0) (List.replicate 4 0) (List.replicate 4 0) (List.replicate 4 0) (List.replicate 4 0) (List.replicate 4 0) (List.replicate 128 0) (List.replicate 128 0) (List.replicate 4 0) (List.replicate 128 0) (List.replicate 4 0) (List.replicate 128 0) r3 r4)) rfl rfl rfl rfl rfl rfl rfl rfl (tF2 Ad W x3 (1:Int32) (8:Int32) hr5) ?_
 refine zS Ad W 1 (st' := (191, [vR 1, vI x1, vI x2, vI x3, vI x4, none], [], (H0x3 s ob0 (List.replicate 32 0) (List.replicate 32 0) (List.replicate 64 0) (List.replicate 10 0) (List.replicate 128 0) (List.replicate 128 0) (List.replicate 128 0) (List.replicate 4 0) (List.replicate 4 0) (List.replicate 4 0) (List.replicate 4 0) (List.replicate 4 0) (List.replicate 4 0) (List.replicate 128 0) (List.replicate 128 0) (List.replicate 4 0) (List.replicate 128 0) (List.replicate 4 0) (List.replicate 128 0) r3 r4 r5))) rfl ?_
 refine zS Ad W 5 (st' := (198, [vR 1, vI x1, vI x2, vI x3, vI x4, none], [.int (16:Int32), .int (0:Int32), .int x4, .ref 1, .ref 1], (H0x3 s ob0 (List.replicate 32 0) (List.replicate 32 0) (List.replicate 64 0) (List.replicate 10 0) (List.replicate 128 0) (List.replicate 128 0) (List.replicate 128 0) (List.replicate 4 0) (List.replicate 4 0) (List.replicate 4 0) (List.replicate 4 0) (List.replicate 4 0) (List.replicate 4 0) (List.replicate 128 0) (List.replicate 128 0) (List.replicate 4 0) (List.replicate 128 0) (List.replicate 4 0) (List.replicate 128 0) r3 r4 r5))) rfl ?_
 obtain ⟨r6, hr6, h⟩ := bind_eq_some_iff.mp h
 refine QTri.callP W (a := 1) (as := [.int x4, .int (0:Int32), .int (16:Int32)]) (rest := [.ref 1]) (w := (some (.int r6))) (σ₁ := (H0x3 s ob0 (List.replicate 32 0) (List.replicate 32 0) (List.replicate 64 0) (List.replicate 10 0) (List.replicate 128 0) (List.replicate 128 0) (List.replicate 128 0) (List.replicate 4 0) (List.replicate 4 0) (List.replicate 4 0) (List.replicate 4 0) (List.replicate 4 0) (List.replicate 4 0) (List.replicate 128 0) (List.replicate 128 0) (List.replicate 4 0) (List.replicate 128 0) (List.replicate 4 0) (List.replicate 128 0) r3 r4 r5)) rfl rfl rfl rfl rfl rfl rfl rfl (tF2 Ad W x4 (0:Int32) (16:Int32) hr6) ?_
 refine zS Ad W 1 (st' := (204, [vR 1, vI x1, vI x2, vI x3, vI x4, none], [], (H0x4 s ob0 (List.replicate 32 0) (List.replicate 32 0) (List.replicate 64 0) (List.replicate 10 0) (List.replicate 128 0) (List.replicate 128 0) (List.replicate 128 0) (List.replicate 4 0) (List.replicate 4 0) (List.replicate 4 0) (List.replicate 4 0) (List.replicate 4 0) (List.replicate 4 0) (List.replicate 128 0) (List.replicate 128 0) (List.replicate 4 0) (List.replicate 128 0) (List.replicate 4 0) (List.replicate 128 0) r3 r4 r5 r6))) rfl ?_
 refine zS Ad W 2 (st' := (207, [vR 1, vI x1, vI x2, vI x3, vI x4, vI (0:Int32)], [], (H0x4 s ob0 (List.replicate 32 0) (List.replicate 32 0) (List.replicate 64 0) (List.replicate 10 0) (List.replicate 128 0) (List.replicate 128 0) (List.replicate 128 0) (List.replicate 4 0) (List.replicate 4 0) (List.replicate 4 0) (List.replicate 4 0) (List.replicate 4 0) (List.replicate 4 0) (List.replicate 128 0) (List.replicate 128 0) (List.replicate 4 0) (List.replicate 128 0) (List.replicate 4 0) (List.replicate 128 0) r3 r4 r5 r6))) rfl ?_
 have E7 : ((H0x4 s ob0 (List.replicate 32 0) (List.replicate 32 0) (List.replicate 64 0) (List.replicate 10 0) (List.replicate 128 0) (List.replicate 128 0) (List.replicate 128 0) (List.replicate 4 0) (List.replicate 4 0) (List.replicate 4 0) (List.replicate 4 0) (List.replicate 4 0) (List.replicate 4 0) (List.replicate 128 0) (List.replicate 128 0) (List.replicate 4 0) (List.replicate 128 0) (List.replicate 4 0) (List.replicate 128 0) r3 r4 r5 r6) : QHeap) = (H0 s (s_period (s_repair (s_back (s_win (s_nakBuf (s_lostLen (s_lostLog (s_delLen (s_delVal (s_delSeq (s_drops (s_dups (s_lossLeft (s_rxTrail (s_rxLead (s_rxNext (s_rxVal (s_timer (s_state (s_stats (s_queue (s_pend (s_srcPayload ob0 (List.replicate 32 0)) (List.replicate 32 0)) (List.replicate 64 0)) (List.replicate 10 0)) (List.replicate 128 0)) (List.replicate 128 0)) (List.replicate 128 0)) (List.replicate 4 0)) (List.replicate 4 0)) (List.replicate 4 0)) (List.replicate 4 0)) (List.replicate 4 0)) (List.replicate 4 0)) (List.replicate 128 0)) (List.replicate 128 0)) (List.replicate 4 0)) (List.replicate 128 0)) (List.replicate 4 0)) (List.replicate 128 0)) r3) r4) r5) r6)) := by simp only [fs, H0, H0v, H0x4, s_srcPayload, s_pend, s_queue, s_stats, s_state, s_timer, s_rxVal, s_rxNext, s_rxLead, s_rxTrail, s_lossLeft, s_dups, s_drops, s_delSeq, s_delVal, s_delLen, s_lostLog, s_lostLen, s_nakBuf, s_win, s_back, s_repair, s_period, ob0]
 rw [E7]
 obtain ⟨e11, he11, h⟩ := bind_eq_some_iff.mp h
 refine zM [tt,ff,ff,ff,ff,tt] (loopN_tri (B := B1_207) (T := fun lv12 => QTri l Z n0 ad 1 (207, [vR 1, none, none, none, none, vI lv12.1], [], (H0 s lv12.2)) (none : Option Value) (H0 s r)) (KE := fun e11a => (none : Option Value) = (none : Option Value) ∧ (H0 s r) = (H0 s e11a)) (fun lv12 r hB hE hC => tB1_207 Ad W s lv12 hB (fun x q => hE _ q) (fun x q => hC x q)) qN ((0:Int32), (s_period (s_repair (s_back (s_win (s_nakBuf (s_lostLen (s_lostLog (s_delLen (s_delVal (s_delSeq (s_drops (s_dups (s_lossLeft (s_rxTrail (s_rxLead (s_rxNext (s_rxVal (s_timer (s_state (s_stats (s_queue (s_pend (s_srcPayload ob0 (List.replicate 32 0)) (List.replicate 32 0)) (List.replicate 64 0)) (List.replicate 10 0)) (List.replicate 128 0)) (List.replicate 128 0)) (List.replicate 128 0)) (List.replicate 4 0)) (List.replicate 4 0)) (List.replicate 4 0)) (List.replicate 4 0)) (List.replicate 4 0)) (List.replicate 4 0)) (List.replicate 128 0)) (List.replicate 128 0)) (List.replicate 4 0)) (List.replicate 128 0)) (List.replicate 4 0)) (List.replicate 128 0)) r3) r4) r5) r6)) e11 he11 ?_)
 obtain rfl := Option.some.inj h
 exact ⟨rfl, rfl⟩
def H1 (s : List Int32) (o0 o1 : Ob) : QHeap := [.inr (.inl (.int, s)), .inl [.ref 2, .ref 3, .ref 4, .ref 5, .ref 6, .ref 7, .ref 8, .ref 9, .ref 10, .ref 11, .ref 12, .ref 13, .ref 14, .ref 15, .ref 16, .ref 17, .ref 18, .ref 19, .ref 20, .int (f_win o0), .int (f_back o0), .int (f_repair o0), .int (f_period o0), .int (f_nextSeq o0), .int (f_qLen o0), .int (f_nakLen o0)], .inr (.inl (.int, (f_srcPayload o0))), .inr (.inl (.boolean, (f_pend o0))), .inr (.inl (.int, (f_queue o0))), .inr (.inl (.int, (f_stats o0))), .inr (.inl (.int, (f_state o0))), .inr (.inl (.int, (f_timer o0))), .inr (.inl (.int, (f_rxVal o0))), .inr (.inl (.int, (f_rxNext o0))), .inr (.inl (.int, (f_rxLead o0))), .inr (.inl (.int, (f_rxTrail o0))), .inr (.inl (.int, (f_lossLeft o0))), .inr (.inl (.int, (f_dups o0))), .inr (.inl (.int, (f_drops o0))), .inr (.inl (.int, (f_delSeq o0))), .inr (.inl (.int, (f_delVal o0))), .inr (.inl (.int, (f_delLen o0))), .inr (.inl (.int, (f_lostLog o0))), .inr (.inl (.int, (f_lostLen o0))), .inr (.inl (.int, (f_nakBuf o0))), .inl [.ref 22, .ref 23, .ref 24, .ref 25, .ref 26, .ref 27, .ref 28, .ref 29, .ref 30, .ref 31, .ref 32, .ref 33, .ref 34, .ref 35, .ref 36, .ref 37, .ref 38, .ref 39, .ref 40, .int (f_win o1), .int (f_back o1), .int (f_repair o1), .int (f_period o1), .int (f_nextSeq o1), .int (f_qLen o1), .int (f_nakLen o1)], .inr (.inl (.int, (f_srcPayload o1))), .inr (.inl (.boolean, (f_pend o1))), .inr (.inl (.int, (f_queue o1))), .inr (.inl (.int, (f_stats o1))), .inr (.inl (.int, (f_state o1))), .inr (.inl (.int, (f_timer o1))), .inr (.inl (.int, (f_rxVal o1))), .inr (.inl (.int, (f_rxNext o1))), .inr (.inl (.int, (f_rxLead o1))), .inr (.inl (.int, (f_rxTrail o1))), .inr (.inl (.int, (f_lossLeft o1))), .inr (.inl (.int, (f_dups o1))), .inr (.inl (.int, (f_drops o1))), .inr (.inl (.int, (f_delSeq o1))), .inr (.inl (.int, (f_delVal o1))), .inr (.inl (.int, (f_delLen o1))), .inr (.inl (.int, (f_lostLog o1))), .inr (.inl (.int, (f_lostLen o1))), .inr (.inl (.int, (f_nakBuf o1)))]
def H1v (s : List Int32) (a0_0 : List Int32) (a0_1 : List Int32) (a0_2 : List Int32) (a0_3 : List Int32) (a0_4 : List Int32) (a0_5 : List Int32) (a0_6 : List Int32) (a0_7 : List Int32) (a0_8 : List Int32) (a0_9 : List Int32) (a0_10 : List Int32) (a0_11 : List Int32) (a0_12 : List Int32) (a0_13 : List Int32) (a0_14 : List Int32) (a0_15 : List Int32) (a0_16 : List Int32) (a0_17 : List Int32) (a0_18 : List Int32) (a0_19 : Int32) (a0_20 : Int32) (a0_21 : Int32) (a0_22 : Int32) (a0_23 : Int32) (a0_24 : Int32) (a0_25 : Int32) (a1_0 : List Int32) (a1_1 : List Int32) (a1_2 : List Int32) (a1_3 : List Int32) (a1_4 : List Int32) (a1_5 : List Int32) (a1_6 : List Int32) (a1_7 : List Int32) (a1_8 : List Int32) (a1_9 : List Int32) (a1_10 : List Int32) (a1_11 : List Int32) (a1_12 : List Int32) (a1_13 : List Int32) (a1_14 : List Int32) (a1_15 : List Int32) (a1_16 : List Int32) (a1_17 : List Int32) (a1_18 : List Int32) (a1_19 : Int32) (a1_20 : Int32) (a1_21 : Int32) (a1_22 : Int32) (a1_23 : Int32) (a1_24 : Int32) (a1_25 : Int32) : QHeap := [.inr (.inl (.int, s)), .inl [.ref 2, .ref 3, .ref 4, .ref 5, .ref 6, .ref 7, .ref 8, .ref 9, .ref 10, .ref 11, .ref 12, .ref 13, .ref 14, .ref 15, .ref 16, .ref 17, .ref 18, .ref 19, .ref 20, .int a0_19, .int a0_20, .int a0_21, .int a0_22, .int a0_23, .int a0_24, .int a0_25], .inr (.inl (.int, a0_0)), .inr (.inl (.boolean, a0_1)), .inr (.inl (.int, a0_2)), .inr (.inl (.int, a0_3)), .inr (.inl (.int, a0_4)), .inr (.inl (.int, a0_5)), .inr (.inl (.int, a0_6)), .inr (.inl (.int, a0_7)), .inr (.inl (.int, a0_8)), .inr (.inl (.int, a0_9)), .inr (.inl (.int, a0_10)), .inr (.inl (.int, a0_11)), .inr (.inl (.int, a0_12)), .inr (.inl (.int, a0_13)), .inr (.inl (.int, a0_14)), .inr (.inl (.int, a0_15)), .inr (.inl (.int, a0_16)), .inr (.inl (.int, a0_17)), .inr (.inl (.int, a0_18)), .inl [.ref 22, .ref 23, .ref 24, .ref 25, .ref 26, .ref 27, .ref 28, .ref 29, .ref 30, .ref 31, .ref 32, .ref 33, .ref 34, .ref 35, .ref 36, .ref 37, .ref 38, .ref 39, .ref 40, .int a1_19, .int a1_20, .int a1_21, .int a1_22, .int a1_23, .int a1_24, .int a1_25], .inr (.inl (.int, a1_0)), .inr (.inl (.boolean, a1_1)), .inr (.inl (.int, a1_2)), .inr (.inl (.int, a1_3)), .inr (.inl (.int, a1_4)), .inr (.inl (.int, a1_5)), .inr (.inl (.int, a1_6)), .inr (.inl (.int, a1_7)), .inr (.inl (.int, a1_8)), .inr (.inl (.int, a1_9)), .inr (.inl (.int, a1_10)), .inr (.inl (.int, a1_11)), .inr (.inl (.int, a1_12)), .inr (.inl (.int, a1_13)), .inr (.inl (.int, a1_14)), .inr (.inl (.int, a1_15)), .inr (.inl (.int, a1_16)), .inr (.inl (.int, a1_17)), .inr (.inl (.int, a1_18))]
def H1x6 (s : List Int32) (o0 o1 : Ob) (a1_0 : List Int32) (a1_1 : List Int32) (a1_2 : List Int32) (a1_3 : List Int32) (a1_4 : List Int32) (a1_5 : List Int32) (a1_6 : List Int32) (a1_7 : List Int32) (a1_8 : List Int32) (a1_9 : List Int32) (a1_10 : List Int32) (a1_11 : List Int32) (a1_12 : List Int32) (a1_13 : List Int32) (a1_14 : List Int32) (a1_15 : List Int32) (a1_16 : List Int32) (a1_17 : List Int32) (a1_18 : List Int32) : QHeap := H1v s (f_srcPayload o0) (f_pend o0) (f_queue o0) (f_stats o0) (f_state o0) (f_timer o0) (f_rxVal o0) (f_rxNext o0) (f_rxLead o0) (f_rxTrail o0) (f_lossLeft o0) (f_dups o0) (f_drops o0) (f_delSeq o0) (f_delVal o0) (f_delLen o0) (f_lostLog o0) (f_lostLen o0) (f_nakBuf o0) (f_win o0) (f_back o0) (f_repair o0) (f_period o0) (f_nextSeq o0) (f_qLen o0) (f_nakLen o0) a1_0 a1_1 a1_2 a1_3 a1_4 a1_5 a1_6 a1_7 a1_8 a1_9 a1_10 a1_11 a1_12 a1_13 a1_14 a1_15 a1_16 a1_17 a1_18 (f_win o1) (f_back o1) (f_repair o1) (f_period o1) (f_nextSeq o1) (f_qLen o1) (f_nakLen o1)
def H1x7 (s : List Int32) (o0 o1 : Ob) (a1_0 : List Int32) (a1_1 : List Int32) (a1_2 : List Int32) (a1_3 : List Int32) (a1_4 : List Int32) (a1_5 : List Int32) (a1_6 : List Int32) (a1_7 : List Int32) (a1_8 : List Int32) (a1_9 : List Int32) (a1_10 : List Int32) (a1_11 : List Int32) (a1_12 : List Int32) (a1_13 : List Int32) (a1_14 : List Int32) (a1_15 : List Int32) (a1_16 : List Int32) (a1_17 : List Int32) (a1_18 : List Int32) (a1_19 : Int32) : QHeap := H1v s (f_srcPayload o0) (f_pend o0) (f_queue o0) (f_stats o0) (f_state o0) (f_timer o0) (f_rxVal o0) (f_rxNext o0) (f_rxLead o0) (f_rxTrail o0) (f_lossLeft o0) (f_dups o0) (f_drops o0) (f_delSeq o0) (f_delVal o0) (f_delLen o0) (f_lostLog o0) (f_lostLen o0) (f_nakBuf o0) (f_win o0) (f_back o0) (f_repair o0) (f_period o0) (f_nextSeq o0) (f_qLen o0) (f_nakLen o0) a1_0 a1_1 a1_2 a1_3 a1_4 a1_5 a1_6 a1_7 a1_8 a1_9 a1_10 a1_11 a1_12 a1_13 a1_14 a1_15 a1_16 a1_17 a1_18 a1_19 (f_back o1) (f_repair o1) (f_period o1) (f_nextSeq o1) (f_qLen o1) (f_nakLen o1)
def H1x8 (s : List Int32) (o0 o1 : Ob) (a1_0 : List Int32) (a1_1 : List Int32) (a1_2 : List Int32) (a1_3 : List Int32) (a1_4 : List Int32) (a1_5 : List Int32) (a1_6 : List Int32) (a1_7 : List Int32) (a1_8 : List Int32) (a1_9 : List Int32) (a1_10 : List Int32) (a1_11 : List Int32) (a1_12 : List Int32) (a1_13 : List Int32) (a1_14 : List Int32) (a1_15 : List Int32) (a1_16 : List Int32) (a1_17 : List Int32) (a1_18 : List Int32) (a1_19 : Int32) (a1_20 : Int32) : QHeap := H1v s (f_srcPayload o0) (f_pend o0) (f_queue o0) (f_stats o0) (f_state o0) (f_timer o0) (f_rxVal o0) (f_rxNext o0) (f_rxLead o0) (f_rxTrail o0) (f_lossLeft o0) (f_dups o0) (f_drops o0) (f_delSeq o0) (f_delVal o0) (f_delLen o0) (f_lostLog o0) (f_lostLen o0) (f_nakBuf o0) (f_win o0) (f_back o0) (f_repair o0) (f_period o0) (f_nextSeq o0) (f_qLen o0) (f_nakLen o0) a1_0 a1_1 a1_2 a1_3 a1_4 a1_5 a1_6 a1_7 a1_8 a1_9 a1_10 a1_11 a1_12 a1_13 a1_14 a1_15 a1_16 a1_17 a1_18 a1_19 a1_20 (f_repair o1) (f_period o1) (f_nextSeq o1) (f_qLen o1) (f_nakLen o1)
def H1x9 (s : List Int32) (o0 o1 : Ob) (a1_0 : List Int32) (a1_1 : List Int32) (a1_2 : List Int32) (a1_3 : List Int32) (a1_4 : List Int32) (a1_5 : List Int32) (a1_6 : List Int32) (a1_7 : List Int32) (a1_8 : List Int32) (a1_9 : List Int32) (a1_10 : List Int32) (a1_11 : List Int32) (a1_12 : List Int32) (a1_13 : List Int32) (a1_14 : List Int32) (a1_15 : List Int32) (a1_16 : List Int32) (a1_17 : List Int32) (a1_18 : List Int32) (a1_19 : Int32) (a1_20 : Int32) (a1_21 : Int32) : QHeap := H1v s (f_srcPayload o0) (f_pend o0) (f_queue o0) (f_stats o0) (f_state o0) (f_timer o0) (f_rxVal o0) (f_rxNext o0) (f_rxLead o0) (f_rxTrail o0) (f_lossLeft o0) (f_dups o0) (f_drops o0) (f_delSeq o0) (f_delVal o0) (f_delLen o0) (f_lostLog o0) (f_lostLen o0) (f_nakBuf o0) (f_win o0) (f_back o0) (f_repair o0) (f_period o0) (f_nextSeq o0) (f_qLen o0) (f_nakLen o0) a1_0 a1_1 a1_2 a1_3 a1_4 a1_5 a1_6 a1_7 a1_8 a1_9 a1_10 a1_11 a1_12 a1_13 a1_14 a1_15 a1_16 a1_17 a1_18 a1_19 a1_20 a1_21 (f_period o1) (f_nextSeq o1) (f_qLen o1) (f_nakLen o1)
def H1x10 (s : List Int32) (o0 o1 : Ob) (a1_0 : List Int32) (a1_1 : List Int32) (a1_2 : List Int32) (a1_3 : List Int32) (a1_4 : List Int32) (a1_5 : List Int32) (a1_6 : List Int32) (a1_7 : List Int32) (a1_8 : List Int32) (a1_9 : List Int32) (a1_10 : List Int32) (a1_11 : List Int32) (a1_12 : List Int32) (a1_13 : List Int32) (a1_14 : List Int32) (a1_15 : List Int32) (a1_16 : List Int32) (a1_17 : List Int32) (a1_18 : List Int32) (a1_19 : Int32) (a1_20 : Int32) (a1_21 : Int32) (a1_22 : Int32) : QHeap := H1v s (f_srcPayload o0) (f_pend o0) (f_queue o0) (f_stats o0) (f_state o0) (f_timer o0) (f_rxVal o0) (f_rxNext o0) (f_rxLead o0) (f_rxTrail o0) (f_lossLeft o0) (f_dups o0) (f_drops o0) (f_delSeq o0) (f_delVal o0) (f_delLen o0) (f_lostLog o0) (f_lostLen o0) (f_nakBuf o0) (f_win o0) (f_back o0) (f_repair o0) (f_period o0) (f_nextSeq o0) (f_qLen o0) (f_nakLen o0) a1_0 a1_1 a1_2 a1_3 a1_4 a1_5 a1_6 a1_7 a1_8 a1_9 a1_10 a1_11 a1_12 a1_13 a1_14 a1_15 a1_16 a1_17 a1_18 a1_19 a1_20 a1_21 a1_22 (f_nextSeq o1) (f_qLen o1) (f_nakLen o1)
def H1x11 (s : List Int32) (o0 o1 : Ob) (a1_8 : List Int32) : QHeap := H1v s (f_srcPayload o0) (f_pend o0) (f_queue o0) (f_stats o0) (f_state o0) (f_timer o0) (f_rxVal o0) (f_rxNext o0) (f_rxLead o0) (f_rxTrail o0) (f_lossLeft o0) (f_dups o0) (f_drops o0) (f_delSeq o0) (f_delVal o0) (f_delLen o0) (f_lostLog o0) (f_lostLen o0) (f_nakBuf o0) (f_win o0) (f_back o0) (f_repair o0) (f_period o0) (f_nextSeq o0) (f_qLen o0) (f_nakLen o0) (f_srcPayload o1) (f_pend o1) (f_queue o1) (f_stats o1) (f_state o1) (f_timer o1) (f_rxVal o1) (f_rxNext o1) a1_8 (f_rxTrail o1) (f_lossLeft o1) (f_dups o1) (f_drops o1) (f_delSeq o1) (f_delVal o1) (f_delLen o1) (f_lostLog o1) (f_lostLen o1) (f_nakBuf o1) (f_win o1) (f_back o1) (f_repair o1) (f_period o1) (f_nextSeq o1) (f_qLen o1) (f_nakLen o1)
theorem tB1_207a1 (Ad : QAd n0 ad) (W : QW Z a0) (s : List Int32) (e0 : Ob) (v : Int32 × Ob) {r : ((Ob)) ⊕ (Int32 × Ob)} {u : Option Value} {τ : QHeap} (h : B1_207 v = some r) (hx0 : ∀ x : Ob, r = .inl x → u = (none : Option Value) ∧ τ = (H1 s e0 x)) (hc : ∀ x : Int32 × Ob, r = .inr x → QTri l Z n0 ad 1 (207, [vR 21, none, none, none, none, vI x.1], [], (H1 s e0 x.2)) u τ) : QTri l Z n0 ad 1 (207, [vR 21, none, none, none, none, vI v.1], [], (H1 s e0 v.2)) u τ := by
 unfold B1_207 at h
 refine zS Ad W 2 (st' := (210, [vR 21, none, none, none, none, vI v.1], [.int (4:Int32), .int v.1], (H1 s e0 v.2))) rfl ?_
 rcases qite h with ⟨hc19, h⟩ | ⟨hc19, h⟩
 ·refine zF Ad W (t := 227) (f := 213) rfl (XT.ii_ge_f hc19) ?_
  refine zS Ad W 4 (st' := (220, [vR 21, none, none, none, none, vI v.1], [.int (-1:Int32), .int v.1, .ref 30], (H1 s e0 v.2))) rfl ?_
  obtain ⟨y20, hy20, h⟩ := bind_eq_some_iff.mp h
  refine zB Ad W (f := fun y20 => (221, [vR 21, none, none, none, none, vI v.1], [], (H1x11 s e0 v.2 y20))) rfl hy20 ?_
  refine zS Ad W 2 (st' := (207, [vR 21, none, none, none, none, vI (v.1 + (1:Int32))], [], (H1x11 s e0 v.2 y20))) rfl ?_
  have E21 : ((H1x11 s e0 v.2 y20) : QHeap) = (H1 s e0 (s_rxLead v.2 y20)) := by simp only [fs, H1, H1v, H1x11, s_rxLead]
  rw [E21]
  obtain rfl := Option.some.inj h
  exact zM [tt,ff,ff,ff,ff,tt] (hc ((v.1 + (1:Int32)), (s_rxLead v.2 y20)) rfl)
 ·refine zT Ad W (t := 227) (f := 213) rfl (XT.ii_ge_t hc19) ?_
  obtain rfl := Option.some.inj h
  obtain ⟨rfl, rfl⟩ := hx0 v.2 rfl
  exact QTri.ret0 rfl rfl
theorem tF1a1 (Ad : QAd n0 ad) (W : QW Z a0) (s : List Int32) (e0 : Ob) (x1 : Int32) (x2 : Int32) (x3 : Int32) (x4 : Int32) {r : Ob} (h : F1 x1 x2 x3 x4 = some r) : QTri l Z n0 ad 1 (0, qentry [.ref 21, .int x1, .int x2, .int x3, .int x4] (pMaxL 1), [], [.inr (.inl (.int, s)), .inl [.ref 2, .ref 3, .ref 4, .ref 5, .ref 6, .ref 7, .ref 8, .ref 9, .ref 10, .ref 11, .ref 12, .ref 13, .ref 14, .ref 15, .ref 16, .ref 17, .ref 18, .ref 19, .ref 20, .int (f_win e0), .int (f_back e0), .int (f_repair e0), .int (f_period e0), .int (f_nextSeq e0), .int (f_qLen e0), .int (f_nakLen e0)], .inr (.inl (.int, (f_srcPayload e0))), .inr (.inl (.boolean, (f_pend e0))), .inr (.inl (.int, (f_queue e0))), .inr (.inl (.int, (f_stats e0))), .inr (.inl (.int, (f_state e0))), .inr (.inl (.int, (f_timer e0))), .inr (.inl (.int, (f_rxVal e0))), .inr (.inl (.int, (f_rxNext e0))), .inr (.inl (.int, (f_rxLead e0))), .inr (.inl (.int, (f_rxTrail e0))), .inr (.inl (.int, (f_lossLeft e0))), .inr (.inl (.int, (f_dups e0))), .inr (.inl (.int, (f_drops e0))), .inr (.inl (.int, (f_delSeq e0))), .inr (.inl (.int, (f_delVal e0))), .inr (.inl (.int, (f_delLen e0))), .inr (.inl (.int, (f_lostLog e0))), .inr (.inl (.int, (f_lostLen e0))), .inr (.inl (.int, (f_nakBuf e0))), .inl [.null, .null, .null, .null, .null, .null, .null, .null, .null, .null, .null, .null, .null, .null, .null, .null, .null, .null, .null, .int (f_win ob0), .int (f_back ob0), .int (f_repair ob0), .int (f_period ob0), .int (f_nextSeq ob0), .int (f_qLen ob0), .int (f_nakLen ob0)]]) (none : Option Value) (H1 s e0 r) := by
 unfold F1 at h
 refine zS Ad W 1 (st' := (1, [vR 21, vI x1, vI x2, vI x3, vI x4, none], [.ref 21], [.inr (.inl (.int, s)), .inl [.ref 2, .ref 3, .ref 4, .ref 5, .ref 6, .ref 7, .ref 8, .ref 9, .ref 10, .ref 11, .ref 12, .ref 13, .ref 14, .ref 15, .ref 16, .ref 17, .ref 18, .ref 19, .ref 20, .int (f_win e0), .int (f_back e0), .int (f_repair e0), .int (f_period e0), .int (f_nextSeq e0), .int (f_qLen e0), .int (f_nakLen e0)], .inr (.inl (.int, (f_srcPayload e0))), .inr (.inl (.boolean, (f_pend e0))), .inr (.inl (.int, (f_queue e0))), .inr (.inl (.int, (f_stats e0))), .inr (.inl (.int, (f_state e0))), .inr (.inl (.int, (f_timer e0))), .inr (.inl (.int, (f_rxVal e0))), .inr (.inl (.int, (f_rxNext e0))), .inr (.inl (.int, (f_rxLead e0))), .inr (.inl (.int, (f_rxTrail e0))), .inr (.inl (.int, (f_lossLeft e0))), .inr (.inl (.int, (f_dups e0))), .inr (.inl (.int, (f_drops e0))), .inr (.inl (.int, (f_delSeq e0))), .inr (.inl (.int, (f_delVal e0))), .inr (.inl (.int, (f_delLen e0))), .inr (.inl (.int, (f_lostLog e0))), .inr (.inl (.int, (f_lostLen e0))), .inr (.inl (.int, (f_nakBuf e0))), .inl [.null, .null, .null, .null, .null, .null, .null, .null, .null, .null, .null, .null, .null, .null, .null, .null, .null, .null, .null, .int (f_win ob0), .int (f_back ob0), .int (f_repair ob0), .int (f_period ob0), .int (f_nextSeq ob0), .int (f_qLen ob0), .int (f_nakLen ob0)]])) rfl ?_
 refine QTri.callO W rfl rfl rfl ?_
 refine zS Ad W 3 (st' := (9, [vR 21, vI x1, vI x2, vI x3, vI x4, none], [.ref 22, .ref 21], [.inr (.inl (.int, s)), .inl [.ref 2, .ref 3, .ref 4, .ref 5, .ref 6, .ref 7, .ref 8, .ref 9, .ref 10, .ref 11, .ref 12, .ref 13, .ref 14, .ref 15, .ref 16, .ref 17, .ref 18, .ref 19, .ref 20, .int (f_win e0), .int (f_back e0), .int (f_repair e0), .int (f_period e0), .int (f_nextSeq e0), .int (f_qLen e0), .int (f_nakLen e0)], .inr (.inl (.int, (f_srcPayload e0))), .inr (.inl (.boolean, (f_pend e0))), .inr (.inl (.int, (f_queue e0))), .inr (.inl (.int, (f_stats e0))), .inr (.inl (.int, (f_state e0))), .inr (.inl (.int, (f_timer e0))), .inr (.inl (.int, (f_rxVal e0))), .inr (.inl (.int, (f_rxNext e0))), .inr (.inl (.int, (f_rxLead e0))), .inr (.inl (.int, (f_rxTrail e0))), .inr (.inl (.int, (f_lossLeft e0))), .inr (.inl (.int, (f_dups e0))), .inr (.inl (.int, (f_drops e0))), .inr (.inl (.int, (f_delSeq e0))), .inr (.inl (.int, (f_delVal e0))), .inr (.inl (.int, (f_delLen e0))), .inr (.inl (.int, (f_lostLog e0))), .inr (.inl (.int, (f_lostLen e0))), .inr (.inl (.int, (f_nakBuf e0))), .inl [.null, .null, .null, .null, .null, .null, .null, .null, .null, .null, .null, .null, .null, .null, .null, .null, .null, .null, .null, .int (f_win ob0), .int (f_back ob0), .int (f_repair ob0), .int (f_period ob0), .int (f_nextSeq ob0), .int (f_qLen ob0), .int (f_nakLen ob0)], .inr (.inl (.int, (List.replicate 32 0)))])) rfl ?_
 refine zS Ad W 1 (st' := (12, [vR 21, vI x1, vI x2, vI x3, vI x4, none], [], [.inr (.inl (.int, s)), .inl [.ref 2, .ref 3, .ref 4, .ref 5, .ref 6, .ref 7, .ref 8, .ref 9, .ref 10, .ref 11, .ref 12, .ref 13, .ref 14, .ref 15, .ref 16, .ref 17, .ref 18, .ref 19, .ref 20, .int (f_win e0), .int (f_back e0), .int (f_repair e0), .int (f_period e0), .int (f_nextSeq e0), .int (f_qLen e0), .int (f_nakLen e0)], .inr (.inl (.int, (f_srcPayload e0))), .inr (.inl (.boolean, (f_pend e0))), .inr (.inl (.int, (f_queue e0))), .inr (.inl (.int, (f_stats e0))), .inr (.inl (.int, (f_state e0))), .inr (.inl (.int, (f_timer e0))), .inr (.inl (.int, (f_rxVal e0))), .inr (.inl (.int, (f_rxNext e0))), .inr (.inl (.int, (f_rxLead e0))), .inr (.inl (.int, (f_rxTrail e0))), .inr (.inl (.int, (f_lossLeft e0))), .inr (.inl (.int, (f_dups e0))), .inr (.inl (.int, (f_drops e0))), .inr (.inl (.int, (f_delSeq e0))), .inr (.inl (.int, (f_delVal e0))), .inr (.inl (.int, (f_delLen e0))), .inr (.inl (.int, (f_lostLog e0))), .inr (.inl (.int, (f_lostLen e0))), .inr (.inl (.int, (f_nakBuf e0))), .inl [.ref 22, .null, .null, .null, .null, .null, .null, .null, .null, .null, .null, .null, .null, .null, .null, .null, .null, .null, .null, .int (f_win ob0), .int (f_back ob0), .int (f_repair ob0), .int (f_period ob0), .int (f_nextSeq ob0), .int (f_qLen ob0), .int (f_nakLen ob0)], .inr (.inl (.int, (List.replicate 32 0)))])) rfl ?_
 refine zS Ad W 3 (st' := (17, [vR 21, vI x1, vI x2, vI x3, vI x4, none], [.ref 23, .ref 21], [.inr (.inl (.int, s)), .inl [.ref 2, .ref 3, .ref 4, .ref 5, .ref 6, .ref 7, .ref 8, .ref 9, .ref 10, .ref 11, .ref 12, .ref 13, .ref 14, .ref 15, .ref 16, .ref 17, .ref 18, .ref 19, .ref 20, .int (f_win e0), .int (f_back e0), .int (f_repair e0), .int (f_period e0), .int (f_nextSeq e0), .int (f_qLen e0), .int (f_nakLen e0)], .inr (.inl (.int, (f_srcPayload e0))), .inr (.inl (.boolean, (f_pend e0))), .inr (.inl (.int, (f_queue e0))), .inr (.inl (.int, (f_stats e0))), .inr (.inl (.int, (f_state e0))), .inr (.inl (.int, (f_timer e0))), .inr (.inl (.int, (f_rxVal e0))), .inr (.inl (.int, (f_rxNext e0))), .inr (.inl (.int, (f_rxLead e0))), .inr (.inl (.int, (f_rxTrail e0))), .inr (.inl (.int, (f_lossLeft e0))), .inr (.inl (.int, (f_dups e0))), .inr (.inl (.int, (f_drops e0))), .inr (.inl (.int, (f_delSeq e0))), .inr (.inl (.int, (f_delVal e0))), .inr (.inl (.int, (f_delLen e0))), .inr (.inl (.int, (f_lostLog e0))), .inr (.inl (.int, (f_lostLen e0))), .inr (.inl (.int, (f_nakBuf e0))), .inl [.ref 22, .null, .null, .null, .null, .null, .null, .null, .null, .null, .null, .null, .null, .null, .null, .null, .null, .null, .null, .int (f_win ob0), .int (f_back ob0), .int (f_repair ob0), .int (f_period ob0), .int (f_nextSeq ob0), .int (f_qLen ob0), .int (f_nakLen ob0)], .inr (.inl (.int, (List.replicate 32 0))), .inr (.inl (.boolean, (List.replicate 32 0)))])) rfl ?_
 refine zS Ad W 1 (st' := (20, [vR 21, vI x1, vI x2, vI x3, vI x4, none], [], [.inr (.inl (.int, s)), .inl [.ref 2, .ref 3, .ref 4, .ref 5, .ref 6, .ref 7, .ref 8, .ref 9, .ref 10, .ref 11, .ref 12, .ref 13, .ref 14, .ref 15, .ref 16, .ref 17, .ref 18, .ref 19, .ref 20, .int (f_win e0), .int (f_back e0), .int (f_repair e0), .int (f_period e0), .int (f_nextSeq e0), .int (f_qLen e0), .int (f_nakLen e0)], .inr (.inl (.int, (f_srcPayload e0))), .inr (.inl (.boolean, (f_pend e0))), .inr (.inl (.int, (f_queue e0))), .inr (.inl (.int, (f_stats e0))), .inr (.inl (.int, (f_state e0))), .inr (.inl (.int, (f_timer e0))), .inr (.inl (.int, (f_rxVal e0))), .inr (.inl (.int, (f_rxNext e0))), .inr (.inl (.int, (f_rxLead e0))), .inr (.inl (.int, (f_rxTrail e0))), .inr (.inl (.int, (f_lossLeft e0))), .inr (.inl (.int, (f_dups e0))), .inr (.inl (.int, (f_drops e0))), .inr (.inl (.int, (f_delSeq e0))), .inr (.inl (.int, (f_delVal e0))), .inr (.inl (.int, (f_delLen e0))), .inr (.inl (.int, (f_lostLog e0))), .inr (.inl (.int, (f_lostLen e0))), .inr (.inl (.int, (f_nakBuf e0))), .inl [.ref 22, .ref 23, .null, .null, .null, .null, .null, .null, .null, .null, .null, .null, .null, .null, .null, .null, .null, .null, .null, .int (f_win ob0), .int (f_back ob0), .int (f_repair ob0), .int (f_period ob0), .int (f_nextSeq ob0), .int (f_qLen ob0), .int (f_nakLen ob0)], .inr (.inl (.int, (List.replicate 32 0))), .inr (.inl (.boolean, (List.replicate 32 0)))])) rfl ?_
 refine zS Ad W 3 (st' := (25, [vR 21, vI x1, vI x2, vI x3, vI x4, none], [.ref 24, .ref 21], [.inr (.inl (.int, s)), .inl [.ref 2, .ref 3, .ref 4, .ref 5, .ref 6, .ref 7, .ref 8, .ref 9, .ref 10, .ref 11, .ref 12, .ref 13, .ref 14, .ref 15, .ref 16, .ref 17, .ref 18, .ref 19, .ref 20, .int (f_win e0), .int (f_back e0), .int (f_repair e0), .int (f_period e0), .int (f_nextSeq e0), .int (f_qLen e0), .int (f_nakLen e0)], .inr (.inl (.int, (f_srcPayload e0))), .inr (.inl (.boolean, (f_pend e0))), .inr (.inl (.int, (f_queue e0))), .inr (.inl (.int, (f_stats e0))), .inr (.inl (.int, (f_state e0))), .inr (.inl (.int, (f_timer e0))), .inr (.inl (.int, (f_rxVal e0))), .inr (.inl (.int, (f_rxNext e0))), .inr (.inl (.int, (f_rxLead e0))), .inr (.inl (.int, (f_rxTrail e0))), .inr (.inl (.int, (f_lossLeft e0))), .inr (.inl (.int, (f_dups e0))), .inr (.inl (.int, (f_drops e0))), .inr (.inl (.int, (f_delSeq e0))), .inr (.inl (.int, (f_delVal e0))), .inr (.inl (.int, (f_delLen e0))), .inr (.inl (.int, (f_lostLog e0))), .inr (.inl (.int, (f_lostLen e0))), .inr (.inl (.int, (f_nakBuf e0))), .inl [.ref 22, .ref 23, .null, .null, .null, .null, .null, .null, .null, .null, .null, .null, .null, .null, .null, .null, .null, .null, .null, .int (f_win ob0), .int (f_back ob0), .int (f_repair ob0), .int (f_period ob0), .int (f_nextSeq ob0), .int (f_qLen ob0), .int (f_nakLen ob0)], .inr (.inl (.int, (List.replicate 32 0))), .inr (.inl (.boolean, (List.replicate 32 0))), .inr (.inl (.int, (List.replicate 64 0)))])) rfl ?_
 refine zS Ad W 1 (st' := (28, [vR 21, vI x1, vI x2, vI x3, vI x4, none], [], [.inr (.inl (.int, s)), .inl [.ref 2, .ref 3, .ref 4, .ref 5, .ref 6, .ref 7, .ref 8, .ref 9, .ref 10, .ref 11, .ref 12, .ref 13, .ref 14, .ref 15, .ref 16, .ref 17, .ref 18, .ref 19, .ref 20, .int (f_win e0), .int (f_back e0), .int (f_repair e0), .int (f_period e0), .int (f_nextSeq e0), .int (f_qLen e0), .int (f_nakLen e0)], .inr (.inl (.int, (f_srcPayload e0))), .inr (.inl (.boolean, (f_pend e0))), .inr (.inl (.int, (f_queue e0))), .inr (.inl (.int, (f_stats e0))), .inr (.inl (.int, (f_state e0))), .inr (.inl (.int, (f_timer e0))), .inr (.inl (.int, (f_rxVal e0))), .inr (.inl (.int, (f_rxNext e0))), .inr (.inl (.int, (f_rxLead e0))), .inr (.inl (.int, (f_rxTrail e0))), .inr (.inl (.int, (f_lossLeft e0))), .inr (.inl (.int, (f_dups e0))), .inr (.inl (.int, (f_drops e0))), .inr (.inl (.int, (f_delSeq e0))), .inr (.inl (.int, (f_delVal e0))), .inr (.inl (.int, (f_delLen e0))), .inr (.inl (.int, (f_lostLog e0))), .inr (.inl (.int, (f_lostLen e0))), .inr (.inl (.int, (f_nakBuf e0))), .inl [.ref 22, .ref 23, .ref 24, .null, .null, .null, .null, .null, .null, .null, .null, .null, .null, .null, .null, .null, .null, .null, .null, .int (f_win ob0), .int (f_back ob0), .int (f_repair ob0), .int (f_period ob0), .int (f_nextSeq ob0), .int (f_qLen ob0), .int (f_nakLen ob0)], .inr (.inl (.int, (List.replicate 32 0))), .inr (.inl (.boolean, (List.replicate 32 0))), .inr (.inl (.int, (List.replicate 64 0)))])) rfl ?_
 refine zS Ad W 3 (st' := (33, [vR 21, vI x1, vI x2, vI x3, vI x4, none], [.ref 25, .ref 21], [.inr (.inl (.int, s)), .inl [.ref 2, .ref 3, .ref 4, .ref 5, .ref 6, .ref 7, .ref 8, .ref 9, .ref 10, .ref 11, .ref 12, .ref 13, .ref 14, .ref 15, .ref 16, .ref 17, .ref 18, .ref 19, .ref 20, .int (f_win e0), .int (f_back e0), .int (f_repair e0), .int (f_period e0), .int (f_nextSeq e0), .int (f_qLen e0), .int (f_nakLen e0)], .inr (.inl (.int, (f_srcPayload e0))), .inr (.inl (.boolean, (f_pend e0))), .inr (.inl (.int, (f_queue e0))), .inr (.inl (.int, (f_stats e0))), .inr (.inl (.int, (f_state e0))), .inr (.inl (.int, (f_timer e0))), .inr (.inl (.int, (f_rxVal e0))), .inr (.inl (.int, (f_rxNext e0))), .inr (.inl (.int, (f_rxLead e0))), .inr (.inl (.int, (f_rxTrail e0))), .inr (.inl (.int, (f_lossLeft e0))), .inr (.inl (.int, (f_dups e0))), .inr (.inl (.int, (f_drops e0))), .inr (.inl (.int, (f_delSeq e0))), .inr (.inl (.int, (f_delVal e0))), .inr (.inl (.int, (f_delLen e0))), .inr (.inl (.int, (f_lostLog e0))), .inr (.inl (.int, (f_lostLen e0))), .inr (.inl (.int, (f_nakBuf e0))), .inl [.ref 22, .ref 23, .ref 24, .null, .null, .null, .null, .null, .null, .null, .null, .null, .null, .null, .null, .null, .null, .null, .null, .int (f_win ob0), .int (f_back ob0), .int (f_repair ob0), .int (f_period ob0), .int (f_nextSeq ob0), .int (f_qLen ob0), .int (f_nakLen ob0)], .inr (.inl (.int, (List.replicate 32 0))), .inr (.inl (.boolean, (List.replicate 32 0))), .inr (.inl (.int, (List.replicate 64 0))), .inr (.inl (.int, (List.replicate 10 0)))])) rfl ?_
 refine zS Ad W 1 (st' := (36, [vR 21, vI x1, vI x2, vI x3, vI x4, none], [], [.inr (.inl (.int, s)), .inl [.ref 2, .ref 3, .ref 4, .ref 5, .ref 6, .ref 7, .ref 8, .ref 9, .ref 10, .ref 11, .ref 12, .ref 13, .ref 14, .ref 15, .ref 16, .ref 17, .ref 18, .ref 19, .ref 20, .int (f_win e0), .int (f_back e0), .int (f_repair e0), .int (f_period e0), .int (f_nextSeq e0), .int (f_qLen e0), .int (f_nakLen e0)], .inr (.inl (.int, (f_srcPayload e0))), .inr (.inl (.boolean, (f_pend e0))), .inr (.inl (.int, (f_queue e0))), .inr (.inl (.int, (f_stats e0))), .inr (.inl (.int, (f_state e0))), .inr (.inl (.int, (f_timer e0))), .inr (.inl (.int, (f_rxVal e0))), .inr (.inl (.int, (f_rxNext e0))), .inr (.inl (.int, (f_rxLead e0))), .inr (.inl (.int, (f_rxTrail e0))), .inr (.inl (.int, (f_lossLeft e0))), .inr (.inl (.int, (f_dups e0))), .inr (.inl (.int, (f_drops e0))), .inr (.inl (.int, (f_delSeq e0))), .inr (.inl (.int, (f_delVal e0))), .inr (.inl (.int, (f_delLen e0))), .inr (.inl (.int, (f_lostLog e0))), .inr (.inl (.int, (f_lostLen e0))), .inr (.inl (.int, (f_nakBuf e0))), .inl [.ref 22, .ref 23, .ref 24, .ref 25, .null, .null, .null, .null, .null, .null, .null, .null, .null, .null, .null, .null, .null, .null, .null, .int (f_win ob0), .int (f_back ob0), .int (f_repair ob0), .int (f_period ob0), .int (f_nextSeq ob0), .int (f_qLen ob0), .int (f_nakLen ob0)], .inr (.inl (.int, (List.replicate 32 0))), .inr (.inl (.boolean, (List.replicate 32 0))), .inr (.inl (.int, (List.replicate 64 0))), .inr (.inl (.int, (List.replicate 10 0)))])) rfl ?_
 refine zS Ad W 3 (st' := (42, [vR 21, vI x1, vI x2, vI x3, vI x4, none], [.ref 26, .ref 21], [.inr (.inl (.int, s)), .inl [.ref 2, .ref 3, .ref 4, .ref 5, .ref 6, .ref 7, .ref 8, .ref 9, .ref 10, .ref 11, .ref 12, .ref 13, .ref 14, .ref 15, .ref 16, .ref 17, .ref 18, .ref 19, .ref 20, .int (f_win e0), .int (f_back e0), .int (f_repair e0), .int (f_period e0), .int (f_nextSeq e0), .int (f_qLen e0), .int (f_nakLen e0)], .inr (.inl (.int, (f_srcPayload e0))), .inr (.inl (.boolean, (f_pend e0))), .inr (.inl (.int, (f_queue e0))), .inr (.inl (.int, (f_stats e0))), .inr (.inl (.int, (f_state e0))), .inr (.inl (.int, (f_timer e0))), .inr (.inl (.int, (f_rxVal e0))), .inr (.inl (.int, (f_rxNext e0))), .inr (.inl (.int, (f_rxLead e0))), .inr (.inl (.int, (f_rxTrail e0))), .inr (.inl (.int, (f_lossLeft e0))), .inr (.inl (.int, (f_dups e0))), .inr (.inl (.int, (f_drops e0))), .inr (.inl (.int, (f_delSeq e0))), .inr (.inl (.int, (f_delVal e0))), .inr (.inl (.int, (f_delLen e0))), .inr (.inl (.int, (f_lostLog e0))), .inr (.inl (.int, (f_lostLen e0))), .inr (.inl (.int, (f_nakBuf e0))), .inl [.ref 22, .ref 23, .ref 24, .ref 25, .null, .null, .null, .null, .null, .null, .null, .null, .null, .null, .null, .null, .null, .null, .null, .int (f_win ob0), .int (f_back ob0), .int (f_repair ob0), .int (f_period ob0), .int (f_nextSeq ob0), .int (f_qLen ob0), .int (f_nakLen ob0)], .inr (.inl (.int, (List.replicate 32 0))), .inr (.inl (.boolean, (List.replicate 32 0))), .inr (.inl (.int, (List.replicate 64 0))), .inr (.inl (.int, (List.replicate 10 0))), .inr (.inl (.int, (List.replicate 128 0)))])) rfl ?_
 refine zS Ad W 1 (st' := (45, [vR 21, vI x1, vI x2, vI x3, vI x4, none], [], [.inr (.inl (.int, s)), .inl [.ref 2, .ref 3, .ref 4, .ref 5, .ref 6, .ref 7, .ref 8, .ref 9, .ref 10, .ref 11, .ref 12, .ref 13, .ref 14, .ref 15, .ref 16, .ref 17, .ref 18, .ref 19, .ref 20, .int (f_win e0), .int (f_back e0), .int (f_repair e0), .int (f_period e0), .int (f_nextSeq e0), .int (f_qLen e0), .int (f_nakLen e0)], .inr (.inl (.int, (f_srcPayload e0))), .inr (.inl (.boolean, (f_pend e0))), .inr (.inl (.int, (f_queue e0))), .inr (.inl (.int, (f_stats e0))), .inr (.inl (.int, (f_state e0))), .inr (.inl (.int, (f_timer e0))), .inr (.inl (.int, (f_rxVal e0))), .inr (.inl (.int, (f_rxNext e0))), .inr (.inl (.int, (f_rxLead e0))), .inr (.inl (.int, (f_rxTrail e0))), .inr (.inl (.int, (f_lossLeft e0))), .inr (.inl (.int, (f_dups e0))), .inr (.inl (.int, (f_drops e0))), .inr (.inl (.int, (f_delSeq e0))), .inr (.inl (.int, (f_delVal e0))), .inr (.inl (.int, (f_delLen e0))), .inr (.inl (.int, (f_lostLog e0))), .inr (.inl (.int, (f_lostLen e0))), .inr (.inl (.int, (f_nakBuf e0))), .inl [.ref 22, .ref 23, .ref 24, .ref 25, .ref 26, .null, .null, .null, .null, .null, .null, .null, .null, .null, .null, .null, .null, .null, .null, .int (f_win ob0), .int (f_back ob0), .int (f_repair ob0), .int (f_period ob0), .int (f_nextSeq ob0), .int (f_qLen ob0), .int (f_nakLen ob0)], .inr (.inl (.int, (List.replicate 32 0))), .inr (.inl (.boolean, (List.replicate 32 0))), .inr (.inl (.int, (List.replicate 64 0))), .inr (.inl (.int, (List.replicate 10 0))), .inr (.inl (.int, (List.replicate 128 0)))])) rfl ?_
 refine zS Ad W 3 (st' := (51, [vR 21, vI x1, vI x2, vI x3, vI x4, none], [.ref 27, .ref 21], [.inr (.inl (.int, s)), .inl [.ref 2, .ref 3, .ref 4, .ref 5, .ref 6, .ref 7, .ref 8, .ref 9, .ref 10, .ref 11, .ref 12, .ref 13, .ref 14, .ref 15, .ref 16, .ref 17, .ref 18, .ref 19, .ref 20, .int (f_win e0), .int (f_back e0), .int (f_repair e0), .int (f_period e0), .int (f_nextSeq e0), .int (f_qLen e0), .int (f_nakLen e0)], .inr (.inl (.int, (f_srcPayload e0))), .inr (.inl (.boolean, (f_pend e0))), .inr (.inl (.int, (f_queue e0))), .inr (.inl (.int, (f_stats e0))), .inr (.inl (.int, (f_state e0))), .inr (.inl (.int, (f_timer e0))), .inr (.inl (.int, (f_rxVal e0))), .inr (.inl (.int, (f_rxNext e0))), .inr (.inl (.int, (f_rxLead e0))), .inr (.inl (.int, (f_rxTrail e0))), .inr (.inl (.int, (f_lossLeft e0))), .inr (.inl (.int, (f_dups e0))), .inr (.inl (.int, (f_drops e0))), .inr (.inl (.int, (f_delSeq e0))), .inr (.inl (.int, (f_delVal e0))), .inr (.inl (.int, (f_delLen e0))), .inr (.inl (.int, (f_lostLog e0))), .inr (.inl (.int, (f_lostLen e0))), .inr (.inl (.int, (f_nakBuf e0))), .inl [.ref 22, .ref 23, .ref 24, .ref 25, .ref 26, .null, .null, .null, .null, .null, .null, .null, .null, .null, .null, .null, .null, .null, .null, .int (f_win ob0), .int (f_back ob0), .int (f_repair ob0), .int (f_period ob0), .int (f_nextSeq ob0), .int (f_qLen ob0), .int (f_nakLen ob0)], .inr (.inl (.int, (List.replicate 32 0))), .inr (.inl (.boolean, (List.replicate 32 0))), .inr (.inl (.int, (List.replicate 64 0))), .inr (.inl (.int, (List.replicate 10 0))), .inr (.inl (.int, (List.replicate 128 0))), .inr (.inl (.int, (List.replicate 128 0)))])) rfl ?_
 refine zS Ad W 1 (st' := (54, [vR 21, vI x1, vI x2, vI x3, vI x4, none], [], [.inr (.inl (.int, s)), .inl [.ref 2, .ref 3, .ref 4, .ref 5, .ref 6, .ref 7, .ref 8, .ref 9, .ref 10, .ref 11, .ref 12, .ref 13, .ref 14, .ref 15, .ref 16, .ref 17, .ref 18, .ref 19, .ref 20, .int (f_win e0), .int (f_back e0), .int (f_repair e0), .int (f_period e0), .int (f_nextSeq e0), .int (f_qLen e0), .int (f_nakLen e0)], .inr (.inl (.int, (f_srcPayload e0))), .inr (.inl (.boolean, (f_pend e0))), .inr (.inl (.int, (f_queue e0))), .inr (.inl (.int, (f_stats e0))), .inr (.inl (.int, (f_state e0))), .inr (.inl (.int, (f_timer e0))), .inr (.inl (.int, (f_rxVal e0))), .inr (.inl (.int, (f_rxNext e0))), .inr (.inl (.int, (f_rxLead e0))), .inr (.inl (.int, (f_rxTrail e0))), .inr (.inl (.int, (f_lossLeft e0))), .inr (.inl (.int, (f_dups e0))), .inr (.inl (.int, (f_drops e0))), .inr (.inl (.int, (f_delSeq e0))), .inr (.inl (.int, (f_delVal e0))), .inr (.inl (.int, (f_delLen e0))), .inr (.inl (.int, (f_lostLog e0))), .inr (.inl (.int, (f_lostLen e0))), .inr (.inl (.int, (f_nakBuf e0))), .inl [.ref 22, .ref 23, .ref 24, .ref 25, .ref 26, .ref 27, .null, .null, .null, .null, .null, .null, .null, .null, .null, .null, .null, .null, .null, .int (f_win ob0), .int (f_back ob0), .int (f_repair ob0), .int (f_period ob0), .int (f_nextSeq ob0), .int (f_qLen ob0), .int (f_nakLen ob0)], .inr (.inl (.int, (List.replicate 32 0))), .inr (.inl (.boolean, (List.replicate 32 0))), .inr (.inl (.int, (List.replicate 64 0))), .inr (.inl (.int, (List.replicate 10 0))), .inr (.inl (.int, (List.replicate 128 0))), .inr (.inl (.int, (List.replicate 128 0)))])) rfl ?_
 refine zS Ad W 3 (st' := (60, [vR 21, vI x1, vI x2, vI x3, vI x4, none], [.ref 28, .ref 21], [.inr (.inl (.int, s)), .inl [.ref 2, .ref 3, .ref 4, .ref 5, .ref 6, .ref 7, .ref 8, .ref 9, .ref 10, .ref 11, .ref 12, .ref 13, .ref 14, .ref 15, .ref 16, .ref 17, .ref 18, .ref 19, .ref 20, .int (f_win e0), .int (f_back e0), .int (f_repair e0), .int (f_period e0), .int (f_nextSeq e0), .int (f_qLen e0), .int (f_nakLen e0)], .inr (.inl (.int, (f_srcPayload e0))), .inr (.inl (.boolean, (f_pend e0))), .inr (.inl (.int, (f_queue e0))), .inr (.inl (.int, (f_stats e0))), .inr (.inl (.int, (f_state e0))), .inr (.inl (.int, (f_timer e0))), .inr (.inl (.int, (f_rxVal e0))), .inr (.inl (.int, (f_rxNext e0))), .inr (.inl (.int, (f_rxLead e0))), .inr (.inl (.int, (f_rxTrail e0))), .inr (.inl (.int, (f_lossLeft e0))), .inr (.inl (.int, (f_dups e0))), .inr (.inl (.int, (f_drops e0))), .inr (.inl (.int, (f_delSeq e0))), .inr (.inl (.int, (f_delVal e0))), .inr (.inl (.int, (f_delLen e0))), .inr (.inl (.int, (f_lostLog e0))), .inr (.inl (.int, (f_lostLen e0))), .inr (.inl (.int, (f_nakBuf e0))), .inl [.ref 22, .ref 23, .ref 24, .ref 25, .ref 26, .ref 27, .null, .null, .null, .null, .null, .null, .null, .null, .null, .null, .null, .null, .null, .int (f_win ob0), .int (f_back ob0), .int (f_repair ob0), .int (f_period ob0), .int (f_nextSeq ob0), .int (f_qLen ob0), .int (f_nakLen ob0)], .inr (.inl (.int, (List.replicate 32 0))), .inr (.inl (.boolean, (List.replicate 32 0))), .inr (.inl (.int, (List.replicate 64 0))), .inr (.inl (.int, (List.replicate 10 0))), .inr (.inl (.int, (List.replicate 128 0))), .inr (.inl (.int, (List.replicate 128 0))), .inr (.inl (.int, (List.replicate 128 0)))])) rfl ?_
 refine zS Ad W 1 (st' := (63, [vR 21, vI x1, vI x2, vI x3, vI x4, none], [], [.inr (.inl (.int, s)), .inl [.ref 2, .ref 3, .ref 4, .ref 5, .ref 6, .ref 7, .ref 8, .ref 9, .ref 10, .ref 11, .ref 12, .ref 13, .ref 14, .ref 15, .ref 16, .ref 17, .ref 18, .ref 19, .ref 20, .int (f_win e0), .int (f_back e0), .int (f_repair e0), .int (f_period e0), .int (f_nextSeq e0), .int (f_qLen e0), .int (f_nakLen e0)], .inr (.inl (.int, (f_srcPayload e0))), .inr (.inl (.boolean, (f_pend e0))), .inr (.inl (.int, (f_queue e0))), .inr (.inl (.int, (f_stats e0))), .inr (.inl (.int, (f_state e0))), .inr (.inl (.int, (f_timer e0))), .inr (.inl (.int, (f_rxVal e0))), .inr (.inl (.int, (f_rxNext e0))), .inr (.inl (.int, (f_rxLead e0))), .inr (.inl (.int, (f_rxTrail e0))), .inr (.inl (.int, (f_lossLeft e0))), .inr (.inl (.int, (f_dups e0))), .inr (.inl (.int, (f_drops e0))), .inr (.inl (.int, (f_delSeq e0))), .inr (.inl (.int, (f_delVal e0))), .inr (.inl (.int, (f_delLen e0))), .inr (.inl (.int, (f_lostLog e0))), .inr (.inl (.int, (f_lostLen e0))), .inr (.inl (.int, (f_nakBuf e0))), .inl [.ref 22, .ref 23, .ref 24, .ref 25, .ref 26, .ref 27, .ref 28, .null, .null, .null, .null, .null, .null, .null, .null, .null, .null, .null, .null, .int (f_win ob0), .int (f_back ob0), .int (f_repair ob0), .int (f_period ob0), .int (f_nextSeq ob0), .int (f_qLen ob0), .int (f_nakLen ob0)], .inr (.inl (.int, (List.replicate 32 0))), .inr (.inl (.boolean, (List.replicate 32 0))), .inr (.inl (.int, (List.replicate 64 0))), .inr (.inl (.int, (List.replicate 10 0))), .inr (.inl (.int, (List.replicate 128 0))), .inr (.inl (.int, (List.replicate 128 0))), .inr (.inl (.int, (List.replicate 128 0)))])) rfl ?_
 refine zS Ad W 3 (st' := (67, [vR 21, vI x1, vI x2, vI x3, vI x4, none], [.ref 29, .ref 21], [.inr (.inl (.int, s)), .inl [.ref 2, .ref 3, .ref 4, .ref 5, .ref 6, .ref 7, .ref 8, .ref 9, .ref 10, .ref 11, .ref 12, .ref 13, .ref 14, .ref 15, .ref 16, .ref 17, .ref 18, .ref 19, .ref 20, .int (f_win e0), .int (f_back e0), .int (f_repair e0), .int (f_period e0), .int (f_nextSeq e0), .int (f_qLen e0), .int (f_nakLen e0)], .inr (.inl (.int, (f_srcPayload e0))), .inr (.inl (.boolean, (f_pend e0))), .inr (.inl (.int, (f_queue e0))), .inr (.inl (.int, (f_stats e0))), .inr (.inl (.int, (f_state e0))), .inr (.inl (.int, (f_timer e0))), .inr (.inl (.int, (f_rxVal e0))), .inr (.inl (.int, (f_rxNext e0))), .inr (.inl (.int, (f_rxLead e0))), .inr (.inl (.int, (f_rxTrail e0))), .inr (.inl (.int, (f_lossLeft e0))), .inr (.inl (.int, (f_dups e0))), .inr (.inl (.int, (f_drops e0))), .inr (.inl (.int, (f_delSeq e0))), .inr (.inl (.int, (f_delVal e0))), .inr (.inl (.int, (f_delLen e0))), .inr (.inl (.int, (f_lostLog e0))), .inr (.inl (.int, (f_lostLen e0))), .inr (.inl (.int, (f_nakBuf e0))), .inl [.ref 22, .ref 23, .ref 24, .ref 25, .ref 26, .ref 27, .ref 28, .null, .null, .null, .null, .null, .null, .null, .null, .null, .null, .null, .null, .int (f_win ob0), .int (f_back ob0), .int (f_repair ob0), .int (f_period ob0), .int (f_nextSeq ob0), .int (f_qLen ob0), .int (f_nakLen ob0)], .inr (.inl (.int, (List.replicate 32 0))), .inr (.inl (.boolean, (List.replicate 32 0))), .inr (.inl (.int, (List.replicate 64 0))), .inr (.inl (.int, (List.replicate 10 0))), .inr (.inl (.int, (List.replicate 128 0))), .inr (.inl (.int, (List.replicate 128 0))), .inr (.inl (.int, (List.replicate 128 0))), .inr (.inl (.int, (List.replicate 4 0)))])) rfl ?_
 refine zS Ad W 1 (st' := (70, [vR 21, vI x1, vI x2, vI x3, vI x4, none], [], [.inr (.inl (.int, s)), .inl [.ref 2, .ref 3, .ref 4, .ref 5, .ref 6, .ref 7, .ref 8, .ref 9, .ref 10, .ref 11, .ref 12, .ref 13, .ref 14, .ref 15, .ref 16, .ref 17, .ref 18, .ref 19, .ref 20, .int (f_win e0), .int (f_back e0), .int (f_repair e0), .int (f_period e0), .int (f_nextSeq e0), .int (f_qLen e0), .int (f_nakLen e0)], .inr (.inl (.int, (f_srcPayload e0))), .inr (.inl (.boolean, (f_pend e0))), .inr (.inl (.int, (f_queue e0))), .inr (.inl (.int, (f_stats e0))), .inr (.inl (.int, (f_state e0))), .inr (.inl (.int, (f_timer e0))), .inr (.inl (.int, (f_rxVal e0))), .inr (.inl (.int, (f_rxNext e0))), .inr (.inl (.int, (f_rxLead e0))), .inr (.inl (.int, (f_rxTrail e0))), .inr (.inl (.int, (f_lossLeft e0))), .inr (.inl (.int, (f_dups e0))), .inr (.inl (.int, (f_drops e0))), .inr (.inl (.int, (f_delSeq e0))), .inr (.inl (.int, (f_delVal e0))), .inr (.inl (.int, (f_delLen e0))), .inr (.inl (.int, (f_lostLog e0))), .inr (.inl (.int, (f_lostLen e0))), .inr (.inl (.int, (f_nakBuf e0))), .inl [.ref 22, .ref 23, .ref 24, .ref 25, .ref 26, .ref 27, .ref 28, .ref 29, .null, .null, .null, .null, .null, .null, .null, .null, .null, .null, .null, .int (f_win ob0), .int (f_back ob0), .int (f_repair ob0), .int (f_period ob0), .int (f_nextSeq ob0), .int (f_qLen ob0), .int (f_nakLen ob0)], .inr (.inl (.int, (List.replicate 32 0))), .inr (.inl (.boolean, (List.replicate 32 0))), .inr (.inl (.int, (List.replicate 64 0))), .inr (.inl (.int, (List.replicate 10 0))), .inr (.inl (.int, (List.replicate 128 0))), .inr (.inl (.int, (List.replicate 128 0))), .inr (.inl (.int, (List.replicate 128 0))), .inr (.inl (.int, (List.replicate 4 0)))])) rfl ?_
 refine zS Ad W 3 (st' := (74, [vR 21, vI x1, vI x2, vI x3, vI x4, none], [.ref 30, .ref 21], [.inr (.inl (.int, s)), .inl [.ref 2, .ref 3, .ref 4, .ref 5, .ref 6, .ref 7, .ref 8, .ref 9, .ref 10, .ref 11, .ref 12, .ref 13, .ref 14, .ref 15, .ref 16, .ref 17, .ref 18, .ref 19, .ref 20, .int (f_win e0), .int (f_back e0), .int (f_repair e0), .int (f_period e0), .int (f_nextSeq e0), .int (f_qLen e0), .int (f_nakLen e0)], .inr (.inl (.int, (f_srcPayload e0))), .inr (.inl (.boolean, (f_pend e0))), .inr (.inl (.int, (f_queue e0))), .inr (.inl (.int, (f_stats e0))), .inr (.inl (.int, (f_state e0))), .inr (.inl (.int, (f_timer e0))), .inr (.inl (.int, (f_rxVal e0))), .inr (.inl (.int, (f_rxNext e0))), .inr (.inl (.int, (f_rxLead e0))), .inr (.inl (.int, (f_rxTrail e0))), .inr (.inl (.int, (f_lossLeft e0))), .inr (.inl (.int, (f_dups e0))), .inr (.inl (.int, (f_drops e0))), .inr (.inl (.int, (f_delSeq e0))), .inr (.inl (.int, (f_delVal e0))), .inr (.inl (.int, (f_delLen e0))), .inr (.inl (.int, (f_lostLog e0))), .inr (.inl (.int, (f_lostLen e0))), .inr (.inl (.int, (f_nakBuf e0))), .inl [.ref 22, .ref 23, .ref 24, .ref 25, .ref 26, .ref 27, .ref 28, .ref 29, .null, .null, .null, .null, .null, .null, .null, .null, .null, .null, .null, .int (f_win ob0), .int (f_back ob0), .int (f_repair ob0), .int (f_period ob0), .int (f_nextSeq ob0), .int (f_qLen ob0), .int (f_nakLen ob0)], .inr (.inl (.int, (List.replicate 32 0))), .inr (.inl (.boolean, (List.replicate 32 0))), .inr (.inl (.int, (List.replicate 64 0))), .inr (.inl (.int, (List.replicate 10 0))), .inr (.inl (.int, (List.replicate 128 0))), .inr (.inl (.int, (List.replicate 128 0))), .inr (.inl (.int, (List.replicate 128 0))), .inr (.inl (.int, (List.replicate 4 0))), .inr (.inl (.int, (List.replicate 4 0)))])) rfl ?_
 refine zS Ad W 1 (st' := (77, [vR 21, vI x1, vI x2, vI x3, vI x4, none], [], [.inr (.inl (.int, s)), .inl [.ref 2, .ref 3, .ref 4, .ref 5, .ref 6, .ref 7, .ref 8, .ref 9, .ref 10, .ref 11, .ref 12, .ref 13, .ref 14, .ref 15, .ref 16, .ref 17, .ref 18, .ref 19, .ref 20, .int (f_win e0), .int (f_back e0), .int (f_repair e0), .int (f_period e0), .int (f_nextSeq e0), .int (f_qLen e0), .int (f_nakLen e0)], .inr (.inl (.int, (f_srcPayload e0))), .inr (.inl (.boolean, (f_pend e0))), .inr (.inl (.int, (f_queue e0))), .inr (.inl (.int, (f_stats e0))), .inr (.inl (.int, (f_state e0))), .inr (.inl (.int, (f_timer e0))), .inr (.inl (.int, (f_rxVal e0))), .inr (.inl (.int, (f_rxNext e0))), .inr (.inl (.int, (f_rxLead e0))), .inr (.inl (.int, (f_rxTrail e0))), .inr (.inl (.int, (f_lossLeft e0))), .inr (.inl (.int, (f_dups e0))), .inr (.inl (.int, (f_drops e0))), .inr (.inl (.int, (f_delSeq e0))), .inr (.inl (.int, (f_delVal e0))), .inr (.inl (.int, (f_delLen e0))), .inr (.inl (.int, (f_lostLog e0))), .inr (.inl (.int, (f_lostLen e0))), .inr (.inl (.int, (f_nakBuf e0))), .inl [.ref 22, .ref 23, .ref 24, .ref 25, .ref 26, .ref 27, .ref 28, .ref 29, .ref 30, .null, .null, .null, .null, .null, .null, .null, .null, .null, .null, .int (f_win ob0), .int (f_back ob0), .int (f_repair ob0), .int (f_period ob0), .int (f_nextSeq ob0), .int (f_qLen ob0), .int (f_nakLen ob0)], .inr (.inl (.int, (List.replicate 32 0))), .inr (.inl (.boolean, (List.replicate 32 0))), .inr (.inl (.int, (List.replicate 64 0))), .inr (.inl (.int, (List.replicate 10 0))), .inr (.inl (.int, (List.replicate 128 0))), .inr (.inl (.int, (List.replicate 128 0))), .inr (.inl (.int, (List.replicate 128 0))), .inr (.inl (.int, (List.replicate 4 0))), .inr (.inl (.int, (List.replicate 4 0)))])) rfl ?_
 refine zS Ad W 3 (st' := (81, [vR 21, vI x1, vI x2, vI x3, vI x4, none], [.ref 31, .ref 21], [.inr (.inl (.int, s)), .inl [.ref 2, .ref 3, .ref 4, .ref 5, .ref 6, .ref 7, .ref 8, .ref 9, .ref 10, .ref 11, .ref 12, .ref 13, .ref 14, .ref 15, .ref 16, .ref 17, .ref 18, .ref 19, .ref 20, .int (f_win e0), .int (f_back e0), .int (f_repair e0), .int (f_period e0), .int (f_nextSeq e0), .int (f_qLen e0), .int (f_nakLen e0)], .inr (.inl (.int, (f_srcPayload e0))), .inr (.inl (.boolean, (f_pend e0))), .inr (.inl (.int, (f_queue e0))), .inr (.inl (.int, (f_stats e0))), .inr (.inl (.int, (f_state e0))), .inr (.inl (.int, (f_timer e0))), .inr (.inl (.int, (f_rxVal e0))), .inr (.inl (.int, (f_rxNext e0))), .inr (.inl (.int, (f_rxLead e0))), .inr (.inl (.int, (f_rxTrail e0))), .inr (.inl (.int, (f_lossLeft e0))), .inr (.inl (.int, (f_dups e0))), .inr (.inl (.int, (f_drops e0))), .inr (.inl (.int, (f_delSeq e0))), .inr (.inl (.int, (f_delVal e0))), .inr (.inl (.int, (f_delLen e0))), .inr (.inl (.int, (f_lostLog e0))), .inr (.inl (.int, (f_lostLen e0))), .inr (.inl (.int, (f_nakBuf e0))), .inl [.ref 22, .ref 23, .ref 24, .ref 25, .ref 26, .ref 27, .ref 28, .ref 29, .ref 30, .null, .null, .null, .null, .null, .null, .null, .null, .null, .null, .int (f_win ob0), .int (f_back ob0), .int (f_repair ob0), .int (f_period ob0), .int (f_nextSeq ob0), .int (f_qLen ob0), .int (f_nakLen ob0)], .inr (.inl (.int, (List.replicate 32 0))), .inr (.inl (.boolean, (List.replicate 32 0))), .inr (.inl (.int, (List.replicate 64 0))), .inr (.inl (.int, (List.replicate 10 0))), .inr (.inl (.int, (List.replicate 128 0))), .inr (.inl (.int, (List.replicate 128 0))), .inr (.inl (.int, (List.replicate 128 0))), .inr (.inl (.int, (List.replicate 4 0))), .inr (.inl (.int, (List.replicate 4 0))), .inr (.inl (.int, (List.replicate 4 0)))])) rfl ?_
 refine zS Ad W 1 (st' := (84, [vR 21, vI x1, vI x2, vI x3, vI x4, none], [], [.inr (.inl (.int, s)), .inl [.ref 2, .ref 3, .ref 4, .ref 5, .ref 6, .ref 7, .ref 8, .ref 9, .ref 10, .ref 11, .ref 12, .ref 13, .ref 14, .ref 15, .ref 16, .ref 17, .ref 18, .ref 19, .ref 20, .int (f_win e0), .int (f_back e0), .int (f_repair e0), .int (f_period e0), .int (f_nextSeq e0), .int (f_qLen e0), .int (f_nakLen e0)], .inr (.inl (.int, (f_srcPayload e0))), .inr (.inl (.boolean, (f_pend e0))), .inr (.inl (.int, (f_queue e0))), .inr (.inl (.int, (f_stats e0))), .inr (.inl (.int, (f_state e0))), .inr (.inl (.int, (f_timer e0))), .inr (.inl (.int, (f_rxVal e0))), .inr (.inl (.int, (f_rxNext e0))), .inr (.inl (.int, (f_rxLead e0))), .inr (.inl (.int, (f_rxTrail e0))), .inr (.inl (.int, (f_lossLeft e0))), .inr (.inl (.int, (f_dups e0))), .inr (.inl (.int, (f_drops e0))), .inr (.inl (.int, (f_delSeq e0))), .inr (.inl (.int, (f_delVal e0))), .inr (.inl (.int, (f_delLen e0))), .inr (.inl (.int, (f_lostLog e0))), .inr (.inl (.int, (f_lostLen e0))), .inr (.inl (.int, (f_nakBuf e0))), .inl [.ref 22, .ref 23, .ref 24, .ref 25, .ref 26, .ref 27, .ref 28, .ref 29, .ref 30, .ref 31, .null, .null, .null, .null, .null, .null, .null, .null, .null, .int (f_win ob0), .int (f_back ob0), .int (f_repair ob0), .int (f_period ob0), .int (f_nextSeq ob0), .int (f_qLen ob0), .int (f_nakLen ob0)], .inr (.inl (.int, (List.replicate 32 0))), .inr (.inl (.boolean, (List.replicate 32 0))), .inr (.inl (.int, (List.replicate 64 0))), .inr (.inl (.int, (List.replicate 10 0))), .inr (.inl (.int, (List.replicate 128 0))), .inr (.inl (.int, (List.replicate 128 0))), .inr (.inl (.int, (List.replicate 128 0))), .inr (.inl (.int, (List.replicate 4 0))), .inr (.inl (.int, (List.replicate 4 0))), .inr (.inl (.int, (List.replicate 4 0)))])) rfl ?_
 refine zS Ad W 3 (st' := (88, [vR 21, vI x1, vI x2, vI x3, vI x4, none], [.ref 32, .ref 21], [.inr (.inl (.int, s)), .inl [.ref 2, .ref 3, .ref 4, .ref 5, .ref 6, .ref 7, .ref 8, .ref 9, .ref 10, .ref 11, .ref 12, .ref 13, .ref 14, .ref 15, .ref 16, .ref 17, .ref 18, .ref 19, .ref 20, .int (f_win e0), .int (f_back e0), .int (f_repair e0), .int (f_period e0), .int (f_nextSeq e0), .int (f_qLen e0), .int (f_nakLen e0)], .inr (.inl (.int, (f_srcPayload e0))), .inr (.inl (.boolean, (f_pend e0))), .inr (.inl (.int, (f_queue e0))), .inr (.inl (.int, (f_stats e0))), .inr (.inl (.int, (f_state e0))), .inr (.inl (.int, (f_timer e0))), .inr (.inl (.int, (f_rxVal e0))), .inr (.inl (.int, (f_rxNext e0))), .inr (.inl (.int, (f_rxLead e0))), .inr (.inl (.int, (f_rxTrail e0))), .inr (.inl (.int, (f_lossLeft e0))), .inr (.inl (.int, (f_dups e0))), .inr (.inl (.int, (f_drops e0))), .inr (.inl (.int, (f_delSeq e0))), .inr (.inl (.int, (f_delVal e0))), .inr (.inl (.int, (f_delLen e0))), .inr (.inl (.int, (f_lostLog e0))), .inr (.inl (.int, (f_lostLen e0))), .inr (.inl (.int, (f_nakBuf e0))), .inl [.ref 22, .ref 23, .ref 24, .ref 25, .ref 26, .ref 27, .ref 28, .ref 29, .ref 30, .ref 31, .null, .null, .null, .null, .null, .null, .null, .null, .null, .int (f_win ob0), .int (f_back ob0), .int (f_repair ob0), .int (f_period ob0), .int (f_nextSeq ob0), .int (f_qLen ob0), .int (f_nakLen ob0)], .inr (.inl (.int, (List.replicate 32 0))), .inr (.inl (.boolean, (List.replicate 32 0))), .inr (.inl (.int, (List.replicate 64 0))), .inr (.inl (.int, (List.replicate 10 0))), .inr (.inl (.int, (List.replicate 128 0))), .inr (.inl (.int, (List.replicate 128 0))), .inr (.inl (.int, (List.replicate 128 0))), .inr (.inl (.int, (List.replicate 4 0))), .inr (.inl (.int, (List.replicate 4 0))), .inr (.inl (.int, (List.replicate 4 0))), .inr (.inl (.int, (List.replicate 4 0)))])) rfl ?_
 refine zS Ad W 1 (st' := (91, [vR 21, vI x1, vI x2, vI x3, vI x4, none], [], [.inr (.inl (.int, s)), .inl [.ref 2, .ref 3, .ref 4, .ref 5, .ref 6, .ref 7, .ref 8, .ref 9, .ref 10, .ref 11, .ref 12, .ref 13, .ref 14, .ref 15, .ref 16, .ref 17, .ref 18, .ref 19, .ref 20, .int (f_win e0), .int (f_back e0), .int (f_repair e0), .int (f_period e0), .int (f_nextSeq e0), .int (f_qLen e0), .int (f_nakLen e0)], .inr (.inl (.int, (f_srcPayload e0))), .inr (.inl (.boolean, (f_pend e0))), .inr (.inl (.int, (f_queue e0))), .inr (.inl (.int, (f_stats e0))), .inr (.inl (.int, (f_state e0))), .inr (.inl (.int, (f_timer e0))), .inr (.inl (.int, (f_rxVal e0))), .inr (.inl (.int, (f_rxNext e0))), .inr (.inl (.int, (f_rxLead e0))), .inr (.inl (.int, (f_rxTrail e0))), .inr (.inl (.int, (f_lossLeft e0))), .inr (.inl (.int, (f_dups e0))), .inr (.inl (.int, (f_drops e0))), .inr (.inl (.int, (f_delSeq e0))), .inr (.inl (.int, (f_delVal e0))), .inr (.inl (.int, (f_delLen e0))), .inr (.inl (.int, (f_lostLog e0))), .inr (.inl (.int, (f_lostLen e0))), .inr (.inl (.int, (f_nakBuf e0))), .inl [.ref 22, .ref 23, .ref 24, .ref 25, .ref 26, .ref 27, .ref 28, .ref 29, .ref 30, .ref 31, .ref 32, .null, .null, .null, .null, .null, .null, .null, .null, .int (f_win ob0), .int (f_back ob0), .int (f_repair ob0), .int (f_period ob0), .int (f_nextSeq ob0), .int (f_qLen ob0), .int (f_nakLen ob0)], .inr (.inl (.int, (List.replicate 32 0))), .inr (.inl (.boolean, (List.replicate 32 0))), .inr (.inl (.int, (List.replicate 64 0))), .inr (.inl (.int, (List.replicate 10 0))), .inr (.inl (.int, (List.replicate 128 0))), .inr (.inl (.int, (List.replicate 128 0))), .inr (.inl (.int, (List.replicate 128 0))), .inr (.inl (.int, (List.replicate 4 0))), .inr (.inl (.int, (List.replicate 4 0))), .inr (.inl (.int, (List.replicate 4 0))), .inr (.inl (.int, (List.replicate 4 0)))])) rfl ?_
 refine zS Ad W 3 (st' := (95, [vR 21, vI x1, vI x2, vI x3, vI x4, none], [.ref 33, .ref 21], [.inr (.inl (.int, s)), .inl [.ref 2, .ref 3, .ref 4, .ref 5, .ref 6, .ref 7, .ref 8, .ref 9, .ref 10, .ref 11, .ref 12, .ref 13, .ref 14, .ref 15, .ref 16, .ref 17, .ref 18, .ref 19, .ref 20, .int (f_win e0), .int (f_back e0), .int (f_repair e0), .int (f_period e0), .int (f_nextSeq e0), .int (f_qLen e0), .int (f_nakLen e0)], .inr (.inl (.int, (f_srcPayload e0))), .inr (.inl (.boolean, (f_pend e0))), .inr (.inl (.int, (f_queue e0))), .inr (.inl (.int, (f_stats e0))), .inr (.inl (.int, (f_state e0))), .inr (.inl (.int, (f_timer e0))), .inr (.inl (.int, (f_rxVal e0))), .inr (.inl (.int, (f_rxNext e0))), .inr (.inl (.int, (f_rxLead e0))), .inr (.inl (.int, (f_rxTrail e0))), .inr (.inl (.int, (f_lossLeft e0))), .inr (.inl (.int, (f_dups e0))), .inr (.inl (.int, (f_drops e0))), .inr (.inl (.int, (f_delSeq e0))), .inr (.inl (.int, (f_delVal e0))), .inr (.inl (.int, (f_delLen e0))), .inr (.inl (.int, (f_lostLog e0))), .inr (.inl (.int, (f_lostLen e0))), .inr (.inl (.int, (f_nakBuf e0))), .inl [.ref 22, .ref 23, .ref 24, .ref 25, .ref 26, .ref 27, .ref 28, .ref 29, .ref 30, .ref 31, .ref 32, .null, .null, .null, .null, .null, .null, .null, .null, .int (f_win ob0), .int (f_back ob0), .int (f_repair ob0), .int (f_period ob0), .int (f_nextSeq ob0), .int (f_qLen ob0), .int (f_nakLen ob0)], .inr (.inl (.int, (List.replicate 32 0))), .inr (.inl (.boolean, (List.replicate 32 0))), .inr (.inl (.int, (List.replicate 64 0))), .inr (.inl (.int, (List.replicate 10 0))), .inr (.inl (.int, (List.replicate 128 0))), .inr (.inl (.int, (List.replicate 128 0))), .inr (.inl (.int, (List.replicate 128 0))), .inr (.inl (.int, (List.replicate 4 0))), .inr (.inl (.int, (List.replicate 4 0))), .inr (.inl (.int, (List.replicate 4 0))), .inr (.inl (.int, (List.replicate 4 0))), .inr (.inl (.int, (List.replicate 4 0)))])) rfl ?_
 refine zS Ad W 1 (st' := (98, [vR 21, vI x1, vI x2, vI x3, vI x4, none], [], [.inr (.inl (.int, s)), .inl [.ref 2, .ref 3, .ref 4, .ref 5, .ref 6, .ref 7, .ref 8, .ref 9, .ref 10, .ref 11, .ref 12, .ref 13, .ref 14, .ref 15, .ref 16, .ref 17, .ref 18, .ref 19, .ref 20, .int (f_win e0), .int (f_back e0), .int (f_repair e0), .int (f_period e0), .int (f_nextSeq e0), .int (f_qLen e0), .int (f_nakLen e0)], .inr (.inl (.int, (f_srcPayload e0))), .inr (.inl (.boolean, (f_pend e0))), .inr (.inl (.int, (f_queue e0))), .inr (.inl (.int, (f_stats e0))), .inr (.inl (.int, (f_state e0))), .inr (.inl (.int, (f_timer e0))), .inr (.inl (.int, (f_rxVal e0))), .inr (.inl (.int, (f_rxNext e0))), .inr (.inl (.int, (f_rxLead e0))), .inr (.inl (.int, (f_rxTrail e0))), .inr (.inl (.int, (f_lossLeft e0))), .inr (.inl (.int, (f_dups e0))), .inr (.inl (.int, (f_drops e0))), .inr (.inl (.int, (f_delSeq e0))), .inr (.inl (.int, (f_delVal e0))), .inr (.inl (.int, (f_delLen e0))), .inr (.inl (.int, (f_lostLog e0))), .inr (.inl (.int, (f_lostLen e0))), .inr (.inl (.int, (f_nakBuf e0))), .inl [.ref 22, .ref 23, .ref 24, .ref 25, .ref 26, .ref 27, .ref 28, .ref 29, .ref 30, .ref 31, .ref 32, .ref 33, .null, .null, .null, .null, .null, .null, .null, .int (f_win ob0), .int (f_back ob0), .int (f_repair ob0), .int (f_period ob0), .int (f_nextSeq ob0), .int (f_qLen ob0), .int (f_nakLen ob0)], .inr (.inl (.int, (List.replicate 32 0))), .inr (.inl (.boolean, (List.replicate 32 0))), .inr (.inl (.int, (List.replicate 64 0))), .inr (.inl (.int, (List.replicate 10 0))), .inr (.inl (.int, (List.replicate 128 0))), .inr (.inl (.int, (List.replicate 128 0))), .inr (.inl (.int, (List.replicate 128 0))), .inr (.inl (.int, (List.replicate 4 0))), .inr (.inl (.int, (List.replicate 4 0))), .inr (.inl (.int, (List.replicate 4 0))), .inr (.inl (.int, (List.replicate 4 0))), .inr (.inl (.int, (List.replicate 4 0)))])) rfl ?_
 refine zS Ad W 3 (st' := (102, [vR 21, vI x1, vI x2, vI x3, vI x4, none], [.ref 34, .ref 21], [.inr (.inl (.int, s)), .inl [.ref 2, .ref 3, .ref 4, .ref 5, .ref 6, .ref 7, .ref 8, .ref 9, .ref 10, .ref 11, .ref 12, .ref 13, .ref 14, .ref 15, .ref 16, .ref 17, .ref 18, .ref 19, .ref 20, .int (f_win e0), .int (f_back e0), .int (f_repair e0), .int (f_period e0), .int (f_nextSeq e0), .int (f_qLen e0), .int (f_nakLen e0)], .inr (.inl (.int, (f_srcPayload e0))), .inr (.inl (.boolean, (f_pend e0))), .inr (.inl (.int, (f_queue e0))), .inr (.inl (.int, (f_stats e0))), .inr (.inl (.int, (f_state e0))), .inr (.inl (.int, (f_timer e0))), .inr (.inl (.int, (f_rxVal e0))), .inr (.inl (.int, (f_rxNext e0))), .inr (.inl (.int, (f_rxLead e0))), .inr (.inl (.int, (f_rxTrail e0))), .inr (.inl (.int, (f_lossLeft e0))), .inr (.inl (.int, (f_dups e0))), .inr (.inl (.int, (f_drops e0))), .inr (.inl (.int, (f_delSeq e0))), .inr (.inl (.int, (f_delVal e0))), .inr (.inl (.int, (f_delLen e0))), .inr (.inl (.int, (f_lostLog e0))), .inr (.inl (.int, (f_lostLen e0))), .inr (.inl (.int, (f_nakBuf e0))), .inl [.ref 22, .ref 23, .ref 24, .ref 25, .ref 26, .ref 27, .ref 28, .ref 29, .ref 30, .ref 31, .ref 32, .ref 33, .null, .null, .null, .null, .null, .null, .null, .int (f_win ob0), .int (f_back ob0), .int (f_repair ob0), .int (f_period ob0), .int (f_nextSeq ob0), .int (f_qLen ob0), .int (f_nakLen ob0)], .inr (.inl (.int, (List.replicate 32 0))), .inr (.inl (.boolean, (List.replicate 32 0))), .inr (.inl (.int, (List.replicate 64 0))), .inr (.inl (.int, (List.replicate 10 0))), .inr (.inl (.int, (List.replicate 128 0))), .inr (.inl (.int, (List.replicate 128 0))), .inr (.inl (.int, (List.replicate 128 0))), .inr (.inl (.int, (List.replicate 4 0))), .inr (.inl (.int, (List.replicate 4 0))), .inr (.inl (.int, (List.replicate 4 0))), .inr (.inl (.int, (List.replicate 4 0))), .inr (.inl (.int, (List.replicate 4 0))), .inr (.inl (.int, (List.replicate 4 0)))])) rfl ?_
 refine zS Ad W 1 (st' := (105, [vR 21, vI x1, vI x2, vI x3, vI x4, none], [], [.inr (.inl (.int, s)), .inl [.ref 2, .ref 3, .ref 4, .ref 5, .ref 6, .ref 7, .ref 8, .ref 9, .ref 10, .ref 11, .ref 12, .ref 13, .ref 14, .ref 15, .ref 16, .ref 17, .ref 18, .ref 19, .ref 20, .int (f_win e0), .int (f_back e0), .int (f_repair e0), .int (f_period e0), .int (f_nextSeq e0), .int (f_qLen e0), .int (f_nakLen e0)], .inr (.inl (.int, (f_srcPayload e0))), .inr (.inl (.boolean, (f_pend e0))), .inr (.inl (.int, (f_queue e0))), .inr (.inl (.int, (f_stats e0))), .inr (.inl (.int, (f_state e0))), .inr (.inl (.int, (f_timer e0))), .inr (.inl (.int, (f_rxVal e0))), .inr (.inl (.int, (f_rxNext e0))), .inr (.inl (.int, (f_rxLead e0))), .inr (.inl (.int, (f_rxTrail e0))), .inr (.inl (.int, (f_lossLeft e0))), .inr (.inl (.int, (f_dups e0))), .inr (.inl (.int, (f_drops e0))), .inr (.inl (.int, (f_delSeq e0))), .inr (.inl (.int, (f_delVal e0))), .inr (.inl (.int, (f_delLen e0))), .inr (.inl (.int, (f_lostLog e0))), .inr (.inl (.int, (f_lostLen e0))), .inr (.inl (.int, (f_nakBuf e0))), .inl [.ref 22, .ref 23, .ref 24, .ref 25, .ref 26, .ref 27, .ref 28, .ref 29, .ref 30, .ref 31, .ref 32, .ref 33, .ref 34, .null, .null, .null, .null, .null, .null, .int (f_win ob0), .int (f_back ob0), .int (f_repair ob0), .int (f_period ob0), .int (f_nextSeq ob0), .int (f_qLen ob0), .int (f_nakLen ob0)], .inr (.inl (.int, (List.replicate 32 0))), .inr (.inl (.boolean, (List.replicate 32 0))), .inr (.inl (.int, (List.replicate 64 0))), .inr (.inl (.int, (List.replicate 10 0))), .inr (.inl (.int, (List.replicate 128 0))), .inr (.inl (.int, (List.replicate 128 0))), .inr (.inl (.int, (List.replicate 128 0))), .inr (.inl (.int, (List.replicate 4 0))), .inr (.inl (.int, (List.replicate 4 0))), .inr (.inl (.int, (List.replicate 4 0))), .inr (.inl (.int, (List.replicate 4 0))), .inr (.inl (.int, (List.replicate 4 0))), .inr (.inl (.int, (List.replicate 4 0)))])) rfl ?_
 refine zS Ad W 3 (st' := (111, [vR 21, vI x1, vI x2, vI x3, vI x4, none], [.ref 35, .ref 21], [.inr (.inl (.int, s)), .inl [.ref 2, .ref 3, .ref 4, .ref 5, .ref 6, .ref 7, .ref 8, .ref 9, .ref 10, .ref 11, .ref 12, .ref 13, .ref 14, .ref 15, .ref 16, .ref 17, .ref 18, .ref 19, .ref 20, .int (f_win e0), .int (f_back e0), .int (f_repair e0), .int (f_period e0), .int (f_nextSeq e0), .int (f_qLen e0), .int (f_nakLen e0)], .inr (.inl (.int, (f_srcPayload e0))), .inr (.inl (.boolean, (f_pend e0))), .inr (.inl (.int, (f_queue e0))), .inr (.inl (.int, (f_stats e0))), .inr (.inl (.int, (f_state e0))), .inr (.inl (.int, (f_timer e0))), .inr (.inl (.int, (f_rxVal e0))), .inr (.inl (.int, (f_rxNext e0))), .inr (.inl (.int, (f_rxLead e0))), .inr (.inl (.int, (f_rxTrail e0))), .inr (.inl (.int, (f_lossLeft e0))), .inr (.inl (.int, (f_dups e0))), .inr (.inl (.int, (f_drops e0))), .inr (.inl (.int, (f_delSeq e0))), .inr (.inl (.int, (f_delVal e0))), .inr (.inl (.int, (f_delLen e0))), .inr (.inl (.int, (f_lostLog e0))), .inr (.inl (.int, (f_lostLen e0))), .inr (.inl (.int, (f_nakBuf e0))), .inl [.ref 22, .ref 23, .ref 24, .ref 25, .ref 26, .ref 27, .ref 28, .ref 29, .ref 30, .ref 31, .ref 32, .ref 33, .ref 34, .null, .null, .null, .null, .null, .null, .int (f_win ob0), .int (f_back ob0), .int (f_repair ob0), .int (f_period ob0), .int (f_nextSeq ob0), .int (f_qLen ob0), .int (f_nakLen ob0)], .inr (.inl (.int, (List.replicate 32 0))), .inr (.inl (.boolean, (List.replicate 32 0))), .inr (.inl (.int, (List.replicate 64 0))), .inr (.inl (.int, (List.replicate 10 0))), .inr (.inl (.int, (List.replicate 128 0))), .inr (.inl (.int, (List.replicate 128 0))), .inr (.inl (.int, (List.replicate 128 0))), .inr (.inl (.int, (List.replicate 4 0))), .inr (.inl (.int, (List.replicate 4 0))), .inr (.inl (.int, (List.replicate 4 0))), .inr (.inl (.int, (List.replicate 4 0))), .inr (.inl (.int, (List.replicate 4 0))), .inr (.inl (.int, (List.replicate 4 0))), .inr (.inl (.int, (List.replicate 128 0)))])) rfl ?_
 refine zS Ad W 1 (st' := (114, [vR 21, vI x1, vI x2, vI x3, vI x4, none], [], [.inr (.inl (.int, s)), .inl [.ref 2, .ref 3, .ref 4, .ref 5, .ref 6, .ref 7, .ref 8, .ref 9, .ref 10, .ref 11, .ref 12, .ref 13, .ref 14, .ref 15, .ref 16, .ref 17, .ref 18, .ref 19, .ref 20, .int (f_win e0), .int (f_back e0), .int (f_repair e0), .int (f_period e0), .int (f_nextSeq e0), .int (f_qLen e0), .int (f_nakLen e0)], .inr (.inl (.int, (f_srcPayload e0))), .inr (.inl (.boolean, (f_pend e0))), .inr (.inl (.int, (f_queue e0))), .inr (.inl (.int, (f_stats e0))), .inr (.inl (.int, (f_state e0))), .inr (.inl (.int, (f_timer e0))), .inr (.inl (.int, (f_rxVal e0))), .inr (.inl (.int, (f_rxNext e0))), .inr (.inl (.int, (f_rxLead e0))), .inr (.inl (.int, (f_rxTrail e0))), .inr (.inl (.int, (f_lossLeft e0))), .inr (.inl (.int, (f_dups e0))), .inr (.inl (.int, (f_drops e0))), .inr (.inl (.int, (f_delSeq e0))), .inr (.inl (.int, (f_delVal e0))), .inr (.inl (.int, (f_delLen e0))), .inr (.inl (.int, (f_lostLog e0))), .inr (.inl (.int, (f_lostLen e0))), .inr (.inl (.int, (f_nakBuf e0))), .inl [.ref 22, .ref 23, .ref 24, .ref 25, .ref 26, .ref 27, .ref 28, .ref 29, .ref 30, .ref 31, .ref 32, .ref 33, .ref 34, .ref 35, .null, .null, .null, .null, .null, .int (f_win ob0), .int (f_back ob0), .int (f_repair ob0), .int (f_period ob0), .int (f_nextSeq ob0), .int (f_qLen ob0), .int (f_nakLen ob0)], .inr (.inl (.int, (List.replicate 32 0))), .inr (.inl (.boolean, (List.replicate 32 0))), .inr (.inl (.int, (List.replicate 64 0))), .inr (.inl (.int, (List.replicate 10 0))), .inr (.inl (.int, (List.replicate 128 0))), .inr (.inl (.int, (List.replicate 128 0))), .inr (.inl (.int, (List.replicate 128 0))), .inr (.inl (.int, (List.replicate 4 0))), .inr (.inl (.int, (List.replicate 4 0))), .inr (.inl (.int, (List.replicate 4 0))), .inr (.inl (.int, (List.replicate 4 0))), .inr (.inl (.int, (List.replicate 4 0))), .inr (.inl (.int, (List.replicate 4 0))), .inr (.inl (.int, (List.replicate 128 0)))])) rfl ?_
 refine zS Ad W 3 (st' := (120, [vR 21, vI x1, vI x2, vI x3, vI x4, none], [.ref 36, .ref 21], [.inr (.inl (.int, s)), .inl [.ref 2, .ref 3, .ref 4, .ref 5, .ref 6, .ref 7, .ref 8, .ref 9, .ref 10, .ref 11, .ref 12, .ref 13, .ref 14, .ref 15, .ref 16, .ref 17, .ref 18, .ref 19, .ref 20, .int (f_win e0), .int (f_back e0), .int (f_repair e0), .int (f_period e0), .int (f_nextSeq e0), .int (f_qLen e0), .int (f_nakLen e0)], .inr (.inl (.int, (f_srcPayload e0))), .inr (.inl (.boolean, (f_pend e0))), .inr (.inl (.int, (f_queue e0))), .inr (.inl (.int, (f_stats e0))), .inr (.inl (.int, (f_state e0))), .inr (.inl (.int, (f_timer e0))), .inr (.inl (.int, (f_rxVal e0))), .inr (.inl (.int, (f_rxNext e0))), .inr (.inl (.int, (f_rxLead e0))), .inr (.inl (.int, (f_rxTrail e0))), .inr (.inl (.int, (f_lossLeft e0))), .inr (.inl (.int, (f_dups e0))), .inr (.inl (.int, (f_drops e0))), .inr (.inl (.int, (f_delSeq e0))), .inr (.inl (.int, (f_delVal e0))), .inr (.inl (.int, (f_delLen e0))), .inr (.inl (.int, (f_lostLog e0))), .inr (.inl (.int, (f_lostLen e0))), .inr (.inl (.int, (f_nakBuf e0))), .inl [.ref 22, .ref 23, .ref 24, .ref 25, .ref 26, .ref 27, .ref 28, .ref 29, .ref 30, .ref 31, .ref 32, .ref 33, .ref 34, .ref 35, .null, .null, .null, .null, .null, .int (f_win ob0), .int (f_back ob0), .int (f_repair ob0), .int (f_period ob0), .int (f_nextSeq ob0), .int (f_qLen ob0), .int (f_nakLen ob0)], .inr (.inl (.int, (List.replicate 32 0))), .inr (.inl (.boolean, (List.replicate 32 0))), .inr (.inl (.int, (List.replicate 64 0))), .inr (.inl (.int, (List.replicate 10 0))), .inr (.inl (.int, (List.replicate 128 0))), .inr (.inl (.int, (List.replicate 128 0))), .inr (.inl (.int, (List.replicate 128 0))), .inr (.inl (.int, (List.replicate 4 0))), .inr (.inl (.int, (List.replicate 4 0))), .inr (.inl (.int, (List.replicate 4 0))), .inr (.inl (.int, (List.replicate 4 0))), .inr (.inl (.int, (List.replicate 4 0))), .inr (.inl (.int, (List.replicate 4 0))), .inr (.inl (.int, (List.replicate 128 0))), .inr (.inl (.int, (List.replicate 128 0)))])) rfl ?_
 refine zS Ad W 1 (st' := (123, [vR 21, vI x1, vI x2, vI x3, vI x4, none], [], [.inr (.inl (.int, s)), .inl [.ref 2, .ref 3, .ref 4, .ref 5, .ref 6, .ref 7, .ref 8, .ref 9, .ref 10, .ref 11, .ref 12, .ref 13, .ref 14, .ref 15, .ref 16, .ref 17, .ref 18, .ref 19, .ref 20, .int (f_win e0), .int (f_back e0), .int (f_repair e0), .int (f_period e0), .int (f_nextSeq e0), .int (f_qLen e0), .int (f_nakLen e0)], .inr (.inl (.int, (f_srcPayload e0))), .inr (.inl (.boolean, (f_pend e0))), .inr (.inl (.int, (f_queue e0))), .inr (.inl (.int, (f_stats e0))), .inr (.inl (.int, (f_state e0))), .inr (.inl (.int, (f_timer e0))), .inr (.inl (.int, (f_rxVal e0))), .inr (.inl (.int, (f_rxNext e0))), .inr (.inl (.int, (f_rxLead e0))), .inr (.inl (.int, (f_rxTrail e0))), .inr (.inl (.int, (f_lossLeft e0))), .inr (.inl (.int, (f_dups e0))), .inr (.inl (.int, (f_drops e0))), .inr (.inl (.int, (f_delSeq e0))), .inr (.inl (.int, (f_delVal e0))), .inr (.inl (.int, (f_delLen e0))), .inr (.inl (.int, (f_lostLog e0))), .inr (.inl (.int, (f_lostLen e0))), .inr (.inl (.int, (f_nakBuf e0))), .inl [.ref 22, .ref 23, .ref 24, .ref 25, .ref 26, .ref 27, .ref 28, .ref 29, .ref 30, .ref 31, .ref 32, .ref 33, .ref 34, .ref 35, .ref 36, .null, .null, .null, .null, .int (f_win ob0), .int (f_back ob0), .int (f_repair ob0), .int (f_period ob0), .int (f_nextSeq ob0), .int (f_qLen ob0), .int (f_nakLen ob0)], .inr (.inl (.int, (List.replicate 32 0))), .inr (.inl (.boolean, (List.replicate 32 0))), .inr (.inl (.int, (List.replicate 64 0))), .inr (.inl (.int, (List.replicate 10 0))), .inr (.inl (.int, (List.replicate 128 0))), .inr (.inl (.int, (List.replicate 128 0))), .inr (.inl (.int, (List.replicate 128 0))), .inr (.inl (.int, (List.replicate 4 0))), .inr (.inl (.int, (List.replicate 4 0))), .inr (.inl (.int, (List.replicate 4 0))), .inr (.inl (.int, (List.replicate 4 0))), .inr (.inl (.int, (List.replicate 4 0))), .inr (.inl (.int, (List.replicate 4 0))), .inr (.inl (.int, (List.replicate 128 0))), .inr (.inl (.int, (List.replicate 128 0)))])) rfl ?_
 refine zS Ad W 3 (st' := (127, [vR 21, vI x1, vI x2, vI x3, vI x4, none], [.ref 37, .ref 21], [.inr (.inl (.int, s)), .inl [.ref 2, .ref 3, .ref 4, .ref 5, .ref 6, .ref 7, .ref 8, .ref 9, .ref 10, .ref 11, .ref 12, .ref 13, .ref 14, .ref 15, .ref 16, .ref 17, .ref 18, .ref 19, .ref 20, .int (f_win e0), .int (f_back e0), .int (f_repair e0), .int (f_period e0), .int (f_nextSeq e0), .int (f_qLen e0), .int (f_nakLen e0)], .inr (.inl (.int, (f_srcPayload e0))), .inr (.inl (.boolean, (f_pend e0))), .inr (.inl (.int, (f_queue e0))), .inr (.inl (.int, (f_stats e0))), .inr (.inl (.int, (f_state e0))), .inr (.inl (.int, (f_timer e0))), .inr (.inl (.int, (f_rxVal e0))), .inr (.inl (.int, (f_rxNext e0))), .inr (.inl (.int, (f_rxLead e0))), .inr (.inl (.int, (f_rxTrail e0))), .inr (.inl (.int, (f_lossLeft e0))), .inr (.inl (.int, (f_dups e0))), .inr (.inl (.int, (f_drops e0))), .inr (.inl (.int, (f_delSeq e0))), .inr (.inl (.int, (f_delVal e0))), .inr (.inl (.int, (f_delLen e0))), .inr (.inl (.int, (f_lostLog e0))), .inr (.inl (.int, (f_lostLen e0))), .inr (.inl (.int, (f_nakBuf e0))), .inl [.ref 22, .ref 23, .ref 24, .ref 25, .ref 26, .ref 27, .ref 28, .ref 29, .ref 30, .ref 31, .ref 32, .ref 33, .ref 34, .ref 35, .ref 36, .null, .null, .null, .null, .int (f_win ob0), .int (f_back ob0), .int (f_repair ob0), .int (f_period ob0), .int (f_nextSeq ob0), .int (f_qLen ob0), .int (f_nakLen ob0)], .inr (.inl (.int, (List.replicate 32 0))), .inr (.inl (.boolean, (List.replicate 32 0))), .inr (.inl (.int, (List.replicate 64 0))), .inr (.inl (.int, (List.replicate 10 0))), .inr (.inl (.int, (List.replicate 128 0))), .inr (.inl (.int, (List.replicate 128 0))), .inr (.inl (.int, (List.replicate 128 0))), .inr (.inl (.int, (List.replicate 4 0))), .inr (.inl (.int, (List.replicate 4 0))), .inr (.inl (.int, (List.replicate 4 0))), .inr (.inl (.int, (List.replicate 4 0))), .inr (.inl (.int, (List.replicate 4 0))), .inr (.inl (.int, (List.replicate 4 0))), .inr (.inl (.int, (List.replicate 128 0))), .inr (.inl (.int, (List.replicate 128 0))), .inr (.inl (.int, (List.replicate 4 0)))])) rfl ?_
 refine zS Ad W 1 (st' := (130, [vR 21, vI x1, vI x2, vI x3, vI x4, none], [], [.inr (.inl (.int, s)), .inl [.ref 2, .ref 3, .ref 4, .ref 5, .ref 6, .ref 7, .ref 8, .ref 9, .ref 10, .ref 11, .ref 12, .ref 13, .ref 14, .ref 15, .ref 16, .ref 17, .ref 18, .ref 19, .ref 20, .int (f_win e0), .int (f_back e0), .int (f_repair e0), .int (f_period e0), .int (f_nextSeq e0), .int (f_qLen e0), .int (f_nakLen e0)], .inr (.inl (.int, (f_srcPayload e0))), .inr (.inl (.boolean, (f_pend e0))), .inr (.inl (.int, (f_queue e0))), .inr (.inl (.int, (f_stats e0))), .inr (.inl (.int, (f_state e0))), .inr (.inl (.int, (f_timer e0))), .inr (.inl (.int, (f_rxVal e0))), .inr (.inl (.int, (f_rxNext e0))), .inr (.inl (.int, (f_rxLead e0))), .inr (.inl (.int, (f_rxTrail e0))), .inr (.inl (.int, (f_lossLeft e0))), .inr (.inl (.int, (f_dups e0))), .inr (.inl (.int, (f_drops e0))), .inr (.inl (.int, (f_delSeq e0))), .inr (.inl (.int, (f_delVal e0))), .inr (.inl (.int, (f_delLen e0))), .inr (.inl (.int, (f_lostLog e0))), .inr (.inl (.int, (f_lostLen e0))), .inr (.inl (.int, (f_nakBuf e0))), .inl [.ref 22, .ref 23, .ref 24, .ref 25, .ref 26, .ref 27, .ref 28, .ref 29, .ref 30, .ref 31, .ref 32, .ref 33, .ref 34, .ref 35, .ref 36, .ref 37, .null, .null, .null, .int (f_win ob0), .int (f_back ob0), .int (f_repair ob0), .int (f_period ob0), .int (f_nextSeq ob0), .int (f_qLen ob0), .int (f_nakLen ob0)], .inr (.inl (.int, (List.replicate 32 0))), .inr (.inl (.boolean, (List.replicate 32 0))), .inr (.inl (.int, (List.replicate 64 0))), .inr (.inl (.int, (List.replicate 10 0))), .inr (.inl (.int, (List.replicate 128 0))), .inr (.inl (.int, (List.replicate 128 0))), .inr (.inl (.int, (List.replicate 128 0))), .inr (.inl (.int, (List.replicate 4 0))), .inr (.inl (.int, (List.replicate 4 0))), .inr (.inl (.int, (List.replicate 4 0))), .inr (.inl (.int, (List.replicate 4 0))), .inr (.inl (.int, (List.replicate 4 0))), .inr (.inl (.int, (List.replicate 4 0))), .inr (.inl (.int, (List.replicate 128 0))), .inr (.inl (.int, (List.replicate 128 0))), .inr (.inl (.int, (List.replicate 4 0)))])) rfl ?_
 refine zS Ad W 3 (st' := (136, [vR 21, vI x1, vI x2, vI x3, vI x4, none], [.ref 38, .ref 21], [.inr (.inl (.int, s)), .inl [.ref 2, .ref 3, .ref 4, .ref 5, .ref 6, .ref 7, .ref 8, .ref 9, .ref 10, .ref 11, .ref 12, .ref 13, .ref 14, .ref 15, .ref 16, .ref 17, .ref 18, .ref 19, .ref 20, .int (f_win e0), .int (f_back e0), .int (f_repair e0), .int (f_period e0), .int (f_nextSeq e0), .int (f_qLen e0), .int (f_nakLen e0)], .inr (.inl (.int, (f_srcPayload e0))), .inr (.inl (.boolean, (f_pend e0))), .inr (.inl (.int, (f_queue e0))), .inr (.inl (.int, (f_stats e0))), .inr (.inl (.int, (f_state e0))), .inr (.inl (.int, (f_timer e0))), .inr (.inl (.int, (f_rxVal e0))), .inr (.inl (.int, (f_rxNext e0))), .inr (.inl (.int, (f_rxLead e0))), .inr (.inl (.int, (f_rxTrail e0))), .inr (.inl (.int, (f_lossLeft e0))), .inr (.inl (.int, (f_dups e0))), .inr (.inl (.int, (f_drops e0))), .inr (.inl (.int, (f_delSeq e0))), .inr (.inl (.int, (f_delVal e0))), .inr (.inl (.int, (f_delLen e0))), .inr (.inl (.int, (f_lostLog e0))), .inr (.inl (.int, (f_lostLen e0))), .inr (.inl (.int, (f_nakBuf e0))), .inl [.ref 22, .ref 23, .ref 24, .ref 25, .ref 26, .ref 27, .ref 28, .ref 29, .ref 30, .ref 31, .ref 32, .ref 33, .ref 34, .ref 35, .ref 36, .ref 37, .null, .null, .null, .int (f_win ob0), .int (f_back ob0), .int (f_repair ob0), .int (f_period ob0), .int (f_nextSeq ob0), .int (f_qLen ob0), .int (f_nakLen ob0)], .inr (.inl (.int, (List.replicate 32 0))), .inr (.inl (.boolean, (List.replicate 32 0))), .inr (.inl (.int, (List.replicate 64 0))), .inr (.inl (.int, (List.replicate 10 0))), .inr (.inl (.int, (List.replicate 128 0))), .inr (.inl (.int, (List.replicate 128 0))), .inr (.inl (.int, (List.replicate 128 0))), .inr (.inl (.int, (List.replicate 4 0))), .inr (.inl (.int, (List.replicate 4 0))), .inr (.inl (.int, (List.replicate 4 0))), .inr (.inl (.int, (List.replicate 4 0))), .inr (.inl (.int, (List.replicate 4 0))), .inr (.inl (.int, (List.replicate 4 0))), .inr (.inl (.int, (List.replicate 128 0))), .inr (.inl (.int, (List.replicate 128 0))), .inr (.inl (.int, (List.replicate 4 0))), .inr (.inl (.int, (List.replicate 128 0)))])) rfl ?_
 refine zS Ad W 1 (st' := (139, [vR 21, vI x1, vI x2, vI x3, vI x4, none], [], [.inr (.inl (.int, s)), .inl [.ref 2, .ref 3, .ref 4, .ref 5, .ref 6, .ref 7, .ref 8, .ref 9, .ref 10, .ref 11, .ref 12, .ref 13, .ref 14, .ref 15, .ref 16, .ref 17, .ref 18, .ref 19, .ref 20, .int (f_win e0), .int (f_back e0), .int (f_repair e0), .int (f_period e0), .int (f_nextSeq e0), .int (f_qLen e0), .int (f_nakLen e0)], .inr (.inl (.int, (f_srcPayload e0))), .inr (.inl (.boolean, (f_pend e0))), .inr (.inl (.int, (f_queue e0))), .inr (.inl (.int, (f_stats e0))), .inr (.inl (.int, (f_state e0))), .inr (.inl (.int, (f_timer e0))), .inr (.inl (.int, (f_rxVal e0))), .inr (.inl (.int, (f_rxNext e0))), .inr (.inl (.int, (f_rxLead e0))), .inr (.inl (.int, (f_rxTrail e0))), .inr (.inl (.int, (f_lossLeft e0))), .inr (.inl (.int, (f_dups e0))), .inr (.inl (.int, (f_drops e0))), .inr (.inl (.int, (f_delSeq e0))), .inr (.inl (.int, (f_delVal e0))), .inr (.inl (.int, (f_delLen e0))), .inr (.inl (.int, (f_lostLog e0))), .inr (.inl (.int, (f_lostLen e0))), .inr (.inl (.int, (f_nakBuf e0))), .inl [.ref 22, .ref 23, .ref 24, .ref 25, .ref 26, .ref 27, .ref 28, .ref 29, .ref 30, .ref 31, .ref 32, .ref 33, .ref 34, .ref 35, .ref 36, .ref 37, .ref 38, .null, .null, .int (f_win ob0), .int (f_back ob0), .int (f_repair ob0), .int (f_period ob0), .int (f_nextSeq ob0), .int (f_qLen ob0), .int (f_nakLen ob0)], .inr (.inl (.int, (List.replicate 32 0))), .inr (.inl (.boolean, (List.replicate 32 0))), .inr (.inl (.int, (List.replicate 64 0))), .inr (.inl (.int, (List.replicate 10 0))), .inr (.inl (.int, (List.replicate 128 0))), .inr (.inl (.int, (List.replicate 128 0))), .inr (.inl (.int, (List.replicate 128 0))), .inr (.inl (.int, (List.replicate 4 0))), .inr (.inl (.int, (List.replicate 4 0))), .inr (.inl (.int, (List.replicate 4 0))), .inr (.inl (.int, (List.replicate 4 0))), .inr (.inl (.int, (List.replicate 4 0))), .inr (.inl (.int, (List.replicate 4 0))), .inr (.inl (.int, (List.replicate 128 0))), .inr (.inl (.int, (List.replicate 128 0))), .inr (.inl (.int, (List.replicate 4 0))), .inr (.inl (.int, (List.replicate 128 0)))])) rfl ?_
 refine zS Ad W 3 (st' := (143, [vR 21, vI x1, vI x2, vI x3, vI x4, none], [.ref 39, .ref 21], [.inr (.inl (.int, s)), .inl [.ref 2, .ref 3, .ref 4, .ref 5, .ref 6, .ref 7, .ref 8, .ref 9, .ref 10, .ref 11, .ref 12, .ref 13, .ref 14, .ref 15, .ref 16, .ref 17, .ref 18, .ref 19, .ref 20, .int (f_win e0), .int (f_back e0), .int (f_repair e0), .int (f_period e0), .int (f_nextSeq e0), .int (f_qLen e0), .int (f_nakLen e0)], .inr (.inl (.int, (f_srcPayload e0))), .inr (.inl (.boolean, (f_pend e0))), .inr (.inl (.int, (f_queue e0))), .inr (.inl (.int, (f_stats e0))), .inr (.inl (.int, (f_state e0))), .inr (.inl (.int, (f_timer e0))), .inr (.inl (.int, (f_rxVal e0))), .inr (.inl (.int, (f_rxNext e0))), .inr (.inl (.int, (f_rxLead e0))), .inr (.inl (.int, (f_rxTrail e0))), .inr (.inl (.int, (f_lossLeft e0))), .inr (.inl (.int, (f_dups e0))), .inr (.inl (.int, (f_drops e0))), .inr (.inl (.int, (f_delSeq e0))), .inr (.inl (.int, (f_delVal e0))), .inr (.inl (.int, (f_delLen e0))), .inr (.inl (.int, (f_lostLog e0))), .inr (.inl (.int, (f_lostLen e0))), .inr (.inl (.int, (f_nakBuf e0))), .inl [.ref 22, .ref 23, .ref 24, .ref 25, .ref 26, .ref 27, .ref 28, .ref 29, .ref 30, .ref 31, .ref 32, .ref 33, .ref 34, .ref 35, .ref 36, .ref 37, .ref 38, .null, .null, .int (f_win ob0), .int (f_back ob0), .int (f_repair ob0), .int (f_period ob0), .int (f_nextSeq ob0), .int (f_qLen ob0), .int (f_nakLen ob0)], .inr (.inl (.int, (List.replicate 32 0))), .inr (.inl (.boolean, (List.replicate 32 0))), .inr (.inl (.int, (List.replicate 64 0))), .inr (.inl (.int, (List.replicate 10 0))), .inr (.inl (.int, (List.replicate 128 0))), .inr (.inl (.int, (List.replicate 128 0))), .inr (.inl (.int, (List.replicate 128 0))), .inr (.inl (.int, (List.replicate 4 0))), .inr (.inl (.int, (List.replicate 4 0))), .inr (.inl (.int, (List.replicate 4 0))), .inr (.inl (.int, (List.replicate 4 0))), .inr (.inl (.int, (List.replicate 4 0))), .inr (.inl (.int, (List.replicate 4 0))), .inr (.inl (.int, (List.replicate 128 0))), .inr (.inl (.int, (List.replicate 128 0))), .inr (.inl (.int, (List.replicate 4 0))), .inr (.inl (.int, (List.replicate 128 0))), .inr (.inl (.int, (List.replicate 4 0)))])) rfl ?_
 refine zS Ad W 1 (st' := (146, [vR 21, vI x1, vI x2, vI x3, vI x4, none], [], [.inr (.inl (.int, s)), .inl [.ref 2, .ref 3, .ref 4, .ref 5, .ref 6, .ref 7, .ref 8, .ref 9, .ref 10, .ref 11, .ref 12, .ref 13, .ref 14, .ref 15, .ref 16, .ref 17, .ref 18, .ref 19, .ref 20, .int (f_win e0), .int (f_back e0), .int (f_repair e0), .int (f_period e0), .int (f_nextSeq e0), .int (f_qLen e0), .int (f_nakLen e0)], .inr (.inl (.int, (f_srcPayload e0))), .inr (.inl (.boolean, (f_pend e0))), .inr (.inl (.int, (f_queue e0))), .inr (.inl (.int, (f_stats e0))), .inr (.inl (.int, (f_state e0))), .inr (.inl (.int, (f_timer e0))), .inr (.inl (.int, (f_rxVal e0))), .inr (.inl (.int, (f_rxNext e0))), .inr (.inl (.int, (f_rxLead e0))), .inr (.inl (.int, (f_rxTrail e0))), .inr (.inl (.int, (f_lossLeft e0))), .inr (.inl (.int, (f_dups e0))), .inr (.inl (.int, (f_drops e0))), .inr (.inl (.int, (f_delSeq e0))), .inr (.inl (.int, (f_delVal e0))), .inr (.inl (.int, (f_delLen e0))), .inr (.inl (.int, (f_lostLog e0))), .inr (.inl (.int, (f_lostLen e0))), .inr (.inl (.int, (f_nakBuf e0))), .inl [.ref 22, .ref 23, .ref 24, .ref 25, .ref 26, .ref 27, .ref 28, .ref 29, .ref 30, .ref 31, .ref 32, .ref 33, .ref 34, .ref 35, .ref 36, .ref 37, .ref 38, .ref 39, .null, .int (f_win ob0), .int (f_back ob0), .int (f_repair ob0), .int (f_period ob0), .int (f_nextSeq ob0), .int (f_qLen ob0), .int (f_nakLen ob0)], .inr (.inl (.int, (List.replicate 32 0))), .inr (.inl (.boolean, (List.replicate 32 0))), .inr (.inl (.int, (List.replicate 64 0))), .inr (.inl (.int, (List.replicate 10 0))), .inr (.inl (.int, (List.replicate 128 0))), .inr (.inl (.int, (List.replicate 128 0))), .inr (.inl (.int, (List.replicate 128 0))), .inr (.inl (.int, (List.replicate 4 0))), .inr (.inl (.int, (List.replicate 4 0))), .inr (.inl (.int, (List.replicate 4 0))), .inr (.inl (.int, (List.replicate 4 0))), .inr (.inl (.int, (List.replicate 4 0))), .inr (.inl (.int, (List.replicate 4 0))), .inr (.inl (.int, (List.replicate 128 0))), .inr (.inl (.int, (List.replicate 128 0))), .inr (.inl (.int, (List.replicate 4 0))), .inr (.inl (.int, (List.replicate 128 0))), .inr (.inl (.int, (List.replicate 4 0)))])) rfl ?_
 refine zS Ad W 3 (st' := (152, [vR 21, vI x1, vI x2, vI x3, vI x4, none], [.ref 40, .ref 21], [.inr (.inl (.int, s)), .inl [.ref 2, .ref 3, .ref 4, .ref 5, .ref 6, .ref 7, .ref 8, .ref 9, .ref 10, .ref 11, .ref 12, .ref 13, .ref 14, .ref 15, .ref 16, .ref 17, .ref 18, .ref 19, .ref 20, .int (f_win e0), .int (f_back e0), .int (f_repair e0), .int (f_period e0), .int (f_nextSeq e0), .int (f_qLen e0), .int (f_nakLen e0)], .inr (.inl (.int, (f_srcPayload e0))), .inr (.inl (.boolean, (f_pend e0))), .inr (.inl (.int, (f_queue e0))), .inr (.inl (.int, (f_stats e0))), .inr (.inl (.int, (f_state e0))), .inr (.inl (.int, (f_timer e0))), .inr (.inl (.int, (f_rxVal e0))), .inr (.inl (.int, (f_rxNext e0))), .inr (.inl (.int, (f_rxLead e0))), .inr (.inl (.int, (f_rxTrail e0))), .inr (.inl (.int, (f_lossLeft e0))), .inr (.inl (.int, (f_dups e0))), .inr (.inl (.int, (f_drops e0))), .inr (.inl (.int, (f_delSeq e0))), .inr (.inl (.int, (f_delVal e0))), .inr (.inl (.int, (f_delLen e0))), .inr (.inl (.int, (f_lostLog e0))), .inr (.inl (.int, (f_lostLen e0))), .inr (.inl (.int, (f_nakBuf e0))), .inl [.ref 22, .ref 23, .ref 24, .ref 25, .ref 26, .ref 27, .ref 28, .ref 29, .ref 30, .ref 31, .ref 32, .ref 33, .ref 34, .ref 35, .ref 36, .ref 37, .ref 38, .ref 39, .null, .int (f_win ob0), .int (f_back ob0), .int (f_repair ob0), .int (f_period ob0), .int (f_nextSeq ob0), .int (f_qLen ob0), .int (f_nakLen ob0)], .inr (.inl (.int, (List.replicate 32 0))), .inr (.inl (.boolean, (List.replicate 32 0))), .inr (.inl (.int, (List.replicate 64 0))), .inr (.inl (.int, (List.replicate 10 0))), .inr (.inl (.int, (List.replicate 128 0))), .inr (.inl (.int, (List.replicate 128 0))), .inr (.inl (.int, (List.replicate 128 0))), .inr (.inl (.int, (List.replicate 4 0))), .inr (.inl (.int, (List.replicate 4 0))), .inr (.inl (.int, (List.replicate 4 0))), .inr (.inl (.int, (List.replicate 4 0))), .inr (.inl (.int, (List.replicate 4 0))), .inr (.inl (.int, (List.replicate 4 0))), .inr (.inl (.int, (List.replicate 128 0))), .inr (.inl (.int, (List.replicate 128 0))), .inr (.inl (.int, (List.replicate 4 0))), .inr (.inl (.int, (List.replicate 128 0))), .inr (.inl (.int, (List.replicate 4 0))), .inr (.inl (.int, (List.replicate 128 0)))])) rfl ?_
 refine zS Ad W 1 (st' := (155, [vR 21, vI x1, vI x2, vI x3, vI x4, none], [], (H1x6 s e0 ob0 (List.replicate 32 0) (List.replicate 32 0) (List.replicate 64 0) (List.replicate 10 0) (List.replicate 128 0) (List.replicate 128 0) (List.replicate 128 0) (List.replicate 4 0) (List.replicate 4 0) (List.replicate 4 0) (List.replicate 4 0) (List.replicate 4 0) (List.replicate 4 0) (List.replicate 128 0) (List.replicate 128 0) (List.replicate 4 0) (List.replicate 128 0) (List.replicate 4 0) (List.replicate 128 0)))) rfl ?_
 refine zS Ad W 5 (st' := (161, [vR 21, vI x1, vI x2, vI x3, vI x4, none], [.int (16:Int32), .int (2:Int32), .int x1, .ref 21, .ref 21], (H1x6 s e0 ob0 (List.replicate 32 0) (List.replicate 32 0) (List.replicate 64 0) (List.replicate 10 0) (List.replicate 128 0) (List.replicate 128 0) (List.replicate 128 0) (List.replicate 4 0) (List.replicate 4 0) (List.replicate 4 0) (List.replicate 4 0) (List.replicate 4 0) (List.replicate 4 0) (List.replicate 128 0) (List.replicate 128 0) (List.replicate 4 0) (List.replicate 128 0) (List.replicate 4 0) (List.replicate 128 0)))) rfl ?_
 obtain ⟨r14, hr14, h⟩ := bind_eq_some_iff.mp h
 refine QTri.callP W (a := 21) (as := [.int x1, .int (2:Int32), .int (16:Int32)]) (rest := [.ref 21]) (w := (some (.int r14))) (σ₁ := (H1x6 s e0 ob0 (List.replicate 32 0) (List.replicate 32 0) (List.replicate 64 0) (List.replicate 10 0) (List.replicate 128 0) (List.replicate 128 0) (List.replicate 128 0) (List.replicate 4 0) (List.replicate 4 0) (List.replicate 4 0) (List.replicate 4 0) (List.replicate 4 0) (List.replicate 4 0) (List.replicate 128 0) (List.replicate 128 0) (List.replicate 4 0) (List.replicate 128 0) (List.replicate 4 0) (List.replicate 128 0))) rfl rfl rfl rfl rfl rfl rfl rfl (tF2 Ad W x1 (2:Int32) (16:Int32) hr14) ?_
 refine zS Ad W 1 (st' := (167, [vR 21, vI x1, vI x2, vI x3, vI x4, none], [], (H1x7 s e0 ob0 (List.replicate 32 0) (List.replicate 32 0) (List.replicate 64 0) (List.replicate 10 0) (List.replicate 128 0) (List.replicate 128 0) (List.replicate 128 0) (List.replicate 4 0) (List.replicate 4 0) (List.replicate 4 0) (List.replicate 4 0) (List.replicate 4 0) (List.replicate 4 0) (List.replicate 128 0) (List.replicate 128 0) (List.replicate 4 0) (List.replicate 128 0) (List.replicate 4 0) (List.replicate 128 0) r14))) rfl ?_
 refine zS Ad W 5 (st' := (173, [vR 21, vI x1, vI x2, vI x3, vI x4, none], [.int (8:Int32), .int (1:Int32), .int x2, .ref 21, .ref 21], (H1x7 s e0 ob0 (List.replicate 32 0) (List.replicate 32 0) (List.replicate 64 0) (List.replicate 10 0) (List.replicate 128 0) (List.replicate 128 0) (List.replicate 128 0) (List.replicate 4 0) (List.replicate 4 0) (List.replicate 4 0) (List.replicate 4 0) (List.replicate 4 0) (List.replicate 4 0) (List.replicate 128 0) (List.replicate 128 0) (List.replicate 4 0) (List.replicate 128 0) (List.replicate 4 0) (List.replicate 128 0) r14))) rfl ?_
 obtain ⟨r15, hr15, h⟩ := bind_eq_some_iff.mp h
 refine QTri.callP W (a := 21) (as := [.int x2, .int (1:Int32), .int (8:Int32)]) (rest := [.ref 21]) (w := (some (.int r15))) (σ₁ := (H1x7 s e0 ob0 (List.replicate 32 0) (List.replicate 32 0) (List.replicate 64 0) (List.replicate 10 0) (List.replicate 128 0) (List.replicate 128 0) (List.replicate 128 0) (List.replicate 4 0) (List.replicate 4 0) (List.replicate 4 0) (List.replicate 4 0) (List.replicate 4 0) (List.replicate 4 0) (List.replicate 128 0) (List.replicate 128 0) (List.replicate 4 0) (List.replicate 128 0) (List.replicate 4 0) (List.replicate 128 0) r14)) rfl rfl rfl rfl rfl rfl rfl rfl (tF2 Ad W x2 (1:Int32) (8:Int32) hr15) ?_
 refine zS Ad W 1 (st' := (179, [vR 21, vI x1, vI x2, vI x3, vI x4, none], [], (H1x8 s e0 ob0 (List.replicate 32 0) (List.replicate 32 0) (List.replicate 64 0) (List.replicate 10 0) (List.replicate 128 0) (List.replicate 128 0) (List.replicate 128 0) (List.replicate 4 0) (List.replicate 4 0) (List.replicate 4 0) (List.replicate 4 0) (List.replicate 4 0) (List.replicate 4 0) (List.replicate 128 0) (List.replicate 128 0) (List.replicate 4 0) (List.replicate 128 0) (List.replicate 4 0) (List.replicate 128 0) r14 r15))) rfl ?_
 refine zS Ad W 5 (st' := (185, [vR 21, vI x1, vI x2, vI x3, vI x4, none], [.int (8:Int32), .int (1:Int32), .int x3, .ref 21, .ref 21], (H1x8 s e0 ob0 (List.replicate 32 0) (List.replicate 32 0) (List.replicate 64 0) (List.replicate 10 0) (List.replicate 128 0) (List.replicate 128 0) (List.replicate 128 0) (List.replicate 4 0) (List.replicate 4 0) (List.replicate 4 0) (List.replicate 4 0) (List.replicate 4 0) (List.replicate 4 0) (List.replicate 128 0) (List.replicate 128 0) (List.replicate 4 0) (List.replicate 128 0) (List.replicate 4 0) (List.replicate 128 0) r14 r15))) rfl ?_
 obtain ⟨r16, hr16, h⟩ := bind_eq_some_iff.mp h
 refine QTri.callP W (a := 21) (as := [.int x3, .int (1:Int32), .int (8:Int32)]) (rest := [.ref 21]) (w := (some (.int r16))) (σ₁ := (H1x8 s e0 ob0 (List.replicate 32 0) (List.replicate 32 0) (List.replicate 64 0) (List.replicate 10 0) (List.replicate 128 0) (List.replicate 128 0) (List.replicate 128 0) (List.replicate 4 0) (List.replicate 4 0) (List.replicate 4 0) (List.replicate 4 0) (List.replicate 4 0) (List.replicate 4 0) (List.replicate 128 0) (List.replicate 128 0) (List.replicate 4 0) (List.replicate 128 0) (List.replicate 4 0) (List.replicate 128 0) r14 r15)) rfl rfl rfl rfl rfl rfl rfl rfl (tF2 Ad W x3 (1:Int32) (8:Int32) hr16) ?_
 refine zS Ad W 1 (st' := (191, [vR 21, vI x1, vI x2, vI x3, vI x4, none], [], (H1x9 s e0 ob0 (List.replicate 32 0) (List.replicate 32 0) (List.replicate 64 0) (List.replicate 10 0) (List.replicate 128 0) (List.replicate 128 0) (List.replicate 128 0) (List.replicate 4 0) (List.replicate 4 0) (List.replicate 4 0) (List.replicate 4 0) (List.replicate 4 0) (List.replicate 4 0) (List.replicate 128 0) (List.replicate 128 0) (List.replicate 4 0) (List.replicate 128 0) (List.replicate 4 0) (List.replicate 128 0) r14 r15 r16))) rfl ?_
 refine zS Ad W 5 (st' := (198, [vR 21, vI x1, vI x2, vI x3, vI x4, none], [.int (16:Int32), .int (0:Int32), .int x4, .ref 21, .ref 21], (H1x9 s e0 ob0 (List.replicate 32 0) (List.replicate 32 0) (List.replicate 64 0) (List.replicate 10 0) (List.replicate 128 0) (List.replicate 128 0) (List.replicate 128 0) (List.replicate 4 0) (List.replicate 4 0) (List.replicate 4 0) (List.replicate 4 0) (List.replicate 4 0) (List.replicate 4 0) (List.replicate 128 0) (List.replicate 128 0) (List.replicate 4 0) (List.replicate 128 0) (List.replicate 4 0) (List.replicate 128 0) r14 r15 r16))) rfl ?_
 obtain ⟨r17, hr17, h⟩ := bind_eq_some_iff.mp h
 refine QTri.callP W (a := 21) (as := [.int x4, .int (0:Int32), .int (16:Int32)]) (rest := [.ref 21]) (w := (some (.int r17))) (σ₁ := (H1x9 s e0 ob0 (List.replicate 32 0) (List.replicate 32 0) (List.replicate 64 0) (List.replicate 10 0) (List.replicate 128 0) (List.replicate 128 0) (List.replicate 128 0) (List.replicate 4 0) (List.replicate 4 0) (List.replicate 4 0) (List.replicate 4 0) (List.replicate 4 0) (List.replicate 4 0) (List.replicate 128 0) (List.replicate 128 0) (List.replicate 4 0) (List.replicate 128 0) (List.replicate 4 0) (List.replicate 128 0) r14 r15 r16)) rfl rfl rfl rfl rfl rfl rfl rfl (tF2 Ad W x4 (0:Int32) (16:Int32) hr17) ?_
 refine zS Ad W 1 (st' := (204, [vR 21, vI x1, vI x2, vI x3, vI x4, none], [], (H1x10 s e0 ob0 (List.replicate 32 0) (List.replicate 32 0) (List.replicate 64 0) (List.replicate 10 0) (List.replicate 128 0) (List.replicate 128 0) (List.replicate 128 0) (List.replicate 4 0) (List.replicate 4 0) (List.replicate 4 0) (List.replicate 4 0) (List.replicate 4 0) (List.replicate 4 0) (List.replicate 128 0) (List.replicate 128 0) (List.replicate 4 0) (List.replicate 128 0) (List.replicate 4 0) (List.replicate 128 0) r14 r15 r16 r17))) rfl ?_
 refine zS Ad W 2 (st' := (207, [vR 21, vI x1, vI x2, vI x3, vI x4, vI (0:Int32)], [], (H1x10 s e0 ob0 (List.replicate 32 0) (List.replicate 32 0) (List.replicate 64 0) (List.replicate 10 0) (List.replicate 128 0) (List.replicate 128 0) (List.replicate 128 0) (List.replicate 4 0) (List.replicate 4 0) (List.replicate 4 0) (List.replicate 4 0) (List.replicate 4 0) (List.replicate 4 0) (List.replicate 128 0) (List.replicate 128 0) (List.replicate 4 0) (List.replicate 128 0) (List.replicate 4 0) (List.replicate 128 0) r14 r15 r16 r17))) rfl ?_
 have E18 : ((H1x10 s e0 ob0 (List.replicate 32 0) (List.replicate 32 0) (List.replicate 64 0) (List.replicate 10 0) (List.replicate 128 0) (List.replicate 128 0) (List.replicate 128 0) (List.replicate 4 0) (List.replicate 4 0) (List.replicate 4 0) (List.replicate 4 0) (List.replicate 4 0) (List.replicate 4 0) (List.replicate 128 0) (List.replicate 128 0) (List.replicate 4 0) (List.replicate 128 0) (List.replicate 4 0) (List.replicate 128 0) r14 r15 r16 r17) : QHeap) = (H1 s e0 (s_period (s_repair (s_back (s_win (s_nakBuf (s_lostLen (s_lostLog (s_delLen (s_delVal (s_delSeq (s_drops (s_dups (s_lossLeft (s_rxTrail (s_rxLead (s_rxNext (s_rxVal (s_timer (s_state (s_stats (s_queue (s_pend (s_srcPayload ob0 (List.replicate 32 0)) (List.replicate 32 0)) (List.replicate 64 0)) (List.replicate 10 0)) (List.replicate 128 0)) (List.replicate 128 0)) (List.replicate 128 0)) (List.replicate 4 0)) (List.replicate 4 0)) (List.replicate 4 0)) (List.replicate 4 0)) (List.replicate 4 0)) (List.replicate 4 0)) (List.replicate 128 0)) (List.replicate 128 0)) (List.replicate 4 0)) (List.replicate 128 0)) (List.replicate 4 0)) (List.replicate 128 0)) r14) r15) r16) r17)) := by simp only [fs, H1, H1v, H1x10, s_srcPayload, s_pend, s_queue, s_stats, s_state, s_timer, s_rxVal, s_rxNext, s_rxLead, s_rxTrail, s_lossLeft, s_dups, s_drops, s_delSeq, s_delVal, s_delLen, s_lostLog, s_lostLen, s_nakBuf, s_win, s_back, s_repair, s_period, ob0]
 rw [E18]
 obtain ⟨e22, he22, h⟩ := bind_eq_some_iff.mp h
 refine zM [tt,ff,ff,ff,ff,tt] (loopN_tri (B := B1_207) (T := fun lv23 => QTri l Z n0 ad 1 (207, [vR 21, none, none, none, none, vI lv23.1], [], (H1 s e0 lv23.2)) (none : Option Value) (H1 s e0 r)) (KE := fun e22a => (none : Option Value) = (none : Option Value) ∧ (H1 s e0 r) = (H1 s e0 e22a)) (fun lv23 r hB hE hC => tB1_207a1 Ad W s e0 lv23 hB (fun x q => hE _ q) (fun x q => hC x q)) qN ((0:Int32), (s_period (s_repair (s_back (s_win (s_nakBuf (s_lostLen (s_lostLog (s_delLen (s_delVal (s_delSeq (s_drops (s_dups (s_lossLeft (s_rxTrail (s_rxLead (s_rxNext (s_rxVal (s_timer (s_state (s_stats (s_queue (s_pend (s_srcPayload ob0 (List.replicate 32 0)) (List.replicate 32 0)) (List.replicate 64 0)) (List.replicate 10 0)) (List.replicate 128 0)) (List.replicate 128 0)) (List.replicate 128 0)) (List.replicate 4 0)) (List.replicate 4 0)) (List.replicate 4 0)) (List.replicate 4 0)) (List.replicate 4 0)) (List.replicate 4 0)) (List.replicate 128 0)) (List.replicate 128 0)) (List.replicate 4 0)) (List.replicate 128 0)) (List.replicate 4 0)) (List.replicate 128 0)) r14) r15) r16) r17)) e22 he22 ?_)
 obtain rfl := Option.some.inj h
 exact ⟨rfl, rfl⟩
def H1x12 (s : List Int32) (o0 o1 : Ob) (a1_0 : List Int32) : QHeap := H1v s (f_srcPayload o0) (f_pend o0) (f_queue o0) (f_stats o0) (f_state o0) (f_timer o0) (f_rxVal o0) (f_rxNext o0) (f_rxLead o0) (f_rxTrail o0) (f_lossLeft o0) (f_dups o0) (f_drops o0) (f_delSeq o0) (f_delVal o0) (f_delLen o0) (f_lostLog o0) (f_lostLen o0) (f_nakBuf o0) (f_win o0) (f_back o0) (f_repair o0) (f_period o0) (f_nextSeq o0) (f_qLen o0) (f_nakLen o0) a1_0 (f_pend o1) (f_queue o1) (f_stats o1) (f_state o1) (f_timer o1) (f_rxVal o1) (f_rxNext o1) (f_rxLead o1) (f_rxTrail o1) (f_lossLeft o1) (f_dups o1) (f_drops o1) (f_delSeq o1) (f_delVal o1) (f_delLen o1) (f_lostLog o1) (f_lostLen o1) (f_nakBuf o1) (f_win o1) (f_back o1) (f_repair o1) (f_period o1) (f_nextSeq o1) (f_qLen o1) (f_nakLen o1)
def H1x13 (s : List Int32) (o0 o1 : Ob) (a1_0 : List Int32) (a1_23 : Int32) : QHeap := H1v s (f_srcPayload o0) (f_pend o0) (f_queue o0) (f_stats o0) (f_state o0) (f_timer o0) (f_rxVal o0) (f_rxNext o0) (f_rxLead o0) (f_rxTrail o0) (f_lossLeft o0) (f_dups o0) (f_drops o0) (f_delSeq o0) (f_delVal o0) (f_delLen o0) (f_lostLog o0) (f_lostLen o0) (f_nakBuf o0) (f_win o0) (f_back o0) (f_repair o0) (f_period o0) (f_nextSeq o0) (f_qLen o0) (f_nakLen o0) a1_0 (f_pend o1) (f_queue o1) (f_stats o1) (f_state o1) (f_timer o1) (f_rxVal o1) (f_rxNext o1) (f_rxLead o1) (f_rxTrail o1) (f_lossLeft o1) (f_dups o1) (f_drops o1) (f_delSeq o1) (f_delVal o1) (f_delLen o1) (f_lostLog o1) (f_lostLen o1) (f_nakBuf o1) (f_win o1) (f_back o1) (f_repair o1) (f_period o1) a1_23 (f_qLen o1) (f_nakLen o1)
def H1x14 (s : List Int32) (o0 o1 : Ob) (a1_0 : List Int32) (a1_3 : List Int32) (a1_23 : Int32) : QHeap := H1v s (f_srcPayload o0) (f_pend o0) (f_queue o0) (f_stats o0) (f_state o0) (f_timer o0) (f_rxVal o0) (f_rxNext o0) (f_rxLead o0) (f_rxTrail o0) (f_lossLeft o0) (f_dups o0) (f_drops o0) (f_delSeq o0) (f_delVal o0) (f_delLen o0) (f_lostLog o0) (f_lostLen o0) (f_nakBuf o0) (f_win o0) (f_back o0) (f_repair o0) (f_period o0) (f_nextSeq o0) (f_qLen o0) (f_nakLen o0) a1_0 (f_pend o1) (f_queue o1) a1_3 (f_state o1) (f_timer o1) (f_rxVal o1) (f_rxNext o1) (f_rxLead o1) (f_rxTrail o1) (f_lossLeft o1) (f_dups o1) (f_drops o1) (f_delSeq o1) (f_delVal o1) (f_delLen o1) (f_lostLog o1) (f_lostLen o1) (f_nakBuf o1) (f_win o1) (f_back o1) (f_repair o1) (f_period o1) a1_23 (f_qLen o1) (f_nakLen o1)
/-- lead()I -/
def F14 (o : Ob) : Option (Int32) :=
 some ((f_nextSeq o) - (1:Int32))
theorem tF14 (Ad : QAd n0 ad) (W : QW Z a0) (s : List Int32) (e0 : Ob) (o : Ob) {r : Int32} (h : F14 o = some r) : QTri l Z n0 ad 14 (0, qentry [.ref 21] (pMaxL 14), [], (H1 s e0 o)) (some (Value.int r)) (H1 s e0 o) := by
 unfold F14 at h
 refine zS Ad W 4 (st' := (6, [vR 21], [.int ((f_nextSeq o) - (1:Int32))], (H1 s e0 o))) rfl ?_
 obtain rfl := Option.some.inj h
 exact QTri.retI rfl rfl
/-- trail()I -/
def F8 (o : Ob) : Option (Int32) :=
 (if ((f_nextSeq o) - (f_win o)) < (0:Int32) then some (0:Int32) else some ((f_nextSeq o) - (f_win o)))
theorem tF8 (Ad : QAd n0 ad) (W : QW Z a0) (s : List Int32) (e0 : Ob) (o : Ob) {r : Int32} (h : F8 o = some r) : QTri l Z n0 ad 8 (0, qentry [.ref 21] (pMaxL 8), [], (H1 s e0 o)) (some (Value.int r)) (H1 s e0 o) := by
 unfold F8 at h
 refine zS Ad W 7 (st' := (11, [vR 21, vI ((f_nextSeq o) - (f_win o))], [.int ((f_nextSeq o) - (f_win o))], (H1 s e0 o))) rfl ?_
 rcases qite h with ⟨hc37, h⟩ | ⟨hc37, h⟩
 ·refine zF Ad W (t := 16) (f := 14) rfl (XT.i0_ge_f hc37) ?_
  refine zS Ad W 1 (st' := (15, [vR 21, vI ((f_nextSeq o) - (f_win o))], [.int (0:Int32)], (H1 s e0 o))) rfl ?_
  obtain rfl := Option.some.inj h
  exact QTri.retI rfl rfl
 ·refine zT Ad W (t := 16) (f := 14) rfl (XT.i0_ge_t hc37) ?_
  refine zS Ad W 1 (st' := (17, [vR 21, vI ((f_nextSeq o) - (f_win o))], [.int ((f_nextSeq o) - (f_win o))], (H1 s e0 o))) rfl ?_
  obtain rfl := Option.some.inj h
  exact QTri.retI rfl rfl
/-- validSeq(I)Z -/
def F18 (x1 : Int32) : Option (Int32) :=
 (if x1 < (0:Int32) then some (0:Int32) else (if x1 < (32:Int32) then some (1:Int32) else some (0:Int32)))
theorem tF18 (Ad : QAd n0 ad) (W : QW Z a0) {a : Nat} {σ : QHeap} (x1 : Int32) {r : Int32} (h : F18 x1 = some r) : QTri l Z n0 ad 18 (0, qentry [.ref a, .int x1] (pMaxL 18), [], σ) (some (Value.int r)) σ := by
 unfold F18 at h
 refine zS Ad W 1 (st' := (1, [vR a, vI x1], [.int x1], σ)) rfl ?_
 rcases qite h with ⟨hc40, h⟩ | ⟨hc40, h⟩
 ·refine zT Ad W (t := 14) (f := 4) rfl (XT.i0_lt_t hc40) ?_
  refine zS Ad W 1 (st' := (15, [vR a, vI x1], [.int (0:Int32)], σ)) rfl ?_
  obtain rfl := Option.some.inj h
  exact QTri.retZ rfl rfl
 ·refine zF Ad W (t := 14) (f := 4) rfl (XT.i0_lt_f hc40) ?_
  refine zS Ad W 2 (st' := (7, [vR a, vI x1], [.int (32:Int32), .int x1], σ)) rfl ?_
  rcases qite h with ⟨hc41, h⟩ | ⟨hc41, h⟩
  ·refine zF Ad W (t := 14) (f := 10) rfl (XT.ii_ge_f hc41) ?_
   refine zS Ad W 2 (st' := (15, [vR a, vI x1], [.int (1:Int32)], σ)) rfl ?_
   obtain rfl := Option.some.inj h
   exact QTri.retZ rfl rfl
  ·refine zT Ad W (t := 14) (f := 10) rfl (XT.ii_ge_t hc41) ?_
   refine zS Ad W 1 (st' := (15, [vR a, vI x1], [.int (0:Int32)], σ)) rfl ?_
   obtain rfl := Option.some.inj h
   exact QTri.retZ rfl rfl
def H1x15 (s : List Int32) (o0 o1 : Ob) (a1_1 : List Int32) : QHeap := H1v s (f_srcPayload o0) (f_pend o0) (f_queue o0) (f_stats o0) (f_state o0) (f_timer o0) (f_rxVal o0) (f_rxNext o0) (f_rxLead o0) (f_rxTrail o0) (f_lossLeft o0) (f_dups o0) (f_drops o0) (f_delSeq o0) (f_delVal o0) (f_delLen o0) (f_lostLog o0) (f_lostLen o0) (f_nakBuf o0) (f_win o0) (f_back o0) (f_repair o0) (f_period o0) (f_nextSeq o0) (f_qLen o0) (f_nakLen o0) (f_srcPayload o1) a1_1 (f_queue o1) (f_stats o1) (f_state o1) (f_timer o1) (f_rxVal o1) (f_rxNext o1) (f_rxLead o1) (f_rxTrail o1) (f_lossLeft o1) (f_dups o1) (f_drops o1) (f_delSeq o1) (f_delVal o1) (f_delLen o1) (f_lostLog o1) (f_lostLen o1) (f_nakBuf o1) (f_win o1) (f_back o1) (f_repair o1) (f_period o1) (f_nextSeq o1) (f_qLen o1) (f_nakLen o1)
def B15_23 (x3 : Int32) (v : Int32 × Ob) : Option (((Ob)) ⊕ (Int32 × Ob)) :=
  (if v.1 < x3 then (if v.1 < (32 : Int32) then (aset (f_pend v.2) v.1 (0 : Int32)).bind fun y46 => some (.inr ((v.1 + (1 : Int32)), (s_pend v.2 y46))) else some (.inl v.2)) else some (.inl v.2))
theorem tB15_23 (Ad : QAd n0 ad) (W : QW Z a0) (s : List Int32) (e0 : Ob) (x3 : Int32) (v : Int32 × Ob) {r : ((Ob)) ⊕ (Int32 × Ob)} {u : Option Value} {τ : QHeap} (h : B15_23 x3 v = some r) (hx0 : ∀ x : Ob, r = .inl x → u = (none : Option Value) ∧ τ = (H1 s e0 x)) (hc : ∀ x : Int32 × Ob, r = .inr x → QTri l Z n0 ad 15 (23, [vR 21, none, none, vI x3, vI x.1], [], (H1 s e0 x.2)) u τ) : QTri l Z n0 ad 15 (23, [vR 21, none, none, vI x3, vI v.1], [], (H1 s e0 v.2)) u τ := by
 unfold B15_23 at h
 refine zS Ad W 2 (st' := (26, [vR 21, none, none, vI x3, vI v.1], [.int x3, .int v.1], (H1 s e0 v.2))) rfl ?_
 rcases qite h with ⟨hc44, h⟩ | ⟨hc44, h⟩
 ·refine zF Ad W (t := 50) (f := 29) rfl (XT.ii_ge_f hc44) ?_
  refine zS Ad W 2 (st' := (33, [vR 21, none, none, vI x3, vI v.1], [.int (32:Int32), .int v.1], (H1 s e0 v.2))) rfl ?_
  rcases qite h with ⟨hc45, h⟩ | ⟨hc45, h⟩
  ·refine zF Ad W (t := 50) (f := 36) rfl (XT.ii_ge_f hc45) ?_
   refine zS Ad W 4 (st' := (43, [vR 21, none, none, vI x3, vI v.1], [.int (0:Int32), .int v.1, .ref 23], (H1 s e0 v.2))) rfl ?_
   obtain ⟨y46, hy46, h⟩ := bind_eq_some_iff.mp h
   refine zB Ad W (f := fun y46 => (44, [vR 21, none, none, vI x3, vI v.1], [], (H1x15 s e0 v.2 y46))) rfl hy46 ?_
   refine zS Ad W 2 (st' := (23, [vR 21, none, none, vI x3, vI (v.1 + (1:Int32))], [], (H1x15 s e0 v.2 y46))) rfl ?_
   have E47 : ((H1x15 s e0 v.2 y46) : QHeap) = (H1 s e0 (s_pend v.2 y46)) := by simp only [fs, H1, H1v, H1x15, s_pend]
   rw [E47]
   obtain rfl := Option.some.inj h
   exact zM [tt,ff,ff,tt,tt] (hc ((v.1 + (1:Int32)), (s_pend v.2 y46)) rfl)
  ·refine zT Ad W (t := 50) (f := 36) rfl (XT.ii_ge_t hc45) ?_
   obtain rfl := Option.some.inj h
   obtain ⟨rfl, rfl⟩ := hx0 v.2 rfl
   exact QTri.ret0 rfl rfl
 ·refine zT Ad W (t := 50) (f := 29) rfl (XT.ii_ge_t hc44) ?_
  obtain rfl := Option.some.inj h
  obtain ⟨rfl, rfl⟩ := hx0 v.2 rfl
  exact QTri.ret0 rfl rfl
def J15_20 (o : Ob) (x3 : Int32) : Option (Ob) :=
  (loopN (B15_23 x3) qN ((0 : Int32), o)).bind fun e48 => some e48
theorem tJ15_20 (Ad : QAd n0 ad) (W : QW Z a0) (s : List Int32) (e0 : Ob) (o : Ob) (x3 : Int32) {r : Ob} (h : J15_20 o x3 = some r) : QTri l Z n0 ad 15 (20, [vR 21, none, none, vI x3, none], [], (H1 s e0 o)) (none : Option Value) (H1 s e0 r) := by
 unfold J15_20 at h
 refine zS Ad W 2 (st' := (23, [vR 21, none, none, vI x3, vI (0:Int32)], [], (H1 s e0 o))) rfl ?_
 obtain ⟨e48, he48, h⟩ := bind_eq_some_iff.mp h
 refine zM [tt,ff,ff,tt,tt] (loopN_tri (B := B15_23 x3) (T := fun lv49 => QTri l Z n0 ad 15 (23, [vR 21, none, none, vI x3, vI lv49.1], [], (H1 s e0 lv49.2)) (none : Option Value) (H1 s e0 r)) (KE := fun e48a => (none : Option Value) = (none : Option Value) ∧ (H1 s e0 r) = (H1 s e0 e48a)) (fun lv49 r hB hE hC => tB15_23 Ad W s e0 x3 lv49 hB (fun x q => hE _ q) (fun x q => hC x q)) qN ((0:Int32), o) e48 he48 ?_)
 obtain rfl := Option.some.inj h
 exact ⟨rfl, rfl⟩
/-- aggregatorApply(III)V -/
def F15 (o : Ob) (x1 : Int32) (x2 : Int32) (x3 : Int32) : Option (Ob) :=
 (if x1 = (1:Int32) then (F18 x2).bind fun r42 => (if r42 = (0:Int32) then (J15_20 o x3) else (aset (f_pend o) x2 (0:Int32)).bind fun y50 => (J15_20 (s_pend o y50) x3)) else (J15_20 o x3))
theorem tF15 (Ad : QAd n0 ad) (W : QW Z a0) (s : List Int32) (e0 : Ob) (o : Ob) (x1 : Int32) (x2 : Int32) (x3 : Int32) {r : Ob} (h : F15 o x1 x2 x3 = some r) : QTri l Z n0 ad 15 (0, qentry [.ref 21, .int x1, .int x2, .int x3] (pMaxL 15), [], (H1 s e0 o)) (none : Option Value) (H1 s e0 r) := by
 unfold F15 at h
 refine zS Ad W 2 (st' := (2, [vR 21, vI x1, vI x2, vI x3, none], [.int (1:Int32), .int x1], (H1 s e0 o))) rfl ?_
 rcases qite h with ⟨hc39, h⟩ | ⟨hc39, h⟩
 ·refine zF Ad W (t := 20) (f := 5) rfl (XT.ii_ne_f hc39) ?_
  refine zS Ad W 2 (st' := (7, [vR 21, vI x1, vI x2, vI x3, none], [.int x2, .ref 21], (H1 s e0 o))) rfl ?_
  obtain ⟨r42, hr42, h⟩ := bind_eq_some_iff.mp h
  refine QTri.callP W (a := 21) (as := [.int x2]) (rest := []) (w := (some (.int r42))) (σ₁ := (H1 s e0 o)) rfl rfl rfl rfl rfl rfl rfl rfl (tF18 Ad W x2 hr42) ?_
  rcases qite h with ⟨hc43, h⟩ | ⟨hc43, h⟩
  ·refine zT Ad W (t := 20) (f := 13) rfl (XT.i0_eq_t hc43) ?_
   exact zM [tt,ff,ff,tt,ff] (tJ15_20 Ad W s e0 o x3 h)
  ·refine zF Ad W (t := 20) (f := 13) rfl (XT.i0_eq_f hc43) ?_
   refine zS Ad W 4 (st' := (19, [vR 21, vI x1, vI x2, vI x3, none], [.int (0:Int32), .int x2, .ref 23], (H1 s e0 o))) rfl ?_
   obtain ⟨y50, hy50, h⟩ := bind_eq_some_iff.mp h
   refine zB Ad W (f := fun y50 => (20, [vR 21, vI x1, vI x2, vI x3, none], [], (H1x15 s e0 o y50))) rfl hy50 ?_
   have E51 : ((H1x15 s e0 o y50) : QHeap) = (H1 s e0 (s_pend o y50)) := by simp only [fs, H1, H1v, H1x15, s_pend]
   rw [E51]
   exact zM [tt,ff,ff,tt,ff] (tJ15_20 Ad W s e0 (s_pend o y50) x3 h)
 ·refine zT Ad W (t := 20) (f := 5) rfl (XT.ii_ne_t hc39) ?_
  exact zM [tt,ff,ff,tt,ff] (tJ15_20 Ad W s e0 o x3 h)
def H1x16 (s : List Int32) (o0 o1 : Ob) (a1_10 : List Int32) : QHeap := H1v s (f_srcPayload o0) (f_pend o0) (f_queue o0) (f_stats o0) (f_state o0) (f_timer o0) (f_rxVal o0) (f_rxNext o0) (f_rxLead o0) (f_rxTrail o0) (f_lossLeft o0) (f_dups o0) (f_drops o0) (f_delSeq o0) (f_delVal o0) (f_delLen o0) (f_lostLog o0) (f_lostLen o0) (f_nakBuf o0) (f_win o0) (f_back o0) (f_repair o0) (f_period o0) (f_nextSeq o0) (f_qLen o0) (f_nakLen o0) (f_srcPayload o1) (f_pend o1) (f_queue o1) (f_stats o1) (f_state o1) (f_timer o1) (f_rxVal o1) (f_rxNext o1) (f_rxLead o1) (f_rxTrail o1) a1_10 (f_dups o1) (f_drops o1) (f_delSeq o1) (f_delVal o1) (f_delLen o1) (f_lostLog o1) (f_lostLen o1) (f_nakBuf o1) (f_win o1) (f_back o1) (f_repair o1) (f_period o1) (f_nextSeq o1) (f_qLen o1) (f_nakLen o1)
def H1x17 (s : List Int32) (o0 o1 : Ob) (a1_10 : List Int32) (a1_12 : List Int32) : QHeap := H1v s (f_srcPayload o0) (f_pend o0) (f_queue o0) (f_stats o0) (f_state o0) (f_timer o0) (f_rxVal o0) (f_rxNext o0) (f_rxLead o0) (f_rxTrail o0) (f_lossLeft o0) (f_dups o0) (f_drops o0) (f_delSeq o0) (f_delVal o0) (f_delLen o0) (f_lostLog o0) (f_lostLen o0) (f_nakBuf o0) (f_win o0) (f_back o0) (f_repair o0) (f_period o0) (f_nextSeq o0) (f_qLen o0) (f_nakLen o0) (f_srcPayload o1) (f_pend o1) (f_queue o1) (f_stats o1) (f_state o1) (f_timer o1) (f_rxVal o1) (f_rxNext o1) (f_rxLead o1) (f_rxTrail o1) a1_10 (f_dups o1) a1_12 (f_delSeq o1) (f_delVal o1) (f_delLen o1) (f_lostLog o1) (f_lostLen o1) (f_nakBuf o1) (f_win o1) (f_back o1) (f_repair o1) (f_period o1) (f_nextSeq o1) (f_qLen o1) (f_nakLen o1)
def H1x18 (s : List Int32) (o0 o1 : Ob) (a1_3 : List Int32) (a1_10 : List Int32) (a1_12 : List Int32) : QHeap := H1v s (f_srcPayload o0) (f_pend o0) (f_queue o0) (f_stats o0) (f_state o0) (f_timer o0) (f_rxVal o0) (f_rxNext o0) (f_rxLead o0) (f_rxTrail o0) (f_lossLeft o0) (f_dups o0) (f_drops o0) (f_delSeq o0) (f_delVal o0) (f_delLen o0) (f_lostLog o0) (f_lostLen o0) (f_nakBuf o0) (f_win o0) (f_back o0) (f_repair o0) (f_period o0) (f_nextSeq o0) (f_qLen o0) (f_nakLen o0) (f_srcPayload o1) (f_pend o1) (f_queue o1) a1_3 (f_state o1) (f_timer o1) (f_rxVal o1) (f_rxNext o1) (f_rxLead o1) (f_rxTrail o1) a1_10 (f_dups o1) a1_12 (f_delSeq o1) (f_delVal o1) (f_delLen o1) (f_lostLog o1) (f_lostLen o1) (f_nakBuf o1) (f_win o1) (f_back o1) (f_repair o1) (f_period o1) (f_nextSeq o1) (f_qLen o1) (f_nakLen o1)
def H1x19 (s : List Int32) (o0 o1 : Ob) (a1_4 : List Int32) : QHeap := H1v s (f_srcPayload o0) (f_pend o0) (f_queue o0) (f_stats o0) (f_state o0) (f_timer o0) (f_rxVal o0) (f_rxNext o0) (f_rxLead o0) (f_rxTrail o0) (f_lossLeft o0) (f_dups o0) (f_drops o0) (f_delSeq o0) (f_delVal o0) (f_delLen o0) (f_lostLog o0) (f_lostLen o0) (f_nakBuf o0) (f_win o0) (f_back o0) (f_repair o0) (f_period o0) (f_nextSeq o0) (f_qLen o0) (f_nakLen o0) (f_srcPayload o1) (f_pend o1) (f_queue o1) (f_stats o1) a1_4 (f_timer o1) (f_rxVal o1) (f_rxNext o1) (f_rxLead o1) (f_rxTrail o1) (f_lossLeft o1) (f_dups o1) (f_drops o1) (f_delSeq o1) (f_delVal o1) (f_delLen o1) (f_lostLog o1) (f_lostLen o1) (f_nakBuf o1) (f_win o1) (f_back o1) (f_repair o1) (f_period o1) (f_nextSeq o1) (f_qLen o1) (f_nakLen o1)
/-- backoffOf(I)I -/
def F24 (o : Ob) (x1 : Int32) : Option (Int32) :=
 some ((f_back o) + x1)
theorem tF24 (Ad : QAd n0 ad) (W : QW Z a0) (s : List Int32) (e0 : Ob) (o : Ob) (x1 : Int32) {r : Int32} (h : F24 o x1 = some r) : QTri l Z n0 ad 24 (0, qentry [.ref 21, .int x1] (pMaxL 24), [], (H1 s e0 o)) (some (Value.int r)) (H1 s e0 o) := by
 unfold F24 at h
 refine zS Ad W 4 (st' := (6, [vR 21, vI x1], [.int ((f_back o) + x1)], (H1 s e0 o))) rfl ?_
 obtain rfl := Option.some.inj h
 exact QTri.retI rfl rfl
def H1x20 (s : List Int32) (o0 o1 : Ob) (a1_5 : List Int32) : QHeap := H1v s (f_srcPayload o0) (f_pend o0) (f_queue o0) (f_stats o0) (f_state o0) (f_timer o0) (f_rxVal o0) (f_rxNext o0) (f_rxLead o0) (f_rxTrail o0) (f_lossLeft o0) (f_dups o0) (f_drops o0) (f_delSeq o0) (f_delVal o0) (f_delLen o0) (f_lostLog o0) (f_lostLen o0) (f_nakBuf o0) (f_win o0) (f_back o0) (f_repair o0) (f_period o0) (f_nextSeq o0) (f_qLen o0) (f_nakLen o0) (f_srcPayload o1) (f_pend o1) (f_queue o1) (f_stats o1) (f_state o1) a1_5 (f_rxVal o1) (f_rxNext o1) (f_rxLead o1) (f_rxTrail o1) (f_lossLeft o1) (f_dups o1) (f_drops o1) (f_delSeq o1) (f_delVal o1) (f_delLen o1) (f_lostLog o1) (f_lostLen o1) (f_nakBuf o1) (f_win o1) (f_back o1) (f_repair o1) (f_period o1) (f_nextSeq o1) (f_qLen o1) (f_nakLen o1)
def J19_70 (o : Ob) (x1 : Int32) (x2 : Int32) (x4 : Int32) : Option (((Ob)) ⊕ (Int32 × Ob)) :=
  some (.inr ((x4 + (1 : Int32)), o))
theorem tJ19_70 (Ad : QAd n0 ad) (W : QW Z a0) (s : List Int32) (e0 : Ob) (o : Ob) (x1 : Int32) (x2 : Int32) (x4 : Int32) {r : ((Ob)) ⊕ (Int32 × Ob)} {u : Option Value} {τ : QHeap} (h : J19_70 o x1 x2 x4 = some r) (hx0 : ∀ x : Ob, r = .inl x → QTri l Z n0 ad 19 (76, [vR 21, vI x1, vI x2, none, none, none], [], (H1 s e0 x)) u τ) (hc : ∀ x : Int32 × Ob, r = .inr x → QTri l Z n0 ad 19 (18, [vR 21, vI x1, vI x2, none, vI x.1, none], [], (H1 s e0 x.2)) u τ) : QTri l Z n0 ad 19 (70, [vR 21, vI x1, vI x2, none, vI x4, none], [], (H1 s e0 o)) u τ := by
 unfold J19_70 at h
 refine zS Ad W 2 (st' := (18, [vR 21, vI x1, vI x2, none, vI (x4 + (1:Int32)), none], [], (H1 s e0 o))) rfl ?_
 obtain rfl := Option.some.inj h
 exact zM [tt,tt,tt,ff,tt,ff] (hc ((x4 + (1:Int32)), o) rfl)
def B19_18 (x1 : Int32) (x2 : Int32) (v : Int32 × Ob) : Option (((Ob)) ⊕ (Int32 × Ob)) :=
  (if x2 < v.1 then some (.inl v.2) else (if v.1 < (32 : Int32) then (aget (f_state v.2) ((x1 * (32 : Int32)) + v.1)).bind fun y72 => (if y72 = (0 : Int32) then (aset (f_state v.2) ((x1 * (32 : Int32)) + v.1) (1 : Int32)).bind fun y74 => (F24 (s_state v.2 y74) x1).bind fun r76 => (aset (f_timer (s_state v.2 y74)) ((x1 * (32 : Int32)) + v.1) r76).bind fun y77 => (J19_70 (s_timer (s_state v.2 y74) y77) x1 x2 v.1) else (J19_70 v.2 x1 x2 v.1)) else some (.inl v.2)))
theorem tB19_18 (Ad : QAd n0 ad) (W : QW Z a0) (s : List Int32) (e0 : Ob) (x1 : Int32) (x2 : Int32) (v : Int32 × Ob) {r : ((Ob)) ⊕ (Int32 × Ob)} {u : Option Value} {τ : QHeap} (h : B19_18 x1 x2 v = some r) (hx0 : ∀ x : Ob, r = .inl x → QTri l Z n0 ad 19 (76, [vR 21, vI x1, vI x2, none, none, none], [], (H1 s e0 x)) u τ) (hc : ∀ x : Int32 × Ob, r = .inr x → QTri l Z n0 ad 19 (18, [vR 21, vI x1, vI x2, none, vI x.1, none], [], (H1 s e0 x.2)) u τ) : QTri l Z n0 ad 19 (18, [vR 21, vI x1, vI x2, none, vI v.1, none], [], (H1 s e0 v.2)) u τ := by
 unfold B19_18 at h
 refine zS Ad W 2 (st' := (21, [vR 21, vI x1, vI x2, none, vI v.1, none], [.int x2, .int v.1], (H1 s e0 v.2))) rfl ?_
 rcases qite h with ⟨hc70, h⟩ | ⟨hc70, h⟩
 ·refine zT Ad W (t := 76) (f := 24) rfl (XT.ii_gt_t hc70) ?_
  obtain rfl := Option.some.inj h
  exact zM [tt,tt,tt,ff,ff,ff] (hx0 v.2 rfl)
 ·refine zF Ad W (t := 76) (f := 24) rfl (XT.ii_gt_f hc70) ?_
  refine zS Ad W 2 (st' := (28, [vR 21, vI x1, vI x2, none, vI v.1, none], [.int (32:Int32), .int v.1], (H1 s e0 v.2))) rfl ?_
  rcases qite h with ⟨hc71, h⟩ | ⟨hc71, h⟩
  ·refine zF Ad W (t := 76) (f := 31) rfl (XT.ii_ge_f hc71) ?_
   refine zS Ad W 9 (st' := (46, [vR 21, vI x1, vI x2, none, vI v.1, vI ((x1 * (32:Int32)) + v.1)], [.int ((x1 * (32:Int32)) + v.1), .ref 26], (H1 s e0 v.2))) rfl ?_
   obtain ⟨y72, hy72, h⟩ := bind_eq_some_iff.mp h
   refine zB Ad W (f := fun y72 => (47, [vR 21, vI x1, vI x2, none, vI v.1, vI ((x1 * (32:Int32)) + v.1)], [.int y72], (H1 s e0 v.2))) rfl hy72 ?_
   rcases qite h with ⟨hc73, h⟩ | ⟨hc73, h⟩
   ·refine zF Ad W (t := 70) (f := 50) rfl (XT.i0_ne_f hc73) ?_
    refine zS Ad W 4 (st' := (57, [vR 21, vI x1, vI x2, none, vI v.1, vI ((x1 * (32:Int32)) + v.1)], [.int (1:Int32), .int ((x1 * (32:Int32)) + v.1), .ref 26], (H1 s e0 v.2))) rfl ?_
    obtain ⟨y74, hy74, h⟩ := bind_eq_some_iff.mp h
    refine zB Ad W (f := fun y74 => (58, [vR 21, vI x1, vI x2, none, vI v.1, vI ((x1 * (32:Int32)) + v.1)], [], (H1x19 s e0 v.2 y74))) rfl hy74 ?_
    refine zS Ad W 5 (st' := (66, [vR 21, vI x1, vI x2, none, vI v.1, vI ((x1 * (32:Int32)) + v.1)], [.int x1, .ref 21, .int ((x1 * (32:Int32)) + v.1), .ref 27], (H1x19 s e0 v.2 y74))) rfl ?_
    have E75 : ((H1x19 s e0 v.2 y74) : QHeap) = (H1 s e0 (s_state v.2 y74)) := by simp only [fs, H1, H1v, H1x19, s_state]
    rw [E75]
    obtain ⟨r76, hr76, h⟩ := bind_eq_some_iff.mp h
    refine QTri.callP W (a := 21) (as := [.int x1]) (rest := [.int ((x1 * (32:Int32)) + v.1), .ref 27]) (w := (some (.int r76))) (σ₁ := (H1 s e0 (s_state v.2 y74))) rfl rfl rfl rfl rfl rfl rfl rfl (tF24 Ad W s e0 (s_state v.2 y74) x1 hr76) ?_
    obtain ⟨y77, hy77, h⟩ := bind_eq_some_iff.mp h
    refine zB Ad W (f := fun y77 => (70, [vR 21, vI x1, vI x2, none, vI v.1, vI ((x1 * (32:Int32)) + v.1)], [], (H1x20 s e0 (s_state v.2 y74) y77))) rfl hy77 ?_
    have E78 : ((H1x20 s e0 (s_state v.2 y74) y77) : QHeap) = (H1 s e0 (s_timer (s_state v.2 y74) y77)) := by simp only [fs, H1, H1v, H1x20, s_timer]
    rw [E78]
    exact zM [tt,tt,tt,ff,tt,ff] (tJ19_70 Ad W s e0 (s_timer (s_state v.2 y74) y77) x1 x2 v.1 h hx0 hc)
   ·refine zT Ad W (t := 70) (f := 50) rfl (XT.i0_ne_t hc73) ?_
    exact zM [tt,tt,tt,ff,tt,ff] (tJ19_70 Ad W s e0 v.2 x1 x2 v.1 h hx0 hc)
  ·refine zT Ad W (t := 76) (f := 31) rfl (XT.ii_ge_t hc71) ?_
   obtain rfl := Option.some.inj h
   exact zM [tt,tt,tt,ff,ff,ff] (hx0 v.2 rfl)
def J19_76 (o : Ob) (x1 : Int32) (x2 : Int32) : Option (Ob) :=
  (aget (f_rxLead o) x1).bind fun y81 => (if y81 < x2 then (aset (f_rxLead o) x1 x2).bind fun y83 => some (s_rxLead o y83) else some o)
theorem tJ19_76 (Ad : QAd n0 ad) (W : QW Z a0) (s : List Int32) (e0 : Ob) (o : Ob) (x1 : Int32) (x2 : Int32) {r : Ob} (h : J19_76 o x1 x2 = some r) : QTri l Z n0 ad 19 (76, [vR 21, vI x1, vI x2, none, none, none], [], (H1 s e0 o)) (none : Option Value) (H1 s e0 r) := by
 unfold J19_76 at h
 refine zS Ad W 4 (st' := (82, [vR 21, vI x1, vI x2, none, none, none], [.int x1, .ref 30, .int x2], (H1 s e0 o))) rfl ?_
 obtain ⟨y81, hy81, h⟩ := bind_eq_some_iff.mp h
 refine zB Ad W (f := fun y81 => (83, [vR 21, vI x1, vI x2, none, none, none], [.int y81, .int x2], (H1 s e0 o))) rfl hy81 ?_
 rcases qite h with ⟨hc82, h⟩ | ⟨hc82, h⟩
 ·refine zF Ad W (t := 93) (f := 86) rfl (XT.ii_le_f hc82) ?_
  refine zS Ad W 4 (st' := (92, [vR 21, vI x1, vI x2, none, none, none], [.int x2, .int x1, .ref 30], (H1 s e0 o))) rfl ?_
  obtain ⟨y83, hy83, h⟩ := bind_eq_some_iff.mp h
  refine zB Ad W (f := fun y83 => (93, [vR 21, vI x1, vI x2, none, none, none], [], (H1x11 s e0 o y83))) rfl hy83 ?_
  have E84 : ((H1x11 s e0 o y83) : QHeap) = (H1 s e0 (s_rxLead o y83)) := by simp only [fs, H1, H1v, H1x11, s_rxLead]
  rw [E84]
  obtain rfl := Option.some.inj h
  exact QTri.ret0 rfl rfl
 ·refine zT Ad W (t := 93) (f := 86) rfl (XT.ii_le_t hc82) ?_
  obtain rfl := Option.some.inj h
  exact QTri.ret0 rfl rfl
/-- applyLead(II)V -/
def F19 (o : Ob) (x1 : Int32) (x2 : Int32) : Option (Ob) :=
 (aget (f_rxLead o) x1).bind fun y66 => (loopN (B19_18 x1 x2) qN ((if (y66 + (1:Int32)) < (0:Int32) then (0:Int32) else (y66 + (1:Int32))), o)).bind fun e79 => (J19_76 e79 x1 x2)
theorem tF19 (Ad : QAd n0 ad) (W : QW Z a0) (s : List Int32) (e0 : Ob) (o : Ob) (x1 : Int32) (x2 : Int32) {r : Ob} (h : F19 o x1 x2 = some r) : QTri l Z n0 ad 19 (0, qentry [.ref 21, .int x1, .int x2] (pMaxL 19), [], (H1 s e0 o)) (none : Option Value) (H1 s e0 r) := by
 unfold F19 at h
 refine zS Ad W 3 (st' := (5, [vR 21, vI x1, vI x2, none, none, none], [.int x1, .ref 30], (H1 s e0 o))) rfl ?_
 obtain ⟨y66, hy66, h⟩ := bind_eq_some_iff.mp h
 refine zB Ad W (f := fun y66 => (6, [vR 21, vI x1, vI x2, none, none, none], [.int y66], (H1 s e0 o))) rfl hy66 ?_
 refine zS Ad W 4 (st' := (10, [vR 21, vI x1, vI x2, vI (y66 + (1:Int32)), none, none], [.int (y66 + (1:Int32))], (H1 s e0 o))) rfl ?_
 have K68 : ∀ z67 : Int32, z67 = (if (y66 + (1:Int32)) < (0:Int32) then (0:Int32) else (y66 + (1:Int32))) → QTri l Z n0 ad 19 (15, [vR 21, vI x1, vI x2, vI z67, none, none], [], (H1 s e0 o)) (none : Option Value) (H1 s e0 r) := by
  intro z67 ez67
  subst ez67
  refine zS Ad W 2 (st' := (18, [vR 21, vI x1, vI x2, vI (if (y66 + (1:Int32)) < (0:Int32) then (0:Int32) else (y66 + (1:Int32))), vI (if (y66 + (1:Int32)) < (0:Int32) then (0:Int32) else (y66 + (1:Int32))), none], [], (H1 s e0 o))) rfl ?_
  obtain ⟨e79, he79, h⟩ := bind_eq_some_iff.mp h
  refine zM [tt,tt,tt,ff,tt,ff] (loopN_tri (B := B19_18 x1 x2) (T := fun lv80 => QTri l Z n0 ad 19 (18, [vR 21, vI x1, vI x2, none, vI lv80.1, none], [], (H1 s e0 lv80.2)) (none : Option Value) (H1 s e0 r)) (KE := fun e79a => QTri l Z n0 ad 19 (76, [vR 21, vI x1, vI x2, none, none, none], [], (H1 s e0 e79a)) (none : Option Value) (H1 s e0 r)) (fun lv80 r hB hE hC => tB19_18 Ad W s e0 x1 x2 lv80 hB (fun x q => hE _ q) (fun x q => hC x q)) qN ((if (y66 + (1:Int32)) < (0:Int32) then (0:Int32) else (y66 + (1:Int32))), o) e79 he79 ?_)
  exact zM [tt,tt,tt,ff,ff,ff] (tJ19_76 Ad W s e0 e79 x1 x2 h)
 rcases em ((y66 + (1:Int32)) < (0:Int32)) with hc69 | hc69
 ·refine zF Ad W (t := 15) (f := 13) rfl (XT.i0_ge_f hc69) ?_
  refine zS Ad W 2 (st' := (15, [vR 21, vI x1, vI x2, vI (0:Int32), none, none], [], (H1 s e0 o))) rfl ?_
  exact zM [tt,tt,tt,tt,ff,ff] (K68 _ (if_pos hc69).symm)
 ·refine zT Ad W (t := 15) (f := 13) rfl (XT.i0_ge_t hc69) ?_
  exact zM [tt,tt,tt,tt,ff,ff] (K68 _ (if_neg hc69).symm)
def H1x21 (s : List Int32) (o0 o1 : Ob) (a1_9 : List Int32) : QHeap := H1v s (f_srcPayload o0) (f_pend o0) (f_queue o0) (f_stats o0) (f_state o0) (f_timer o0) (f_rxVal o0) (f_rxNext o0) (f_rxLead o0) (f_rxTrail o0) (f_lossLeft o0) (f_dups o0) (f_drops o0) (f_delSeq o0) (f_delVal o0) (f_delLen o0) (f_lostLog o0) (f_lostLen o0) (f_nakBuf o0) (f_win o0) (f_back o0) (f_repair o0) (f_period o0) (f_nextSeq o0) (f_qLen o0) (f_nakLen o0) (f_srcPayload o1) (f_pend o1) (f_queue o1) (f_stats o1) (f_state o1) (f_timer o1) (f_rxVal o1) (f_rxNext o1) (f_rxLead o1) a1_9 (f_lossLeft o1) (f_dups o1) (f_drops o1) (f_delSeq o1) (f_delVal o1) (f_delLen o1) (f_lostLog o1) (f_lostLen o1) (f_nakBuf o1) (f_win o1) (f_back o1) (f_repair o1) (f_period o1) (f_nextSeq o1) (f_qLen o1) (f_nakLen o1)
def J20_108 (o : Ob) (x1 : Int32) (x2 : Int32) (x4 : Int32) : Option (((Ob)) ⊕ (Int32 × Ob)) :=
  some (.inr ((x4 + (1 : Int32)), o))
theorem tJ20_108 (Ad : QAd n0 ad) (W : QW Z a0) (s : List Int32) (e0 : Ob) (o : Ob) (x1 : Int32) (x2 : Int32) (x4 : Int32) {r : ((Ob)) ⊕ (Int32 × Ob)} {u : Option Value} {τ : QHeap} (h : J20_108 o x1 x2 x4 = some r) (hx0 : ∀ x : Ob, r = .inl x → u = (none : Option Value) ∧ τ = (H1 s e0 x)) (hc : ∀ x : Int32 × Ob, r = .inr x → QTri l Z n0 ad 20 (34, [vR 21, vI x1, vI x2, none, vI x.1, none, none], [], (H1 s e0 x.2)) u τ) : QTri l Z n0 ad 20 (108, [vR 21, vI x1, vI x2, none, vI x4, none, none], [], (H1 s e0 o)) u τ := by
 unfold J20_108 at h
 refine zS Ad W 2 (st' := (34, [vR 21, vI x1, vI x2, none, vI (x4 + (1:Int32)), none, none], [], (H1 s e0 o))) rfl ?_
 obtain rfl := Option.some.inj h
 exact zM [tt,tt,tt,ff,tt,ff,ff] (hc ((x4 + (1:Int32)), o) rfl)
def H1x22 (s : List Int32) (o0 o1 : Ob) (a1_4 : List Int32) (a1_5 : List Int32) : QHeap := H1v s (f_srcPayload o0) (f_pend o0) (f_queue o0) (f_stats o0) (f_state o0) (f_timer o0) (f_rxVal o0) (f_rxNext o0) (f_rxLead o0) (f_rxTrail o0) (f_lossLeft o0) (f_dups o0) (f_drops o0) (f_delSeq o0) (f_delVal o0) (f_delLen o0) (f_lostLog o0) (f_lostLen o0) (f_nakBuf o0) (f_win o0) (f_back o0) (f_repair o0) (f_period o0) (f_nextSeq o0) (f_qLen o0) (f_nakLen o0) (f_srcPayload o1) (f_pend o1) (f_queue o1) (f_stats o1) a1_4 a1_5 (f_rxVal o1) (f_rxNext o1) (f_rxLead o1) (f_rxTrail o1) (f_lossLeft o1) (f_dups o1) (f_drops o1) (f_delSeq o1) (f_delVal o1) (f_delLen o1) (f_lostLog o1) (f_lostLen o1) (f_nakBuf o1) (f_win o1) (f_back o1) (f_repair o1) (f_period o1) (f_nextSeq o1) (f_qLen o1) (f_nakLen o1)
def H1x23 (s : List Int32) (o0 o1 : Ob) (a1_16 : List Int32) : QHeap := H1v s (f_srcPayload o0) (f_pend o0) (f_queue o0) (f_stats o0) (f_state o0) (f_timer o0) (f_rxVal o0) (f_rxNext o0) (f_rxLead o0) (f_rxTrail o0) (f_lossLeft o0) (f_dups o0) (f_drops o0) (f_delSeq o0) (f_delVal o0) (f_delLen o0) (f_lostLog o0) (f_lostLen o0) (f_nakBuf o0) (f_win o0) (f_back o0) (f_repair o0) (f_period o0) (f_nextSeq o0) (f_qLen o0) (f_nakLen o0) (f_srcPayload o1) (f_pend o1) (f_queue o1) (f_stats o1) (f_state o1) (f_timer o1) (f_rxVal o1) (f_rxNext o1) (f_rxLead o1) (f_rxTrail o1) (f_lossLeft o1) (f_dups o1) (f_drops o1) (f_delSeq o1) (f_delVal o1) (f_delLen o1) a1_16 (f_lostLen o1) (f_nakBuf o1) (f_win o1) (f_back o1) (f_repair o1) (f_period o1) (f_nextSeq o1) (f_qLen o1) (f_nakLen o1)
def H1x24 (s : List Int32) (o0 o1 : Ob) (a1_16 : List Int32) (a1_17 : List Int32) : QHeap := H1v s (f_srcPayload o0) (f_pend o0) (f_queue o0) (f_stats o0) (f_state o0) (f_timer o0) (f_rxVal o0) (f_rxNext o0) (f_rxLead o0) (f_rxTrail o0) (f_lossLeft o0) (f_dups o0) (f_drops o0) (f_delSeq o0) (f_delVal o0) (f_delLen o0) (f_lostLog o0) (f_lostLen o0) (f_nakBuf o0) (f_win o0) (f_back o0) (f_repair o0) (f_period o0) (f_nextSeq o0) (f_qLen o0) (f_nakLen o0) (f_srcPayload o1) (f_pend o1) (f_queue o1) (f_stats o1) (f_state o1) (f_timer o1) (f_rxVal o1) (f_rxNext o1) (f_rxLead o1) (f_rxTrail o1) (f_lossLeft o1) (f_dups o1) (f_drops o1) (f_delSeq o1) (f_delVal o1) (f_delLen o1) a1_16 a1_17 (f_nakBuf o1) (f_win o1) (f_back o1) (f_repair o1) (f_period o1) (f_nextSeq o1) (f_qLen o1) (f_nakLen o1)
/-- appendLost(II)V -/
def F25 (o : Ob) (x1 : Int32) (x2 : Int32) : Option (Ob) :=
 (aget (f_lostLen o) x1).bind fun y103 => (if y103 < (32:Int32) then (aget (f_lostLen o) x1).bind fun y105 => (aset (f_lostLog o) ((x1 * (32:Int32)) + y105) x2).bind fun y106 => (aget (f_lostLen o) x1).bind fun y107 => (aset (f_lostLen o) x1 (y107 + (1:Int32))).bind fun y108 => some (s_lostLen (s_lostLog o y106) y108) else some o)
theorem tF25 (Ad : QAd n0 ad) (W : QW Z a0) (s : List Int32) (e0 : Ob) (o : Ob) (x1 : Int32) (x2 : Int32) {r : Ob} (h : F25 o x1 x2 = some r) : QTri l Z n0 ad 25 (0, qentry [.ref 21, .int x1, .int x2] (pMaxL 25), [], (H1 s e0 o)) (none : Option Value) (H1 s e0 r) := by
 unfold F25 at h
 refine zS Ad W 3 (st' := (5, [vR 21, vI x1, vI x2], [.int x1, .ref 39], (H1 s e0 o))) rfl ?_
 obtain ⟨y103, hy103, h⟩ := bind_eq_some_iff.mp h
 refine zB Ad W (f := fun y103 => (6, [vR 21, vI x1, vI x2], [.int y103], (H1 s e0 o))) rfl hy103 ?_
 refine zS Ad W 1 (st' := (8, [vR 21, vI x1, vI x2], [.int (32:Int32), .int y103], (H1 s e0 o))) rfl ?_
 rcases qite h with ⟨hc104, h⟩ | ⟨hc104, h⟩
 ·refine zF Ad W (t := 38) (f := 11) rfl (XT.ii_ge_f hc104) ?_
  refine zS Ad W 8 (st' := (24, [vR 21, vI x1, vI x2], [.int x1, .ref 39, .int (x1 * (32:Int32)), .ref 38], (H1 s e0 o))) rfl ?_
  obtain ⟨y105, hy105, h⟩ := bind_eq_some_iff.mp h
  refine zB Ad W (f := fun y105 => (25, [vR 21, vI x1, vI x2], [.int y105, .int (x1 * (32:Int32)), .ref 38], (H1 s e0 o))) rfl hy105 ?_
  refine zS Ad W 2 (st' := (27, [vR 21, vI x1, vI x2], [.int x2, .int ((x1 * (32:Int32)) + y105), .ref 38], (H1 s e0 o))) rfl ?_
  obtain ⟨y106, hy106, h⟩ := bind_eq_some_iff.mp h
  refine zB Ad W (f := fun y106 => (28, [vR 21, vI x1, vI x2], [], (H1x23 s e0 o y106))) rfl hy106 ?_
  refine zS Ad W 4 (st' := (34, [vR 21, vI x1, vI x2], [.int x1, .ref 39, .int x1, .ref 39], (H1x23 s e0 o y106))) rfl ?_
  obtain ⟨y107, hy107, h⟩ := bind_eq_some_iff.mp h
  refine zB Ad W (f := fun y107 => (35, [vR 21, vI x1, vI x2], [.int y107, .int x1, .ref 39], (H1x23 s e0 o y106))) rfl hy107 ?_
  refine zS Ad W 2 (st' := (37, [vR 21, vI x1, vI x2], [.int (y107 + (1:Int32)), .int x1, .ref 39], (H1x23 s e0 o y106))) rfl ?_
  obtain ⟨y108, hy108, h⟩ := bind_eq_some_iff.mp h
  refine zB Ad W (f := fun y108 => (38, [vR 21, vI x1, vI x2], [], (H1x24 s e0 o y106 y108))) rfl hy108 ?_
  have E109 : ((H1x24 s e0 o y106 y108) : QHeap) = (H1 s e0 (s_lostLen (s_lostLog o y106) y108)) := by simp only [fs, H1, H1v, H1x24, s_lostLog, s_lostLen]
  rw [E109]
  obtain rfl := Option.some.inj h
  exact QTri.ret0 rfl rfl
 ·refine zT Ad W (t := 38) (f := 11) rfl (XT.ii_ge_t hc104) ?_
  obtain rfl := Option.some.inj h
  exact QTri.ret0 rfl rfl
def B20_34 (x1 : Int32) (x2 : Int32) (v : Int32 × Ob) : Option (((Ob)) ⊕ (Int32 × Ob)) :=
  (if v.1 < x2 then (if v.1 < (32 : Int32) then (aget (f_state v.2) ((x1 * (32 : Int32)) + v.1)).bind fun y96 => (if y96 = (4 : Int32) then (J20_108 v.2 x1 x2 v.1) else (if y96 = (5 : Int32) then (J20_108 v.2 x1 x2 v.1) else (if y96 = (6 : Int32) then (J20_108 v.2 x1 x2 v.1) else (aset (f_state v.2) ((x1 * (32 : Int32)) + v.1) (6 : Int32)).bind fun y100 => (aset (f_timer v.2) ((x1 * (32 : Int32)) + v.1) (0 : Int32)).bind fun y101 => (F25 (s_timer (s_state v.2 y100) y101) x1 v.1).bind fun r110 => (J20_108 r110 x1 x2 v.1)))) else some (.inl v.2)) else some (.inl v.2))
theorem tB20_34 (Ad : QAd n0 ad) (W : QW Z a0) (s : List Int32) (e0 : Ob) (x1 : Int32) (x2 : Int32) (v : Int32 × Ob) {r : ((Ob)) ⊕ (Int32 × Ob)} {u : Option Value} {τ : QHeap} (h : B20_34 x1 x2 v = some r) (hx0 : ∀ x : Ob, r = .inl x → u = (none : Option Value) ∧ τ = (H1 s e0 x)) (hc : ∀ x : Int32 × Ob, r = .inr x → QTri l Z n0 ad 20 (34, [vR 21, vI x1, vI x2, none, vI x.1, none, none], [], (H1 s e0 x.2)) u τ) : QTri l Z n0 ad 20 (34, [vR 21, vI x1, vI x2, none, vI v.1, none, none], [], (H1 s e0 v.2)) u τ := by
 unfold B20_34 at h
 refine zS Ad W 2 (st' := (37, [vR 21, vI x1, vI x2, none, vI v.1, none, none], [.int x2, .int v.1], (H1 s e0 v.2))) rfl ?_
 rcases qite h with ⟨hc94, h⟩ | ⟨hc94, h⟩
 ·refine zF Ad W (t := 114) (f := 40) rfl (XT.ii_ge_f hc94) ?_
  refine zS Ad W 2 (st' := (44, [vR 21, vI x1, vI x2, none, vI v.1, none, none], [.int (32:Int32), .int v.1], (H1 s e0 v.2))) rfl ?_
  rcases qite h with ⟨hc95, h⟩ | ⟨hc95, h⟩
  ·refine zF Ad W (t := 114) (f := 47) rfl (XT.ii_ge_f hc95) ?_
   refine zS Ad W 9 (st' := (62, [vR 21, vI x1, vI x2, none, vI v.1, vI ((x1 * (32:Int32)) + v.1), none], [.int ((x1 * (32:Int32)) + v.1), .ref 26], (H1 s e0 v.2))) rfl ?_
   obtain ⟨y96, hy96, h⟩ := bind_eq_some_iff.mp h
   refine zB Ad W (f := fun y96 => (63, [vR 21, vI x1, vI x2, none, vI v.1, vI ((x1 * (32:Int32)) + v.1), none], [.int y96], (H1 s e0 v.2))) rfl hy96 ?_
   refine zS Ad W 3 (st' := (68, [vR 21, vI x1, vI x2, none, vI v.1, vI ((x1 * (32:Int32)) + v.1), vI y96], [.int (4:Int32), .int y96], (H1 s e0 v.2))) rfl ?_
   rcases qite h with ⟨hc97, h⟩ | ⟨hc97, h⟩
   ·refine zT Ad W (t := 108) (f := 71) rfl (XT.ii_eq_t hc97) ?_
    exact zM [tt,tt,tt,ff,tt,ff,ff] (tJ20_108 Ad W s e0 v.2 x1 x2 v.1 h hx0 hc)
   ·refine zF Ad W (t := 108) (f := 71) rfl (XT.ii_eq_f hc97) ?_
    refine zS Ad W 2 (st' := (74, [vR 21, vI x1, vI x2, none, vI v.1, vI ((x1 * (32:Int32)) + v.1), vI y96], [.int (5:Int32), .int y96], (H1 s e0 v.2))) rfl ?_
    rcases qite h with ⟨hc98, h⟩ | ⟨hc98, h⟩
    ·refine zT Ad W (t := 108) (f := 77) rfl (XT.ii_eq_t hc98) ?_
     exact zM [tt,tt,tt,ff,tt,ff,ff] (tJ20_108 Ad W s e0 v.2 x1 x2 v.1 h hx0 hc)
    ·refine zF Ad W (t := 108) (f := 77) rfl (XT.ii_eq_f hc98) ?_
     refine zS Ad W 2 (st' := (81, [vR 21, vI x1, vI x2, none, vI v.1, vI ((x1 * (32:Int32)) + v.1), vI y96], [.int (6:Int32), .int y96], (H1 s e0 v.2))) rfl ?_
     rcases qite h with ⟨hc99, h⟩ | ⟨hc99, h⟩
     ·refine zT Ad W (t := 108) (f := 84) rfl (XT.ii_eq_t hc99) ?_
      exact zM [tt,tt,tt,ff,tt,ff,ff] (tJ20_108 Ad W s e0 v.2 x1 x2 v.1 h hx0 hc)
     ·refine zF Ad W (t := 108) (f := 84) rfl (XT.ii_eq_f hc99) ?_
      refine zS Ad W 4 (st' := (92, [vR 21, vI x1, vI x2, none, vI v.1, vI ((x1 * (32:Int32)) + v.1), vI y96], [.int (6:Int32), .int ((x1 * (32:Int32)) + v.1), .ref 26], (H1 s e0 v.2))) rfl ?_
      obtain ⟨y100, hy100, h⟩ := bind_eq_some_iff.mp h
      refine zB Ad W (f := fun y100 => (93, [vR 21, vI x1, vI x2, none, vI v.1, vI ((x1 * (32:Int32)) + v.1), vI y96], [], (H1x19 s e0 v.2 y100))) rfl hy100 ?_
      refine zS Ad W 4 (st' := (100, [vR 21, vI x1, vI x2, none, vI v.1, vI ((x1 * (32:Int32)) + v.1), vI y96], [.int (0:Int32), .int ((x1 * (32:Int32)) + v.1), .ref 27], (H1x19 s e0 v.2 y100))) rfl ?_
      obtain ⟨y101, hy101, h⟩ := bind_eq_some_iff.mp h
      refine zB Ad W (f := fun y101 => (101, [vR 21, vI x1, vI x2, none, vI v.1, vI ((x1 * (32:Int32)) + v.1), vI y96], [], (H1x22 s e0 v.2 y100 y101))) rfl hy101 ?_
      refine zS Ad W 3 (st' := (105, [vR 21, vI x1, vI x2, none, vI v.1, vI ((x1 * (32:Int32)) + v.1), vI y96], [.int v.1, .int x1, .ref 21], (H1x22 s e0 v.2 y100 y101))) rfl ?_
      have E102 : ((H1x22 s e0 v.2 y100 y101) : QHeap) = (H1 s e0 (s_timer (s_state v.2 y100) y101)) := by simp only [fs, H1, H1v, H1x22, s_state, s_timer]
      rw [E102]
      obtain ⟨r110, hr110, h⟩ := bind_eq_some_iff.mp h
      refine QTri.callP W (a := 21) (as := [.int x1, .int v.1]) (rest := []) (w := none) (σ₁ := (H1 s e0 r110)) rfl rfl rfl rfl rfl rfl rfl rfl (tF25 Ad W s e0 (s_timer (s_state v.2 y100) y101) x1 v.1 hr110) ?_
      exact zM [tt,tt,tt,ff,tt,ff,ff] (tJ20_108 Ad W s e0 r110 x1 x2 v.1 h hx0 hc)
  ·refine zT Ad W (t := 114) (f := 47) rfl (XT.ii_ge_t hc95) ?_
   obtain rfl := Option.some.inj h
   obtain ⟨rfl, rfl⟩ := hx0 v.2 rfl
   exact QTri.ret0 rfl rfl
 ·refine zT Ad W (t := 114) (f := 40) rfl (XT.ii_ge_t hc94) ?_
  obtain rfl := Option.some.inj h
  obtain ⟨rfl, rfl⟩ := hx0 v.2 rfl
  exact QTri.ret0 rfl rfl
/-- applyTrail(II)V -/
def F20 (o : Ob) (x1 : Int32) (x2 : Int32) : Option (Ob) :=
 (aget (f_rxTrail o) x1).bind fun y86 => (if y86 < x2 then (aset (f_rxTrail o) x1 x2).bind fun y88 => (aget (f_rxNext o) x1).bind fun y89 => (loopN (B20_34 x1 x2) qN ((if y89 < (0:Int32) then (0:Int32) else y89), (s_rxTrail o y88))).bind fun e111 => some e111 else some o)
theorem tF20 (Ad : QAd n0 ad) (W : QW Z a0) (s : List Int32) (e0 : Ob) (o : Ob) (x1 : Int32) (x2 : Int32) {r : Ob} (h : F20 o x1 x2 = some r) : QTri l Z n0 ad 20 (0, qentry [.ref 21, .int x1, .int x2] (pMaxL 20), [], (H1 s e0 o)) (none : Option Value) (H1 s e0 r) := by
 unfold F20 at h
 refine zS Ad W 4 (st' := (6, [vR 21, vI x1, vI x2, none, none, none, none], [.int x1, .ref 31, .int x2], (H1 s e0 o))) rfl ?_
 obtain ⟨y86, hy86, h⟩ := bind_eq_some_iff.mp h
 refine zB Ad W (f := fun y86 => (7, [vR 21, vI x1, vI x2, none, none, none, none], [.int y86, .int x2], (H1 s e0 o))) rfl hy86 ?_
 rcases qite h with ⟨hc87, h⟩ | ⟨hc87, h⟩
 ·refine zT Ad W (t := 11) (f := 10) rfl (XT.ii_gt_t hc87) ?_
  refine zS Ad W 4 (st' := (17, [vR 21, vI x1, vI x2, none, none, none, none], [.int x2, .int x1, .ref 31], (H1 s e0 o))) rfl ?_
  obtain ⟨y88, hy88, h⟩ := bind_eq_some_iff.mp h
  refine zB Ad W (f := fun y88 => (18, [vR 21, vI x1, vI x2, none, none, none, none], [], (H1x21 s e0 o y88))) rfl hy88 ?_
  refine zS Ad W 3 (st' := (23, [vR 21, vI x1, vI x2, none, none, none, none], [.int x1, .ref 29], (H1x21 s e0 o y88))) rfl ?_
  obtain ⟨y89, hy89, h⟩ := bind_eq_some_iff.mp h
  refine zB Ad W (f := fun y89 => (24, [vR 21, vI x1, vI x2, none, none, none, none], [.int y89], (H1x21 s e0 o y88))) rfl hy89 ?_
  refine zS Ad W 2 (st' := (26, [vR 21, vI x1, vI x2, vI y89, none, none, none], [.int y89], (H1x21 s e0 o y88))) rfl ?_
  have K91 : ∀ z90 : Int32, z90 = (if y89 < (0:Int32) then (0:Int32) else y89) → QTri l Z n0 ad 20 (31, [vR 21, vI x1, vI x2, vI z90, none, none, none], [], (H1x21 s e0 o y88)) (none : Option Value) (H1 s e0 r) := by
   intro z90 ez90
   subst ez90
   refine zS Ad W 2 (st' := (34, [vR 21, vI x1, vI x2, vI (if y89 < (0:Int32) then (0:Int32) else y89), vI (if y89 < (0:Int32) then (0:Int32) else y89), none, none], [], (H1x21 s e0 o y88))) rfl ?_
   have E93 : ((H1x21 s e0 o y88) : QHeap) = (H1 s e0 (s_rxTrail o y88)) := by simp only [fs, H1, H1v, H1x21, s_rxTrail]
   rw [E93]
   obtain ⟨e111, he111, h⟩ := bind_eq_some_iff.mp h
   refine zM [tt,tt,tt,ff,tt,ff,ff] (loopN_tri (B := B20_34 x1 x2) (T := fun lv112 => QTri l Z n0 ad 20 (34, [vR 21, vI x1, vI x2, none, vI lv112.1, none, none], [], (H1 s e0 lv112.2)) (none : Option Value) (H1 s e0 r)) (KE := fun e111a => (none : Option Value) = (none : Option Value) ∧ (H1 s e0 r) = (H1 s e0 e111a)) (fun lv112 r hB hE hC => tB20_34 Ad W s e0 x1 x2 lv112 hB (fun x q => hE _ q) (fun x q => hC x q)) qN ((if y89 < (0:Int32) then (0:Int32) else y89), (s_rxTrail o y88)) e111 he111 ?_)
   obtain rfl := Option.some.inj h
   exact ⟨rfl, rfl⟩
  rcases em (y89 < (0:Int32)) with hc92 | hc92
  ·refine zF Ad W (t := 31) (f := 29) rfl (XT.i0_ge_f hc92) ?_
   refine zS Ad W 2 (st' := (31, [vR 21, vI x1, vI x2, vI (0:Int32), none, none, none], [], (H1x21 s e0 o y88))) rfl ?_
   exact zM [tt,tt,tt,tt,ff,ff,ff] (K91 _ (if_pos hc92).symm)
  ·refine zT Ad W (t := 31) (f := 29) rfl (XT.i0_ge_t hc92) ?_
   exact zM [tt,tt,tt,tt,ff,ff,ff] (K91 _ (if_neg hc92).symm)
 ·refine zF Ad W (t := 11) (f := 10) rfl (XT.ii_gt_f hc87) ?_
  obtain rfl := Option.some.inj h
  exact QTri.ret0 rfl rfl
def H1x25 (s : List Int32) (o0 o1 : Ob) (a1_13 : List Int32) : QHeap := H1v s (f_srcPayload o0) (f_pend o0) (f_queue o0) (f_stats o0) (f_state o0) (f_timer o0) (f_rxVal o0) (f_rxNext o0) (f_rxLead o0) (f_rxTrail o0) (f_lossLeft o0) (f_dups o0) (f_drops o0) (f_delSeq o0) (f_delVal o0) (f_delLen o0) (f_lostLog o0) (f_lostLen o0) (f_nakBuf o0) (f_win o0) (f_back o0) (f_repair o0) (f_period o0) (f_nextSeq o0) (f_qLen o0) (f_nakLen o0) (f_srcPayload o1) (f_pend o1) (f_queue o1) (f_stats o1) (f_state o1) (f_timer o1) (f_rxVal o1) (f_rxNext o1) (f_rxLead o1) (f_rxTrail o1) (f_lossLeft o1) (f_dups o1) (f_drops o1) a1_13 (f_delVal o1) (f_delLen o1) (f_lostLog o1) (f_lostLen o1) (f_nakBuf o1) (f_win o1) (f_back o1) (f_repair o1) (f_period o1) (f_nextSeq o1) (f_qLen o1) (f_nakLen o1)
def H1x26 (s : List Int32) (o0 o1 : Ob) (a1_13 : List Int32) (a1_14 : List Int32) : QHeap := H1v s (f_srcPayload o0) (f_pend o0) (f_queue o0) (f_stats o0) (f_state o0) (f_timer o0) (f_rxVal o0) (f_rxNext o0) (f_rxLead o0) (f_rxTrail o0) (f_lossLeft o0) (f_dups o0) (f_drops o0) (f_delSeq o0) (f_delVal o0) (f_delLen o0) (f_lostLog o0) (f_lostLen o0) (f_nakBuf o0) (f_win o0) (f_back o0) (f_repair o0) (f_period o0) (f_nextSeq o0) (f_qLen o0) (f_nakLen o0) (f_srcPayload o1) (f_pend o1) (f_queue o1) (f_stats o1) (f_state o1) (f_timer o1) (f_rxVal o1) (f_rxNext o1) (f_rxLead o1) (f_rxTrail o1) (f_lossLeft o1) (f_dups o1) (f_drops o1) a1_13 a1_14 (f_delLen o1) (f_lostLog o1) (f_lostLen o1) (f_nakBuf o1) (f_win o1) (f_back o1) (f_repair o1) (f_period o1) (f_nextSeq o1) (f_qLen o1) (f_nakLen o1)
def H1x27 (s : List Int32) (o0 o1 : Ob) (a1_13 : List Int32) (a1_14 : List Int32) (a1_15 : List Int32) : QHeap := H1v s (f_srcPayload o0) (f_pend o0) (f_queue o0) (f_stats o0) (f_state o0) (f_timer o0) (f_rxVal o0) (f_rxNext o0) (f_rxLead o0) (f_rxTrail o0) (f_lossLeft o0) (f_dups o0) (f_drops o0) (f_delSeq o0) (f_delVal o0) (f_delLen o0) (f_lostLog o0) (f_lostLen o0) (f_nakBuf o0) (f_win o0) (f_back o0) (f_repair o0) (f_period o0) (f_nextSeq o0) (f_qLen o0) (f_nakLen o0) (f_srcPayload o1) (f_pend o1) (f_queue o1) (f_stats o1) (f_state o1) (f_timer o1) (f_rxVal o1) (f_rxNext o1) (f_rxLead o1) (f_rxTrail o1) (f_lossLeft o1) (f_dups o1) (f_drops o1) a1_13 a1_14 a1_15 (f_lostLog o1) (f_lostLen o1) (f_nakBuf o1) (f_win o1) (f_back o1) (f_repair o1) (f_period o1) (f_nextSeq o1) (f_qLen o1) (f_nakLen o1)
/-- appendDelivered(III)V -/
def F22 (o : Ob) (x1 : Int32) (x2 : Int32) (x3 : Int32) : Option (Ob) :=
 (aget (f_delLen o) x1).bind fun y121 => (if y121 < (32:Int32) then (aget (f_delLen o) x1).bind fun y123 => (aset (f_delSeq o) ((x1 * (32:Int32)) + y123) x2).bind fun y124 => (aset (f_delVal o) ((x1 * (32:Int32)) + y123) x3).bind fun y125 => (aget (f_delLen o) x1).bind fun y126 => (aset (f_delLen o) x1 (y126 + (1:Int32))).bind fun y127 => some (s_delLen (s_delVal (s_delSeq o y124) y125) y127) else some o)
theorem tF22 (Ad : QAd n0 ad) (W : QW Z a0) (s : List Int32) (e0 : Ob) (o : Ob) (x1 : Int32) (x2 : Int32) (x3 : Int32) {r : Ob} (h : F22 o x1 x2 x3 = some r) : QTri l Z n0 ad 22 (0, qentry [.ref 21, .int x1, .int x2, .int x3] (pMaxL 22), [], (H1 s e0 o)) (none : Option Value) (H1 s e0 r) := by
 unfold F22 at h
 refine zS Ad W 3 (st' := (5, [vR 21, vI x1, vI x2, vI x3, none], [.int x1, .ref 37], (H1 s e0 o))) rfl ?_
 obtain ⟨y121, hy121, h⟩ := bind_eq_some_iff.mp h
 refine zB Ad W (f := fun y121 => (6, [vR 21, vI x1, vI x2, vI x3, none], [.int y121], (H1 s e0 o))) rfl hy121 ?_
 refine zS Ad W 1 (st' := (8, [vR 21, vI x1, vI x2, vI x3, none], [.int (32:Int32), .int y121], (H1 s e0 o))) rfl ?_
 rcases qite h with ⟨hc122, h⟩ | ⟨hc122, h⟩
 ·refine zF Ad W (t := 50) (f := 11) rfl (XT.ii_ge_f hc122) ?_
  refine zS Ad W 6 (st' := (20, [vR 21, vI x1, vI x2, vI x3, none], [.int x1, .ref 37, .int (x1 * (32:Int32))], (H1 s e0 o))) rfl ?_
  obtain ⟨y123, hy123, h⟩ := bind_eq_some_iff.mp h
  refine zB Ad W (f := fun y123 => (21, [vR 21, vI x1, vI x2, vI x3, none], [.int y123, .int (x1 * (32:Int32))], (H1 s e0 o))) rfl hy123 ?_
  refine zS Ad W 6 (st' := (31, [vR 21, vI x1, vI x2, vI x3, vI ((x1 * (32:Int32)) + y123)], [.int x2, .int ((x1 * (32:Int32)) + y123), .ref 35], (H1 s e0 o))) rfl ?_
  obtain ⟨y124, hy124, h⟩ := bind_eq_some_iff.mp h
  refine zB Ad W (f := fun y124 => (32, [vR 21, vI x1, vI x2, vI x3, vI ((x1 * (32:Int32)) + y123)], [], (H1x25 s e0 o y124))) rfl hy124 ?_
  refine zS Ad W 4 (st' := (39, [vR 21, vI x1, vI x2, vI x3, vI ((x1 * (32:Int32)) + y123)], [.int x3, .int ((x1 * (32:Int32)) + y123), .ref 36], (H1x25 s e0 o y124))) rfl ?_
  obtain ⟨y125, hy125, h⟩ := bind_eq_some_iff.mp h
  refine zB Ad W (f := fun y125 => (40, [vR 21, vI x1, vI x2, vI x3, vI ((x1 * (32:Int32)) + y123)], [], (H1x26 s e0 o y124 y125))) rfl hy125 ?_
  refine zS Ad W 4 (st' := (46, [vR 21, vI x1, vI x2, vI x3, vI ((x1 * (32:Int32)) + y123)], [.int x1, .ref 37, .int x1, .ref 37], (H1x26 s e0 o y124 y125))) rfl ?_
  obtain ⟨y126, hy126, h⟩ := bind_eq_some_iff.mp h
  refine zB Ad W (f := fun y126 => (47, [vR 21, vI x1, vI x2, vI x3, vI ((x1 * (32:Int32)) + y123)], [.int y126, .int x1, .ref 37], (H1x26 s e0 o y124 y125))) rfl hy126 ?_
  refine zS Ad W 2 (st' := (49, [vR 21, vI x1, vI x2, vI x3, vI ((x1 * (32:Int32)) + y123)], [.int (y126 + (1:Int32)), .int x1, .ref 37], (H1x26 s e0 o y124 y125))) rfl ?_
  obtain ⟨y127, hy127, h⟩ := bind_eq_some_iff.mp h
  refine zB Ad W (f := fun y127 => (50, [vR 21, vI x1, vI x2, vI x3, vI ((x1 * (32:Int32)) + y123)], [], (H1x27 s e0 o y124 y125 y127))) rfl hy127 ?_
  have E128 : ((H1x27 s e0 o y124 y125 y127) : QHeap) = (H1 s e0 (s_delLen (s_delVal (s_delSeq o y124) y125) y127)) := by simp only [fs, H1, H1v, H1x27, s_delSeq, s_delVal, s_delLen]
  rw [E128]
  obtain rfl := Option.some.inj h
  exact QTri.ret0 rfl rfl
 ·refine zT Ad W (t := 50) (f := 11) rfl (XT.ii_ge_t hc122) ?_
  obtain rfl := Option.some.inj h
  exact QTri.ret0 rfl rfl
def H1x28 (s : List Int32) (o0 o1 : Ob) (a1_7 : List Int32) : QHeap := H1v s (f_srcPayload o0) (f_pend o0) (f_queue o0) (f_stats o0) (f_state o0) (f_timer o0) (f_rxVal o0) (f_rxNext o0) (f_rxLead o0) (f_rxTrail o0) (f_lossLeft o0) (f_dups o0) (f_drops o0) (f_delSeq o0) (f_delVal o0) (f_delLen o0) (f_lostLog o0) (f_lostLen o0) (f_nakBuf o0) (f_win o0) (f_back o0) (f_repair o0) (f_period o0) (f_nextSeq o0) (f_qLen o0) (f_nakLen o0) (f_srcPayload o1) (f_pend o1) (f_queue o1) (f_stats o1) (f_state o1) (f_timer o1) (f_rxVal o1) a1_7 (f_rxLead o1) (f_rxTrail o1) (f_lossLeft o1) (f_dups o1) (f_drops o1) (f_delSeq o1) (f_delVal o1) (f_delLen o1) (f_lostLog o1) (f_lostLen o1) (f_nakBuf o1) (f_win o1) (f_back o1) (f_repair o1) (f_period o1) (f_nextSeq o1) (f_qLen o1) (f_nakLen o1)
def J21_73 (o : Ob) (x1 : Int32) (x2 : Int32) : Option (((Ob)) ⊕ (Int32 × Ob)) :=
  (aset (f_rxNext o) x1 (x2 + (1 : Int32))).bind fun y132 => some (.inr ((x2 + (1 : Int32)), (s_rxNext o y132)))
theorem tJ21_73 (Ad : QAd n0 ad) (W : QW Z a0) (s : List Int32) (e0 : Ob) (o : Ob) (x1 : Int32) (x2 : Int32) {r : ((Ob)) ⊕ (Int32 × Ob)} {u : Option Value} {τ : QHeap} (h : J21_73 o x1 x2 = some r) (hx0 : ∀ x : Ob, r = .inl x → u = (none : Option Value) ∧ τ = (H1 s e0 x)) (hc : ∀ x : Int32 × Ob, r = .inr x → QTri l Z n0 ad 21 (7, [vR 21, vI x1, vI x.1, none, none], [], (H1 s e0 x.2)) u τ) : QTri l Z n0 ad 21 (73, [vR 21, vI x1, vI x2, none, none], [], (H1 s e0 o)) u τ := by
 unfold J21_73 at h
 refine zS Ad W 6 (st' := (81, [vR 21, vI x1, vI x2, none, none], [.int (x2 + (1:Int32)), .int x1, .ref 29], (H1 s e0 o))) rfl ?_
 obtain ⟨y132, hy132, h⟩ := bind_eq_some_iff.mp h
 refine zB Ad W (f := fun y132 => (82, [vR 21, vI x1, vI x2, none, none], [], (H1x28 s e0 o y132))) rfl hy132 ?_
 refine zS Ad W 2 (st' := (7, [vR 21, vI x1, vI (x2 + (1:Int32)), none, none], [], (H1x28 s e0 o y132))) rfl ?_
 have E133 : ((H1x28 s e0 o y132) : QHeap) = (H1 s e0 (s_rxNext o y132)) := by simp only [fs, H1, H1v, H1x28, s_rxNext]
 rw [E133]
 obtain rfl := Option.some.inj h
 exact zM [tt,tt,tt,ff,ff] (hc ((x2 + (1:Int32)), (s_rxNext o y132)) rfl)
def J21_48 (o : Ob) (x1 : Int32) (x2 : Int32) (x3 : Int32) (x4 : Int32) : Option (((Ob)) ⊕ (Int32 × Ob)) :=
  (if x4 = (4 : Int32) then (aget (f_rxVal o) x3).bind fun y120 => (F22 o x1 x2 y120).bind fun r129 => (aset (f_state r129) x3 (5 : Int32)).bind fun y130 => (J21_73 (s_state r129 y130) x1 x2) else (J21_73 o x1 x2))
theorem tJ21_48 (Ad : QAd n0 ad) (W : QW Z a0) (s : List Int32) (e0 : Ob) (o : Ob) (x1 : Int32) (x2 : Int32) (x3 : Int32) (x4 : Int32) {r : ((Ob)) ⊕ (Int32 × Ob)} {u : Option Value} {τ : QHeap} (h : J21_48 o x1 x2 x3 x4 = some r) (hx0 : ∀ x : Ob, r = .inl x → u = (none : Option Value) ∧ τ = (H1 s e0 x)) (hc : ∀ x : Int32 × Ob, r = .inr x → QTri l Z n0 ad 21 (7, [vR 21, vI x1, vI x.1, none, none], [], (H1 s e0 x.2)) u τ) : QTri l Z n0 ad 21 (48, [vR 21, vI x1, vI x2, vI x3, vI x4], [], (H1 s e0 o)) u τ := by
 unfold J21_48 at h
 refine zS Ad W 2 (st' := (51, [vR 21, vI x1, vI x2, vI x3, vI x4], [.int (4:Int32), .int x4], (H1 s e0 o))) rfl ?_
 rcases qite h with ⟨hc119, h⟩ | ⟨hc119, h⟩
 ·refine zF Ad W (t := 73) (f := 54) rfl (XT.ii_ne_f hc119) ?_
  refine zS Ad W 6 (st' := (62, [vR 21, vI x1, vI x2, vI x3, vI x4], [.int x3, .ref 28, .int x2, .int x1, .ref 21], (H1 s e0 o))) rfl ?_
  obtain ⟨y120, hy120, h⟩ := bind_eq_some_iff.mp h
  refine zB Ad W (f := fun y120 => (63, [vR 21, vI x1, vI x2, vI x3, vI x4], [.int y120, .int x2, .int x1, .ref 21], (H1 s e0 o))) rfl hy120 ?_
  obtain ⟨r129, hr129, h⟩ := bind_eq_some_iff.mp h
  refine QTri.callP W (a := 21) (as := [.int x1, .int x2, .int y120]) (rest := []) (w := none) (σ₁ := (H1 s e0 r129)) rfl rfl rfl rfl rfl rfl rfl rfl (tF22 Ad W s e0 o x1 x2 y120 hr129) ?_
  refine zS Ad W 4 (st' := (72, [vR 21, vI x1, vI x2, vI x3, vI x4], [.int (5:Int32), .int x3, .ref 26], (H1 s e0 r129))) rfl ?_
  obtain ⟨y130, hy130, h⟩ := bind_eq_some_iff.mp h
  refine zB Ad W (f := fun y130 => (73, [vR 21, vI x1, vI x2, vI x3, vI x4], [], (H1x19 s e0 r129 y130))) rfl hy130 ?_
  have E131 : ((H1x19 s e0 r129 y130) : QHeap) = (H1 s e0 (s_state r129 y130)) := by simp only [fs, H1, H1v, H1x19, s_state]
  rw [E131]
  exact zM [tt,tt,tt,ff,ff] (tJ21_73 Ad W s e0 (s_state r129 y130) x1 x2 h hx0 hc)
 ·refine zT Ad W (t := 73) (f := 54) rfl (XT.ii_ne_t hc119) ?_
  exact zM [tt,tt,tt,ff,ff] (tJ21_73 Ad W s e0 o x1 x2 h hx0 hc)
def B21_7 (x1 : Int32) (v : Int32 × Ob) : Option (((Ob)) ⊕ (Int32 × Ob)) :=
  (if v.1 < (0 : Int32) then some (.inl v.2) else (if v.1 < (32 : Int32) then (aget (f_state v.2) ((x1 * (32 : Int32)) + v.1)).bind fun y117 => (if y117 = (4 : Int32) then (J21_48 v.2 x1 v.1 ((x1 * (32 : Int32)) + v.1) y117) else (if y117 = (6 : Int32) then (J21_48 v.2 x1 v.1 ((x1 * (32 : Int32)) + v.1) y117) else some (.inl v.2))) else some (.inl v.2)))
theorem tB21_7 (Ad : QAd n0 ad) (W : QW Z a0) (s : List Int32) (e0 : Ob) (x1 : Int32) (v : Int32 × Ob) {r : ((Ob)) ⊕ (Int32 × Ob)} {u : Option Value} {τ : QHeap} (h : B21_7 x1 v = some r) (hx0 : ∀ x : Ob, r = .inl x → u = (none : Option Value) ∧ τ = (H1 s e0 x)) (hc : ∀ x : Int32 × Ob, r = .inr x → QTri l Z n0 ad 21 (7, [vR 21, vI x1, vI x.1, none, none], [], (H1 s e0 x.2)) u τ) : QTri l Z n0 ad 21 (7, [vR 21, vI x1, vI v.1, none, none], [], (H1 s e0 v.2)) u τ := by
 unfold B21_7 at h
 refine zS Ad W 1 (st' := (8, [vR 21, vI x1, vI v.1, none, none], [.int v.1], (H1 s e0 v.2))) rfl ?_
 rcases qite h with ⟨hc115, h⟩ | ⟨hc115, h⟩
 ·refine zT Ad W (t := 88) (f := 11) rfl (XT.i0_lt_t hc115) ?_
  obtain rfl := Option.some.inj h
  obtain ⟨rfl, rfl⟩ := hx0 v.2 rfl
  exact QTri.ret0 rfl rfl
 ·refine zF Ad W (t := 88) (f := 11) rfl (XT.i0_lt_f hc115) ?_
  refine zS Ad W 2 (st' := (14, [vR 21, vI x1, vI v.1, none, none], [.int (32:Int32), .int v.1], (H1 s e0 v.2))) rfl ?_
  rcases qite h with ⟨hc116, h⟩ | ⟨hc116, h⟩
  ·refine zF Ad W (t := 88) (f := 17) rfl (XT.ii_ge_f hc116) ?_
   refine zS Ad W 9 (st' := (29, [vR 21, vI x1, vI v.1, vI ((x1 * (32:Int32)) + v.1), none], [.int ((x1 * (32:Int32)) + v.1), .ref 26], (H1 s e0 v.2))) rfl ?_
   obtain ⟨y117, hy117, h⟩ := bind_eq_some_iff.mp h
   refine zB Ad W (f := fun y117 => (30, [vR 21, vI x1, vI v.1, vI ((x1 * (32:Int32)) + v.1), none], [.int y117], (H1 s e0 v.2))) rfl hy117 ?_
   refine zS Ad W 3 (st' := (35, [vR 21, vI x1, vI v.1, vI ((x1 * (32:Int32)) + v.1), vI y117], [.int (4:Int32), .int y117], (H1 s e0 v.2))) rfl ?_
   rcases qite h with ⟨hc118, h⟩ | ⟨hc118, h⟩
   ·refine zT Ad W (t := 48) (f := 38) rfl (XT.ii_eq_t hc118) ?_
    exact zM [tt,tt,tt,tt,tt] (tJ21_48 Ad W s e0 v.2 x1 v.1 ((x1 * (32:Int32)) + v.1) y117 h hx0 hc)
   ·refine zF Ad W (t := 48) (f := 38) rfl (XT.ii_eq_f hc118) ?_
    refine zS Ad W 2 (st' := (42, [vR 21, vI x1, vI v.1, vI ((x1 * (32:Int32)) + v.1), vI y117], [.int (6:Int32), .int y117], (H1 s e0 v.2))) rfl ?_
    rcases qite h with ⟨hc134, h⟩ | ⟨hc134, h⟩
    ·refine zT Ad W (t := 48) (f := 45) rfl (XT.ii_eq_t hc134) ?_
     exact zM [tt,tt,tt,tt,tt] (tJ21_48 Ad W s e0 v.2 x1 v.1 ((x1 * (32:Int32)) + v.1) y117 h hx0 hc)
    ·refine zF Ad W (t := 48) (f := 45) rfl (XT.ii_eq_f hc134) ?_
     refine zS Ad W 1 (st' := (88, [vR 21, vI x1, vI v.1, vI ((x1 * (32:Int32)) + v.1), vI y117], [], (H1 s e0 v.2))) rfl ?_
     obtain rfl := Option.some.inj h
     obtain ⟨rfl, rfl⟩ := hx0 v.2 rfl
     exact QTri.ret0 rfl rfl
  ·refine zT Ad W (t := 88) (f := 17) rfl (XT.ii_ge_t hc116) ?_
   obtain rfl := Option.some.inj h
   obtain ⟨rfl, rfl⟩ := hx0 v.2 rfl
   exact QTri.ret0 rfl rfl
/-- deliver(I)V -/
def F21 (o : Ob) (x1 : Int32) : Option (Ob) :=
 (aget (f_rxNext o) x1).bind fun y114 => (loopN (B21_7 x1) qN (y114, o)).bind fun e135 => some e135
theorem tF21 (Ad : QAd n0 ad) (W : QW Z a0) (s : List Int32) (e0 : Ob) (o : Ob) (x1 : Int32) {r : Ob} (h : F21 o x1 = some r) : QTri l Z n0 ad 21 (0, qentry [.ref 21, .int x1] (pMaxL 21), [], (H1 s e0 o)) (none : Option Value) (H1 s e0 r) := by
 unfold F21 at h
 refine zS Ad W 3 (st' := (5, [vR 21, vI x1, none, none, none], [.int x1, .ref 29], (H1 s e0 o))) rfl ?_
 obtain ⟨y114, hy114, h⟩ := bind_eq_some_iff.mp h
 refine zB Ad W (f := fun y114 => (6, [vR 21, vI x1, none, none, none], [.int y114], (H1 s e0 o))) rfl hy114 ?_
 refine zS Ad W 1 (st' := (7, [vR 21, vI x1, vI y114, none, none], [], (H1 s e0 o))) rfl ?_
 obtain ⟨e135, he135, h⟩ := bind_eq_some_iff.mp h
 refine zM [tt,tt,tt,ff,ff] (loopN_tri (B := B21_7 x1) (T := fun lv136 => QTri l Z n0 ad 21 (7, [vR 21, vI x1, vI lv136.1, none, none], [], (H1 s e0 lv136.2)) (none : Option Value) (H1 s e0 r)) (KE := fun e135a => (none : Option Value) = (none : Option Value) ∧ (H1 s e0 r) = (H1 s e0 e135a)) (fun lv136 r hB hE hC => tB21_7 Ad W s e0 x1 lv136 hB (fun x q => hE _ q) (fun x q => hC x q)) qN (y114, o) e135 he135 ?_)
 obtain rfl := Option.some.inj h
 exact ⟨rfl, rfl⟩
def J17_76 (o : Ob) (x1 : Int32) (x4 : Int32) (x5 : Int32) : Option (Ob) :=
  (F19 o x1 x4).bind fun r85 => (F20 r85 x1 x5).bind fun r113 => (F21 r113 x1).bind fun r137 => some r137
theorem tJ17_76 (Ad : QAd n0 ad) (W : QW Z a0) (s : List Int32) (e0 : Ob) (o : Ob) (x1 : Int32) (x4 : Int32) (x5 : Int32) {r : Ob} (h : J17_76 o x1 x4 x5 = some r) : QTri l Z n0 ad 17 (76, [vR 21, vI x1, none, none, vI x4, vI x5, none, none], [], (H1 s e0 o)) (none : Option Value) (H1 s e0 r) := by
 unfold J17_76 at h
 refine zS Ad W 3 (st' := (80, [vR 21, vI x1, none, none, vI x4, vI x5, none, none], [.int x4, .int x1, .ref 21], (H1 s e0 o))) rfl ?_
 obtain ⟨r85, hr85, h⟩ := bind_eq_some_iff.mp h
 refine QTri.callP W (a := 21) (as := [.int x1, .int x4]) (rest := []) (w := none) (σ₁ := (H1 s e0 r85)) rfl rfl rfl rfl rfl rfl rfl rfl (tF19 Ad W s e0 o x1 x4 hr85) ?_
 refine zS Ad W 3 (st' := (87, [vR 21, vI x1, none, none, vI x4, vI x5, none, none], [.int x5, .int x1, .ref 21], (H1 s e0 r85))) rfl ?_
 obtain ⟨r113, hr113, h⟩ := bind_eq_some_iff.mp h
 refine QTri.callP W (a := 21) (as := [.int x1, .int x5]) (rest := []) (w := none) (σ₁ := (H1 s e0 r113)) rfl rfl rfl rfl rfl rfl rfl rfl (tF20 Ad W s e0 r85 x1 x5 hr113) ?_
 refine zS Ad W 2 (st' := (92, [vR 21, vI x1, none, none, vI x4, vI x5, none, none], [.int x1, .ref 21], (H1 s e0 r113))) rfl ?_
 obtain ⟨r137, hr137, h⟩ := bind_eq_some_iff.mp h
 refine QTri.callP W (a := 21) (as := [.int x1]) (rest := []) (w := none) (σ₁ := (H1 s e0 r137)) rfl rfl rfl rfl rfl rfl rfl rfl (tF21 Ad W s e0 r113 x1 hr137) ?_
 obtain rfl := Option.some.inj h
 exact QTri.ret0 rfl rfl
def H1x29 (s : List Int32) (o0 o1 : Ob) (a1_4 : List Int32) (a1_6 : List Int32) : QHeap := H1v s (f_srcPayload o0) (f_pend o0) (f_queue o0) (f_stats o0) (f_state o0) (f_timer o0) (f_rxVal o0) (f_rxNext o0) (f_rxLead o0) (f_rxTrail o0) (f_lossLeft o0) (f_dups o0) (f_drops o0) (f_delSeq o0) (f_delVal o0) (f_delLen o0) (f_lostLog o0) (f_lostLen o0) (f_nakBuf o0) (f_win o0) (f_back o0) (f_repair o0) (f_period o0) (f_nextSeq o0) (f_qLen o0) (f_nakLen o0) (f_srcPayload o1) (f_pend o1) (f_queue o1) (f_stats o1) a1_4 (f_timer o1) a1_6 (f_rxNext o1) (f_rxLead o1) (f_rxTrail o1) (f_lossLeft o1) (f_dups o1) (f_drops o1) (f_delSeq o1) (f_delVal o1) (f_delLen o1) (f_lostLog o1) (f_lostLen o1) (f_nakBuf o1) (f_win o1) (f_back o1) (f_repair o1) (f_period o1) (f_nextSeq o1) (f_qLen o1) (f_nakLen o1)
def H1x30 (s : List Int32) (o0 o1 : Ob) (a1_4 : List Int32) (a1_5 : List Int32) (a1_6 : List Int32) : QHeap := H1v s (f_srcPayload o0) (f_pend o0) (f_queue o0) (f_stats o0) (f_state o0) (f_timer o0) (f_rxVal o0) (f_rxNext o0) (f_rxLead o0) (f_rxTrail o0) (f_lossLeft o0) (f_dups o0) (f_drops o0) (f_delSeq o0) (f_delVal o0) (f_delLen o0) (f_lostLog o0) (f_lostLen o0) (f_nakBuf o0) (f_win o0) (f_back o0) (f_repair o0) (f_period o0) (f_nextSeq o0) (f_qLen o0) (f_nakLen o0) (f_srcPayload o1) (f_pend o1) (f_queue o1) (f_stats o1) a1_4 a1_5 a1_6 (f_rxNext o1) (f_rxLead o1) (f_rxTrail o1) (f_lossLeft o1) (f_dups o1) (f_drops o1) (f_delSeq o1) (f_delVal o1) (f_delLen o1) (f_lostLog o1) (f_lostLen o1) (f_nakBuf o1) (f_win o1) (f_back o1) (f_repair o1) (f_period o1) (f_nextSeq o1) (f_qLen o1) (f_nakLen o1)
def J17_39 (o : Ob) (x1 : Int32) (x3 : Int32) (x4 : Int32) (x5 : Int32) (x6 : Int32) : Option (Ob) :=
  (aset (f_state o) x6 (4 : Int32)).bind fun y140 => (aset (f_rxVal o) x6 x3).bind fun y141 => (aset (f_timer o) x6 (0 : Int32)).bind fun y142 => (J17_76 (s_timer (s_rxVal (s_state o y140) y141) y142) x1 x4 x5)
theorem tJ17_39 (Ad : QAd n0 ad) (W : QW Z a0) (s : List Int32) (e0 : Ob) (o : Ob) (x1 : Int32) (x3 : Int32) (x4 : Int32) (x5 : Int32) (x6 : Int32) {r : Ob} (h : J17_39 o x1 x3 x4 x5 x6 = some r) : QTri l Z n0 ad 17 (39, [vR 21, vI x1, none, vI x3, vI x4, vI x5, vI x6, none], [], (H1 s e0 o)) (none : Option Value) (H1 s e0 r) := by
 unfold J17_39 at h
 refine zS Ad W 4 (st' := (46, [vR 21, vI x1, none, vI x3, vI x4, vI x5, vI x6, none], [.int (4:Int32), .int x6, .ref 26], (H1 s e0 o))) rfl ?_
 obtain ⟨y140, hy140, h⟩ := bind_eq_some_iff.mp h
 refine zB Ad W (f := fun y140 => (47, [vR 21, vI x1, none, vI x3, vI x4, vI x5, vI x6, none], [], (H1x19 s e0 o y140))) rfl hy140 ?_
 refine zS Ad W 4 (st' := (54, [vR 21, vI x1, none, vI x3, vI x4, vI x5, vI x6, none], [.int x3, .int x6, .ref 28], (H1x19 s e0 o y140))) rfl ?_
 obtain ⟨y141, hy141, h⟩ := bind_eq_some_iff.mp h
 refine zB Ad W (f := fun y141 => (55, [vR 21, vI x1, none, vI x3, vI x4, vI x5, vI x6, none], [], (H1x29 s e0 o y140 y141))) rfl hy141 ?_
 refine zS Ad W 4 (st' := (62, [vR 21, vI x1, none, vI x3, vI x4, vI x5, vI x6, none], [.int (0:Int32), .int x6, .ref 27], (H1x29 s e0 o y140 y141))) rfl ?_
 obtain ⟨y142, hy142, h⟩ := bind_eq_some_iff.mp h
 refine zB Ad W (f := fun y142 => (63, [vR 21, vI x1, none, vI x3, vI x4, vI x5, vI x6, none], [], (H1x30 s e0 o y140 y142 y141))) rfl hy142 ?_
 refine zS Ad W 1 (st' := (76, [vR 21, vI x1, none, vI x3, vI x4, vI x5, vI x6, none], [], (H1x30 s e0 o y140 y142 y141))) rfl ?_
 have E143 : ((H1x30 s e0 o y140 y142 y141) : QHeap) = (H1 s e0 (s_timer (s_rxVal (s_state o y140) y141) y142)) := by simp only [fs, H1, H1v, H1x30, s_state, s_timer, s_rxVal]
 rw [E143]
 exact zM [tt,tt,ff,ff,tt,tt,ff,ff] (tJ17_76 Ad W s e0 (s_timer (s_rxVal (s_state o y140) y141) y142) x1 x4 x5 h)
/-- isWaiting(I)Z -/
def F11 (x1 : Int32) : Option (Int32) :=
 (if x1 = (1:Int32) then some (1:Int32) else (if x1 = (2:Int32) then some (1:Int32) else (if x1 = (3:Int32) then some (1:Int32) else some (0:Int32))))
theorem tF11 (Ad : QAd n0 ad) (W : QW Z a0) {a : Nat} {σ : QHeap} (x1 : Int32) {r : Int32} (h : F11 x1 = some r) : QTri l Z n0 ad 11 (0, qentry [.ref a, .int x1] (pMaxL 11), [], σ) (some (Value.int r)) σ := by
 unfold F11 at h
 refine zS Ad W 2 (st' := (2, [vR a, vI x1], [.int (1:Int32), .int x1], σ)) rfl ?_
 rcases qite h with ⟨hc144, h⟩ | ⟨hc144, h⟩
 ·refine zT Ad W (t := 15) (f := 5) rfl (XT.ii_eq_t hc144) ?_
  refine zS Ad W 2 (st' := (20, [vR a, vI x1], [.int (1:Int32)], σ)) rfl ?_
  obtain rfl := Option.some.inj h
  exact QTri.retZ rfl rfl
 ·refine zF Ad W (t := 15) (f := 5) rfl (XT.ii_eq_f hc144) ?_
  refine zS Ad W 2 (st' := (7, [vR a, vI x1], [.int (2:Int32), .int x1], σ)) rfl ?_
  rcases qite h with ⟨hc145, h⟩ | ⟨hc145, h⟩
  ·refine zT Ad W (t := 15) (f := 10) rfl (XT.ii_eq_t hc145) ?_
   refine zS Ad W 2 (st' := (20, [vR a, vI x1], [.int (1:Int32)], σ)) rfl ?_
   obtain rfl := Option.some.inj h
   exact QTri.retZ rfl rfl
  ·refine zF Ad W (t := 15) (f := 10) rfl (XT.ii_eq_f hc145) ?_
   refine zS Ad W 2 (st' := (12, [vR a, vI x1], [.int (3:Int32), .int x1], σ)) rfl ?_
   rcases qite h with ⟨hc146, h⟩ | ⟨hc146, h⟩
   ·refine zF Ad W (t := 19) (f := 15) rfl (XT.ii_ne_f hc146) ?_
    refine zS Ad W 2 (st' := (20, [vR a, vI x1], [.int (1:Int32)], σ)) rfl ?_
    obtain rfl := Option.some.inj h
    exact QTri.retZ rfl rfl
   ·refine zT Ad W (t := 19) (f := 15) rfl (XT.ii_ne_t hc146) ?_
    refine zS Ad W 1 (st' := (20, [vR a, vI x1], [.int (0:Int32)], σ)) rfl ?_
    obtain rfl := Option.some.inj h
    exact QTri.retZ rfl rfl
def H1x31 (s : List Int32) (o0 o1 : Ob) (a1_11 : List Int32) : QHeap := H1v s (f_srcPayload o0) (f_pend o0) (f_queue o0) (f_stats o0) (f_state o0) (f_timer o0) (f_rxVal o0) (f_rxNext o0) (f_rxLead o0) (f_rxTrail o0) (f_lossLeft o0) (f_dups o0) (f_drops o0) (f_delSeq o0) (f_delVal o0) (f_delLen o0) (f_lostLog o0) (f_lostLen o0) (f_nakBuf o0) (f_win o0) (f_back o0) (f_repair o0) (f_period o0) (f_nextSeq o0) (f_qLen o0) (f_nakLen o0) (f_srcPayload o1) (f_pend o1) (f_queue o1) (f_stats o1) (f_state o1) (f_timer o1) (f_rxVal o1) (f_rxNext o1) (f_rxLead o1) (f_rxTrail o1) (f_lossLeft o1) a1_11 (f_drops o1) (f_delSeq o1) (f_delVal o1) (f_delLen o1) (f_lostLog o1) (f_lostLen o1) (f_nakBuf o1) (f_win o1) (f_back o1) (f_repair o1) (f_period o1) (f_nextSeq o1) (f_qLen o1) (f_nakLen o1)
/-- applyData(IIIII)V -/
def F17 (o : Ob) (x1 : Int32) (x2 : Int32) (x3 : Int32) (x4 : Int32) (x5 : Int32) : Option (Ob) :=
 (F18 x2).bind fun r64 => (if r64 = (0:Int32) then (J17_76 o x1 x4 x5) else (aget (f_state o) ((x1 * (32:Int32)) + x2)).bind fun y138 => (if y138 = (0:Int32) then (J17_39 o x1 x3 x4 x5 ((x1 * (32:Int32)) + x2)) else (F11 y138).bind fun r147 => (if r147 = (0:Int32) then (aget (f_dups o) x1).bind fun y149 => (aset (f_dups o) x1 (y149 + (1:Int32))).bind fun y150 => (J17_76 (s_dups o y150) x1 x4 x5) else (J17_39 o x1 x3 x4 x5 ((x1 * (32:Int32)) + x2)))))
theorem tF17 (Ad : QAd n0 ad) (W : QW Z a0) (s : List Int32) (e0 : Ob) (o : Ob) (x1 : Int32) (x2 : Int32) (x3 : Int32) (x4 : Int32) (x5 : Int32) {r : Ob} (h : F17 o x1 x2 x3 x4 x5 = some r) : QTri l Z n0 ad 17 (0, qentry [.ref 21, .int x1, .int x2, .int x3, .int x4, .int x5] (pMaxL 17), [], (H1 s e0 o)) (none : Option Value) (H1 s e0 r) := by
 unfold F17 at h
 refine zS Ad W 2 (st' := (2, [vR 21, vI x1, vI x2, vI x3, vI x4, vI x5, none, none], [.int x2, .ref 21], (H1 s e0 o))) rfl ?_
 obtain ⟨r64, hr64, h⟩ := bind_eq_some_iff.mp h
 refine QTri.callP W (a := 21) (as := [.int x2]) (rest := []) (w := (some (.int r64))) (σ₁ := (H1 s e0 o)) rfl rfl rfl rfl rfl rfl rfl rfl (tF18 Ad W x2 hr64) ?_
 rcases qite h with ⟨hc65, h⟩ | ⟨hc65, h⟩
 ·refine zT Ad W (t := 76) (f := 8) rfl (XT.i0_eq_t hc65) ?_
  exact zM [tt,tt,ff,ff,tt,tt,ff,ff] (tJ17_76 Ad W s e0 o x1 x4 x5 h)
 ·refine zF Ad W (t := 76) (f := 8) rfl (XT.i0_eq_f hc65) ?_
  refine zS Ad W 9 (st' := (22, [vR 21, vI x1, vI x2, vI x3, vI x4, vI x5, vI ((x1 * (32:Int32)) + x2), none], [.int ((x1 * (32:Int32)) + x2), .ref 26], (H1 s e0 o))) rfl ?_
  obtain ⟨y138, hy138, h⟩ := bind_eq_some_iff.mp h
  refine zB Ad W (f := fun y138 => (23, [vR 21, vI x1, vI x2, vI x3, vI x4, vI x5, vI ((x1 * (32:Int32)) + x2), none], [.int y138], (H1 s e0 o))) rfl hy138 ?_
  refine zS Ad W 2 (st' := (27, [vR 21, vI x1, vI x2, vI x3, vI x4, vI x5, vI ((x1 * (32:Int32)) + x2), vI y138], [.int y138], (H1 s e0 o))) rfl ?_
  rcases qite h with ⟨hc139, h⟩ | ⟨hc139, h⟩
  ·refine zT Ad W (t := 39) (f := 30) rfl (XT.i0_eq_t hc139) ?_
   exact zM [tt,tt,ff,tt,tt,tt,tt,ff] (tJ17_39 Ad W s e0 o x1 x3 x4 x5 ((x1 * (32:Int32)) + x2) h)
  ·refine zF Ad W (t := 39) (f := 30) rfl (XT.i0_eq_f hc139) ?_
   refine zS Ad W 2 (st' := (33, [vR 21, vI x1, vI x2, vI x3, vI x4, vI x5, vI ((x1 * (32:Int32)) + x2), vI y138], [.int y138, .ref 21], (H1 s e0 o))) rfl ?_
   obtain ⟨r147, hr147, h⟩ := bind_eq_some_iff.mp h
   refine QTri.callP W (a := 21) (as := [.int y138]) (rest := []) (w := (some (.int r147))) (σ₁ := (H1 s e0 o)) rfl rfl rfl rfl rfl rfl rfl rfl (tF11 Ad W y138 hr147) ?_
   rcases qite h with ⟨hc148, h⟩ | ⟨hc148, h⟩
   ·refine zT Ad W (t := 66) (f := 39) rfl (XT.i0_eq_t hc148) ?_
    refine zS Ad W 4 (st' := (72, [vR 21, vI x1, vI x2, vI x3, vI x4, vI x5, vI ((x1 * (32:Int32)) + x2), vI y138], [.int x1, .ref 33, .int x1, .ref 33], (H1 s e0 o))) rfl ?_
    obtain ⟨y149, hy149, h⟩ := bind_eq_some_iff.mp h
    refine zB Ad W (f := fun y149 => (73, [vR 21, vI x1, vI x2, vI x3, vI x4, vI x5, vI ((x1 * (32:Int32)) + x2), vI y138], [.int y149, .int x1, .ref 33], (H1 s e0 o))) rfl hy149 ?_
    refine zS Ad W 2 (st' := (75, [vR 21, vI x1, vI x2, vI x3, vI x4, vI x5, vI ((x1 * (32:Int32)) + x2), vI y138], [.int (y149 + (1:Int32)), .int x1, .ref 33], (H1 s e0 o))) rfl ?_
    obtain ⟨y150, hy150, h⟩ := bind_eq_some_iff.mp h
    refine zB Ad W (f := fun y150 => (76, [vR 21, vI x1, vI x2, vI x3, vI x4, vI x5, vI ((x1 * (32:Int32)) + x2), vI y138], [], (H1x31 s e0 o y150))) rfl hy150 ?_
    have E151 : ((H1x31 s e0 o y150) : QHeap) = (H1 s e0 (s_dups o y150)) := by simp only [fs, H1, H1v, H1x31, s_dups]
    rw [E151]
    exact zM [tt,tt,ff,ff,tt,tt,ff,ff] (tJ17_76 Ad W s e0 (s_dups o y150) x1 x4 x5 h)
   ·refine zF Ad W (t := 66) (f := 39) rfl (XT.i0_eq_f hc148) ?_
    exact zM [tt,tt,ff,tt,tt,tt,tt,ff] (tJ17_39 Ad W s e0 o x1 x3 x4 x5 ((x1 * (32:Int32)) + x2) h)
def J16_50 (o : Ob) (x1 : Int32) (x3 : Int32) (x4 : Int32) (x5 : Int32) (x6 : Int32) : Option (Ob) :=
  (F17 o x1 x3 x4 x5 x6).bind fun r152 => some r152
theorem tJ16_50 (Ad : QAd n0 ad) (W : QW Z a0) (s : List Int32) (e0 : Ob) (o : Ob) (x1 : Int32) (x3 : Int32) (x4 : Int32) (x5 : Int32) (x6 : Int32) {r : Ob} (h : J16_50 o x1 x3 x4 x5 x6 = some r) : QTri l Z n0 ad 16 (50, [vR 21, vI x1, none, vI x3, vI x4, vI x5, vI x6], [], (H1 s e0 o)) (none : Option Value) (H1 s e0 r) := by
 unfold J16_50 at h
 refine zS Ad W 6 (st' := (59, [vR 21, vI x1, none, vI x3, vI x4, vI x5, vI x6], [.int x6, .int x5, .int x4, .int x3, .int x1, .ref 21], (H1 s e0 o))) rfl ?_
 obtain ⟨r152, hr152, h⟩ := bind_eq_some_iff.mp h
 refine QTri.callP W (a := 21) (as := [.int x1, .int x3, .int x4, .int x5, .int x6]) (rest := []) (w := none) (σ₁ := (H1 s e0 r152)) rfl rfl rfl rfl rfl rfl rfl rfl (tF17 Ad W s e0 o x1 x3 x4 x5 x6 hr152) ?_
 refine zS Ad W 1 (st' := (98, [vR 21, vI x1, none, vI x3, vI x4, vI x5, vI x6], [], (H1 s e0 r152))) rfl ?_
 obtain rfl := Option.some.inj h
 exact QTri.ret0 rfl rfl
def J28_36 (o : Ob) (x3 : Int32) : Option (Ob) :=
  (aset (f_state o) x3 (3 : Int32)).bind fun y162 => (aset (f_timer o) x3 (f_repair o)).bind fun y163 => some (s_timer (s_state o y162) y163)
theorem tJ28_36 (Ad : QAd n0 ad) (W : QW Z a0) (s : List Int32) (e0 : Ob) (o : Ob) (x3 : Int32) {r : Ob} (h : J28_36 o x3 = some r) : QTri l Z n0 ad 28 (36, [vR 21, none, none, vI x3, none], [], (H1 s e0 o)) (none : Option Value) (H1 s e0 r) := by
 unfold J28_36 at h
 refine zS Ad W 4 (st' := (42, [vR 21, none, none, vI x3, none], [.int (3:Int32), .int x3, .ref 26], (H1 s e0 o))) rfl ?_
 obtain ⟨y162, hy162, h⟩ := bind_eq_some_iff.mp h
 refine zB Ad W (f := fun y162 => (43, [vR 21, none, none, vI x3, none], [], (H1x19 s e0 o y162))) rfl hy162 ?_
 refine zS Ad W 5 (st' := (52, [vR 21, none, none, vI x3, none], [.int (f_repair o), .int x3, .ref 27], (H1x19 s e0 o y162))) rfl ?_
 obtain ⟨y163, hy163, h⟩ := bind_eq_some_iff.mp h
 refine zB Ad W (f := fun y163 => (53, [vR 21, none, none, vI x3, none], [], (H1x22 s e0 o y162 y163))) rfl hy163 ?_
 have E164 : ((H1x22 s e0 o y162 y163) : QHeap) = (H1 s e0 (s_timer (s_state o y162) y163)) := by simp only [fs, H1, H1v, H1x22, s_state, s_timer]
 rw [E164]
 obtain rfl := Option.some.inj h
 exact QTri.ret0 rfl rfl
/-- applyNcf(II)V -/
def F28 (o : Ob) (x1 : Int32) (x2 : Int32) : Option (Ob) :=
 (F18 x2).bind fun r158 => (if r158 = (0:Int32) then some o else (aget (f_state o) ((x1 * (32:Int32)) + x2)).bind fun y160 => (if y160 = (1:Int32) then (J28_36 o ((x1 * (32:Int32)) + x2)) else (if y160 = (2:Int32) then (J28_36 o ((x1 * (32:Int32)) + x2)) else some o)))
theorem tF28 (Ad : QAd n0 ad) (W : QW Z a0) (s : List Int32) (e0 : Ob) (o : Ob) (x1 : Int32) (x2 : Int32) {r : Ob} (h : F28 o x1 x2 = some r) : QTri l Z n0 ad 28 (0, qentry [.ref 21, .int x1, .int x2] (pMaxL 28), [], (H1 s e0 o)) (none : Option Value) (H1 s e0 r) := by
 unfold F28 at h
 refine zS Ad W 2 (st' := (2, [vR 21, vI x1, vI x2, none, none], [.int x2, .ref 21], (H1 s e0 o))) rfl ?_
 obtain ⟨r158, hr158, h⟩ := bind_eq_some_iff.mp h
 refine QTri.callP W (a := 21) (as := [.int x2]) (rest := []) (w := (some (.int r158))) (σ₁ := (H1 s e0 o)) rfl rfl rfl rfl rfl rfl rfl rfl (tF18 Ad W x2 hr158) ?_
 rcases qite h with ⟨hc159, h⟩ | ⟨hc159, h⟩
 ·refine zF Ad W (t := 9) (f := 8) rfl (XT.i0_ne_f hc159) ?_
  obtain rfl := Option.some.inj h
  exact QTri.ret0 rfl rfl
 ·refine zT Ad W (t := 9) (f := 8) rfl (XT.i0_ne_t hc159) ?_
  refine zS Ad W 9 (st' := (21, [vR 21, vI x1, vI x2, vI ((x1 * (32:Int32)) + x2), none], [.int ((x1 * (32:Int32)) + x2), .ref 26], (H1 s e0 o))) rfl ?_
  obtain ⟨y160, hy160, h⟩ := bind_eq_some_iff.mp h
  refine zB Ad W (f := fun y160 => (22, [vR 21, vI x1, vI x2, vI ((x1 * (32:Int32)) + x2), none], [.int y160], (H1 s e0 o))) rfl hy160 ?_
  refine zS Ad W 3 (st' := (27, [vR 21, vI x1, vI x2, vI ((x1 * (32:Int32)) + x2), vI y160], [.int (1:Int32), .int y160], (H1 s e0 o))) rfl ?_
  rcases qite h with ⟨hc161, h⟩ | ⟨hc161, h⟩
  ·refine zT Ad W (t := 36) (f := 30) rfl (XT.ii_eq_t hc161) ?_
   exact zM [tt,ff,ff,tt,ff] (tJ28_36 Ad W s e0 o ((x1 * (32:Int32)) + x2) h)
  ·refine zF Ad W (t := 36) (f := 30) rfl (XT.ii_eq_f hc161) ?_
   refine zS Ad W 2 (st' := (33, [vR 21, vI x1, vI x2, vI ((x1 * (32:Int32)) + x2), vI y160], [.int (2:Int32), .int y160], (H1 s e0 o))) rfl ?_
   rcases qite h with ⟨hc165, h⟩ | ⟨hc165, h⟩
   ·refine zF Ad W (t := 53) (f := 36) rfl (XT.ii_ne_f hc165) ?_
    exact zM [tt,ff,ff,tt,ff] (tJ28_36 Ad W s e0 o ((x1 * (32:Int32)) + x2) h)
   ·refine zT Ad W (t := 53) (f := 36) rfl (XT.ii_ne_t hc165) ?_
    obtain rfl := Option.some.inj h
    exact QTri.ret0 rfl rfl
/-- copyTo(IIIIII)V -/
def F16 (o : Ob) (x1 : Int32) (x2 : Int32) (x3 : Int32) (x4 : Int32) (x5 : Int32) (x6 : Int32) : Option (Ob) :=
 (aget (f_lossLeft o) x1).bind fun y54 => (if (0:Int32) < y54 then (aget (f_lossLeft o) x1).bind fun y56 => (aset (f_lossLeft o) x1 (y56 - (1:Int32))).bind fun y57 => (aget (f_drops o) x1).bind fun y58 => (aset (f_drops o) x1 (y58 + (1:Int32))).bind fun y59 => (aget (f_stats o) (9:Int32)).bind fun y60 => (aset (f_stats o) (9:Int32) (y60 + (1:Int32))).bind fun y61 => some (s_stats (s_drops (s_lossLeft o y57) y59) y61) else (if x2 = (0:Int32) then (J16_50 o x1 x3 x4 x5 x6) else (if x2 = (1:Int32) then (J16_50 o x1 x3 x4 x5 x6) else (if x2 = (2:Int32) then (F19 o x1 x5).bind fun r155 => (F20 r155 x1 x6).bind fun r156 => (F21 r156 x1).bind fun r157 => some r157 else (F28 o x1 x3).bind fun r166 => some r166))))
theorem tF16 (Ad : QAd n0 ad) (W : QW Z a0) (s : List Int32) (e0 : Ob) (o : Ob) (x1 : Int32) (x2 : Int32) (x3 : Int32) (x4 : Int32) (x5 : Int32) (x6 : Int32) {r : Ob} (h : F16 o x1 x2 x3 x4 x5 x6 = some r) : QTri l Z n0 ad 16 (0, qentry [.ref 21, .int x1, .int x2, .int x3, .int x4, .int x5, .int x6] (pMaxL 16), [], (H1 s e0 o)) (none : Option Value) (H1 s e0 r) := by
 unfold F16 at h
 refine zS Ad W 3 (st' := (5, [vR 21, vI x1, vI x2, vI x3, vI x4, vI x5, vI x6], [.int x1, .ref 32], (H1 s e0 o))) rfl ?_
 obtain ⟨y54, hy54, h⟩ := bind_eq_some_iff.mp h
 refine zB Ad W (f := fun y54 => (6, [vR 21, vI x1, vI x2, vI x3, vI x4, vI x5, vI x6], [.int y54], (H1 s e0 o))) rfl hy54 ?_
 rcases qite h with ⟨hc55, h⟩ | ⟨hc55, h⟩
 ·refine zF Ad W (t := 41) (f := 9) rfl (XT.i0_le_f hc55) ?_
  refine zS Ad W 4 (st' := (15, [vR 21, vI x1, vI x2, vI x3, vI x4, vI x5, vI x6], [.int x1, .ref 32, .int x1, .ref 32], (H1 s e0 o))) rfl ?_
  obtain ⟨y56, hy56, h⟩ := bind_eq_some_iff.mp h
  refine zB Ad W (f := fun y56 => (16, [vR 21, vI x1, vI x2, vI x3, vI x4, vI x5, vI x6], [.int y56, .int x1, .ref 32], (H1 s e0 o))) rfl hy56 ?_
  refine zS Ad W 2 (st' := (18, [vR 21, vI x1, vI x2, vI x3, vI x4, vI x5, vI x6], [.int (y56 - (1:Int32)), .int x1, .ref 32], (H1 s e0 o))) rfl ?_
  obtain ⟨y57, hy57, h⟩ := bind_eq_some_iff.mp h
  refine zB Ad W (f := fun y57 => (19, [vR 21, vI x1, vI x2, vI x3, vI x4, vI x5, vI x6], [], (H1x16 s e0 o y57))) rfl hy57 ?_
  refine zS Ad W 4 (st' := (25, [vR 21, vI x1, vI x2, vI x3, vI x4, vI x5, vI x6], [.int x1, .ref 34, .int x1, .ref 34], (H1x16 s e0 o y57))) rfl ?_
  obtain ⟨y58, hy58, h⟩ := bind_eq_some_iff.mp h
  refine zB Ad W (f := fun y58 => (26, [vR 21, vI x1, vI x2, vI x3, vI x4, vI x5, vI x6], [.int y58, .int x1, .ref 34], (H1x16 s e0 o y57))) rfl hy58 ?_
  refine zS Ad W 2 (st' := (28, [vR 21, vI x1, vI x2, vI x3, vI x4, vI x5, vI x6], [.int (y58 + (1:Int32)), .int x1, .ref 34], (H1x16 s e0 o y57))) rfl ?_
  obtain ⟨y59, hy59, h⟩ := bind_eq_some_iff.mp h
  refine zB Ad W (f := fun y59 => (29, [vR 21, vI x1, vI x2, vI x3, vI x4, vI x5, vI x6], [], (H1x17 s e0 o y57 y59))) rfl hy59 ?_
  refine zS Ad W 4 (st' := (36, [vR 21, vI x1, vI x2, vI x3, vI x4, vI x5, vI x6], [.int (9:Int32), .ref 25, .int (9:Int32), .ref 25], (H1x17 s e0 o y57 y59))) rfl ?_
  obtain ⟨y60, hy60, h⟩ := bind_eq_some_iff.mp h
  refine zB Ad W (f := fun y60 => (37, [vR 21, vI x1, vI x2, vI x3, vI x4, vI x5, vI x6], [.int y60, .int (9:Int32), .ref 25], (H1x17 s e0 o y57 y59))) rfl hy60 ?_
  refine zS Ad W 2 (st' := (39, [vR 21, vI x1, vI x2, vI x3, vI x4, vI x5, vI x6], [.int (y60 + (1:Int32)), .int (9:Int32), .ref 25], (H1x17 s e0 o y57 y59))) rfl ?_
  obtain ⟨y61, hy61, h⟩ := bind_eq_some_iff.mp h
  refine zB Ad W (f := fun y61 => (40, [vR 21, vI x1, vI x2, vI x3, vI x4, vI x5, vI x6], [], (H1x18 s e0 o y61 y57 y59))) rfl hy61 ?_
  have E62 : ((H1x18 s e0 o y61 y57 y59) : QHeap) = (H1 s e0 (s_stats (s_drops (s_lossLeft o y57) y59) y61)) := by simp only [fs, H1, H1v, H1x18, s_stats, s_lossLeft, s_drops]
  rw [E62]
  obtain rfl := Option.some.inj h
  exact QTri.ret0 rfl rfl
 ·refine zT Ad W (t := 41) (f := 9) rfl (XT.i0_le_t hc55) ?_
  refine zS Ad W 1 (st' := (42, [vR 21, vI x1, vI x2, vI x3, vI x4, vI x5, vI x6], [.int x2], (H1 s e0 o))) rfl ?_
  rcases qite h with ⟨hc63, h⟩ | ⟨hc63, h⟩
  ·refine zT Ad W (t := 50) (f := 45) rfl (XT.i0_eq_t hc63) ?_
   exact zM [tt,tt,ff,tt,tt,tt,tt] (tJ16_50 Ad W s e0 o x1 x3 x4 x5 x6 h)
  ·refine zF Ad W (t := 50) (f := 45) rfl (XT.i0_eq_f hc63) ?_
   refine zS Ad W 2 (st' := (47, [vR 21, vI x1, vI x2, vI x3, vI x4, vI x5, vI x6], [.int (1:Int32), .int x2], (H1 s e0 o))) rfl ?_
   rcases qite h with ⟨hc153, h⟩ | ⟨hc153, h⟩
   ·refine zF Ad W (t := 65) (f := 50) rfl (XT.ii_ne_f hc153) ?_
    exact zM [tt,tt,ff,tt,tt,tt,tt] (tJ16_50 Ad W s e0 o x1 x3 x4 x5 x6 h)
   ·refine zT Ad W (t := 65) (f := 50) rfl (XT.ii_ne_t hc153) ?_
    refine zS Ad W 2 (st' := (67, [vR 21, vI x1, vI x2, vI x3, vI x4, vI x5, vI x6], [.int (2:Int32), .int x2], (H1 s e0 o))) rfl ?_
    rcases qite h with ⟨hc154, h⟩ | ⟨hc154, h⟩
    ·refine zF Ad W (t := 92) (f := 70) rfl (XT.ii_ne_f hc154) ?_
     refine zS Ad W 3 (st' := (74, [vR 21, vI x1, vI x2, vI x3, vI x4, vI x5, vI x6], [.int x5, .int x1, .ref 21], (H1 s e0 o))) rfl ?_
     obtain ⟨r155, hr155, h⟩ := bind_eq_some_iff.mp h
     refine QTri.callP W (a := 21) (as := [.int x1, .int x5]) (rest := []) (w := none) (σ₁ := (H1 s e0 r155)) rfl rfl rfl rfl rfl rfl rfl rfl (tF19 Ad W s e0 o x1 x5 hr155) ?_
     refine zS Ad W 3 (st' := (81, [vR 21, vI x1, vI x2, vI x3, vI x4, vI x5, vI x6], [.int x6, .int x1, .ref 21], (H1 s e0 r155))) rfl ?_
     obtain ⟨r156, hr156, h⟩ := bind_eq_some_iff.mp h
     refine QTri.callP W (a := 21) (as := [.int x1, .int x6]) (rest := []) (w := none) (σ₁ := (H1 s e0 r156)) rfl rfl rfl rfl rfl rfl rfl rfl (tF20 Ad W s e0 r155 x1 x6 hr156) ?_
     refine zS Ad W 2 (st' := (86, [vR 21, vI x1, vI x2, vI x3, vI x4, vI x5, vI x6], [.int x1, .ref 21], (H1 s e0 r156))) rfl ?_
     obtain ⟨r157, hr157, h⟩ := bind_eq_some_iff.mp h
     refine QTri.callP W (a := 21) (as := [.int x1]) (rest := []) (w := none) (σ₁ := (H1 s e0 r157)) rfl rfl rfl rfl rfl rfl rfl rfl (tF21 Ad W s e0 r156 x1 hr157) ?_
     refine zS Ad W 1 (st' := (98, [vR 21, vI x1, vI x2, vI x3, vI x4, vI x5, vI x6], [], (H1 s e0 r157))) rfl ?_
     obtain rfl := Option.some.inj h
     exact QTri.ret0 rfl rfl
    ·refine zT Ad W (t := 92) (f := 70) rfl (XT.ii_ne_t hc154) ?_
     refine zS Ad W 3 (st' := (95, [vR 21, vI x1, vI x2, vI x3, vI x4, vI x5, vI x6], [.int x3, .int x1, .ref 21], (H1 s e0 o))) rfl ?_
     obtain ⟨r166, hr166, h⟩ := bind_eq_some_iff.mp h
     refine QTri.callP W (a := 21) (as := [.int x1, .int x3]) (rest := []) (w := none) (σ₁ := (H1 s e0 r166)) rfl rfl rfl rfl rfl rfl rfl rfl (tF28 Ad W s e0 o x1 x3 hr166) ?_
     obtain rfl := Option.some.inj h
     exact QTri.ret0 rfl rfl
def B13_23 (x1 : Int32) (x2 : Int32) (x3 : Int32) (x4 : Int32) (x5 : Int32) (v : Int32 × Ob) : Option (((Ob)) ⊕ (Int32 × Ob)) :=
  (if v.1 < (4 : Int32) then (F16 v.2 v.1 x1 x2 x3 x4 x5).bind fun r167 => some (.inr ((v.1 + (1 : Int32)), r167)) else some (.inl v.2))
theorem tB13_23 (Ad : QAd n0 ad) (W : QW Z a0) (s : List Int32) (e0 : Ob) (x1 : Int32) (x2 : Int32) (x3 : Int32) (x4 : Int32) (x5 : Int32) (v : Int32 × Ob) {r : ((Ob)) ⊕ (Int32 × Ob)} {u : Option Value} {τ : QHeap} (h : B13_23 x1 x2 x3 x4 x5 v = some r) (hx0 : ∀ x : Ob, r = .inl x → u = (none : Option Value) ∧ τ = (H1 s e0 x)) (hc : ∀ x : Int32 × Ob, r = .inr x → QTri l Z n0 ad 13 (23, [vR 21, vI x1, vI x2, vI x3, vI x4, vI x5, vI x.1], [], (H1 s e0 x.2)) u τ) : QTri l Z n0 ad 13 (23, [vR 21, vI x1, vI x2, vI x3, vI x4, vI x5, vI v.1], [], (H1 s e0 v.2)) u τ := by
 unfold B13_23 at h
 refine zS Ad W 2 (st' := (26, [vR 21, vI x1, vI x2, vI x3, vI x4, vI x5, vI v.1], [.int (4:Int32), .int v.1], (H1 s e0 v.2))) rfl ?_
 rcases qite h with ⟨hc53, h⟩ | ⟨hc53, h⟩
 ·refine zF Ad W (t := 48) (f := 29) rfl (XT.ii_ge_f hc53) ?_
  refine zS Ad W 7 (st' := (39, [vR 21, vI x1, vI x2, vI x3, vI x4, vI x5, vI v.1], [.int x5, .int x4, .int x3, .int x2, .int x1, .int v.1, .ref 21], (H1 s e0 v.2))) rfl ?_
  obtain ⟨r167, hr167, h⟩ := bind_eq_some_iff.mp h
  refine QTri.callP W (a := 21) (as := [.int v.1, .int x1, .int x2, .int x3, .int x4, .int x5]) (rest := []) (w := none) (σ₁ := (H1 s e0 r167)) rfl rfl rfl rfl rfl rfl rfl rfl (tF16 Ad W s e0 v.2 v.1 x1 x2 x3 x4 x5 hr167) ?_
  refine zS Ad W 2 (st' := (23, [vR 21, vI x1, vI x2, vI x3, vI x4, vI x5, vI (v.1 + (1:Int32))], [], (H1 s e0 r167))) rfl ?_
  obtain rfl := Option.some.inj h
  exact zM [tt,tt,tt,tt,tt,tt,tt] (hc ((v.1 + (1:Int32)), r167) rfl)
 ·refine zT Ad W (t := 48) (f := 29) rfl (XT.ii_ge_t hc53) ?_
  obtain rfl := Option.some.inj h
  obtain ⟨rfl, rfl⟩ := hx0 v.2 rfl
  exact QTri.ret0 rfl rfl
/-- multicastSource(III)V -/
def F13 (o : Ob) (x1 : Int32) (x2 : Int32) (x3 : Int32) : Option (Ob) :=
 (F14 o).bind fun r36 => (F8 o).bind fun r38 => (F15 o x1 x2 r38).bind fun r52 => (loopN (B13_23 x1 x2 x3 r36 r38) qN ((0:Int32), r52)).bind fun e168 => some e168
theorem tF13 (Ad : QAd n0 ad) (W : QW Z a0) (s : List Int32) (e0 : Ob) (o : Ob) (x1 : Int32) (x2 : Int32) (x3 : Int32) {r : Ob} (h : F13 o x1 x2 x3 = some r) : QTri l Z n0 ad 13 (0, qentry [.ref 21, .int x1, .int x2, .int x3] (pMaxL 13), [], (H1 s e0 o)) (none : Option Value) (H1 s e0 r) := by
 unfold F13 at h
 refine zS Ad W 1 (st' := (1, [vR 21, vI x1, vI x2, vI x3, none, none, none], [.ref 21], (H1 s e0 o))) rfl ?_
 obtain ⟨r36, hr36, h⟩ := bind_eq_some_iff.mp h
 refine QTri.callP W (a := 21) (as := []) (rest := []) (w := (some (.int r36))) (σ₁ := (H1 s e0 o)) rfl rfl rfl rfl rfl rfl rfl rfl (tF14 Ad W s e0 o hr36) ?_
 refine zS Ad W 2 (st' := (7, [vR 21, vI x1, vI x2, vI x3, vI r36, none, none], [.ref 21], (H1 s e0 o))) rfl ?_
 obtain ⟨r38, hr38, h⟩ := bind_eq_some_iff.mp h
 refine QTri.callP W (a := 21) (as := []) (rest := []) (w := (some (.int r38))) (σ₁ := (H1 s e0 o)) rfl rfl rfl rfl rfl rfl rfl rfl (tF8 Ad W s e0 o hr38) ?_
 refine zS Ad W 5 (st' := (17, [vR 21, vI x1, vI x2, vI x3, vI r36, vI r38, none], [.int r38, .int x2, .int x1, .ref 21], (H1 s e0 o))) rfl ?_
 obtain ⟨r52, hr52, h⟩ := bind_eq_some_iff.mp h
 refine QTri.callP W (a := 21) (as := [.int x1, .int x2, .int r38]) (rest := []) (w := none) (σ₁ := (H1 s e0 r52)) rfl rfl rfl rfl rfl rfl rfl rfl (tF15 Ad W s e0 o x1 x2 r38 hr52) ?_
 refine zS Ad W 2 (st' := (23, [vR 21, vI x1, vI x2, vI x3, vI r36, vI r38, vI (0:Int32)], [], (H1 s e0 r52))) rfl ?_
 obtain ⟨e168, he168, h⟩ := bind_eq_some_iff.mp h
 refine zM [tt,tt,tt,tt,tt,tt,tt] (loopN_tri (B := B13_23 x1 x2 x3 r36 r38) (T := fun lv169 => QTri l Z n0 ad 13 (23, [vR 21, vI x1, vI x2, vI x3, vI r36, vI r38, vI lv169.1], [], (H1 s e0 lv169.2)) (none : Option Value) (H1 s e0 r)) (KE := fun e168a => (none : Option Value) = (none : Option Value) ∧ (H1 s e0 r) = (H1 s e0 e168a)) (fun lv169 r hB hE hC => tB13_23 Ad W s e0 x1 x2 x3 r36 r38 lv169 hB (fun x q => hE _ q) (fun x q => hC x q)) qN ((0:Int32), r52) e168 he168 ?_)
 obtain rfl := Option.some.inj h
 exact ⟨rfl, rfl⟩
/-- send(I)I -/
def F3 (o : Ob) (x1 : Int32) : Option (Int32 × Ob) :=
 (if x1 < (0:Int32) then some ((-1:Int32), o) else (if (255:Int32) < x1 then some ((-1:Int32), o) else (if (f_nextSeq o) < (32:Int32) then (aset (f_srcPayload o) (f_nextSeq o) x1).bind fun y32 => (aget (f_stats o) (1:Int32)).bind fun y33 => (aset (f_stats o) (1:Int32) (y33 + (1:Int32))).bind fun y34 => (F13 (s_stats (s_nextSeq (s_srcPayload o y32) ((f_nextSeq o) + (1:Int32))) y34) (0:Int32) (f_nextSeq o) x1).bind fun r170 => some ((f_nextSeq o), r170) else some ((-1:Int32), o))))
theorem tF3 (Ad : QAd n0 ad) (W : QW Z a0) (s : List Int32) (e0 : Ob) (o : Ob) (x1 : Int32) {r : Int32 × Ob} (h : F3 o x1 = some r) : QTri l Z n0 ad 3 (0, qentry [.ref 21, .int x1] (pMaxL 3), [], (H1 s e0 o)) (some (Value.int r.1)) (H1 s e0 r.2) := by
 unfold F3 at h
 refine zS Ad W 1 (st' := (1, [vR 21, vI x1, none], [.int x1], (H1 s e0 o))) rfl ?_
 rcases qite h with ⟨hc29, h⟩ | ⟨hc29, h⟩
 ·refine zT Ad W (t := 11) (f := 4) rfl (XT.i0_lt_t hc29) ?_
  refine zS Ad W 1 (st' := (12, [vR 21, vI x1, none], [.int (-1:Int32)], (H1 s e0 o))) rfl ?_
  obtain rfl := Option.some.inj h
  exact QTri.retI rfl rfl
 ·refine zF Ad W (t := 11) (f := 4) rfl (XT.i0_lt_f hc29) ?_
  refine zS Ad W 2 (st' := (8, [vR 21, vI x1, none], [.int (255:Int32), .int x1], (H1 s e0 o))) rfl ?_
  rcases qite h with ⟨hc30, h⟩ | ⟨hc30, h⟩
  ·refine zF Ad W (t := 13) (f := 11) rfl (XT.ii_le_f hc30) ?_
   refine zS Ad W 1 (st' := (12, [vR 21, vI x1, none], [.int (-1:Int32)], (H1 s e0 o))) rfl ?_
   obtain rfl := Option.some.inj h
   exact QTri.retI rfl rfl
  ·refine zT Ad W (t := 13) (f := 11) rfl (XT.ii_le_t hc30) ?_
   refine zS Ad W 3 (st' := (19, [vR 21, vI x1, none], [.int (32:Int32), .int (f_nextSeq o)], (H1 s e0 o))) rfl ?_
   rcases qite h with ⟨hc31, h⟩ | ⟨hc31, h⟩
   ·refine zT Ad W (t := 24) (f := 22) rfl (XT.ii_lt_t hc31) ?_
    refine zS Ad W 7 (st' := (35, [vR 21, vI x1, vI (f_nextSeq o)], [.int x1, .int (f_nextSeq o), .ref 22], (H1 s e0 o))) rfl ?_
    obtain ⟨y32, hy32, h⟩ := bind_eq_some_iff.mp h
    refine zB Ad W (f := fun y32 => (36, [vR 21, vI x1, vI (f_nextSeq o)], [], (H1x12 s e0 o y32))) rfl hy32 ?_
    refine zS Ad W 6 (st' := (46, [vR 21, vI x1, vI (f_nextSeq o)], [], (H1x13 s e0 o y32 ((f_nextSeq o) + (1:Int32))))) rfl ?_
    refine zS Ad W 4 (st' := (52, [vR 21, vI x1, vI (f_nextSeq o)], [.int (1:Int32), .ref 25, .int (1:Int32), .ref 25], (H1x13 s e0 o y32 ((f_nextSeq o) + (1:Int32))))) rfl ?_
    obtain ⟨y33, hy33, h⟩ := bind_eq_some_iff.mp h
    refine zB Ad W (f := fun y33 => (53, [vR 21, vI x1, vI (f_nextSeq o)], [.int y33, .int (1:Int32), .ref 25], (H1x13 s e0 o y32 ((f_nextSeq o) + (1:Int32))))) rfl hy33 ?_
    refine zS Ad W 2 (st' := (55, [vR 21, vI x1, vI (f_nextSeq o)], [.int (y33 + (1:Int32)), .int (1:Int32), .ref 25], (H1x13 s e0 o y32 ((f_nextSeq o) + (1:Int32))))) rfl ?_
    obtain ⟨y34, hy34, h⟩ := bind_eq_some_iff.mp h
    refine zB Ad W (f := fun y34 => (56, [vR 21, vI x1, vI (f_nextSeq o)], [], (H1x14 s e0 o y32 y34 ((f_nextSeq o) + (1:Int32))))) rfl hy34 ?_
    refine zS Ad W 4 (st' := (60, [vR 21, vI x1, vI (f_nextSeq o)], [.int x1, .int (f_nextSeq o), .int (0:Int32), .ref 21], (H1x14 s e0 o y32 y34 ((f_nextSeq o) + (1:Int32))))) rfl ?_
    have E35 : ((H1x14 s e0 o y32 y34 ((f_nextSeq o) + (1:Int32))) : QHeap) = (H1 s e0 (s_stats (s_nextSeq (s_srcPayload o y32) ((f_nextSeq o) + (1:Int32))) y34)) := by simp only [fs, H1, H1v, H1x14, s_srcPayload, s_stats, s_nextSeq]
    rw [E35]
    obtain ⟨r170, hr170, h⟩ := bind_eq_some_iff.mp h
    refine QTri.callP W (a := 21) (as := [.int (0:Int32), .int (f_nextSeq o), .int x1]) (rest := []) (w := none) (σ₁ := (H1 s e0 r170)) rfl rfl rfl rfl rfl rfl rfl rfl (tF13 Ad W s e0 (s_stats (s_nextSeq (s_srcPayload o y32) ((f_nextSeq o) + (1:Int32))) y34) (0:Int32) (f_nextSeq o) x1 hr170) ?_
    refine zS Ad W 1 (st' := (64, [vR 21, vI x1, vI (f_nextSeq o)], [.int (f_nextSeq o)], (H1 s e0 r170))) rfl ?_
    obtain rfl := Option.some.inj h
    exact QTri.retI rfl rfl
   ·refine zF Ad W (t := 24) (f := 22) rfl (XT.ii_lt_f hc31) ?_
    refine zS Ad W 1 (st' := (23, [vR 21, vI x1, none], [.int (-1:Int32)], (H1 s e0 o))) rfl ?_
    obtain rfl := Option.some.inj h
    exact QTri.retI rfl rfl
/-- validRx(I)Z -/
def F5 (x1 : Int32) : Option (Int32) :=
 (if x1 < (0:Int32) then some (0:Int32) else (if x1 < (4:Int32) then some (1:Int32) else some (0:Int32)))
theorem tF5 (Ad : QAd n0 ad) (W : QW Z a0) {a : Nat} {σ : QHeap} (x1 : Int32) {r : Int32} (h : F5 x1 = some r) : QTri l Z n0 ad 5 (0, qentry [.ref a, .int x1] (pMaxL 5), [], σ) (some (Value.int r)) σ := by
 unfold F5 at h
 refine zS Ad W 1 (st' := (1, [vR a, vI x1], [.int x1], σ)) rfl ?_
 rcases qite h with ⟨hc173, h⟩ | ⟨hc173, h⟩
 ·refine zT Ad W (t := 13) (f := 4) rfl (XT.i0_lt_t hc173) ?_
  refine zS Ad W 1 (st' := (14, [vR a, vI x1], [.int (0:Int32)], σ)) rfl ?_
  obtain rfl := Option.some.inj h
  exact QTri.retZ rfl rfl
 ·refine zF Ad W (t := 13) (f := 4) rfl (XT.i0_lt_f hc173) ?_
  refine zS Ad W 2 (st' := (6, [vR a, vI x1], [.int (4:Int32), .int x1], σ)) rfl ?_
  rcases qite h with ⟨hc174, h⟩ | ⟨hc174, h⟩
  ·refine zF Ad W (t := 13) (f := 9) rfl (XT.ii_ge_f hc174) ?_
   refine zS Ad W 2 (st' := (14, [vR a, vI x1], [.int (1:Int32)], σ)) rfl ?_
   obtain rfl := Option.some.inj h
   exact QTri.retZ rfl rfl
  ·refine zT Ad W (t := 13) (f := 9) rfl (XT.ii_ge_t hc174) ?_
   refine zS Ad W 1 (st' := (14, [vR a, vI x1], [.int (0:Int32)], σ)) rfl ?_
   obtain rfl := Option.some.inj h
   exact QTri.retZ rfl rfl
/-- setLoss(II)Z -/
def F4 (o : Ob) (x1 : Int32) (x2 : Int32) : Option (Int32 × Ob) :=
 (F5 x1).bind fun r175 => (if r175 = (0:Int32) then some ((0:Int32), o) else (F2 x2 (0:Int32) (255:Int32)).bind fun r177 => (aset (f_lossLeft o) x1 r177).bind fun y178 => some ((1:Int32), (s_lossLeft o y178)))
theorem tF4 (Ad : QAd n0 ad) (W : QW Z a0) (s : List Int32) (e0 : Ob) (o : Ob) (x1 : Int32) (x2 : Int32) {r : Int32 × Ob} (h : F4 o x1 x2 = some r) : QTri l Z n0 ad 4 (0, qentry [.ref 21, .int x1, .int x2] (pMaxL 4), [], (H1 s e0 o)) (some (Value.int r.1)) (H1 s e0 r.2) := by
 unfold F4 at h
 refine zS Ad W 2 (st' := (2, [vR 21, vI x1, vI x2], [.int x1, .ref 21], (H1 s e0 o))) rfl ?_
 obtain ⟨r175, hr175, h⟩ := bind_eq_some_iff.mp h
 refine QTri.callP W (a := 21) (as := [.int x1]) (rest := []) (w := (some (.int r175))) (σ₁ := (H1 s e0 o)) rfl rfl rfl rfl rfl rfl rfl rfl (tF5 Ad W x1 hr175) ?_
 rcases qite h with ⟨hc176, h⟩ | ⟨hc176, h⟩
 ·refine zF Ad W (t := 10) (f := 8) rfl (XT.i0_ne_f hc176) ?_
  refine zS Ad W 1 (st' := (9, [vR 21, vI x1, vI x2], [.int (0:Int32)], (H1 s e0 o))) rfl ?_
  obtain rfl := Option.some.inj h
  exact QTri.retZ rfl rfl
 ·refine zT Ad W (t := 10) (f := 8) rfl (XT.i0_ne_t hc176) ?_
  refine zS Ad W 7 (st' := (21, [vR 21, vI x1, vI x2], [.int (255:Int32), .int (0:Int32), .int x2, .ref 21, .int x1, .ref 32], (H1 s e0 o))) rfl ?_
  obtain ⟨r177, hr177, h⟩ := bind_eq_some_iff.mp h
  refine QTri.callP W (a := 21) (as := [.int x2, .int (0:Int32), .int (255:Int32)]) (rest := [.int x1, .ref 32]) (w := (some (.int r177))) (σ₁ := (H1 s e0 o)) rfl rfl rfl rfl rfl rfl rfl rfl (tF2 Ad W x2 (0:Int32) (255:Int32) hr177) ?_
  obtain ⟨y178, hy178, h⟩ := bind_eq_some_iff.mp h
  refine zB Ad W (f := fun y178 => (25, [vR 21, vI x1, vI x2], [], (H1x16 s e0 o y178))) rfl hy178 ?_
  refine zS Ad W 1 (st' := (26, [vR 21, vI x1, vI x2], [.int (1:Int32)], (H1x16 s e0 o y178))) rfl ?_
  have E179 : ((H1x16 s e0 o y178) : QHeap) = (H1 s e0 (s_lossLeft o y178)) := by simp only [fs, H1, H1v, H1x16, s_lossLeft]
  rw [E179]
  obtain rfl := Option.some.inj h
  exact QTri.retZ rfl rfl
def H1x32 (s : List Int32) (o0 o1 : Ob) (a0_0 : List Int32) : QHeap := H1v s a0_0 (f_pend o0) (f_queue o0) (f_stats o0) (f_state o0) (f_timer o0) (f_rxVal o0) (f_rxNext o0) (f_rxLead o0) (f_rxTrail o0) (f_lossLeft o0) (f_dups o0) (f_drops o0) (f_delSeq o0) (f_delVal o0) (f_delLen o0) (f_lostLog o0) (f_lostLen o0) (f_nakBuf o0) (f_win o0) (f_back o0) (f_repair o0) (f_period o0) (f_nextSeq o0) (f_qLen o0) (f_nakLen o0) (f_srcPayload o1) (f_pend o1) (f_queue o1) (f_stats o1) (f_state o1) (f_timer o1) (f_rxVal o1) (f_rxNext o1) (f_rxLead o1) (f_rxTrail o1) (f_lossLeft o1) (f_dups o1) (f_drops o1) (f_delSeq o1) (f_delVal o1) (f_delLen o1) (f_lostLog o1) (f_lostLen o1) (f_nakBuf o1) (f_win o1) (f_back o1) (f_repair o1) (f_period o1) (f_nextSeq o1) (f_qLen o1) (f_nakLen o1)
def H1x33 (s : List Int32) (o0 o1 : Ob) (a0_0 : List Int32) (a0_23 : Int32) : QHeap := H1v s a0_0 (f_pend o0) (f_queue o0) (f_stats o0) (f_state o0) (f_timer o0) (f_rxVal o0) (f_rxNext o0) (f_rxLead o0) (f_rxTrail o0) (f_lossLeft o0) (f_dups o0) (f_drops o0) (f_delSeq o0) (f_delVal o0) (f_delLen o0) (f_lostLog o0) (f_lostLen o0) (f_nakBuf o0) (f_win o0) (f_back o0) (f_repair o0) (f_period o0) a0_23 (f_qLen o0) (f_nakLen o0) (f_srcPayload o1) (f_pend o1) (f_queue o1) (f_stats o1) (f_state o1) (f_timer o1) (f_rxVal o1) (f_rxNext o1) (f_rxLead o1) (f_rxTrail o1) (f_lossLeft o1) (f_dups o1) (f_drops o1) (f_delSeq o1) (f_delVal o1) (f_delLen o1) (f_lostLog o1) (f_lostLen o1) (f_nakBuf o1) (f_win o1) (f_back o1) (f_repair o1) (f_period o1) (f_nextSeq o1) (f_qLen o1) (f_nakLen o1)
def H1x34 (s : List Int32) (o0 o1 : Ob) (a0_0 : List Int32) (a0_3 : List Int32) (a0_23 : Int32) : QHeap := H1v s a0_0 (f_pend o0) (f_queue o0) a0_3 (f_state o0) (f_timer o0) (f_rxVal o0) (f_rxNext o0) (f_rxLead o0) (f_rxTrail o0) (f_lossLeft o0) (f_dups o0) (f_drops o0) (f_delSeq o0) (f_delVal o0) (f_delLen o0) (f_lostLog o0) (f_lostLen o0) (f_nakBuf o0) (f_win o0) (f_back o0) (f_repair o0) (f_period o0) a0_23 (f_qLen o0) (f_nakLen o0) (f_srcPayload o1) (f_pend o1) (f_queue o1) (f_stats o1) (f_state o1) (f_timer o1) (f_rxVal o1) (f_rxNext o1) (f_rxLead o1) (f_rxTrail o1) (f_lossLeft o1) (f_dups o1) (f_drops o1) (f_delSeq o1) (f_delVal o1) (f_delLen o1) (f_lostLog o1) (f_lostLen o1) (f_nakBuf o1) (f_win o1) (f_back o1) (f_repair o1) (f_period o1) (f_nextSeq o1) (f_qLen o1) (f_nakLen o1)
theorem tF14a1 (Ad : QAd n0 ad) (W : QW Z a0) (s : List Int32) (e0 : Ob) (o : Ob) {r : Int32} (h : F14 o = some r) : QTri l Z n0 ad 14 (0, qentry [.ref 1] (pMaxL 14), [], (H1 s o e0)) (some (Value.int r)) (H1 s o e0) := by
 unfold F14 at h
 refine zS Ad W 4 (st' := (6, [vR 1], [.int ((f_nextSeq o) - (1:Int32))], (H1 s o e0))) rfl ?_
 obtain rfl := Option.some.inj h
 exact QTri.retI rfl rfl
theorem tF8a1 (Ad : QAd n0 ad) (W : QW Z a0) (s : List Int32) (e0 : Ob) (o : Ob) {r : Int32} (h : F8 o = some r) : QTri l Z n0 ad 8 (0, qentry [.ref 1] (pMaxL 8), [], (H1 s o e0)) (some (Value.int r)) (H1 s o e0) := by
 unfold F8 at h
 refine zS Ad W 7 (st' := (11, [vR 1, vI ((f_nextSeq o) - (f_win o))], [.int ((f_nextSeq o) - (f_win o))], (H1 s o e0))) rfl ?_
 rcases qite h with ⟨hc191, h⟩ | ⟨hc191, h⟩
 ·refine zF Ad W (t := 16) (f := 14) rfl (XT.i0_ge_f hc191) ?_
  refine zS Ad W 1 (st' := (15, [vR 1, vI ((f_nextSeq o) - (f_win o))], [.int (0:Int32)], (H1 s o e0))) rfl ?_
  obtain rfl := Option.some.inj h
  exact QTri.retI rfl rfl
 ·refine zT Ad W (t := 16) (f := 14) rfl (XT.i0_ge_t hc191) ?_
  refine zS Ad W 1 (st' := (17, [vR 1, vI ((f_nextSeq o) - (f_win o))], [.int ((f_nextSeq o) - (f_win o))], (H1 s o e0))) rfl ?_
  obtain rfl := Option.some.inj h
  exact QTri.retI rfl rfl
def H1x35 (s : List Int32) (o0 o1 : Ob) (a0_1 : List Int32) : QHeap := H1v s (f_srcPayload o0) a0_1 (f_queue o0) (f_stats o0) (f_state o0) (f_timer o0) (f_rxVal o0) (f_rxNext o0) (f_rxLead o0) (f_rxTrail o0) (f_lossLeft o0) (f_dups o0) (f_drops o0) (f_delSeq o0) (f_delVal o0) (f_delLen o0) (f_lostLog o0) (f_lostLen o0) (f_nakBuf o0) (f_win o0) (f_back o0) (f_repair o0) (f_period o0) (f_nextSeq o0) (f_qLen o0) (f_nakLen o0) (f_srcPayload o1) (f_pend o1) (f_queue o1) (f_stats o1) (f_state o1) (f_timer o1) (f_rxVal o1) (f_rxNext o1) (f_rxLead o1) (f_rxTrail o1) (f_lossLeft o1) (f_dups o1) (f_drops o1) (f_delSeq o1) (f_delVal o1) (f_delLen o1) (f_lostLog o1) (f_lostLen o1) (f_nakBuf o1) (f_win o1) (f_back o1) (f_repair o1) (f_period o1) (f_nextSeq o1) (f_qLen o1) (f_nakLen o1)
theorem tB15_23a1 (Ad : QAd n0 ad) (W : QW Z a0) (s : List Int32) (e0 : Ob) (x3 : Int32) (v : Int32 × Ob) {r : ((Ob)) ⊕ (Int32 × Ob)} {u : Option Value} {τ : QHeap} (h : B15_23 x3 v = some r) (hx0 : ∀ x : Ob, r = .inl x → u = (none : Option Value) ∧ τ = (H1 s x e0)) (hc : ∀ x : Int32 × Ob, r = .inr x → QTri l Z n0 ad 15 (23, [vR 1, none, none, vI x3, vI x.1], [], (H1 s x.2 e0)) u τ) : QTri l Z n0 ad 15 (23, [vR 1, none, none, vI x3, vI v.1], [], (H1 s v.2 e0)) u τ := by
 unfold B15_23 at h
 refine zS Ad W 2 (st' := (26, [vR 1, none, none, vI x3, vI v.1], [.int x3, .int v.1], (H1 s v.2 e0))) rfl ?_
 rcases qite h with ⟨hc196, h⟩ | ⟨hc196, h⟩
 ·refine zF Ad W (t := 50) (f := 29) rfl (XT.ii_ge_f hc196) ?_
  refine zS Ad W 2 (st' := (33, [vR 1, none, none, vI x3, vI v.1], [.int (32:Int32), .int v.1], (H1 s v.2 e0))) rfl ?_
  rcases qite h with ⟨hc197, h⟩ | ⟨hc197, h⟩
  ·refine zF Ad W (t := 50) (f := 36) rfl (XT.ii_ge_f hc197) ?_
   refine zS Ad W 4 (st' := (43, [vR 1, none, none, vI x3, vI v.1], [.int (0:Int32), .int v.1, .ref 3], (H1 s v.2 e0))) rfl ?_
   obtain ⟨y198, hy198, h⟩ := bind_eq_some_iff.mp h
   refine zB Ad W (f := fun y198 => (44, [vR 1, none, none, vI x3, vI v.1], [], (H1x35 s v.2 e0 y198))) rfl hy198 ?_
   refine zS Ad W 2 (st' := (23, [vR 1, none, none, vI x3, vI (v.1 + (1:Int32))], [], (H1x35 s v.2 e0 y198))) rfl ?_
   have E199 : ((H1x35 s v.2 e0 y198) : QHeap) = (H1 s (s_pend v.2 y198) e0) := by simp only [fs, H1, H1v, H1x35, s_pend]
   rw [E199]
   obtain rfl := Option.some.inj h
   exact zM [tt,ff,ff,tt,tt] (hc ((v.1 + (1:Int32)), (s_pend v.2 y198)) rfl)
  ·refine zT Ad W (t := 50) (f := 36) rfl (XT.ii_ge_t hc197) ?_
   obtain rfl := Option.some.inj h
   obtain ⟨rfl, rfl⟩ := hx0 v.2 rfl
   exact QTri.ret0 rfl rfl
 ·refine zT Ad W (t := 50) (f := 29) rfl (XT.ii_ge_t hc196) ?_
  obtain rfl := Option.some.inj h
  obtain ⟨rfl, rfl⟩ := hx0 v.2 rfl
  exact QTri.ret0 rfl rfl
theorem tJ15_20a1 (Ad : QAd n0 ad) (W : QW Z a0) (s : List Int32) (e0 : Ob) (o : Ob) (x3 : Int32) {r : Ob} (h : J15_20 o x3 = some r) : QTri l Z n0 ad 15 (20, [vR 1, none, none, vI x3, none], [], (H1 s o e0)) (none : Option Value) (H1 s r e0) := by
 unfold J15_20 at h
 refine zS Ad W 2 (st' := (23, [vR 1, none, none, vI x3, vI (0:Int32)], [], (H1 s o e0))) rfl ?_
 obtain ⟨e200, he200, h⟩ := bind_eq_some_iff.mp h
 refine zM [tt,ff,ff,tt,tt] (loopN_tri (B := B15_23 x3) (T := fun lv201 => QTri l Z n0 ad 15 (23, [vR 1, none, none, vI x3, vI lv201.1], [], (H1 s lv201.2 e0)) (none : Option Value) (H1 s r e0)) (KE := fun e200a => (none : Option Value) = (none : Option Value) ∧ (H1 s r e0) = (H1 s e200a e0)) (fun lv201 r hB hE hC => tB15_23a1 Ad W s e0 x3 lv201 hB (fun x q => hE _ q) (fun x q => hC x q)) qN ((0:Int32), o) e200 he200 ?_)
 obtain rfl := Option.some.inj h
 exact ⟨rfl, rfl⟩
theorem tF15a1 (Ad : QAd n0 ad) (W : QW Z a0) (s : List Int32) (e0 : Ob) (o : Ob) (x1 : Int32) (x2 : Int32) (x3 : Int32) {r : Ob} (h : F15 o x1 x2 x3 = some r) : QTri l Z n0 ad 15 (0, qentry [.ref 1, .int x1, .int x2, .int x3] (pMaxL 15), [], (H1 s o e0)) (none : Option Value) (H1 s r e0) := by
 unfold F15 at h
 refine zS Ad W 2 (st' := (2, [vR 1, vI x1, vI x2, vI x3, none], [.int (1:Int32), .int x1], (H1 s o e0))) rfl ?_
 rcases qite h with ⟨hc193, h⟩ | ⟨hc193, h⟩
 ·refine zF Ad W (t := 20) (f := 5) rfl (XT.ii_ne_f hc193) ?_
  refine zS Ad W 2 (st' := (7, [vR 1, vI x1, vI x2, vI x3, none], [.int x2, .ref 1], (H1 s o e0))) rfl ?_
  obtain ⟨r194, hr194, h⟩ := bind_eq_some_iff.mp h
  refine QTri.callP W (a := 1) (as := [.int x2]) (rest := []) (w := (some (.int r194))) (σ₁ := (H1 s o e0)) rfl rfl rfl rfl rfl rfl rfl rfl (tF18 Ad W x2 hr194) ?_
  rcases qite h with ⟨hc195, h⟩ | ⟨hc195, h⟩
  ·refine zT Ad W (t := 20) (f := 13) rfl (XT.i0_eq_t hc195) ?_
   exact zM [tt,ff,ff,tt,ff] (tJ15_20a1 Ad W s e0 o x3 h)
  ·refine zF Ad W (t := 20) (f := 13) rfl (XT.i0_eq_f hc195) ?_
   refine zS Ad W 4 (st' := (19, [vR 1, vI x1, vI x2, vI x3, none], [.int (0:Int32), .int x2, .ref 3], (H1 s o e0))) rfl ?_
   obtain ⟨y202, hy202, h⟩ := bind_eq_some_iff.mp h
   refine zB Ad W (f := fun y202 => (20, [vR 1, vI x1, vI x2, vI x3, none], [], (H1x35 s o e0 y202))) rfl hy202 ?_
   have E203 : ((H1x35 s o e0 y202) : QHeap) = (H1 s (s_pend o y202) e0) := by simp only [fs, H1, H1v, H1x35, s_pend]
   rw [E203]
   exact zM [tt,ff,ff,tt,ff] (tJ15_20a1 Ad W s e0 (s_pend o y202) x3 h)
 ·refine zT Ad W (t := 20) (f := 5) rfl (XT.ii_ne_t hc193) ?_
  exact zM [tt,ff,ff,tt,ff] (tJ15_20a1 Ad W s e0 o x3 h)
def H1x36 (s : List Int32) (o0 o1 : Ob) (a0_10 : List Int32) : QHeap := H1v s (f_srcPayload o0) (f_pend o0) (f_queue o0) (f_stats o0) (f_state o0) (f_timer o0) (f_rxVal o0) (f_rxNext o0) (f_rxLead o0) (f_rxTrail o0) a0_10 (f_dups o0) (f_drops o0) (f_delSeq o0) (f_delVal o0) (f_delLen o0) (f_lostLog o0) (f_lostLen o0) (f_nakBuf o0) (f_win o0) (f_back o0) (f_repair o0) (f_period o0) (f_nextSeq o0) (f_qLen o0) (f_nakLen o0) (f_srcPayload o1) (f_pend o1) (f_queue o1) (f_stats o1) (f_state o1) (f_timer o1) (f_rxVal o1) (f_rxNext o1) (f_rxLead o1) (f_rxTrail o1) (f_lossLeft o1) (f_dups o1) (f_drops o1) (f_delSeq o1) (f_delVal o1) (f_delLen o1) (f_lostLog o1) (f_lostLen o1) (f_nakBuf o1) (f_win o1) (f_back o1) (f_repair o1) (f_period o1) (f_nextSeq o1) (f_qLen o1) (f_nakLen o1)
def H1x37 (s : List Int32) (o0 o1 : Ob) (a0_10 : List Int32) (a0_12 : List Int32) : QHeap := H1v s (f_srcPayload o0) (f_pend o0) (f_queue o0) (f_stats o0) (f_state o0) (f_timer o0) (f_rxVal o0) (f_rxNext o0) (f_rxLead o0) (f_rxTrail o0) a0_10 (f_dups o0) a0_12 (f_delSeq o0) (f_delVal o0) (f_delLen o0) (f_lostLog o0) (f_lostLen o0) (f_nakBuf o0) (f_win o0) (f_back o0) (f_repair o0) (f_period o0) (f_nextSeq o0) (f_qLen o0) (f_nakLen o0) (f_srcPayload o1) (f_pend o1) (f_queue o1) (f_stats o1) (f_state o1) (f_timer o1) (f_rxVal o1) (f_rxNext o1) (f_rxLead o1) (f_rxTrail o1) (f_lossLeft o1) (f_dups o1) (f_drops o1) (f_delSeq o1) (f_delVal o1) (f_delLen o1) (f_lostLog o1) (f_lostLen o1) (f_nakBuf o1) (f_win o1) (f_back o1) (f_repair o1) (f_period o1) (f_nextSeq o1) (f_qLen o1) (f_nakLen o1)
def H1x38 (s : List Int32) (o0 o1 : Ob) (a0_3 : List Int32) (a0_10 : List Int32) (a0_12 : List Int32) : QHeap := H1v s (f_srcPayload o0) (f_pend o0) (f_queue o0) a0_3 (f_state o0) (f_timer o0) (f_rxVal o0) (f_rxNext o0) (f_rxLead o0) (f_rxTrail o0) a0_10 (f_dups o0) a0_12 (f_delSeq o0) (f_delVal o0) (f_delLen o0) (f_lostLog o0) (f_lostLen o0) (f_nakBuf o0) (f_win o0) (f_back o0) (f_repair o0) (f_period o0) (f_nextSeq o0) (f_qLen o0) (f_nakLen o0) (f_srcPayload o1) (f_pend o1) (f_queue o1) (f_stats o1) (f_state o1) (f_timer o1) (f_rxVal o1) (f_rxNext o1) (f_rxLead o1) (f_rxTrail o1) (f_lossLeft o1) (f_dups o1) (f_drops o1) (f_delSeq o1) (f_delVal o1) (f_delLen o1) (f_lostLog o1) (f_lostLen o1) (f_nakBuf o1) (f_win o1) (f_back o1) (f_repair o1) (f_period o1) (f_nextSeq o1) (f_qLen o1) (f_nakLen o1)
def H1x39 (s : List Int32) (o0 o1 : Ob) (a0_4 : List Int32) : QHeap := H1v s (f_srcPayload o0) (f_pend o0) (f_queue o0) (f_stats o0) a0_4 (f_timer o0) (f_rxVal o0) (f_rxNext o0) (f_rxLead o0) (f_rxTrail o0) (f_lossLeft o0) (f_dups o0) (f_drops o0) (f_delSeq o0) (f_delVal o0) (f_delLen o0) (f_lostLog o0) (f_lostLen o0) (f_nakBuf o0) (f_win o0) (f_back o0) (f_repair o0) (f_period o0) (f_nextSeq o0) (f_qLen o0) (f_nakLen o0) (f_srcPayload o1) (f_pend o1) (f_queue o1) (f_stats o1) (f_state o1) (f_timer o1) (f_rxVal o1) (f_rxNext o1) (f_rxLead o1) (f_rxTrail o1) (f_lossLeft o1) (f_dups o1) (f_drops o1) (f_delSeq o1) (f_delVal o1) (f_delLen o1) (f_lostLog o1) (f_lostLen o1) (f_nakBuf o1) (f_win o1) (f_back o1) (f_repair o1) (f_period o1) (f_nextSeq o1) (f_qLen o1) (f_nakLen o1)
theorem tF24a1 (Ad : QAd n0 ad) (W : QW Z a0) (s : List Int32) (e0 : Ob) (o : Ob) (x1 : Int32) {r : Int32} (h : F24 o x1 = some r) : QTri l Z n0 ad 24 (0, qentry [.ref 1, .int x1] (pMaxL 24), [], (H1 s o e0)) (some (Value.int r)) (H1 s o e0) := by
 unfold F24 at h
 refine zS Ad W 4 (st' := (6, [vR 1, vI x1], [.int ((f_back o) + x1)], (H1 s o e0))) rfl ?_
 obtain rfl := Option.some.inj h
 exact QTri.retI rfl rfl
def H1x40 (s : List Int32) (o0 o1 : Ob) (a0_5 : List Int32) : QHeap := H1v s (f_srcPayload o0) (f_pend o0) (f_queue o0) (f_stats o0) (f_state o0) a0_5 (f_rxVal o0) (f_rxNext o0) (f_rxLead o0) (f_rxTrail o0) (f_lossLeft o0) (f_dups o0) (f_drops o0) (f_delSeq o0) (f_delVal o0) (f_delLen o0) (f_lostLog o0) (f_lostLen o0) (f_nakBuf o0) (f_win o0) (f_back o0) (f_repair o0) (f_period o0) (f_nextSeq o0) (f_qLen o0) (f_nakLen o0) (f_srcPayload o1) (f_pend o1) (f_queue o1) (f_stats o1) (f_state o1) (f_timer o1) (f_rxVal o1) (f_rxNext o1) (f_rxLead o1) (f_rxTrail o1) (f_lossLeft o1) (f_dups o1) (f_drops o1) (f_delSeq o1) (f_delVal o1) (f_delLen o1) (f_lostLog o1) (f_lostLen o1) (f_nakBuf o1) (f_win o1) (f_back o1) (f_repair o1) (f_period o1) (f_nextSeq o1) (f_qLen o1) (f_nakLen o1)
theorem tJ19_70a1 (Ad : QAd n0 ad) (W : QW Z a0) (s : List Int32) (e0 : Ob) (o : Ob) (x1 : Int32) (x2 : Int32) (x4 : Int32) {r : ((Ob)) ⊕ (Int32 × Ob)} {u : Option Value} {τ : QHeap} (h : J19_70 o x1 x2 x4 = some r) (hx0 : ∀ x : Ob, r = .inl x → QTri l Z n0 ad 19 (76, [vR 1, vI x1, vI x2, none, none, none], [], (H1 s x e0)) u τ) (hc : ∀ x : Int32 × Ob, r = .inr x → QTri l Z n0 ad 19 (18, [vR 1, vI x1, vI x2, none, vI x.1, none], [], (H1 s x.2 e0)) u τ) : QTri l Z n0 ad 19 (70, [vR 1, vI x1, vI x2, none, vI x4, none], [], (H1 s o e0)) u τ := by
 unfold J19_70 at h
 refine zS Ad W 2 (st' := (18, [vR 1, vI x1, vI x2, none, vI (x4 + (1:Int32)), none], [], (H1 s o e0))) rfl ?_
 obtain rfl := Option.some.inj h
 exact zM [tt,tt,tt,ff,tt,ff] (hc ((x4 + (1:Int32)), o) rfl)
theorem tB19_18a1 (Ad : QAd n0 ad) (W : QW Z a0) (s : List Int32) (e0 : Ob) (x1 : Int32) (x2 : Int32) (v : Int32 × Ob) {r : ((Ob)) ⊕ (Int32 × Ob)} {u : Option Value} {τ : QHeap} (h : B19_18 x1 x2 v = some r) (hx0 : ∀ x : Ob, r = .inl x → QTri l Z n0 ad 19 (76, [vR 1, vI x1, vI x2, none, none, none], [], (H1 s x e0)) u τ) (hc : ∀ x : Int32 × Ob, r = .inr x → QTri l Z n0 ad 19 (18, [vR 1, vI x1, vI x2, none, vI x.1, none], [], (H1 s x.2 e0)) u τ) : QTri l Z n0 ad 19 (18, [vR 1, vI x1, vI x2, none, vI v.1, none], [], (H1 s v.2 e0)) u τ := by
 unfold B19_18 at h
 refine zS Ad W 2 (st' := (21, [vR 1, vI x1, vI x2, none, vI v.1, none], [.int x2, .int v.1], (H1 s v.2 e0))) rfl ?_
 rcases qite h with ⟨hc222, h⟩ | ⟨hc222, h⟩
 ·refine zT Ad W (t := 76) (f := 24) rfl (XT.ii_gt_t hc222) ?_
  obtain rfl := Option.some.inj h
  exact zM [tt,tt,tt,ff,ff,ff] (hx0 v.2 rfl)
 ·refine zF Ad W (t := 76) (f := 24) rfl (XT.ii_gt_f hc222) ?_
  refine zS Ad W 2 (st' := (28, [vR 1, vI x1, vI x2, none, vI v.1, none], [.int (32:Int32), .int v.1], (H1 s v.2 e0))) rfl ?_
  rcases qite h with ⟨hc223, h⟩ | ⟨hc223, h⟩
  ·refine zF Ad W (t := 76) (f := 31) rfl (XT.ii_ge_f hc223) ?_
   refine zS Ad W 9 (st' := (46, [vR 1, vI x1, vI x2, none, vI v.1, vI ((x1 * (32:Int32)) + v.1)], [.int ((x1 * (32:Int32)) + v.1), .ref 6], (H1 s v.2 e0))) rfl ?_
   obtain ⟨y224, hy224, h⟩ := bind_eq_some_iff.mp h
   refine zB Ad W (f := fun y224 => (47, [vR 1, vI x1, vI x2, none, vI v.1, vI ((x1 * (32:Int32)) + v.1)], [.int y224], (H1 s v.2 e0))) rfl hy224 ?_
   rcases qite h with ⟨hc225, h⟩ | ⟨hc225, h⟩
   ·refine zF Ad W (t := 70) (f := 50) rfl (XT.i0_ne_f hc225) ?_
    refine zS Ad W 4 (st' := (57, [vR 1, vI x1, vI x2, none, vI v.1, vI ((x1 * (32:Int32)) + v.1)], [.int (1:Int32), .int ((x1 * (32:Int32)) + v.1), .ref 6], (H1 s v.2 e0))) rfl ?_
    obtain ⟨y226, hy226, h⟩ := bind_eq_some_iff.mp h
    refine zB Ad W (f := fun y226 => (58, [vR 1, vI x1, vI x2, none, vI v.1, vI ((x1 * (32:Int32)) + v.1)], [], (H1x39 s v.2 e0 y226))) rfl hy226 ?_
    refine zS Ad W 5 (st' := (66, [vR 1, vI x1, vI x2, none, vI v.1, vI ((x1 * (32:Int32)) + v.1)], [.int x1, .ref 1, .int ((x1 * (32:Int32)) + v.1), .ref 7], (H1x39 s v.2 e0 y226))) rfl ?_
    have E227 : ((H1x39 s v.2 e0 y226) : QHeap) = (H1 s (s_state v.2 y226) e0) := by simp only [fs, H1, H1v, H1x39, s_state]
    rw [E227]
    obtain ⟨r228, hr228, h⟩ := bind_eq_some_iff.mp h
    refine QTri.callP W (a := 1) (as := [.int x1]) (rest := [.int ((x1 * (32:Int32)) + v.1), .ref 7]) (w := (some (.int r228))) (σ₁ := (H1 s (s_state v.2 y226) e0)) rfl rfl rfl rfl rfl rfl rfl rfl (tF24a1 Ad W s e0 (s_state v.2 y226) x1 hr228) ?_
    obtain ⟨y229, hy229, h⟩ := bind_eq_some_iff.mp h
    refine zB Ad W (f := fun y229 => (70, [vR 1, vI x1, vI x2, none, vI v.1, vI ((x1 * (32:Int32)) + v.1)], [], (H1x40 s (s_state v.2 y226) e0 y229))) rfl hy229 ?_
    have E230 : ((H1x40 s (s_state v.2 y226) e0 y229) : QHeap) = (H1 s (s_timer (s_state v.2 y226) y229) e0) := by simp only [fs, H1, H1v, H1x40, s_timer]
    rw [E230]
    exact zM [tt,tt,tt,ff,tt,ff] (tJ19_70a1 Ad W s e0 (s_timer (s_state v.2 y226) y229) x1 x2 v.1 h hx0 hc)
   ·refine zT Ad W (t := 70) (f := 50) rfl (XT.i0_ne_t hc225) ?_
    exact zM [tt,tt,tt,ff,tt,ff] (tJ19_70a1 Ad W s e0 v.2 x1 x2 v.1 h hx0 hc)
  ·refine zT Ad W (t := 76) (f := 31) rfl (XT.ii_ge_t hc223) ?_
   obtain rfl := Option.some.inj h
   exact zM [tt,tt,tt,ff,ff,ff] (hx0 v.2 rfl)
def H1x41 (s : List Int32) (o0 o1 : Ob) (a0_8 : List Int32) : QHeap := H1v s (f_srcPayload o0) (f_pend o0) (f_queue o0) (f_stats o0) (f_state o0) (f_timer o0) (f_rxVal o0) (f_rxNext o0) a0_8 (f_rxTrail o0) (f_lossLeft o0) (f_dups o0) (f_drops o0) (f_delSeq o0) (f_delVal o0) (f_delLen o0) (f_lostLog o0) (f_lostLen o0) (f_nakBuf o0) (f_win o0) (f_back o0) (f_repair o0) (f_period o0) (f_nextSeq o0) (f_qLen o0) (f_nakLen o0) (f_srcPayload o1) (f_pend o1) (f_queue o1) (f_stats o1) (f_state o1) (f_timer o1) (f_rxVal o1) (f_rxNext o1) (f_rxLead o1) (f_rxTrail o1) (f_lossLeft o1) (f_dups o1) (f_drops o1) (f_delSeq o1) (f_delVal o1) (f_delLen o1) (f_lostLog o1) (f_lostLen o1) (f_nakBuf o1) (f_win o1) (f_back o1) (f_repair o1) (f_period o1) (f_nextSeq o1) (f_qLen o1) (f_nakLen o1)
theorem tJ19_76a1 (Ad : QAd n0 ad) (W : QW Z a0) (s : List Int32) (e0 : Ob) (o : Ob) (x1 : Int32) (x2 : Int32) {r : Ob} (h : J19_76 o x1 x2 = some r) : QTri l Z n0 ad 19 (76, [vR 1, vI x1, vI x2, none, none, none], [], (H1 s o e0)) (none : Option Value) (H1 s r e0) := by
 unfold J19_76 at h
 refine zS Ad W 4 (st' := (82, [vR 1, vI x1, vI x2, none, none, none], [.int x1, .ref 10, .int x2], (H1 s o e0))) rfl ?_
 obtain ⟨y233, hy233, h⟩ := bind_eq_some_iff.mp h
 refine zB Ad W (f := fun y233 => (83, [vR 1, vI x1, vI x2, none, none, none], [.int y233, .int x2], (H1 s o e0))) rfl hy233 ?_
 rcases qite h with ⟨hc234, h⟩ | ⟨hc234, h⟩
 ·refine zF Ad W (t := 93) (f := 86) rfl (XT.ii_le_f hc234) ?_
  refine zS Ad W 4 (st' := (92, [vR 1, vI x1, vI x2, none, none, none], [.int x2, .int x1, .ref 10], (H1 s o e0))) rfl ?_
  obtain ⟨y235, hy235, h⟩ := bind_eq_some_iff.mp h
  refine zB Ad W (f := fun y235 => (93, [vR 1, vI x1, vI x2, none, none, none], [], (H1x41 s o e0 y235))) rfl hy235 ?_
  have E236 : ((H1x41 s o e0 y235) : QHeap) = (H1 s (s_rxLead o y235) e0) := by simp only [fs, H1, H1v, H1x41, s_rxLead]
  rw [E236]
  obtain rfl := Option.some.inj h
  exact QTri.ret0 rfl rfl
 ·refine zT Ad W (t := 93) (f := 86) rfl (XT.ii_le_t hc234) ?_
  obtain rfl := Option.some.inj h
  exact QTri.ret0 rfl rfl
theorem tF19a1 (Ad : QAd n0 ad) (W : QW Z a0) (s : List Int32) (e0 : Ob) (o : Ob) (x1 : Int32) (x2 : Int32) {r : Ob} (h : F19 o x1 x2 = some r) : QTri l Z n0 ad 19 (0, qentry [.ref 1, .int x1, .int x2] (pMaxL 19), [], (H1 s o e0)) (none : Option Value) (H1 s r e0) := by
 unfold F19 at h
 refine zS Ad W 3 (st' := (5, [vR 1, vI x1, vI x2, none, none, none], [.int x1, .ref 10], (H1 s o e0))) rfl ?_
 obtain ⟨y218, hy218, h⟩ := bind_eq_some_iff.mp h
 refine zB Ad W (f := fun y218 => (6, [vR 1, vI x1, vI x2, none, none, none], [.int y218], (H1 s o e0))) rfl hy218 ?_
 refine zS Ad W 4 (st' := (10, [vR 1, vI x1, vI x2, vI (y218 + (1:Int32)), none, none], [.int (y218 + (1:Int32))], (H1 s o e0))) rfl ?_
 have K220 : ∀ z219 : Int32, z219 = (if (y218 + (1:Int32)) < (0:Int32) then (0:Int32) else (y218 + (1:Int32))) → QTri l Z n0 ad 19 (15, [vR 1, vI x1, vI x2, vI z219, none, none], [], (H1 s o e0)) (none : Option Value) (H1 s r e0) := by
  intro z219 ez219
  subst ez219
  refine zS Ad W 2 (st' := (18, [vR 1, vI x1, vI x2, vI (if (y218 + (1:Int32)) < (0:Int32) then (0:Int32) else (y218 + (1:Int32))), vI (if (y218 + (1:Int32)) < (0:Int32) then (0:Int32) else (y218 + (1:Int32))), none], [], (H1 s o e0))) rfl ?_
  obtain ⟨e231, he231, h⟩ := bind_eq_some_iff.mp h
  refine zM [tt,tt,tt,ff,tt,ff] (loopN_tri (B := B19_18 x1 x2) (T := fun lv232 => QTri l Z n0 ad 19 (18, [vR 1, vI x1, vI x2, none, vI lv232.1, none], [], (H1 s lv232.2 e0)) (none : Option Value) (H1 s r e0)) (KE := fun e231a => QTri l Z n0 ad 19 (76, [vR 1, vI x1, vI x2, none, none, none], [], (H1 s e231a e0)) (none : Option Value) (H1 s r e0)) (fun lv232 r hB hE hC => tB19_18a1 Ad W s e0 x1 x2 lv232 hB (fun x q => hE _ q) (fun x q => hC x q)) qN ((if (y218 + (1:Int32)) < (0:Int32) then (0:Int32) else (y218 + (1:Int32))), o) e231 he231 ?_)
  exact zM [tt,tt,tt,ff,ff,ff] (tJ19_76a1 Ad W s e0 e231 x1 x2 h)
 rcases em ((y218 + (1:Int32)) < (0:Int32)) with hc221 | hc221
 ·refine zF Ad W (t := 15) (f := 13) rfl (XT.i0_ge_f hc221) ?_
  refine zS Ad W 2 (st' := (15, [vR 1, vI x1, vI x2, vI (0:Int32), none, none], [], (H1 s o e0))) rfl ?_
  exact zM [tt,tt,tt,tt,ff,ff] (K220 _ (if_pos hc221).symm)
 ·refine zT Ad W (t := 15) (f := 13) rfl (XT.i0_ge_t hc221) ?_
  exact zM [tt,tt,tt,tt,ff,ff] (K220 _ (if_neg hc221).symm)
def H1x42 (s : List Int32) (o0 o1 : Ob) (a0_9 : List Int32) : QHeap := H1v s (f_srcPayload o0) (f_pend o0) (f_queue o0) (f_stats o0) (f_state o0) (f_timer o0) (f_rxVal o0) (f_rxNext o0) (f_rxLead o0) a0_9 (f_lossLeft o0) (f_dups o0) (f_drops o0) (f_delSeq o0) (f_delVal o0) (f_delLen o0) (f_lostLog o0) (f_lostLen o0) (f_nakBuf o0) (f_win o0) (f_back o0) (f_repair o0) (f_period o0) (f_nextSeq o0) (f_qLen o0) (f_nakLen o0) (f_srcPayload o1) (f_pend o1) (f_queue o1) (f_stats o1) (f_state o1) (f_timer o1) (f_rxVal o1) (f_rxNext o1) (f_rxLead o1) (f_rxTrail o1) (f_lossLeft o1) (f_dups o1) (f_drops o1) (f_delSeq o1) (f_delVal o1) (f_delLen o1) (f_lostLog o1) (f_lostLen o1) (f_nakBuf o1) (f_win o1) (f_back o1) (f_repair o1) (f_period o1) (f_nextSeq o1) (f_qLen o1) (f_nakLen o1)
theorem tJ20_108a1 (Ad : QAd n0 ad) (W : QW Z a0) (s : List Int32) (e0 : Ob) (o : Ob) (x1 : Int32) (x2 : Int32) (x4 : Int32) {r : ((Ob)) ⊕ (Int32 × Ob)} {u : Option Value} {τ : QHeap} (h : J20_108 o x1 x2 x4 = some r) (hx0 : ∀ x : Ob, r = .inl x → u = (none : Option Value) ∧ τ = (H1 s x e0)) (hc : ∀ x : Int32 × Ob, r = .inr x → QTri l Z n0 ad 20 (34, [vR 1, vI x1, vI x2, none, vI x.1, none, none], [], (H1 s x.2 e0)) u τ) : QTri l Z n0 ad 20 (108, [vR 1, vI x1, vI x2, none, vI x4, none, none], [], (H1 s o e0)) u τ := by
 unfold J20_108 at h
 refine zS Ad W 2 (st' := (34, [vR 1, vI x1, vI x2, none, vI (x4 + (1:Int32)), none, none], [], (H1 s o e0))) rfl ?_
 obtain rfl := Option.some.inj h
 exact zM [tt,tt,tt,ff,tt,ff,ff] (hc ((x4 + (1:Int32)), o) rfl)
def H1x43 (s : List Int32) (o0 o1 : Ob) (a0_4 : List Int32) (a0_5 : List Int32) : QHeap := H1v s (f_srcPayload o0) (f_pend o0) (f_queue o0) (f_stats o0) a0_4 a0_5 (f_rxVal o0) (f_rxNext o0) (f_rxLead o0) (f_rxTrail o0) (f_lossLeft o0) (f_dups o0) (f_drops o0) (f_delSeq o0) (f_delVal o0) (f_delLen o0) (f_lostLog o0) (f_lostLen o0) (f_nakBuf o0) (f_win o0) (f_back o0) (f_repair o0) (f_period o0) (f_nextSeq o0) (f_qLen o0) (f_nakLen o0) (f_srcPayload o1) (f_pend o1) (f_queue o1) (f_stats o1) (f_state o1) (f_timer o1) (f_rxVal o1) (f_rxNext o1) (f_rxLead o1) (f_rxTrail o1) (f_lossLeft o1) (f_dups o1) (f_drops o1) (f_delSeq o1) (f_delVal o1) (f_delLen o1) (f_lostLog o1) (f_lostLen o1) (f_nakBuf o1) (f_win o1) (f_back o1) (f_repair o1) (f_period o1) (f_nextSeq o1) (f_qLen o1) (f_nakLen o1)
def H1x44 (s : List Int32) (o0 o1 : Ob) (a0_16 : List Int32) : QHeap := H1v s (f_srcPayload o0) (f_pend o0) (f_queue o0) (f_stats o0) (f_state o0) (f_timer o0) (f_rxVal o0) (f_rxNext o0) (f_rxLead o0) (f_rxTrail o0) (f_lossLeft o0) (f_dups o0) (f_drops o0) (f_delSeq o0) (f_delVal o0) (f_delLen o0) a0_16 (f_lostLen o0) (f_nakBuf o0) (f_win o0) (f_back o0) (f_repair o0) (f_period o0) (f_nextSeq o0) (f_qLen o0) (f_nakLen o0) (f_srcPayload o1) (f_pend o1) (f_queue o1) (f_stats o1) (f_state o1) (f_timer o1) (f_rxVal o1) (f_rxNext o1) (f_rxLead o1) (f_rxTrail o1) (f_lossLeft o1) (f_dups o1) (f_drops o1) (f_delSeq o1) (f_delVal o1) (f_delLen o1) (f_lostLog o1) (f_lostLen o1) (f_nakBuf o1) (f_win o1) (f_back o1) (f_repair o1) (f_period o1) (f_nextSeq o1) (f_qLen o1) (f_nakLen o1)
def H1x45 (s : List Int32) (o0 o1 : Ob) (a0_16 : List Int32) (a0_17 : List Int32) : QHeap := H1v s (f_srcPayload o0) (f_pend o0) (f_queue o0) (f_stats o0) (f_state o0) (f_timer o0) (f_rxVal o0) (f_rxNext o0) (f_rxLead o0) (f_rxTrail o0) (f_lossLeft o0) (f_dups o0) (f_drops o0) (f_delSeq o0) (f_delVal o0) (f_delLen o0) a0_16 a0_17 (f_nakBuf o0) (f_win o0) (f_back o0) (f_repair o0) (f_period o0) (f_nextSeq o0) (f_qLen o0) (f_nakLen o0) (f_srcPayload o1) (f_pend o1) (f_queue o1) (f_stats o1) (f_state o1) (f_timer o1) (f_rxVal o1) (f_rxNext o1) (f_rxLead o1) (f_rxTrail o1) (f_lossLeft o1) (f_dups o1) (f_drops o1) (f_delSeq o1) (f_delVal o1) (f_delLen o1) (f_lostLog o1) (f_lostLen o1) (f_nakBuf o1) (f_win o1) (f_back o1) (f_repair o1) (f_period o1) (f_nextSeq o1) (f_qLen o1) (f_nakLen o1)
theorem tF25a1 (Ad : QAd n0 ad) (W : QW Z a0) (s : List Int32) (e0 : Ob) (o : Ob) (x1 : Int32) (x2 : Int32) {r : Ob} (h : F25 o x1 x2 = some r) : QTri l Z n0 ad 25 (0, qentry [.ref 1, .int x1, .int x2] (pMaxL 25), [], (H1 s o e0)) (none : Option Value) (H1 s r e0) := by
 unfold F25 at h
 refine zS Ad W 3 (st' := (5, [vR 1, vI x1, vI x2], [.int x1, .ref 19], (H1 s o e0))) rfl ?_
 obtain ⟨y255, hy255, h⟩ := bind_eq_some_iff.mp h
 refine zB Ad W (f := fun y255 => (6, [vR 1, vI x1, vI x2], [.int y255], (H1 s o e0))) rfl hy255 ?_
 refine zS Ad W 1 (st' := (8, [vR 1, vI x1, vI x2], [.int (32:Int32), .int y255], (H1 s o e0))) rfl ?_
 rcases qite h with ⟨hc256, h⟩ | ⟨hc256, h⟩
 ·refine zF Ad W (t := 38) (f := 11) rfl (XT.ii_ge_f hc256) ?_
  refine zS Ad W 8 (st' := (24, [vR 1, vI x1, vI x2], [.int x1, .ref 19, .int (x1 * (32:Int32)), .ref 18], (H1 s o e0))) rfl ?_
  obtain ⟨y257, hy257, h⟩ := bind_eq_some_iff.mp h
  refine zB Ad W (f := fun y257 => (25, [vR 1, vI x1, vI x2], [.int y257, .int (x1 * (32:Int32)), .ref 18], (H1 s o e0))) rfl hy257 ?_
  refine zS Ad W 2 (st' := (27, [vR 1, vI x1, vI x2], [.int x2, .int ((x1 * (32:Int32)) + y257), .ref 18], (H1 s o e0))) rfl ?_
  obtain ⟨y258, hy258, h⟩ := bind_eq_some_iff.mp h
  refine zB Ad W (f := fun y258 => (28, [vR 1, vI x1, vI x2], [], (H1x44 s o e0 y258))) rfl hy258 ?_
  refine zS Ad W 4 (st' := (34, [vR 1, vI x1, vI x2], [.int x1, .ref 19, .int x1, .ref 19], (H1x44 s o e0 y258))) rfl ?_
  obtain ⟨y259, hy259, h⟩ := bind_eq_some_iff.mp h
  refine zB Ad W (f := fun y259 => (35, [vR 1, vI x1, vI x2], [.int y259, .int x1, .ref 19], (H1x44 s o e0 y258))) rfl hy259 ?_
  refine zS Ad W 2 (st' := (37, [vR 1, vI x1, vI x2], [.int (y259 + (1:Int32)), .int x1, .ref 19], (H1x44 s o e0 y258))) rfl ?_
  obtain ⟨y260, hy260, h⟩ := bind_eq_some_iff.mp h
  refine zB Ad W (f := fun y260 => (38, [vR 1, vI x1, vI x2], [], (H1x45 s o e0 y258 y260))) rfl hy260 ?_
  have E261 : ((H1x45 s o e0 y258 y260) : QHeap) = (H1 s (s_lostLen (s_lostLog o y258) y260) e0) := by simp only [fs, H1, H1v, H1x45, s_lostLog, s_lostLen]
  rw [E261]
  obtain rfl := Option.some.inj h
  exact QTri.ret0 rfl rfl
 ·refine zT Ad W (t := 38) (f := 11) rfl (XT.ii_ge_t hc256) ?_
  obtain rfl := Option.some.inj h
  exact QTri.ret0 rfl rfl
theorem tB20_34a1 (Ad : QAd n0 ad) (W : QW Z a0) (s : List Int32) (e0 : Ob) (x1 : Int32) (x2 : Int32) (v : Int32 × Ob) {r : ((Ob)) ⊕ (Int32 × Ob)} {u : Option Value} {τ : QHeap} (h : B20_34 x1 x2 v = some r) (hx0 : ∀ x : Ob, r = .inl x → u = (none : Option Value) ∧ τ = (H1 s x e0)) (hc : ∀ x : Int32 × Ob, r = .inr x → QTri l Z n0 ad 20 (34, [vR 1, vI x1, vI x2, none, vI x.1, none, none], [], (H1 s x.2 e0)) u τ) : QTri l Z n0 ad 20 (34, [vR 1, vI x1, vI x2, none, vI v.1, none, none], [], (H1 s v.2 e0)) u τ := by
 unfold B20_34 at h
 refine zS Ad W 2 (st' := (37, [vR 1, vI x1, vI x2, none, vI v.1, none, none], [.int x2, .int v.1], (H1 s v.2 e0))) rfl ?_
 rcases qite h with ⟨hc246, h⟩ | ⟨hc246, h⟩
 ·refine zF Ad W (t := 114) (f := 40) rfl (XT.ii_ge_f hc246) ?_
  refine zS Ad W 2 (st' := (44, [vR 1, vI x1, vI x2, none, vI v.1, none, none], [.int (32:Int32), .int v.1], (H1 s v.2 e0))) rfl ?_
  rcases qite h with ⟨hc247, h⟩ | ⟨hc247, h⟩
  ·refine zF Ad W (t := 114) (f := 47) rfl (XT.ii_ge_f hc247) ?_
   refine zS Ad W 9 (st' := (62, [vR 1, vI x1, vI x2, none, vI v.1, vI ((x1 * (32:Int32)) + v.1), none], [.int ((x1 * (32:Int32)) + v.1), .ref 6], (H1 s v.2 e0))) rfl ?_
   obtain ⟨y248, hy248, h⟩ := bind_eq_some_iff.mp h
   refine zB Ad W (f := fun y248 => (63, [vR 1, vI x1, vI x2, none, vI v.1, vI ((x1 * (32:Int32)) + v.1), none], [.int y248], (H1 s v.2 e0))) rfl hy248 ?_
   refine zS Ad W 3 (st' := (68, [vR 1, vI x1, vI x2, none, vI v.1, vI ((x1 * (32:Int32)) + v.1), vI y248], [.int (4:Int32), .int y248], (H1 s v.2 e0))) rfl ?_
   rcases qite h with ⟨hc249, h⟩ | ⟨hc249, h⟩
   ·refine zT Ad W (t := 108) (f := 71) rfl (XT.ii_eq_t hc249) ?_
    exact zM [tt,tt,tt,ff,tt,ff,ff] (tJ20_108a1 Ad W s e0 v.2 x1 x2 v.1 h hx0 hc)
   ·refine zF Ad W (t := 108) (f := 71) rfl (XT.ii_eq_f hc249) ?_
    refine zS Ad W 2 (st' := (74, [vR 1, vI x1, vI x2, none, vI v.1, vI ((x1 * (32:Int32)) + v.1), vI y248], [.int (5:Int32), .int y248], (H1 s v.2 e0))) rfl ?_
    rcases qite h with ⟨hc250, h⟩ | ⟨hc250, h⟩
    ·refine zT Ad W (t := 108) (f := 77) rfl (XT.ii_eq_t hc250) ?_
     exact zM [tt,tt,tt,ff,tt,ff,ff] (tJ20_108a1 Ad W s e0 v.2 x1 x2 v.1 h hx0 hc)
    ·refine zF Ad W (t := 108) (f := 77) rfl (XT.ii_eq_f hc250) ?_
     refine zS Ad W 2 (st' := (81, [vR 1, vI x1, vI x2, none, vI v.1, vI ((x1 * (32:Int32)) + v.1), vI y248], [.int (6:Int32), .int y248], (H1 s v.2 e0))) rfl ?_
     rcases qite h with ⟨hc251, h⟩ | ⟨hc251, h⟩
     ·refine zT Ad W (t := 108) (f := 84) rfl (XT.ii_eq_t hc251) ?_
      exact zM [tt,tt,tt,ff,tt,ff,ff] (tJ20_108a1 Ad W s e0 v.2 x1 x2 v.1 h hx0 hc)
     ·refine zF Ad W (t := 108) (f := 84) rfl (XT.ii_eq_f hc251) ?_
      refine zS Ad W 4 (st' := (92, [vR 1, vI x1, vI x2, none, vI v.1, vI ((x1 * (32:Int32)) + v.1), vI y248], [.int (6:Int32), .int ((x1 * (32:Int32)) + v.1), .ref 6], (H1 s v.2 e0))) rfl ?_
      obtain ⟨y252, hy252, h⟩ := bind_eq_some_iff.mp h
      refine zB Ad W (f := fun y252 => (93, [vR 1, vI x1, vI x2, none, vI v.1, vI ((x1 * (32:Int32)) + v.1), vI y248], [], (H1x39 s v.2 e0 y252))) rfl hy252 ?_
      refine zS Ad W 4 (st' := (100, [vR 1, vI x1, vI x2, none, vI v.1, vI ((x1 * (32:Int32)) + v.1), vI y248], [.int (0:Int32), .int ((x1 * (32:Int32)) + v.1), .ref 7], (H1x39 s v.2 e0 y252))) rfl ?_
      obtain ⟨y253, hy253, h⟩ := bind_eq_some_iff.mp h
      refine zB Ad W (f := fun y253 => (101, [vR 1, vI x1, vI x2, none, vI v.1, vI ((x1 * (32:Int32)) + v.1), vI y248], [], (H1x43 s v.2 e0 y252 y253))) rfl hy253 ?_
      refine zS Ad W 3 (st' := (105, [vR 1, vI x1, vI x2, none, vI v.1, vI ((x1 * (32:Int32)) + v.1), vI y248], [.int v.1, .int x1, .ref 1], (H1x43 s v.2 e0 y252 y253))) rfl ?_
      have E254 : ((H1x43 s v.2 e0 y252 y253) : QHeap) = (H1 s (s_timer (s_state v.2 y252) y253) e0) := by simp only [fs, H1, H1v, H1x43, s_state, s_timer]
      rw [E254]
      obtain ⟨r262, hr262, h⟩ := bind_eq_some_iff.mp h
      refine QTri.callP W (a := 1) (as := [.int x1, .int v.1]) (rest := []) (w := none) (σ₁ := (H1 s r262 e0)) rfl rfl rfl rfl rfl rfl rfl rfl (tF25a1 Ad W s e0 (s_timer (s_state v.2 y252) y253) x1 v.1 hr262) ?_
      exact zM [tt,tt,tt,ff,tt,ff,ff] (tJ20_108a1 Ad W s e0 r262 x1 x2 v.1 h hx0 hc)
  ·refine zT Ad W (t := 114) (f := 47) rfl (XT.ii_ge_t hc247) ?_
   obtain rfl := Option.some.inj h
   obtain ⟨rfl, rfl⟩ := hx0 v.2 rfl
   exact QTri.ret0 rfl rfl
 ·refine zT Ad W (t := 114) (f := 40) rfl (XT.ii_ge_t hc246) ?_
  obtain rfl := Option.some.inj h
  obtain ⟨rfl, rfl⟩ := hx0 v.2 rfl
  exact QTri.ret0 rfl rfl
theorem tF20a1 (Ad : QAd n0 ad) (W : QW Z a0) (s : List Int32) (e0 : Ob) (o : Ob) (x1 : Int32) (x2 : Int32) {r : Ob} (h : F20 o x1 x2 = some r) : QTri l Z n0 ad 20 (0, qentry [.ref 1, .int x1, .int x2] (pMaxL 20), [], (H1 s o e0)) (none : Option Value) (H1 s r e0) := by
 unfold F20 at h
 refine zS Ad W 4 (st' := (6, [vR 1, vI x1, vI x2, none, none, none, none], [.int x1, .ref 11, .int x2], (H1 s o e0))) rfl ?_
 obtain ⟨y238, hy238, h⟩ := bind_eq_some_iff.mp h
 refine zB Ad W (f := fun y238 => (7, [vR 1, vI x1, vI x2, none, none, none, none], [.int y238, .int x2], (H1 s o e0))) rfl hy238 ?_
 rcases qite h with ⟨hc239, h⟩ | ⟨hc239, h⟩
 ·refine zT Ad W (t := 11) (f := 10) rfl (XT.ii_gt_t hc239) ?_
  refine zS Ad W 4 (st' := (17, [vR 1, vI x1, vI x2, none, none, none, none], [.int x2, .int x1, .ref 11], (H1 s o e0))) rfl ?_
  obtain ⟨y240, hy240, h⟩ := bind_eq_some_iff.mp h
  refine zB Ad W (f := fun y240 => (18, [vR 1, vI x1, vI x2, none, none, none, none], [], (H1x42 s o e0 y240))) rfl hy240 ?_
  refine zS Ad W 3 (st' := (23, [vR 1, vI x1, vI x2, none, none, none, none], [.int x1, .ref 9], (H1x42 s o e0 y240))) rfl ?_
  obtain ⟨y241, hy241, h⟩ := bind_eq_some_iff.mp h
  refine zB Ad W (f := fun y241 => (24, [vR 1, vI x1, vI x2, none, none, none, none], [.int y241], (H1x42 s o e0 y240))) rfl hy241 ?_
  refine zS Ad W 2 (st' := (26, [vR 1, vI x1, vI x2, vI y241, none, none, none], [.int y241], (H1x42 s o e0 y240))) rfl ?_
  have K243 : ∀ z242 : Int32, z242 = (if y241 < (0:Int32) then (0:Int32) else y241) → QTri l Z n0 ad 20 (31, [vR 1, vI x1, vI x2, vI z242, none, none, none], [], (H1x42 s o e0 y240)) (none : Option Value) (H1 s r e0) := by
   intro z242 ez242
   subst ez242
   refine zS Ad W 2 (st' := (34, [vR 1, vI x1, vI x2, vI (if y241 < (0:Int32) then (0:Int32) else y241), vI (if y241 < (0:Int32) then (0:Int32) else y241), none, none], [], (H1x42 s o e0 y240))) rfl ?_
   have E245 : ((H1x42 s o e0 y240) : QHeap) = (H1 s (s_rxTrail o y240) e0) := by simp only [fs, H1, H1v, H1x42, s_rxTrail]
   rw [E245]
   obtain ⟨e263, he263, h⟩ := bind_eq_some_iff.mp h
   refine zM [tt,tt,tt,ff,tt,ff,ff] (loopN_tri (B := B20_34 x1 x2) (T := fun lv264 => QTri l Z n0 ad 20 (34, [vR 1, vI x1, vI x2, none, vI lv264.1, none, none], [], (H1 s lv264.2 e0)) (none : Option Value) (H1 s r e0)) (KE := fun e263a => (none : Option Value) = (none : Option Value) ∧ (H1 s r e0) = (H1 s e263a e0)) (fun lv264 r hB hE hC => tB20_34a1 Ad W s e0 x1 x2 lv264 hB (fun x q => hE _ q) (fun x q => hC x q)) qN ((if y241 < (0:Int32) then (0:Int32) else y241), (s_rxTrail o y240)) e263 he263 ?_)
   obtain rfl := Option.some.inj h
   exact ⟨rfl, rfl⟩
  rcases em (y241 < (0:Int32)) with hc244 | hc244
  ·refine zF Ad W (t := 31) (f := 29) rfl (XT.i0_ge_f hc244) ?_
   refine zS Ad W 2 (st' := (31, [vR 1, vI x1, vI x2, vI (0:Int32), none, none, none], [], (H1x42 s o e0 y240))) rfl ?_
   exact zM [tt,tt,tt,tt,ff,ff,ff] (K243 _ (if_pos hc244).symm)
  ·refine zT Ad W (t := 31) (f := 29) rfl (XT.i0_ge_t hc244) ?_
   exact zM [tt,tt,tt,tt,ff,ff,ff] (K243 _ (if_neg hc244).symm)
 ·refine zF Ad W (t := 11) (f := 10) rfl (XT.ii_gt_f hc239) ?_
  obtain rfl := Option.some.inj h
  exact QTri.ret0 rfl rfl
def H1x46 (s : List Int32) (o0 o1 : Ob) (a0_13 : List Int32) : QHeap := H1v s (f_srcPayload o0) (f_pend o0) (f_queue o0) (f_stats o0) (f_state o0) (f_timer o0) (f_rxVal o0) (f_rxNext o0) (f_rxLead o0) (f_rxTrail o0) (f_lossLeft o0) (f_dups o0) (f_drops o0) a0_13 (f_delVal o0) (f_delLen o0) (f_lostLog o0) (f_lostLen o0) (f_nakBuf o0) (f_win o0) (f_back o0) (f_repair o0) (f_period o0) (f_nextSeq o0) (f_qLen o0) (f_nakLen o0) (f_srcPayload o1) (f_pend o1) (f_queue o1) (f_stats o1) (f_state o1) (f_timer o1) (f_rxVal o1) (f_rxNext o1) (f_rxLead o1) (f_rxTrail o1) (f_lossLeft o1) (f_dups o1) (f_drops o1) (f_delSeq o1) (f_delVal o1) (f_delLen o1) (f_lostLog o1) (f_lostLen o1) (f_nakBuf o1) (f_win o1) (f_back o1) (f_repair o1) (f_period o1) (f_nextSeq o1) (f_qLen o1) (f_nakLen o1)
def H1x47 (s : List Int32) (o0 o1 : Ob) (a0_13 : List Int32) (a0_14 : List Int32) : QHeap := H1v s (f_srcPayload o0) (f_pend o0) (f_queue o0) (f_stats o0) (f_state o0) (f_timer o0) (f_rxVal o0) (f_rxNext o0) (f_rxLead o0) (f_rxTrail o0) (f_lossLeft o0) (f_dups o0) (f_drops o0) a0_13 a0_14 (f_delLen o0) (f_lostLog o0) (f_lostLen o0) (f_nakBuf o0) (f_win o0) (f_back o0) (f_repair o0) (f_period o0) (f_nextSeq o0) (f_qLen o0) (f_nakLen o0) (f_srcPayload o1) (f_pend o1) (f_queue o1) (f_stats o1) (f_state o1) (f_timer o1) (f_rxVal o1) (f_rxNext o1) (f_rxLead o1) (f_rxTrail o1) (f_lossLeft o1) (f_dups o1) (f_drops o1) (f_delSeq o1) (f_delVal o1) (f_delLen o1) (f_lostLog o1) (f_lostLen o1) (f_nakBuf o1) (f_win o1) (f_back o1) (f_repair o1) (f_period o1) (f_nextSeq o1) (f_qLen o1) (f_nakLen o1)
def H1x48 (s : List Int32) (o0 o1 : Ob) (a0_13 : List Int32) (a0_14 : List Int32) (a0_15 : List Int32) : QHeap := H1v s (f_srcPayload o0) (f_pend o0) (f_queue o0) (f_stats o0) (f_state o0) (f_timer o0) (f_rxVal o0) (f_rxNext o0) (f_rxLead o0) (f_rxTrail o0) (f_lossLeft o0) (f_dups o0) (f_drops o0) a0_13 a0_14 a0_15 (f_lostLog o0) (f_lostLen o0) (f_nakBuf o0) (f_win o0) (f_back o0) (f_repair o0) (f_period o0) (f_nextSeq o0) (f_qLen o0) (f_nakLen o0) (f_srcPayload o1) (f_pend o1) (f_queue o1) (f_stats o1) (f_state o1) (f_timer o1) (f_rxVal o1) (f_rxNext o1) (f_rxLead o1) (f_rxTrail o1) (f_lossLeft o1) (f_dups o1) (f_drops o1) (f_delSeq o1) (f_delVal o1) (f_delLen o1) (f_lostLog o1) (f_lostLen o1) (f_nakBuf o1) (f_win o1) (f_back o1) (f_repair o1) (f_period o1) (f_nextSeq o1) (f_qLen o1) (f_nakLen o1)
theorem tF22a1 (Ad : QAd n0 ad) (W : QW Z a0) (s : List Int32) (e0 : Ob) (o : Ob) (x1 : Int32) (x2 : Int32) (x3 : Int32) {r : Ob} (h : F22 o x1 x2 x3 = some r) : QTri l Z n0 ad 22 (0, qentry [.ref 1, .int x1, .int x2, .int x3] (pMaxL 22), [], (H1 s o e0)) (none : Option Value) (H1 s r e0) := by
 unfold F22 at h
 refine zS Ad W 3 (st' := (5, [vR 1, vI x1, vI x2, vI x3, none], [.int x1, .ref 17], (H1 s o e0))) rfl ?_
 obtain ⟨y273, hy273, h⟩ := bind_eq_some_iff.mp h
 refine zB Ad W (f := fun y273 => (6, [vR 1, vI x1, vI x2, vI x3, none], [.int y273], (H1 s o e0))) rfl hy273 ?_
 refine zS Ad W 1 (st' := (8, [vR 1, vI x1, vI x2, vI x3, none], [.int (32:Int32), .int y273], (H1 s o e0))) rfl ?_
 rcases qite h with ⟨hc274, h⟩ | ⟨hc274, h⟩
 ·refine zF Ad W (t := 50) (f := 11) rfl (XT.ii_ge_f hc274) ?_
  refine zS Ad W 6 (st' := (20, [vR 1, vI x1, vI x2, vI x3, none], [.int x1, .ref 17, .int (x1 * (32:Int32))], (H1 s o e0))) rfl ?_
  obtain ⟨y275, hy275, h⟩ := bind_eq_some_iff.mp h
  refine zB Ad W (f := fun y275 => (21, [vR 1, vI x1, vI x2, vI x3, none], [.int y275, .int (x1 * (32:Int32))], (H1 s o e0))) rfl hy275 ?_
  refine zS Ad W 6 (st' := (31, [vR 1, vI x1, vI x2, vI x3, vI ((x1 * (32:Int32)) + y275)], [.int x2, .int ((x1 * (32:Int32)) + y275), .ref 15], (H1 s o e0))) rfl ?_
  obtain ⟨y276, hy276, h⟩ := bind_eq_some_iff.mp h
  refine zB Ad W (f := fun y276 => (32, [vR 1, vI x1, vI x2, vI x3, vI ((x1 * (32:Int32)) + y275)], [], (H1x46 s o e0 y276))) rfl hy276 ?_
  refine zS Ad W 4 (st' := (39, [vR 1, vI x1, vI x2, vI x3, vI ((x1 * (32:Int32)) + y275)], [.int x3, .int ((x1 * (32:Int32)) + y275), .ref 16], (H1x46 s o e0 y276))) rfl ?_
  obtain ⟨y277, hy277, h⟩ := bind_eq_some_iff.mp h
  refine zB Ad W (f := fun y277 => (40, [vR 1, vI x1, vI x2, vI x3, vI ((x1 * (32:Int32)) + y275)], [], (H1x47 s o e0 y276 y277))) rfl hy277 ?_
  refine zS Ad W 4 (st' := (46, [vR 1, vI x1, vI x2, vI x3, vI ((x1 * (32:Int32)) + y275)], [.int x1, .ref 17, .int x1, .ref 17], (H1x47 s o e0 y276 y277))) rfl ?_
  obtain ⟨y278, hy278, h⟩ := bind_eq_some_iff.mp h
  refine zB Ad W (f := fun y278 => (47, [vR 1, vI x1, vI x2, vI x3, vI ((x1 * (32:Int32)) + y275)], [.int y278, .int x1, .ref 17], (H1x47 s o e0 y276 y277))) rfl hy278 ?_
  refine zS Ad W 2 (st' := (49, [vR 1, vI x1, vI x2, vI x3, vI ((x1 * (32:Int32)) + y275)], [.int (y278 + (1:Int32)), .int x1, .ref 17], (H1x47 s o e0 y276 y277))) rfl ?_
  obtain ⟨y279, hy279, h⟩ := bind_eq_some_iff.mp h
  refine zB Ad W (f := fun y279 => (50, [vR 1, vI x1, vI x2, vI x3, vI ((x1 * (32:Int32)) + y275)], [], (H1x48 s o e0 y276 y277 y279))) rfl hy279 ?_
  have E280 : ((H1x48 s o e0 y276 y277 y279) : QHeap) = (H1 s (s_delLen (s_delVal (s_delSeq o y276) y277) y279) e0) := by simp only [fs, H1, H1v, H1x48, s_delSeq, s_delVal, s_delLen]
  rw [E280]
  obtain rfl := Option.some.inj h
  exact QTri.ret0 rfl rfl
 ·refine zT Ad W (t := 50) (f := 11) rfl (XT.ii_ge_t hc274) ?_
  obtain rfl := Option.some.inj h
  exact QTri.ret0 rfl rfl
def H1x49 (s : List Int32) (o0 o1 : Ob) (a0_7 : List Int32) : QHeap := H1v s (f_srcPayload o0) (f_pend o0) (f_queue o0) (f_stats o0) (f_state o0) (f_timer o0) (f_rxVal o0) a0_7 (f_rxLead o0) (f_rxTrail o0) (f_lossLeft o0) (f_dups o0) (f_drops o0) (f_delSeq o0) (f_delVal o0) (f_delLen o0) (f_lostLog o0) (f_lostLen o0) (f_nakBuf o0) (f_win o0) (f_back o0) (f_repair o0) (f_period o0) (f_nextSeq o0) (f_qLen o0) (f_nakLen o0) (f_srcPayload o1) (f_pend o1) (f_queue o1) (f_stats o1) (f_state o1) (f_timer o1) (f_rxVal o1) (f_rxNext o1) (f_rxLead o1) (f_rxTrail o1) (f_lossLeft o1) (f_dups o1) (f_drops o1) (f_delSeq o1) (f_delVal o1) (f_delLen o1) (f_lostLog o1) (f_lostLen o1) (f_nakBuf o1) (f_win o1) (f_back o1) (f_repair o1) (f_period o1) (f_nextSeq o1) (f_qLen o1) (f_nakLen o1)
theorem tJ21_73a1 (Ad : QAd n0 ad) (W : QW Z a0) (s : List Int32) (e0 : Ob) (o : Ob) (x1 : Int32) (x2 : Int32) {r : ((Ob)) ⊕ (Int32 × Ob)} {u : Option Value} {τ : QHeap} (h : J21_73 o x1 x2 = some r) (hx0 : ∀ x : Ob, r = .inl x → u = (none : Option Value) ∧ τ = (H1 s x e0)) (hc : ∀ x : Int32 × Ob, r = .inr x → QTri l Z n0 ad 21 (7, [vR 1, vI x1, vI x.1, none, none], [], (H1 s x.2 e0)) u τ) : QTri l Z n0 ad 21 (73, [vR 1, vI x1, vI x2, none, none], [], (H1 s o e0)) u τ := by
 unfold J21_73 at h
 refine zS Ad W 6 (st' := (81, [vR 1, vI x1, vI x2, none, none], [.int (x2 + (1:Int32)), .int x1, .ref 9], (H1 s o e0))) rfl ?_
 obtain ⟨y284, hy284, h⟩ := bind_eq_some_iff.mp h
 refine zB Ad W (f := fun y284 => (82, [vR 1, vI x1, vI x2, none, none], [], (H1x49 s o e0 y284))) rfl hy284 ?_
 refine zS Ad W 2 (st' := (7, [vR 1, vI x1, vI (x2 + (1:Int32)), none, none], [], (H1x49 s o e0 y284))) rfl ?_
 have E285 : ((H1x49 s o e0 y284) : QHeap) = (H1 s (s_rxNext o y284) e0) := by simp only [fs, H1, H1v, H1x49, s_rxNext]
 rw [E285]
 obtain rfl := Option.some.inj h
 exact zM [tt,tt,tt,ff,ff] (hc ((x2 + (1:Int32)), (s_rxNext o y284)) rfl)
theorem tJ21_48a1 (Ad : QAd n0 ad) (W : QW Z a0) (s : List Int32) (e0 : Ob) (o : Ob) (x1 : Int32) (x2 : Int32) (x3 : Int32) (x4 : Int32) {r : ((Ob)) ⊕ (Int32 × Ob)} {u : Option Value} {τ : QHeap} (h : J21_48 o x1 x2 x3 x4 = some r) (hx0 : ∀ x : Ob, r = .inl x → u = (none : Option Value) ∧ τ = (H1 s x e0)) (hc : ∀ x : Int32 × Ob, r = .inr x → QTri l Z n0 ad 21 (7, [vR 1, vI x1, vI x.1, none, none], [], (H1 s x.2 e0)) u τ) : QTri l Z n0 ad 21 (48, [vR 1, vI x1, vI x2, vI x3, vI x4], [], (H1 s o e0)) u τ := by
 unfold J21_48 at h
 refine zS Ad W 2 (st' := (51, [vR 1, vI x1, vI x2, vI x3, vI x4], [.int (4:Int32), .int x4], (H1 s o e0))) rfl ?_
 rcases qite h with ⟨hc271, h⟩ | ⟨hc271, h⟩
 ·refine zF Ad W (t := 73) (f := 54) rfl (XT.ii_ne_f hc271) ?_
  refine zS Ad W 6 (st' := (62, [vR 1, vI x1, vI x2, vI x3, vI x4], [.int x3, .ref 8, .int x2, .int x1, .ref 1], (H1 s o e0))) rfl ?_
  obtain ⟨y272, hy272, h⟩ := bind_eq_some_iff.mp h
  refine zB Ad W (f := fun y272 => (63, [vR 1, vI x1, vI x2, vI x3, vI x4], [.int y272, .int x2, .int x1, .ref 1], (H1 s o e0))) rfl hy272 ?_
  obtain ⟨r281, hr281, h⟩ := bind_eq_some_iff.mp h
  refine QTri.callP W (a := 1) (as := [.int x1, .int x2, .int y272]) (rest := []) (w := none) (σ₁ := (H1 s r281 e0)) rfl rfl rfl rfl rfl rfl rfl rfl (tF22a1 Ad W s e0 o x1 x2 y272 hr281) ?_
  refine zS Ad W 4 (st' := (72, [vR 1, vI x1, vI x2, vI x3, vI x4], [.int (5:Int32), .int x3, .ref 6], (H1 s r281 e0))) rfl ?_
  obtain ⟨y282, hy282, h⟩ := bind_eq_some_iff.mp h
  refine zB Ad W (f := fun y282 => (73, [vR 1, vI x1, vI x2, vI x3, vI x4], [], (H1x39 s r281 e0 y282))) rfl hy282 ?_
  have E283 : ((H1x39 s r281 e0 y282) : QHeap) = (H1 s (s_state r281 y282) e0) := by simp only [fs, H1, H1v, H1x39, s_state]
  rw [E283]
  exact zM [tt,tt,tt,ff,ff] (tJ21_73a1 Ad W s e0 (s_state r281 y282) x1 x2 h hx0 hc)
 ·refine zT Ad W (t := 73) (f := 54) rfl (XT.ii_ne_t hc271) ?_
  exact zM [tt,tt,tt,ff,ff] (tJ21_73a1 Ad W s e0 o x1 x2 h hx0 hc)
theorem tB21_7a1 (Ad : QAd n0 ad) (W : QW Z a0) (s : List Int32) (e0 : Ob) (x1 : Int32) (v : Int32 × Ob) {r : ((Ob)) ⊕ (Int32 × Ob)} {u : Option Value} {τ : QHeap} (h : B21_7 x1 v = some r) (hx0 : ∀ x : Ob, r = .inl x → u = (none : Option Value) ∧ τ = (H1 s x e0)) (hc : ∀ x : Int32 × Ob, r = .inr x → QTri l Z n0 ad 21 (7, [vR 1, vI x1, vI x.1, none, none], [], (H1 s x.2 e0)) u τ) : QTri l Z n0 ad 21 (7, [vR 1, vI x1, vI v.1, none, none], [], (H1 s v.2 e0)) u τ := by
 unfold B21_7 at h
 refine zS Ad W 1 (st' := (8, [vR 1, vI x1, vI v.1, none, none], [.int v.1], (H1 s v.2 e0))) rfl ?_
 rcases qite h with ⟨hc267, h⟩ | ⟨hc267, h⟩
 ·refine zT Ad W (t := 88) (f := 11) rfl (XT.i0_lt_t hc267) ?_
  obtain rfl := Option.some.inj h
  obtain ⟨rfl, rfl⟩ := hx0 v.2 rfl
  exact QTri.ret0 rfl rfl
 ·refine zF Ad W (t := 88) (f := 11) rfl (XT.i0_lt_f hc267) ?_
  refine zS Ad W 2 (st' := (14, [vR 1, vI x1, vI v.1, none, none], [.int (32:Int32), .int v.1], (H1 s v.2 e0))) rfl ?_
  rcases qite h with ⟨hc268, h⟩ | ⟨hc268, h⟩
  ·refine zF Ad W (t := 88) (f := 17) rfl (XT.ii_ge_f hc268) ?_
   refine zS Ad W 9 (st' := (29, [vR 1, vI x1, vI v.1, vI ((x1 * (32:Int32)) + v.1), none], [.int ((x1 * (32:Int32)) + v.1), .ref 6], (H1 s v.2 e0))) rfl ?_
   obtain ⟨y269, hy269, h⟩ := bind_eq_some_iff.mp h
   refine zB Ad W (f := fun y269 => (30, [vR 1, vI x1, vI v.1, vI ((x1 * (32:Int32)) + v.1), none], [.int y269], (H1 s v.2 e0))) rfl hy269 ?_
   refine zS Ad W 3 (st' := (35, [vR 1, vI x1, vI v.1, vI ((x1 * (32:Int32)) + v.1), vI y269], [.int (4:Int32), .int y269], (H1 s v.2 e0))) rfl ?_
   rcases qite h with ⟨hc270, h⟩ | ⟨hc270, h⟩
   ·refine zT Ad W (t := 48) (f := 38) rfl (XT.ii_eq_t hc270) ?_
    exact zM [tt,tt,tt,tt,tt] (tJ21_48a1 Ad W s e0 v.2 x1 v.1 ((x1 * (32:Int32)) + v.1) y269 h hx0 hc)
   ·refine zF Ad W (t := 48) (f := 38) rfl (XT.ii_eq_f hc270) ?_
    refine zS Ad W 2 (st' := (42, [vR 1, vI x1, vI v.1, vI ((x1 * (32:Int32)) + v.1), vI y269], [.int (6:Int32), .int y269], (H1 s v.2 e0))) rfl ?_
    rcases qite h with ⟨hc286, h⟩ | ⟨hc286, h⟩
    ·refine zT Ad W (t := 48) (f := 45) rfl (XT.ii_eq_t hc286) ?_
     exact zM [tt,tt,tt,tt,tt] (tJ21_48a1 Ad W s e0 v.2 x1 v.1 ((x1 * (32:Int32)) + v.1) y269 h hx0 hc)
    ·refine zF Ad W (t := 48) (f := 45) rfl (XT.ii_eq_f hc286) ?_
     refine zS Ad W 1 (st' := (88, [vR 1, vI x1, vI v.1, vI ((x1 * (32:Int32)) + v.1), vI y269], [], (H1 s v.2 e0))) rfl ?_
     obtain rfl := Option.some.inj h
     obtain ⟨rfl, rfl⟩ := hx0 v.2 rfl
     exact QTri.ret0 rfl rfl
  ·refine zT Ad W (t := 88) (f := 17) rfl (XT.ii_ge_t hc268) ?_
   obtain rfl := Option.some.inj h
   obtain ⟨rfl, rfl⟩ := hx0 v.2 rfl
   exact QTri.ret0 rfl rfl
theorem tF21a1 (Ad : QAd n0 ad) (W : QW Z a0) (s : List Int32) (e0 : Ob) (o : Ob) (x1 : Int32) {r : Ob} (h : F21 o x1 = some r) : QTri l Z n0 ad 21 (0, qentry [.ref 1, .int x1] (pMaxL 21), [], (H1 s o e0)) (none : Option Value) (H1 s r e0) := by
 unfold F21 at h
 refine zS Ad W 3 (st' := (5, [vR 1, vI x1, none, none, none], [.int x1, .ref 9], (H1 s o e0))) rfl ?_
 obtain ⟨y266, hy266, h⟩ := bind_eq_some_iff.mp h
 refine zB Ad W (f := fun y266 => (6, [vR 1, vI x1, none, none, none], [.int y266], (H1 s o e0))) rfl hy266 ?_
 refine zS Ad W 1 (st' := (7, [vR 1, vI x1, vI y266, none, none], [], (H1 s o e0))) rfl ?_
 obtain ⟨e287, he287, h⟩ := bind_eq_some_iff.mp h
 refine zM [tt,tt,tt,ff,ff] (loopN_tri (B := B21_7 x1) (T := fun lv288 => QTri l Z n0 ad 21 (7, [vR 1, vI x1, vI lv288.1, none, none], [], (H1 s lv288.2 e0)) (none : Option Value) (H1 s r e0)) (KE := fun e287a => (none : Option Value) = (none : Option Value) ∧ (H1 s r e0) = (H1 s e287a e0)) (fun lv288 r hB hE hC => tB21_7a1 Ad W s e0 x1 lv288 hB (fun x q => hE _ q) (fun x q => hC x q)) qN (y266, o) e287 he287 ?_)
 obtain rfl := Option.some.inj h
 exact ⟨rfl, rfl⟩
theorem tJ17_76a1 (Ad : QAd n0 ad) (W : QW Z a0) (s : List Int32) (e0 : Ob) (o : Ob) (x1 : Int32) (x4 : Int32) (x5 : Int32) {r : Ob} (h : J17_76 o x1 x4 x5 = some r) : QTri l Z n0 ad 17 (76, [vR 1, vI x1, none, none, vI x4, vI x5, none, none], [], (H1 s o e0)) (none : Option Value) (H1 s r e0) := by
 unfold J17_76 at h
 refine zS Ad W 3 (st' := (80, [vR 1, vI x1, none, none, vI x4, vI x5, none, none], [.int x4, .int x1, .ref 1], (H1 s o e0))) rfl ?_
 obtain ⟨r237, hr237, h⟩ := bind_eq_some_iff.mp h
 refine QTri.callP W (a := 1) (as := [.int x1, .int x4]) (rest := []) (w := none) (σ₁ := (H1 s r237 e0)) rfl rfl rfl rfl rfl rfl rfl rfl (tF19a1 Ad W s e0 o x1 x4 hr237) ?_
 refine zS Ad W 3 (st' := (87, [vR 1, vI x1, none, none, vI x4, vI x5, none, none], [.int x5, .int x1, .ref 1], (H1 s r237 e0))) rfl ?_
 obtain ⟨r265, hr265, h⟩ := bind_eq_some_iff.mp h
 refine QTri.callP W (a := 1) (as := [.int x1, .int x5]) (rest := []) (w := none) (σ₁ := (H1 s r265 e0)) rfl rfl rfl rfl rfl rfl rfl rfl (tF20a1 Ad W s e0 r237 x1 x5 hr265) ?_
 refine zS Ad W 2 (st' := (92, [vR 1, vI x1, none, none, vI x4, vI x5, none, none], [.int x1, .ref 1], (H1 s r265 e0))) rfl ?_
 obtain ⟨r289, hr289, h⟩ := bind_eq_some_iff.mp h
 refine QTri.callP W (a := 1) (as := [.int x1]) (rest := []) (w := none) (σ₁ := (H1 s r289 e0)) rfl rfl rfl rfl rfl rfl rfl rfl (tF21a1 Ad W s e0 r265 x1 hr289) ?_
 obtain rfl := Option.some.inj h
 exact QTri.ret0 rfl rfl
def H1x50 (s : List Int32) (o0 o1 : Ob) (a0_4 : List Int32) (a0_6 : List Int32) : QHeap := H1v s (f_srcPayload o0) (f_pend o0) (f_queue o0) (f_stats o0) a0_4 (f_timer o0) a0_6 (f_rxNext o0) (f_rxLead o0) (f_rxTrail o0) (f_lossLeft o0) (f_dups o0) (f_drops o0) (f_delSeq o0) (f_delVal o0) (f_delLen o0) (f_lostLog o0) (f_lostLen o0) (f_nakBuf o0) (f_win o0) (f_back o0) (f_repair o0) (f_period o0) (f_nextSeq o0) (f_qLen o0) (f_nakLen o0) (f_srcPayload o1) (f_pend o1) (f_queue o1) (f_stats o1) (f_state o1) (f_timer o1) (f_rxVal o1) (f_rxNext o1) (f_rxLead o1) (f_rxTrail o1) (f_lossLeft o1) (f_dups o1) (f_drops o1) (f_delSeq o1) (f_delVal o1) (f_delLen o1) (f_lostLog o1) (f_lostLen o1) (f_nakBuf o1) (f_win o1) (f_back o1) (f_repair o1) (f_period o1) (f_nextSeq o1) (f_qLen o1) (f_nakLen o1)
def H1x51 (s : List Int32) (o0 o1 : Ob) (a0_4 : List Int32) (a0_5 : List Int32) (a0_6 : List Int32) : QHeap := H1v s (f_srcPayload o0) (f_pend o0) (f_queue o0) (f_stats o0) a0_4 a0_5 a0_6 (f_rxNext o0) (f_rxLead o0) (f_rxTrail o0) (f_lossLeft o0) (f_dups o0) (f_drops o0) (f_delSeq o0) (f_delVal o0) (f_delLen o0) (f_lostLog o0) (f_lostLen o0) (f_nakBuf o0) (f_win o0) (f_back o0) (f_repair o0) (f_period o0) (f_nextSeq o0) (f_qLen o0) (f_nakLen o0) (f_srcPayload o1) (f_pend o1) (f_queue o1) (f_stats o1) (f_state o1) (f_timer o1) (f_rxVal o1) (f_rxNext o1) (f_rxLead o1) (f_rxTrail o1) (f_lossLeft o1) (f_dups o1) (f_drops o1) (f_delSeq o1) (f_delVal o1) (f_delLen o1) (f_lostLog o1) (f_lostLen o1) (f_nakBuf o1) (f_win o1) (f_back o1) (f_repair o1) (f_period o1) (f_nextSeq o1) (f_qLen o1) (f_nakLen o1)
theorem tJ17_39a1 (Ad : QAd n0 ad) (W : QW Z a0) (s : List Int32) (e0 : Ob) (o : Ob) (x1 : Int32) (x3 : Int32) (x4 : Int32) (x5 : Int32) (x6 : Int32) {r : Ob} (h : J17_39 o x1 x3 x4 x5 x6 = some r) : QTri l Z n0 ad 17 (39, [vR 1, vI x1, none, vI x3, vI x4, vI x5, vI x6, none], [], (H1 s o e0)) (none : Option Value) (H1 s r e0) := by
 unfold J17_39 at h
 refine zS Ad W 4 (st' := (46, [vR 1, vI x1, none, vI x3, vI x4, vI x5, vI x6, none], [.int (4:Int32), .int x6, .ref 6], (H1 s o e0))) rfl ?_
 obtain ⟨y292, hy292, h⟩ := bind_eq_some_iff.mp h
 refine zB Ad W (f := fun y292 => (47, [vR 1, vI x1, none, vI x3, vI x4, vI x5, vI x6, none], [], (H1x39 s o e0 y292))) rfl hy292 ?_
 refine zS Ad W 4 (st' := (54, [vR 1, vI x1, none, vI x3, vI x4, vI x5, vI x6, none], [.int x3, .int x6, .ref 8], (H1x39 s o e0 y292))) rfl ?_
 obtain ⟨y293, hy293, h⟩ := bind_eq_some_iff.mp h
 refine zB Ad W (f := fun y293 => (55, [vR 1, vI x1, none, vI x3, vI x4, vI x5, vI x6, none], [], (H1x50 s o e0 y292 y293))) rfl hy293 ?_
 refine zS Ad W 4 (st' := (62, [vR 1, vI x1, none, vI x3, vI x4, vI x5, vI x6, none], [.int (0:Int32), .int x6, .ref 7], (H1x50 s o e0 y292 y293))) rfl ?_
 obtain ⟨y294, hy294, h⟩ := bind_eq_some_iff.mp h
 refine zB Ad W (f := fun y294 => (63, [vR 1, vI x1, none, vI x3, vI x4, vI x5, vI x6, none], [], (H1x51 s o e0 y292 y294 y293))) rfl hy294 ?_
 refine zS Ad W 1 (st' := (76, [vR 1, vI x1, none, vI x3, vI x4, vI x5, vI x6, none], [], (H1x51 s o e0 y292 y294 y293))) rfl ?_
 have E295 : ((H1x51 s o e0 y292 y294 y293) : QHeap) = (H1 s (s_timer (s_rxVal (s_state o y292) y293) y294) e0) := by simp only [fs, H1, H1v, H1x51, s_state, s_timer, s_rxVal]
 rw [E295]
 exact zM [tt,tt,ff,ff,tt,tt,ff,ff] (tJ17_76a1 Ad W s e0 (s_timer (s_rxVal (s_state o y292) y293) y294) x1 x4 x5 h)
def H1x52 (s : List Int32) (o0 o1 : Ob) (a0_11 : List Int32) : QHeap := H1v s (f_srcPayload o0) (f_pend o0) (f_queue o0) (f_stats o0) (f_state o0) (f_timer o0) (f_rxVal o0) (f_rxNext o0) (f_rxLead o0) (f_rxTrail o0) (f_lossLeft o0) a0_11 (f_drops o0) (f_delSeq o0) (f_delVal o0) (f_delLen o0) (f_lostLog o0) (f_lostLen o0) (f_nakBuf o0) (f_win o0) (f_back o0) (f_repair o0) (f_period o0) (f_nextSeq o0) (f_qLen o0) (f_nakLen o0) (f_srcPayload o1) (f_pend o1) (f_queue o1) (f_stats o1) (f_state o1) (f_timer o1) (f_rxVal o1) (f_rxNext o1) (f_rxLead o1) (f_rxTrail o1) (f_lossLeft o1) (f_dups o1) (f_drops o1) (f_delSeq o1) (f_delVal o1) (f_delLen o1) (f_lostLog o1) (f_lostLen o1) (f_nakBuf o1) (f_win o1) (f_back o1) (f_repair o1) (f_period o1) (f_nextSeq o1) (f_qLen o1) (f_nakLen o1)
theorem tF17a1 (Ad : QAd n0 ad) (W : QW Z a0) (s : List Int32) (e0 : Ob) (o : Ob) (x1 : Int32) (x2 : Int32) (x3 : Int32) (x4 : Int32) (x5 : Int32) {r : Ob} (h : F17 o x1 x2 x3 x4 x5 = some r) : QTri l Z n0 ad 17 (0, qentry [.ref 1, .int x1, .int x2, .int x3, .int x4, .int x5] (pMaxL 17), [], (H1 s o e0)) (none : Option Value) (H1 s r e0) := by
 unfold F17 at h
 refine zS Ad W 2 (st' := (2, [vR 1, vI x1, vI x2, vI x3, vI x4, vI x5, none, none], [.int x2, .ref 1], (H1 s o e0))) rfl ?_
 obtain ⟨r216, hr216, h⟩ := bind_eq_some_iff.mp h
 refine QTri.callP W (a := 1) (as := [.int x2]) (rest := []) (w := (some (.int r216))) (σ₁ := (H1 s o e0)) rfl rfl rfl rfl rfl rfl rfl rfl (tF18 Ad W x2 hr216) ?_
 rcases qite h with ⟨hc217, h⟩ | ⟨hc217, h⟩
 ·refine zT Ad W (t := 76) (f := 8) rfl (XT.i0_eq_t hc217) ?_
  exact zM [tt,tt,ff,ff,tt,tt,ff,ff] (tJ17_76a1 Ad W s e0 o x1 x4 x5 h)
 ·refine zF Ad W (t := 76) (f := 8) rfl (XT.i0_eq_f hc217) ?_
  refine zS Ad W 9 (st' := (22, [vR 1, vI x1, vI x2, vI x3, vI x4, vI x5, vI ((x1 * (32:Int32)) + x2), none], [.int ((x1 * (32:Int32)) + x2), .ref 6], (H1 s o e0))) rfl ?_
  obtain ⟨y290, hy290, h⟩ := bind_eq_some_iff.mp h
  refine zB Ad W (f := fun y290 => (23, [vR 1, vI x1, vI x2, vI x3, vI x4, vI x5, vI ((x1 * (32:Int32)) + x2), none], [.int y290], (H1 s o e0))) rfl hy290 ?_
  refine zS Ad W 2 (st' := (27, [vR 1, vI x1, vI x2, vI x3, vI x4, vI x5, vI ((x1 * (32:Int32)) + x2), vI y290], [.int y290], (H1 s o e0))) rfl ?_
  rcases qite h with ⟨hc291, h⟩ | ⟨hc291, h⟩
  ·refine zT Ad W (t := 39) (f := 30) rfl (XT.i0_eq_t hc291) ?_
   exact zM [tt,tt,ff,tt,tt,tt,tt,ff] (tJ17_39a1 Ad W s e0 o x1 x3 x4 x5 ((x1 * (32:Int32)) + x2) h)
  ·refine zF Ad W (t := 39) (f := 30) rfl (XT.i0_eq_f hc291) ?_
   refine zS Ad W 2 (st' := (33, [vR 1, vI x1, vI x2, vI x3, vI x4, vI x5, vI ((x1 * (32:Int32)) + x2), vI y290], [.int y290, .ref 1], (H1 s o e0))) rfl ?_
   obtain ⟨r296, hr296, h⟩ := bind_eq_some_iff.mp h
   refine QTri.callP W (a := 1) (as := [.int y290]) (rest := []) (w := (some (.int r296))) (σ₁ := (H1 s o e0)) rfl rfl rfl rfl rfl rfl rfl rfl (tF11 Ad W y290 hr296) ?_
   rcases qite h with ⟨hc297, h⟩ | ⟨hc297, h⟩
   ·refine zT Ad W (t := 66) (f := 39) rfl (XT.i0_eq_t hc297) ?_
    refine zS Ad W 4 (st' := (72, [vR 1, vI x1, vI x2, vI x3, vI x4, vI x5, vI ((x1 * (32:Int32)) + x2), vI y290], [.int x1, .ref 13, .int x1, .ref 13], (H1 s o e0))) rfl ?_
    obtain ⟨y298, hy298, h⟩ := bind_eq_some_iff.mp h
    refine zB Ad W (f := fun y298 => (73, [vR 1, vI x1, vI x2, vI x3, vI x4, vI x5, vI ((x1 * (32:Int32)) + x2), vI y290], [.int y298, .int x1, .ref 13], (H1 s o e0))) rfl hy298 ?_
    refine zS Ad W 2 (st' := (75, [vR 1, vI x1, vI x2, vI x3, vI x4, vI x5, vI ((x1 * (32:Int32)) + x2), vI y290], [.int (y298 + (1:Int32)), .int x1, .ref 13], (H1 s o e0))) rfl ?_
    obtain ⟨y299, hy299, h⟩ := bind_eq_some_iff.mp h
    refine zB Ad W (f := fun y299 => (76, [vR 1, vI x1, vI x2, vI x3, vI x4, vI x5, vI ((x1 * (32:Int32)) + x2), vI y290], [], (H1x52 s o e0 y299))) rfl hy299 ?_
    have E300 : ((H1x52 s o e0 y299) : QHeap) = (H1 s (s_dups o y299) e0) := by simp only [fs, H1, H1v, H1x52, s_dups]
    rw [E300]
    exact zM [tt,tt,ff,ff,tt,tt,ff,ff] (tJ17_76a1 Ad W s e0 (s_dups o y299) x1 x4 x5 h)
   ·refine zF Ad W (t := 66) (f := 39) rfl (XT.i0_eq_f hc297) ?_
    exact zM [tt,tt,ff,tt,tt,tt,tt,ff] (tJ17_39a1 Ad W s e0 o x1 x3 x4 x5 ((x1 * (32:Int32)) + x2) h)
theorem tJ16_50a1 (Ad : QAd n0 ad) (W : QW Z a0) (s : List Int32) (e0 : Ob) (o : Ob) (x1 : Int32) (x3 : Int32) (x4 : Int32) (x5 : Int32) (x6 : Int32) {r : Ob} (h : J16_50 o x1 x3 x4 x5 x6 = some r) : QTri l Z n0 ad 16 (50, [vR 1, vI x1, none, vI x3, vI x4, vI x5, vI x6], [], (H1 s o e0)) (none : Option Value) (H1 s r e0) := by
 unfold J16_50 at h
 refine zS Ad W 6 (st' := (59, [vR 1, vI x1, none, vI x3, vI x4, vI x5, vI x6], [.int x6, .int x5, .int x4, .int x3, .int x1, .ref 1], (H1 s o e0))) rfl ?_
 obtain ⟨r301, hr301, h⟩ := bind_eq_some_iff.mp h
 refine QTri.callP W (a := 1) (as := [.int x1, .int x3, .int x4, .int x5, .int x6]) (rest := []) (w := none) (σ₁ := (H1 s r301 e0)) rfl rfl rfl rfl rfl rfl rfl rfl (tF17a1 Ad W s e0 o x1 x3 x4 x5 x6 hr301) ?_
 refine zS Ad W 1 (st' := (98, [vR 1, vI x1, none, vI x3, vI x4, vI x5, vI x6], [], (H1 s r301 e0))) rfl ?_
 obtain rfl := Option.some.inj h
 exact QTri.ret0 rfl rfl
theorem tJ28_36a1 (Ad : QAd n0 ad) (W : QW Z a0) (s : List Int32) (e0 : Ob) (o : Ob) (x3 : Int32) {r : Ob} (h : J28_36 o x3 = some r) : QTri l Z n0 ad 28 (36, [vR 1, none, none, vI x3, none], [], (H1 s o e0)) (none : Option Value) (H1 s r e0) := by
 unfold J28_36 at h
 refine zS Ad W 4 (st' := (42, [vR 1, none, none, vI x3, none], [.int (3:Int32), .int x3, .ref 6], (H1 s o e0))) rfl ?_
 obtain ⟨y311, hy311, h⟩ := bind_eq_some_iff.mp h
 refine zB Ad W (f := fun y311 => (43, [vR 1, none, none, vI x3, none], [], (H1x39 s o e0 y311))) rfl hy311 ?_
 refine zS Ad W 5 (st' := (52, [vR 1, none, none, vI x3, none], [.int (f_repair o), .int x3, .ref 7], (H1x39 s o e0 y311))) rfl ?_
 obtain ⟨y312, hy312, h⟩ := bind_eq_some_iff.mp h
 refine zB Ad W (f := fun y312 => (53, [vR 1, none, none, vI x3, none], [], (H1x43 s o e0 y311 y312))) rfl hy312 ?_
 have E313 : ((H1x43 s o e0 y311 y312) : QHeap) = (H1 s (s_timer (s_state o y311) y312) e0) := by simp only [fs, H1, H1v, H1x43, s_state, s_timer]
 rw [E313]
 obtain rfl := Option.some.inj h
 exact QTri.ret0 rfl rfl
theorem tF28a1 (Ad : QAd n0 ad) (W : QW Z a0) (s : List Int32) (e0 : Ob) (o : Ob) (x1 : Int32) (x2 : Int32) {r : Ob} (h : F28 o x1 x2 = some r) : QTri l Z n0 ad 28 (0, qentry [.ref 1, .int x1, .int x2] (pMaxL 28), [], (H1 s o e0)) (none : Option Value) (H1 s r e0) := by
 unfold F28 at h
 refine zS Ad W 2 (st' := (2, [vR 1, vI x1, vI x2, none, none], [.int x2, .ref 1], (H1 s o e0))) rfl ?_
 obtain ⟨r307, hr307, h⟩ := bind_eq_some_iff.mp h
 refine QTri.callP W (a := 1) (as := [.int x2]) (rest := []) (w := (some (.int r307))) (σ₁ := (H1 s o e0)) rfl rfl rfl rfl rfl rfl rfl rfl (tF18 Ad W x2 hr307) ?_
 rcases qite h with ⟨hc308, h⟩ | ⟨hc308, h⟩
 ·refine zF Ad W (t := 9) (f := 8) rfl (XT.i0_ne_f hc308) ?_
  obtain rfl := Option.some.inj h
  exact QTri.ret0 rfl rfl
 ·refine zT Ad W (t := 9) (f := 8) rfl (XT.i0_ne_t hc308) ?_
  refine zS Ad W 9 (st' := (21, [vR 1, vI x1, vI x2, vI ((x1 * (32:Int32)) + x2), none], [.int ((x1 * (32:Int32)) + x2), .ref 6], (H1 s o e0))) rfl ?_
  obtain ⟨y309, hy309, h⟩ := bind_eq_some_iff.mp h
  refine zB Ad W (f := fun y309 => (22, [vR 1, vI x1, vI x2, vI ((x1 * (32:Int32)) + x2), none], [.int y309], (H1 s o e0))) rfl hy309 ?_
  refine zS Ad W 3 (st' := (27, [vR 1, vI x1, vI x2, vI ((x1 * (32:Int32)) + x2), vI y309], [.int (1:Int32), .int y309], (H1 s o e0))) rfl ?_
  rcases qite h with ⟨hc310, h⟩ | ⟨hc310, h⟩
  ·refine zT Ad W (t := 36) (f := 30) rfl (XT.ii_eq_t hc310) ?_
   exact zM [tt,ff,ff,tt,ff] (tJ28_36a1 Ad W s e0 o ((x1 * (32:Int32)) + x2) h)
  ·refine zF Ad W (t := 36) (f := 30) rfl (XT.ii_eq_f hc310) ?_
   refine zS Ad W 2 (st' := (33, [vR 1, vI x1, vI x2, vI ((x1 * (32:Int32)) + x2), vI y309], [.int (2:Int32), .int y309], (H1 s o e0))) rfl ?_
   rcases qite h with ⟨hc314, h⟩ | ⟨hc314, h⟩
   ·refine zF Ad W (t := 53) (f := 36) rfl (XT.ii_ne_f hc314) ?_
    exact zM [tt,ff,ff,tt,ff] (tJ28_36a1 Ad W s e0 o ((x1 * (32:Int32)) + x2) h)
   ·refine zT Ad W (t := 53) (f := 36) rfl (XT.ii_ne_t hc314) ?_
    obtain rfl := Option.some.inj h
    exact QTri.ret0 rfl rfl
theorem tF16a1 (Ad : QAd n0 ad) (W : QW Z a0) (s : List Int32) (e0 : Ob) (o : Ob) (x1 : Int32) (x2 : Int32) (x3 : Int32) (x4 : Int32) (x5 : Int32) (x6 : Int32) {r : Ob} (h : F16 o x1 x2 x3 x4 x5 x6 = some r) : QTri l Z n0 ad 16 (0, qentry [.ref 1, .int x1, .int x2, .int x3, .int x4, .int x5, .int x6] (pMaxL 16), [], (H1 s o e0)) (none : Option Value) (H1 s r e0) := by
 unfold F16 at h
 refine zS Ad W 3 (st' := (5, [vR 1, vI x1, vI x2, vI x3, vI x4, vI x5, vI x6], [.int x1, .ref 12], (H1 s o e0))) rfl ?_
 obtain ⟨y206, hy206, h⟩ := bind_eq_some_iff.mp h
 refine zB Ad W (f := fun y206 => (6, [vR 1, vI x1, vI x2, vI x3, vI x4, vI x5, vI x6], [.int y206], (H1 s o e0))) rfl hy206 ?_
 rcases qite h with ⟨hc207, h⟩ | ⟨hc207, h⟩
 ·refine zF Ad W (t := 41) (f := 9) rfl (XT.i0_le_f hc207) ?_
  refine zS Ad W 4 (st' := (15, [vR 1, vI x1, vI x2, vI x3, vI x4, vI x5, vI x6], [.int x1, .ref 12, .int x1, .ref 12], (H1 s o e0))) rfl ?_
  obtain ⟨y208, hy208, h⟩ := bind_eq_some_iff.mp h
  refine zB Ad W (f := fun y208 => (16, [vR 1, vI x1, vI x2, vI x3, vI x4, vI x5, vI x6], [.int y208, .int x1, .ref 12], (H1 s o e0))) rfl hy208 ?_
  refine zS Ad W 2 (st' := (18, [vR 1, vI x1, vI x2, vI x3, vI x4, vI x5, vI x6], [.int (y208 - (1:Int32)), .int x1, .ref 12], (H1 s o e0))) rfl ?_
  obtain ⟨y209, hy209, h⟩ := bind_eq_some_iff.mp h
  refine zB Ad W (f := fun y209 => (19, [vR 1, vI x1, vI x2, vI x3, vI x4, vI x5, vI x6], [], (H1x36 s o e0 y209))) rfl hy209 ?_
  refine zS Ad W 4 (st' := (25, [vR 1, vI x1, vI x2, vI x3, vI x4, vI x5, vI x6], [.int x1, .ref 14, .int x1, .ref 14], (H1x36 s o e0 y209))) rfl ?_
  obtain ⟨y210, hy210, h⟩ := bind_eq_some_iff.mp h
  refine zB Ad W (f := fun y210 => (26, [vR 1, vI x1, vI x2, vI x3, vI x4, vI x5, vI x6], [.int y210, .int x1, .ref 14], (H1x36 s o e0 y209))) rfl hy210 ?_
  refine zS Ad W 2 (st' := (28, [vR 1, vI x1, vI x2, vI x3, vI x4, vI x5, vI x6], [.int (y210 + (1:Int32)), .int x1, .ref 14], (H1x36 s o e0 y209))) rfl ?_
  obtain ⟨y211, hy211, h⟩ := bind_eq_some_iff.mp h
  refine zB Ad W (f := fun y211 => (29, [vR 1, vI x1, vI x2, vI x3, vI x4, vI x5, vI x6], [], (H1x37 s o e0 y209 y211))) rfl hy211 ?_
  refine zS Ad W 4 (st' := (36, [vR 1, vI x1, vI x2, vI x3, vI x4, vI x5, vI x6], [.int (9:Int32), .ref 5, .int (9:Int32), .ref 5], (H1x37 s o e0 y209 y211))) rfl ?_
  obtain ⟨y212, hy212, h⟩ := bind_eq_some_iff.mp h
  refine zB Ad W (f := fun y212 => (37, [vR 1, vI x1, vI x2, vI x3, vI x4, vI x5, vI x6], [.int y212, .int (9:Int32), .ref 5], (H1x37 s o e0 y209 y211))) rfl hy212 ?_
  refine zS Ad W 2 (st' := (39, [vR 1, vI x1, vI x2, vI x3, vI x4, vI x5, vI x6], [.int (y212 + (1:Int32)), .int (9:Int32), .ref 5], (H1x37 s o e0 y209 y211))) rfl ?_
  obtain ⟨y213, hy213, h⟩ := bind_eq_some_iff.mp h
  refine zB Ad W (f := fun y213 => (40, [vR 1, vI x1, vI x2, vI x3, vI x4, vI x5, vI x6], [], (H1x38 s o e0 y213 y209 y211))) rfl hy213 ?_
  have E214 : ((H1x38 s o e0 y213 y209 y211) : QHeap) = (H1 s (s_stats (s_drops (s_lossLeft o y209) y211) y213) e0) := by simp only [fs, H1, H1v, H1x38, s_stats, s_lossLeft, s_drops]
  rw [E214]
  obtain rfl := Option.some.inj h
  exact QTri.ret0 rfl rfl
 ·refine zT Ad W (t := 41) (f := 9) rfl (XT.i0_le_t hc207) ?_
  refine zS Ad W 1 (st' := (42, [vR 1, vI x1, vI x2, vI x3, vI x4, vI x5, vI x6], [.int x2], (H1 s o e0))) rfl ?_
  rcases qite h with ⟨hc215, h⟩ | ⟨hc215, h⟩
  ·refine zT Ad W (t := 50) (f := 45) rfl (XT.i0_eq_t hc215) ?_
   exact zM [tt,tt,ff,tt,tt,tt,tt] (tJ16_50a1 Ad W s e0 o x1 x3 x4 x5 x6 h)
  ·refine zF Ad W (t := 50) (f := 45) rfl (XT.i0_eq_f hc215) ?_
   refine zS Ad W 2 (st' := (47, [vR 1, vI x1, vI x2, vI x3, vI x4, vI x5, vI x6], [.int (1:Int32), .int x2], (H1 s o e0))) rfl ?_
   rcases qite h with ⟨hc302, h⟩ | ⟨hc302, h⟩
   ·refine zF Ad W (t := 65) (f := 50) rfl (XT.ii_ne_f hc302) ?_
    exact zM [tt,tt,ff,tt,tt,tt,tt] (tJ16_50a1 Ad W s e0 o x1 x3 x4 x5 x6 h)
   ·refine zT Ad W (t := 65) (f := 50) rfl (XT.ii_ne_t hc302) ?_
    refine zS Ad W 2 (st' := (67, [vR 1, vI x1, vI x2, vI x3, vI x4, vI x5, vI x6], [.int (2:Int32), .int x2], (H1 s o e0))) rfl ?_
    rcases qite h with ⟨hc303, h⟩ | ⟨hc303, h⟩
    ·refine zF Ad W (t := 92) (f := 70) rfl (XT.ii_ne_f hc303) ?_
     refine zS Ad W 3 (st' := (74, [vR 1, vI x1, vI x2, vI x3, vI x4, vI x5, vI x6], [.int x5, .int x1, .ref 1], (H1 s o e0))) rfl ?_
     obtain ⟨r304, hr304, h⟩ := bind_eq_some_iff.mp h
     refine QTri.callP W (a := 1) (as := [.int x1, .int x5]) (rest := []) (w := none) (σ₁ := (H1 s r304 e0)) rfl rfl rfl rfl rfl rfl rfl rfl (tF19a1 Ad W s e0 o x1 x5 hr304) ?_
     refine zS Ad W 3 (st' := (81, [vR 1, vI x1, vI x2, vI x3, vI x4, vI x5, vI x6], [.int x6, .int x1, .ref 1], (H1 s r304 e0))) rfl ?_
     obtain ⟨r305, hr305, h⟩ := bind_eq_some_iff.mp h
     refine QTri.callP W (a := 1) (as := [.int x1, .int x6]) (rest := []) (w := none) (σ₁ := (H1 s r305 e0)) rfl rfl rfl rfl rfl rfl rfl rfl (tF20a1 Ad W s e0 r304 x1 x6 hr305) ?_
     refine zS Ad W 2 (st' := (86, [vR 1, vI x1, vI x2, vI x3, vI x4, vI x5, vI x6], [.int x1, .ref 1], (H1 s r305 e0))) rfl ?_
     obtain ⟨r306, hr306, h⟩ := bind_eq_some_iff.mp h
     refine QTri.callP W (a := 1) (as := [.int x1]) (rest := []) (w := none) (σ₁ := (H1 s r306 e0)) rfl rfl rfl rfl rfl rfl rfl rfl (tF21a1 Ad W s e0 r305 x1 hr306) ?_
     refine zS Ad W 1 (st' := (98, [vR 1, vI x1, vI x2, vI x3, vI x4, vI x5, vI x6], [], (H1 s r306 e0))) rfl ?_
     obtain rfl := Option.some.inj h
     exact QTri.ret0 rfl rfl
    ·refine zT Ad W (t := 92) (f := 70) rfl (XT.ii_ne_t hc303) ?_
     refine zS Ad W 3 (st' := (95, [vR 1, vI x1, vI x2, vI x3, vI x4, vI x5, vI x6], [.int x3, .int x1, .ref 1], (H1 s o e0))) rfl ?_
     obtain ⟨r315, hr315, h⟩ := bind_eq_some_iff.mp h
     refine QTri.callP W (a := 1) (as := [.int x1, .int x3]) (rest := []) (w := none) (σ₁ := (H1 s r315 e0)) rfl rfl rfl rfl rfl rfl rfl rfl (tF28a1 Ad W s e0 o x1 x3 hr315) ?_
     obtain rfl := Option.some.inj h
     exact QTri.ret0 rfl rfl
theorem tB13_23a1 (Ad : QAd n0 ad) (W : QW Z a0) (s : List Int32) (e0 : Ob) (x1 : Int32) (x2 : Int32) (x3 : Int32) (x4 : Int32) (x5 : Int32) (v : Int32 × Ob) {r : ((Ob)) ⊕ (Int32 × Ob)} {u : Option Value} {τ : QHeap} (h : B13_23 x1 x2 x3 x4 x5 v = some r) (hx0 : ∀ x : Ob, r = .inl x → u = (none : Option Value) ∧ τ = (H1 s x e0)) (hc : ∀ x : Int32 × Ob, r = .inr x → QTri l Z n0 ad 13 (23, [vR 1, vI x1, vI x2, vI x3, vI x4, vI x5, vI x.1], [], (H1 s x.2 e0)) u τ) : QTri l Z n0 ad 13 (23, [vR 1, vI x1, vI x2, vI x3, vI x4, vI x5, vI v.1], [], (H1 s v.2 e0)) u τ := by
 unfold B13_23 at h
 refine zS Ad W 2 (st' := (26, [vR 1, vI x1, vI x2, vI x3, vI x4, vI x5, vI v.1], [.int (4:Int32), .int v.1], (H1 s v.2 e0))) rfl ?_
 rcases qite h with ⟨hc205, h⟩ | ⟨hc205, h⟩
 ·refine zF Ad W (t := 48) (f := 29) rfl (XT.ii_ge_f hc205) ?_
  refine zS Ad W 7 (st' := (39, [vR 1, vI x1, vI x2, vI x3, vI x4, vI x5, vI v.1], [.int x5, .int x4, .int x3, .int x2, .int x1, .int v.1, .ref 1], (H1 s v.2 e0))) rfl ?_
  obtain ⟨r316, hr316, h⟩ := bind_eq_some_iff.mp h
  refine QTri.callP W (a := 1) (as := [.int v.1, .int x1, .int x2, .int x3, .int x4, .int x5]) (rest := []) (w := none) (σ₁ := (H1 s r316 e0)) rfl rfl rfl rfl rfl rfl rfl rfl (tF16a1 Ad W s e0 v.2 v.1 x1 x2 x3 x4 x5 hr316) ?_
  refine zS Ad W 2 (st' := (23, [vR 1, vI x1, vI x2, vI x3, vI x4, vI x5, vI (v.1 + (1:Int32))], [], (H1 s r316 e0))) rfl ?_
  obtain rfl := Option.some.inj h
  exact zM [tt,tt,tt,tt,tt,tt,tt] (hc ((v.1 + (1:Int32)), r316) rfl)
 ·refine zT Ad W (t := 48) (f := 29) rfl (XT.ii_ge_t hc205) ?_
  obtain rfl := Option.some.inj h
  obtain ⟨rfl, rfl⟩ := hx0 v.2 rfl
  exact QTri.ret0 rfl rfl
theorem tF13a1 (Ad : QAd n0 ad) (W : QW Z a0) (s : List Int32) (e0 : Ob) (o : Ob) (x1 : Int32) (x2 : Int32) (x3 : Int32) {r : Ob} (h : F13 o x1 x2 x3 = some r) : QTri l Z n0 ad 13 (0, qentry [.ref 1, .int x1, .int x2, .int x3] (pMaxL 13), [], (H1 s o e0)) (none : Option Value) (H1 s r e0) := by
 unfold F13 at h
 refine zS Ad W 1 (st' := (1, [vR 1, vI x1, vI x2, vI x3, none, none, none], [.ref 1], (H1 s o e0))) rfl ?_
 obtain ⟨r190, hr190, h⟩ := bind_eq_some_iff.mp h
 refine QTri.callP W (a := 1) (as := []) (rest := []) (w := (some (.int r190))) (σ₁ := (H1 s o e0)) rfl rfl rfl rfl rfl rfl rfl rfl (tF14a1 Ad W s e0 o hr190) ?_
 refine zS Ad W 2 (st' := (7, [vR 1, vI x1, vI x2, vI x3, vI r190, none, none], [.ref 1], (H1 s o e0))) rfl ?_
 obtain ⟨r192, hr192, h⟩ := bind_eq_some_iff.mp h
 refine QTri.callP W (a := 1) (as := []) (rest := []) (w := (some (.int r192))) (σ₁ := (H1 s o e0)) rfl rfl rfl rfl rfl rfl rfl rfl (tF8a1 Ad W s e0 o hr192) ?_
 refine zS Ad W 5 (st' := (17, [vR 1, vI x1, vI x2, vI x3, vI r190, vI r192, none], [.int r192, .int x2, .int x1, .ref 1], (H1 s o e0))) rfl ?_
 obtain ⟨r204, hr204, h⟩ := bind_eq_some_iff.mp h
 refine QTri.callP W (a := 1) (as := [.int x1, .int x2, .int r192]) (rest := []) (w := none) (σ₁ := (H1 s r204 e0)) rfl rfl rfl rfl rfl rfl rfl rfl (tF15a1 Ad W s e0 o x1 x2 r192 hr204) ?_
 refine zS Ad W 2 (st' := (23, [vR 1, vI x1, vI x2, vI x3, vI r190, vI r192, vI (0:Int32)], [], (H1 s r204 e0))) rfl ?_
 obtain ⟨e317, he317, h⟩ := bind_eq_some_iff.mp h
 refine zM [tt,tt,tt,tt,tt,tt,tt] (loopN_tri (B := B13_23 x1 x2 x3 r190 r192) (T := fun lv318 => QTri l Z n0 ad 13 (23, [vR 1, vI x1, vI x2, vI x3, vI r190, vI r192, vI lv318.1], [], (H1 s lv318.2 e0)) (none : Option Value) (H1 s r e0)) (KE := fun e317a => (none : Option Value) = (none : Option Value) ∧ (H1 s r e0) = (H1 s e317a e0)) (fun lv318 r hB hE hC => tB13_23a1 Ad W s e0 x1 x2 x3 r190 r192 lv318 hB (fun x q => hE _ q) (fun x q => hC x q)) qN ((0:Int32), r204) e317 he317 ?_)
 obtain rfl := Option.some.inj h
 exact ⟨rfl, rfl⟩
theorem tF3a1 (Ad : QAd n0 ad) (W : QW Z a0) (s : List Int32) (e0 : Ob) (o : Ob) (x1 : Int32) {r : Int32 × Ob} (h : F3 o x1 = some r) : QTri l Z n0 ad 3 (0, qentry [.ref 1, .int x1] (pMaxL 3), [], (H1 s o e0)) (some (Value.int r.1)) (H1 s r.2 e0) := by
 unfold F3 at h
 refine zS Ad W 1 (st' := (1, [vR 1, vI x1, none], [.int x1], (H1 s o e0))) rfl ?_
 rcases qite h with ⟨hc183, h⟩ | ⟨hc183, h⟩
 ·refine zT Ad W (t := 11) (f := 4) rfl (XT.i0_lt_t hc183) ?_
  refine zS Ad W 1 (st' := (12, [vR 1, vI x1, none], [.int (-1:Int32)], (H1 s o e0))) rfl ?_
  obtain rfl := Option.some.inj h
  exact QTri.retI rfl rfl
 ·refine zF Ad W (t := 11) (f := 4) rfl (XT.i0_lt_f hc183) ?_
  refine zS Ad W 2 (st' := (8, [vR 1, vI x1, none], [.int (255:Int32), .int x1], (H1 s o e0))) rfl ?_
  rcases qite h with ⟨hc184, h⟩ | ⟨hc184, h⟩
  ·refine zF Ad W (t := 13) (f := 11) rfl (XT.ii_le_f hc184) ?_
   refine zS Ad W 1 (st' := (12, [vR 1, vI x1, none], [.int (-1:Int32)], (H1 s o e0))) rfl ?_
   obtain rfl := Option.some.inj h
   exact QTri.retI rfl rfl
  ·refine zT Ad W (t := 13) (f := 11) rfl (XT.ii_le_t hc184) ?_
   refine zS Ad W 3 (st' := (19, [vR 1, vI x1, none], [.int (32:Int32), .int (f_nextSeq o)], (H1 s o e0))) rfl ?_
   rcases qite h with ⟨hc185, h⟩ | ⟨hc185, h⟩
   ·refine zT Ad W (t := 24) (f := 22) rfl (XT.ii_lt_t hc185) ?_
    refine zS Ad W 7 (st' := (35, [vR 1, vI x1, vI (f_nextSeq o)], [.int x1, .int (f_nextSeq o), .ref 2], (H1 s o e0))) rfl ?_
    obtain ⟨y186, hy186, h⟩ := bind_eq_some_iff.mp h
    refine zB Ad W (f := fun y186 => (36, [vR 1, vI x1, vI (f_nextSeq o)], [], (H1x32 s o e0 y186))) rfl hy186 ?_
    refine zS Ad W 6 (st' := (46, [vR 1, vI x1, vI (f_nextSeq o)], [], (H1x33 s o e0 y186 ((f_nextSeq o) + (1:Int32))))) rfl ?_
    refine zS Ad W 4 (st' := (52, [vR 1, vI x1, vI (f_nextSeq o)], [.int (1:Int32), .ref 5, .int (1:Int32), .ref 5], (H1x33 s o e0 y186 ((f_nextSeq o) + (1:Int32))))) rfl ?_
    obtain ⟨y187, hy187, h⟩ := bind_eq_some_iff.mp h
    refine zB Ad W (f := fun y187 => (53, [vR 1, vI x1, vI (f_nextSeq o)], [.int y187, .int (1:Int32), .ref 5], (H1x33 s o e0 y186 ((f_nextSeq o) + (1:Int32))))) rfl hy187 ?_
    refine zS Ad W 2 (st' := (55, [vR 1, vI x1, vI (f_nextSeq o)], [.int (y187 + (1:Int32)), .int (1:Int32), .ref 5], (H1x33 s o e0 y186 ((f_nextSeq o) + (1:Int32))))) rfl ?_
    obtain ⟨y188, hy188, h⟩ := bind_eq_some_iff.mp h
    refine zB Ad W (f := fun y188 => (56, [vR 1, vI x1, vI (f_nextSeq o)], [], (H1x34 s o e0 y186 y188 ((f_nextSeq o) + (1:Int32))))) rfl hy188 ?_
    refine zS Ad W 4 (st' := (60, [vR 1, vI x1, vI (f_nextSeq o)], [.int x1, .int (f_nextSeq o), .int (0:Int32), .ref 1], (H1x34 s o e0 y186 y188 ((f_nextSeq o) + (1:Int32))))) rfl ?_
    have E189 : ((H1x34 s o e0 y186 y188 ((f_nextSeq o) + (1:Int32))) : QHeap) = (H1 s (s_stats (s_nextSeq (s_srcPayload o y186) ((f_nextSeq o) + (1:Int32))) y188) e0) := by simp only [fs, H1, H1v, H1x34, s_srcPayload, s_stats, s_nextSeq]
    rw [E189]
    obtain ⟨r319, hr319, h⟩ := bind_eq_some_iff.mp h
    refine QTri.callP W (a := 1) (as := [.int (0:Int32), .int (f_nextSeq o), .int x1]) (rest := []) (w := none) (σ₁ := (H1 s r319 e0)) rfl rfl rfl rfl rfl rfl rfl rfl (tF13a1 Ad W s e0 (s_stats (s_nextSeq (s_srcPayload o y186) ((f_nextSeq o) + (1:Int32))) y188) (0:Int32) (f_nextSeq o) x1 hr319) ?_
    refine zS Ad W 1 (st' := (64, [vR 1, vI x1, vI (f_nextSeq o)], [.int (f_nextSeq o)], (H1 s r319 e0))) rfl ?_
    obtain rfl := Option.some.inj h
    exact QTri.retI rfl rfl
   ·refine zF Ad W (t := 24) (f := 22) rfl (XT.ii_lt_f hc185) ?_
    refine zS Ad W 1 (st' := (23, [vR 1, vI x1, none], [.int (-1:Int32)], (H1 s o e0))) rfl ?_
    obtain rfl := Option.some.inj h
    exact QTri.retI rfl rfl
def J0_162 (s : List Int32) (p0 : Ob) (p1 : Ob) (x3 : Int32) : Option (((Ob × Ob) ⊕ (Int32 × QHeap)) ⊕ (Int32 × Ob × Ob)) :=
  some (.inr ((x3 + (3 : Int32)), p0, p1))
theorem tJ0_162 (Ad : QAd n0 ad) (W : QW Z a0) (s : List Int32) (p0 : Ob) (p1 : Ob) (x3 : Int32) {r : ((Ob × Ob) ⊕ (Int32 × QHeap)) ⊕ (Int32 × Ob × Ob)} {u : Option Value} {τ : QHeap} (h : J0_162 s p0 p1 x3 = some r) (hx0 : ∀ x : Ob × Ob, r = .inl (Sum.inl x) → QTri l Z n0 ad 0 (168, [none, vR 1, vR 21, none, none, none, none], [], (H1 s x.1 x.2)) u τ) (hx1 : ∀ x : Int32 × QHeap, r = .inl (Sum.inr x) → u = (some (Value.int x.1)) ∧ τ = x.2) (hc : ∀ x : Int32 × Ob × Ob, r = .inr x → QTri l Z n0 ad 0 (26, [vR 0, vR 1, vR 21, vI x.1, none, none, none], [], (H1 s x.2.1 x.2.2)) u τ) : QTri l Z n0 ad 0 (162, [vR 0, vR 1, vR 21, vI x3, none, none, none], [], (H1 s p0 p1)) u τ := by
 unfold J0_162 at h
 refine zS Ad W 2 (st' := (26, [vR 0, vR 1, vR 21, vI (x3 + (3:Int32)), none, none, none], [], (H1 s p0 p1))) rfl ?_
 obtain rfl := Option.some.inj h
 exact zM [tt,tt,tt,tt,ff,ff,ff] (hc ((x3 + (3:Int32)), p0, p1) rfl)
def H1x53 (s : List Int32) (o0 o1 : Ob) (a0_3 : List Int32) : QHeap := H1v s (f_srcPayload o0) (f_pend o0) (f_queue o0) a0_3 (f_state o0) (f_timer o0) (f_rxVal o0) (f_rxNext o0) (f_rxLead o0) (f_rxTrail o0) (f_lossLeft o0) (f_dups o0) (f_drops o0) (f_delSeq o0) (f_delVal o0) (f_delLen o0) (f_lostLog o0) (f_lostLen o0) (f_nakBuf o0) (f_win o0) (f_back o0) (f_repair o0) (f_period o0) (f_nextSeq o0) (f_qLen o0) (f_nakLen o0) (f_srcPayload o1) (f_pend o1) (f_queue o1) (f_stats o1) (f_state o1) (f_timer o1) (f_rxVal o1) (f_rxNext o1) (f_rxLead o1) (f_rxTrail o1) (f_lossLeft o1) (f_dups o1) (f_drops o1) (f_delSeq o1) (f_delVal o1) (f_delLen o1) (f_lostLog o1) (f_lostLen o1) (f_nakBuf o1) (f_win o1) (f_back o1) (f_repair o1) (f_period o1) (f_nextSeq o1) (f_qLen o1) (f_nakLen o1)
/-- spm()V -/
def F23 (o : Ob) : Option (Ob) :=
 (aget (f_stats o) (3:Int32)).bind fun y324 => (aset (f_stats o) (3:Int32) (y324 + (1:Int32))).bind fun y325 => (F13 (s_stats o y325) (2:Int32) (0:Int32) (0:Int32)).bind fun r327 => some r327
theorem tF23 (Ad : QAd n0 ad) (W : QW Z a0) (s : List Int32) (e0 : Ob) (o : Ob) {r : Ob} (h : F23 o = some r) : QTri l Z n0 ad 23 (0, qentry [.ref 1] (pMaxL 23), [], (H1 s o e0)) (none : Option Value) (H1 s r e0) := by
 unfold F23 at h
 refine zS Ad W 4 (st' := (6, [vR 1], [.int (3:Int32), .ref 5, .int (3:Int32), .ref 5], (H1 s o e0))) rfl ?_
 obtain ⟨y324, hy324, h⟩ := bind_eq_some_iff.mp h
 refine zB Ad W (f := fun y324 => (7, [vR 1], [.int y324, .int (3:Int32), .ref 5], (H1 s o e0))) rfl hy324 ?_
 refine zS Ad W 2 (st' := (9, [vR 1], [.int (y324 + (1:Int32)), .int (3:Int32), .ref 5], (H1 s o e0))) rfl ?_
 obtain ⟨y325, hy325, h⟩ := bind_eq_some_iff.mp h
 refine zB Ad W (f := fun y325 => (10, [vR 1], [], (H1x53 s o e0 y325))) rfl hy325 ?_
 refine zS Ad W 4 (st' := (14, [vR 1], [.int (0:Int32), .int (0:Int32), .int (2:Int32), .ref 1], (H1x53 s o e0 y325))) rfl ?_
 have E326 : ((H1x53 s o e0 y325) : QHeap) = (H1 s (s_stats o y325) e0) := by simp only [fs, H1, H1v, H1x53, s_stats]
 rw [E326]
 obtain ⟨r327, hr327, h⟩ := bind_eq_some_iff.mp h
 refine QTri.callP W (a := 1) (as := [.int (2:Int32), .int (0:Int32), .int (0:Int32)]) (rest := []) (w := none) (σ₁ := (H1 s r327 e0)) rfl rfl rfl rfl rfl rfl rfl rfl (tF13a1 Ad W s e0 (s_stats o y325) (2:Int32) (0:Int32) (0:Int32) hr327) ?_
 obtain rfl := Option.some.inj h
 exact QTri.ret0 rfl rfl
def H1x54 (s : List Int32) (o0 o1 : Ob) (a1_3 : List Int32) : QHeap := H1v s (f_srcPayload o0) (f_pend o0) (f_queue o0) (f_stats o0) (f_state o0) (f_timer o0) (f_rxVal o0) (f_rxNext o0) (f_rxLead o0) (f_rxTrail o0) (f_lossLeft o0) (f_dups o0) (f_drops o0) (f_delSeq o0) (f_delVal o0) (f_delLen o0) (f_lostLog o0) (f_lostLen o0) (f_nakBuf o0) (f_win o0) (f_back o0) (f_repair o0) (f_period o0) (f_nextSeq o0) (f_qLen o0) (f_nakLen o0) (f_srcPayload o1) (f_pend o1) (f_queue o1) a1_3 (f_state o1) (f_timer o1) (f_rxVal o1) (f_rxNext o1) (f_rxLead o1) (f_rxTrail o1) (f_lossLeft o1) (f_dups o1) (f_drops o1) (f_delSeq o1) (f_delVal o1) (f_delLen o1) (f_lostLog o1) (f_lostLen o1) (f_nakBuf o1) (f_win o1) (f_back o1) (f_repair o1) (f_period o1) (f_nextSeq o1) (f_qLen o1) (f_nakLen o1)
theorem tF23a1 (Ad : QAd n0 ad) (W : QW Z a0) (s : List Int32) (e0 : Ob) (o : Ob) {r : Ob} (h : F23 o = some r) : QTri l Z n0 ad 23 (0, qentry [.ref 21] (pMaxL 23), [], (H1 s e0 o)) (none : Option Value) (H1 s e0 r) := by
 unfold F23 at h
 refine zS Ad W 4 (st' := (6, [vR 21], [.int (3:Int32), .ref 25, .int (3:Int32), .ref 25], (H1 s e0 o))) rfl ?_
 obtain ⟨y329, hy329, h⟩ := bind_eq_some_iff.mp h
 refine zB Ad W (f := fun y329 => (7, [vR 21], [.int y329, .int (3:Int32), .ref 25], (H1 s e0 o))) rfl hy329 ?_
 refine zS Ad W 2 (st' := (9, [vR 21], [.int (y329 + (1:Int32)), .int (3:Int32), .ref 25], (H1 s e0 o))) rfl ?_
 obtain ⟨y330, hy330, h⟩ := bind_eq_some_iff.mp h
 refine zB Ad W (f := fun y330 => (10, [vR 21], [], (H1x54 s e0 o y330))) rfl hy330 ?_
 refine zS Ad W 4 (st' := (14, [vR 21], [.int (0:Int32), .int (0:Int32), .int (2:Int32), .ref 21], (H1x54 s e0 o y330))) rfl ?_
 have E331 : ((H1x54 s e0 o y330) : QHeap) = (H1 s e0 (s_stats o y330)) := by simp only [fs, H1, H1v, H1x54, s_stats]
 rw [E331]
 obtain ⟨r332, hr332, h⟩ := bind_eq_some_iff.mp h
 refine QTri.callP W (a := 21) (as := [.int (2:Int32), .int (0:Int32), .int (0:Int32)]) (rest := []) (w := none) (σ₁ := (H1 s e0 r332)) rfl rfl rfl rfl rfl rfl rfl rfl (tF13 Ad W s e0 (s_stats o y330) (2:Int32) (0:Int32) (0:Int32) hr332) ?_
 obtain rfl := Option.some.inj h
 exact QTri.ret0 rfl rfl
theorem tF4a1 (Ad : QAd n0 ad) (W : QW Z a0) (s : List Int32) (e0 : Ob) (o : Ob) (x1 : Int32) (x2 : Int32) {r : Int32 × Ob} (h : F4 o x1 x2 = some r) : QTri l Z n0 ad 4 (0, qentry [.ref 1, .int x1, .int x2] (pMaxL 4), [], (H1 s o e0)) (some (Value.int r.1)) (H1 s r.2 e0) := by
 unfold F4 at h
 refine zS Ad W 2 (st' := (2, [vR 1, vI x1, vI x2], [.int x1, .ref 1], (H1 s o e0))) rfl ?_
 obtain ⟨r335, hr335, h⟩ := bind_eq_some_iff.mp h
 refine QTri.callP W (a := 1) (as := [.int x1]) (rest := []) (w := (some (.int r335))) (σ₁ := (H1 s o e0)) rfl rfl rfl rfl rfl rfl rfl rfl (tF5 Ad W x1 hr335) ?_
 rcases qite h with ⟨hc336, h⟩ | ⟨hc336, h⟩
 ·refine zF Ad W (t := 10) (f := 8) rfl (XT.i0_ne_f hc336) ?_
  refine zS Ad W 1 (st' := (9, [vR 1, vI x1, vI x2], [.int (0:Int32)], (H1 s o e0))) rfl ?_
  obtain rfl := Option.some.inj h
  exact QTri.retZ rfl rfl
 ·refine zT Ad W (t := 10) (f := 8) rfl (XT.i0_ne_t hc336) ?_
  refine zS Ad W 7 (st' := (21, [vR 1, vI x1, vI x2], [.int (255:Int32), .int (0:Int32), .int x2, .ref 1, .int x1, .ref 12], (H1 s o e0))) rfl ?_
  obtain ⟨r337, hr337, h⟩ := bind_eq_some_iff.mp h
  refine QTri.callP W (a := 1) (as := [.int x2, .int (0:Int32), .int (255:Int32)]) (rest := [.int x1, .ref 12]) (w := (some (.int r337))) (σ₁ := (H1 s o e0)) rfl rfl rfl rfl rfl rfl rfl rfl (tF2 Ad W x2 (0:Int32) (255:Int32) hr337) ?_
  obtain ⟨y338, hy338, h⟩ := bind_eq_some_iff.mp h
  refine zB Ad W (f := fun y338 => (25, [vR 1, vI x1, vI x2], [], (H1x36 s o e0 y338))) rfl hy338 ?_
  refine zS Ad W 1 (st' := (26, [vR 1, vI x1, vI x2], [.int (1:Int32)], (H1x36 s o e0 y338))) rfl ?_
  have E339 : ((H1x36 s o e0 y338) : QHeap) = (H1 s (s_lossLeft o y338) e0) := by simp only [fs, H1, H1v, H1x36, s_lossLeft]
  rw [E339]
  obtain rfl := Option.some.inj h
  exact QTri.retZ rfl rfl
def J7_90 (o : Ob) (x1 : Int32) (x2 : Int32) : Option (((Ob)) ⊕ (Int32 × Ob)) :=
  some (.inr ((x2 + (1 : Int32)), o))
theorem tJ7_90 (Ad : QAd n0 ad) (W : QW Z a0) (s : List Int32) (e0 : Ob) (o : Ob) (x1 : Int32) (x2 : Int32) {r : ((Ob)) ⊕ (Int32 × Ob)} {u : Option Value} {τ : QHeap} (h : J7_90 o x1 x2 = some r) (hx0 : ∀ x : Ob, r = .inl x → u = (none : Option Value) ∧ τ = (H1 s x e0)) (hc : ∀ x : Int32 × Ob, r = .inr x → QTri l Z n0 ad 7 (7, [vR 1, vI x1, vI x.1, none, none], [], (H1 s x.2 e0)) u τ) : QTri l Z n0 ad 7 (90, [vR 1, vI x1, vI x2, none, none], [], (H1 s o e0)) u τ := by
 unfold J7_90 at h
 refine zS Ad W 2 (st' := (7, [vR 1, vI x1, vI (x2 + (1:Int32)), none, none], [], (H1 s o e0))) rfl ?_
 obtain rfl := Option.some.inj h
 exact zM [tt,tt,tt,ff,ff] (hc ((x2 + (1:Int32)), o) rfl)
def J7_52 (o : Ob) (x1 : Int32) (x2 : Int32) (x3 : Int32) (x4 : Int32) : Option (((Ob)) ⊕ (Int32 × Ob)) :=
  (aget (f_stats o) (2 : Int32)).bind fun y357 => (aset (f_stats o) (2 : Int32) (y357 + (1 : Int32))).bind fun y358 => (F13 (s_stats o y358) (1 : Int32) x3 x4).bind fun r360 => (J7_90 r360 x1 x2)
theorem tJ7_52 (Ad : QAd n0 ad) (W : QW Z a0) (s : List Int32) (e0 : Ob) (o : Ob) (x1 : Int32) (x2 : Int32) (x3 : Int32) (x4 : Int32) {r : ((Ob)) ⊕ (Int32 × Ob)} {u : Option Value} {τ : QHeap} (h : J7_52 o x1 x2 x3 x4 = some r) (hx0 : ∀ x : Ob, r = .inl x → u = (none : Option Value) ∧ τ = (H1 s x e0)) (hc : ∀ x : Int32 × Ob, r = .inr x → QTri l Z n0 ad 7 (7, [vR 1, vI x1, vI x.1, none, none], [], (H1 s x.2 e0)) u τ) : QTri l Z n0 ad 7 (52, [vR 1, vI x1, vI x2, vI x3, vI x4], [], (H1 s o e0)) u τ := by
 unfold J7_52 at h
 refine zS Ad W 4 (st' := (58, [vR 1, vI x1, vI x2, vI x3, vI x4], [.int (2:Int32), .ref 5, .int (2:Int32), .ref 5], (H1 s o e0))) rfl ?_
 obtain ⟨y357, hy357, h⟩ := bind_eq_some_iff.mp h
 refine zB Ad W (f := fun y357 => (59, [vR 1, vI x1, vI x2, vI x3, vI x4], [.int y357, .int (2:Int32), .ref 5], (H1 s o e0))) rfl hy357 ?_
 refine zS Ad W 2 (st' := (61, [vR 1, vI x1, vI x2, vI x3, vI x4], [.int (y357 + (1:Int32)), .int (2:Int32), .ref 5], (H1 s o e0))) rfl ?_
 obtain ⟨y358, hy358, h⟩ := bind_eq_some_iff.mp h
 refine zB Ad W (f := fun y358 => (62, [vR 1, vI x1, vI x2, vI x3, vI x4], [], (H1x53 s o e0 y358))) rfl hy358 ?_
 refine zS Ad W 4 (st' := (67, [vR 1, vI x1, vI x2, vI x3, vI x4], [.int x4, .int x3, .int (1:Int32), .ref 1], (H1x53 s o e0 y358))) rfl ?_
 have E359 : ((H1x53 s o e0 y358) : QHeap) = (H1 s (s_stats o y358) e0) := by simp only [fs, H1, H1v, H1x53, s_stats]
 rw [E359]
 obtain ⟨r360, hr360, h⟩ := bind_eq_some_iff.mp h
 refine QTri.callP W (a := 1) (as := [.int (1:Int32), .int x3, .int x4]) (rest := []) (w := none) (σ₁ := (H1 s r360 e0)) rfl rfl rfl rfl rfl rfl rfl rfl (tF13a1 Ad W s e0 (s_stats o y358) (1:Int32) x3 x4 hr360) ?_
 refine zS Ad W 1 (st' := (90, [vR 1, vI x1, vI x2, vI x3, vI x4], [], (H1 s r360 e0))) rfl ?_
 exact zM [tt,tt,tt,ff,ff] (tJ7_90 Ad W s e0 r360 x1 x2 h hx0 hc)
def H1x55 (s : List Int32) (o0 o1 : Ob) (a0_24 : Int32) : QHeap := H1v s (f_srcPayload o0) (f_pend o0) (f_queue o0) (f_stats o0) (f_state o0) (f_timer o0) (f_rxVal o0) (f_rxNext o0) (f_rxLead o0) (f_rxTrail o0) (f_lossLeft o0) (f_dups o0) (f_drops o0) (f_delSeq o0) (f_delVal o0) (f_delLen o0) (f_lostLog o0) (f_lostLen o0) (f_nakBuf o0) (f_win o0) (f_back o0) (f_repair o0) (f_period o0) (f_nextSeq o0) a0_24 (f_nakLen o0) (f_srcPayload o1) (f_pend o1) (f_queue o1) (f_stats o1) (f_state o1) (f_timer o1) (f_rxVal o1) (f_rxNext o1) (f_rxLead o1) (f_rxTrail o1) (f_lossLeft o1) (f_dups o1) (f_drops o1) (f_delSeq o1) (f_delVal o1) (f_delLen o1) (f_lostLog o1) (f_lostLen o1) (f_nakBuf o1) (f_win o1) (f_back o1) (f_repair o1) (f_period o1) (f_nextSeq o1) (f_qLen o1) (f_nakLen o1)
def J7_96 (o : Ob) : Option (((Ob)) ⊕ (Int32 × Ob)) :=
  some (.inl (s_qLen o (0 : Int32)))
theorem tJ7_96 (Ad : QAd n0 ad) (W : QW Z a0) (s : List Int32) (e0 : Ob) (x1 : Int32) (o : Ob) {r : ((Ob)) ⊕ (Int32 × Ob)} {u : Option Value} {τ : QHeap} (h : J7_96 o = some r) (hx0 : ∀ x : Ob, r = .inl x → u = (none : Option Value) ∧ τ = (H1 s x e0)) (hc : ∀ x : Int32 × Ob, r = .inr x → QTri l Z n0 ad 7 (7, [vR 1, vI x1, vI x.1, none, none], [], (H1 s x.2 e0)) u τ) : QTri l Z n0 ad 7 (96, [vR 1, none, none, none, none], [], (H1 s o e0)) u τ := by
 unfold J7_96 at h
 refine zS Ad W 3 (st' := (101, [vR 1, none, none, none, none], [], (H1x55 s o e0 (0:Int32)))) rfl ?_
 have E362 : ((H1x55 s o e0 (0:Int32)) : QHeap) = (H1 s (s_qLen o (0:Int32)) e0) := by simp only [fs, H1, H1v, H1x55, s_qLen]
 rw [E362]
 obtain rfl := Option.some.inj h
 obtain ⟨rfl, rfl⟩ := hx0 (s_qLen o (0:Int32)) rfl
 exact QTri.ret0 rfl rfl
def B7_7 (x1 : Int32) (v : Int32 × Ob) : Option (((Ob)) ⊕ (Int32 × Ob)) :=
  (if v.1 < (f_qLen v.2) then (if v.1 < (64 : Int32) then (aget (f_queue v.2) v.1).bind fun y349 => (if y349 < x1 then (aget (f_stats v.2) (3 : Int32)).bind fun y351 => (aset (f_stats v.2) (3 : Int32) (y351 + (1 : Int32))).bind fun y352 => (F13 (s_stats v.2 y352) (2 : Int32) (0 : Int32) (0 : Int32)).bind fun r354 => (J7_90 r354 x1 v.1) else (F18 y349).bind fun r355 => (if r355 = (0 : Int32) then (J7_52 v.2 x1 v.1 y349 (0 : Int32)) else (aget (f_srcPayload v.2) y349).bind fun y361 => (J7_52 v.2 x1 v.1 y349 y361))) else (J7_96 v.2)) else (J7_96 v.2))
theorem tB7_7 (Ad : QAd n0 ad) (W : QW Z a0) (s : List Int32) (e0 : Ob) (x1 : Int32) (v : Int32 × Ob) {r : ((Ob)) ⊕ (Int32 × Ob)} {u : Option Value} {τ : QHeap} (h : B7_7 x1 v = some r) (hx0 : ∀ x : Ob, r = .inl x → u = (none : Option Value) ∧ τ = (H1 s x e0)) (hc : ∀ x : Int32 × Ob, r = .inr x → QTri l Z n0 ad 7 (7, [vR 1, vI x1, vI x.1, none, none], [], (H1 s x.2 e0)) u τ) : QTri l Z n0 ad 7 (7, [vR 1, vI x1, vI v.1, none, none], [], (H1 s v.2 e0)) u τ := by
 unfold B7_7 at h
 refine zS Ad W 3 (st' := (12, [vR 1, vI x1, vI v.1, none, none], [.int (f_qLen v.2), .int v.1], (H1 s v.2 e0))) rfl ?_
 rcases qite h with ⟨hc347, h⟩ | ⟨hc347, h⟩
 ·refine zF Ad W (t := 96) (f := 15) rfl (XT.ii_ge_f hc347) ?_
  refine zS Ad W 2 (st' := (18, [vR 1, vI x1, vI v.1, none, none], [.int (64:Int32), .int v.1], (H1 s v.2 e0))) rfl ?_
  rcases qite h with ⟨hc348, h⟩ | ⟨hc348, h⟩
  ·refine zF Ad W (t := 96) (f := 21) rfl (XT.ii_ge_f hc348) ?_
   refine zS Ad W 3 (st' := (26, [vR 1, vI x1, vI v.1, none, none], [.int v.1, .ref 4], (H1 s v.2 e0))) rfl ?_
   obtain ⟨y349, hy349, h⟩ := bind_eq_some_iff.mp h
   refine zB Ad W (f := fun y349 => (27, [vR 1, vI x1, vI v.1, none, none], [.int y349], (H1 s v.2 e0))) rfl hy349 ?_
   refine zS Ad W 3 (st' := (30, [vR 1, vI x1, vI v.1, vI y349, none], [.int x1, .int y349], (H1 s v.2 e0))) rfl ?_
   rcases qite h with ⟨hc350, h⟩ | ⟨hc350, h⟩
   ·refine zT Ad W (t := 73) (f := 33) rfl (XT.ii_lt_t hc350) ?_
    refine zS Ad W 4 (st' := (79, [vR 1, vI x1, vI v.1, vI y349, none], [.int (3:Int32), .ref 5, .int (3:Int32), .ref 5], (H1 s v.2 e0))) rfl ?_
    obtain ⟨y351, hy351, h⟩ := bind_eq_some_iff.mp h
    refine zB Ad W (f := fun y351 => (80, [vR 1, vI x1, vI v.1, vI y349, none], [.int y351, .int (3:Int32), .ref 5], (H1 s v.2 e0))) rfl hy351 ?_
    refine zS Ad W 2 (st' := (82, [vR 1, vI x1, vI v.1, vI y349, none], [.int (y351 + (1:Int32)), .int (3:Int32), .ref 5], (H1 s v.2 e0))) rfl ?_
    obtain ⟨y352, hy352, h⟩ := bind_eq_some_iff.mp h
    refine zB Ad W (f := fun y352 => (83, [vR 1, vI x1, vI v.1, vI y349, none], [], (H1x53 s v.2 e0 y352))) rfl hy352 ?_
    refine zS Ad W 4 (st' := (87, [vR 1, vI x1, vI v.1, vI y349, none], [.int (0:Int32), .int (0:Int32), .int (2:Int32), .ref 1], (H1x53 s v.2 e0 y352))) rfl ?_
    have E353 : ((H1x53 s v.2 e0 y352) : QHeap) = (H1 s (s_stats v.2 y352) e0) := by simp only [fs, H1, H1v, H1x53, s_stats]
    rw [E353]
    obtain ⟨r354, hr354, h⟩ := bind_eq_some_iff.mp h
    refine QTri.callP W (a := 1) (as := [.int (2:Int32), .int (0:Int32), .int (0:Int32)]) (rest := []) (w := none) (σ₁ := (H1 s r354 e0)) rfl rfl rfl rfl rfl rfl rfl rfl (tF13a1 Ad W s e0 (s_stats v.2 y352) (2:Int32) (0:Int32) (0:Int32) hr354) ?_
    exact zM [tt,tt,tt,ff,ff] (tJ7_90 Ad W s e0 r354 x1 v.1 h hx0 hc)
   ·refine zF Ad W (t := 73) (f := 33) rfl (XT.ii_lt_f hc350) ?_
    refine zS Ad W 4 (st' := (38, [vR 1, vI x1, vI v.1, vI y349, vI (0:Int32)], [.int y349, .ref 1], (H1 s v.2 e0))) rfl ?_
    obtain ⟨r355, hr355, h⟩ := bind_eq_some_iff.mp h
    refine QTri.callP W (a := 1) (as := [.int y349]) (rest := []) (w := (some (.int r355))) (σ₁ := (H1 s v.2 e0)) rfl rfl rfl rfl rfl rfl rfl rfl (tF18 Ad W y349 hr355) ?_
    rcases qite h with ⟨hc356, h⟩ | ⟨hc356, h⟩
    ·refine zT Ad W (t := 52) (f := 44) rfl (XT.i0_eq_t hc356) ?_
     exact zM [tt,tt,tt,tt,tt] (tJ7_52 Ad W s e0 v.2 x1 v.1 y349 (0:Int32) h hx0 hc)
    ·refine zF Ad W (t := 52) (f := 44) rfl (XT.i0_eq_f hc356) ?_
     refine zS Ad W 3 (st' := (49, [vR 1, vI x1, vI v.1, vI y349, vI (0:Int32)], [.int y349, .ref 2], (H1 s v.2 e0))) rfl ?_
     obtain ⟨y361, hy361, h⟩ := bind_eq_some_iff.mp h
     refine zB Ad W (f := fun y361 => (50, [vR 1, vI x1, vI v.1, vI y349, vI (0:Int32)], [.int y361], (H1 s v.2 e0))) rfl hy361 ?_
     refine zS Ad W 1 (st' := (52, [vR 1, vI x1, vI v.1, vI y349, vI y361], [], (H1 s v.2 e0))) rfl ?_
     exact zM [tt,tt,tt,tt,tt] (tJ7_52 Ad W s e0 v.2 x1 v.1 y349 y361 h hx0 hc)
  ·refine zT Ad W (t := 96) (f := 21) rfl (XT.ii_ge_t hc348) ?_
   exact zM [tt,ff,ff,ff,ff] (tJ7_96 Ad W s e0 x1 v.2 h hx0 hc)
 ·refine zT Ad W (t := 96) (f := 15) rfl (XT.ii_ge_t hc347) ?_
  exact zM [tt,ff,ff,ff,ff] (tJ7_96 Ad W s e0 x1 v.2 h hx0 hc)
/-- serveQueue()V -/
def F7 (o : Ob) : Option (Ob) :=
 (F8 o).bind fun r346 => (loopN (B7_7 r346) qN ((0:Int32), o)).bind fun e363 => some e363
theorem tF7 (Ad : QAd n0 ad) (W : QW Z a0) (s : List Int32) (e0 : Ob) (o : Ob) {r : Ob} (h : F7 o = some r) : QTri l Z n0 ad 7 (0, qentry [.ref 1] (pMaxL 7), [], (H1 s o e0)) (none : Option Value) (H1 s r e0) := by
 unfold F7 at h
 refine zS Ad W 1 (st' := (1, [vR 1, none, none, none, none], [.ref 1], (H1 s o e0))) rfl ?_
 obtain ⟨r346, hr346, h⟩ := bind_eq_some_iff.mp h
 refine QTri.callP W (a := 1) (as := []) (rest := []) (w := (some (.int r346))) (σ₁ := (H1 s o e0)) rfl rfl rfl rfl rfl rfl rfl rfl (tF8a1 Ad W s e0 o hr346) ?_
 refine zS Ad W 3 (st' := (7, [vR 1, vI r346, vI (0:Int32), none, none], [], (H1 s o e0))) rfl ?_
 obtain ⟨e363, he363, h⟩ := bind_eq_some_iff.mp h
 refine zM [tt,tt,tt,ff,ff] (loopN_tri (B := B7_7 r346) (T := fun lv364 => QTri l Z n0 ad 7 (7, [vR 1, vI r346, vI lv364.1, none, none], [], (H1 s lv364.2 e0)) (none : Option Value) (H1 s r e0)) (KE := fun e363a => (none : Option Value) = (none : Option Value) ∧ (H1 s r e0) = (H1 s e363a e0)) (fun lv364 r hB hE hC => tB7_7 Ad W s e0 r346 lv364 hB (fun x q => hE _ q) (fun x q => hC x q)) qN ((0:Int32), o) e363 he363 ?_)
 obtain rfl := Option.some.inj h
 exact ⟨rfl, rfl⟩
def H1x56 (s : List Int32) (o0 o1 : Ob) (a0_25 : Int32) : QHeap := H1v s (f_srcPayload o0) (f_pend o0) (f_queue o0) (f_stats o0) (f_state o0) (f_timer o0) (f_rxVal o0) (f_rxNext o0) (f_rxLead o0) (f_rxTrail o0) (f_lossLeft o0) (f_dups o0) (f_drops o0) (f_delSeq o0) (f_delVal o0) (f_delLen o0) (f_lostLog o0) (f_lostLen o0) (f_nakBuf o0) (f_win o0) (f_back o0) (f_repair o0) (f_period o0) (f_nextSeq o0) (f_qLen o0) a0_25 (f_srcPayload o1) (f_pend o1) (f_queue o1) (f_stats o1) (f_state o1) (f_timer o1) (f_rxVal o1) (f_rxNext o1) (f_rxLead o1) (f_rxTrail o1) (f_lossLeft o1) (f_dups o1) (f_drops o1) (f_delSeq o1) (f_delVal o1) (f_delLen o1) (f_lostLog o1) (f_lostLen o1) (f_nakBuf o1) (f_win o1) (f_back o1) (f_repair o1) (f_period o1) (f_nextSeq o1) (f_qLen o1) (f_nakLen o1)
def H1x57 (s : List Int32) (o0 o1 : Ob) (a0_4 : List Int32) (a0_5 : List Int32) (a0_18 : List Int32) : QHeap := H1v s (f_srcPayload o0) (f_pend o0) (f_queue o0) (f_stats o0) a0_4 a0_5 (f_rxVal o0) (f_rxNext o0) (f_rxLead o0) (f_rxTrail o0) (f_lossLeft o0) (f_dups o0) (f_drops o0) (f_delSeq o0) (f_delVal o0) (f_delLen o0) (f_lostLog o0) (f_lostLen o0) a0_18 (f_win o0) (f_back o0) (f_repair o0) (f_period o0) (f_nextSeq o0) (f_qLen o0) (f_nakLen o0) (f_srcPayload o1) (f_pend o1) (f_queue o1) (f_stats o1) (f_state o1) (f_timer o1) (f_rxVal o1) (f_rxNext o1) (f_rxLead o1) (f_rxTrail o1) (f_lossLeft o1) (f_dups o1) (f_drops o1) (f_delSeq o1) (f_delVal o1) (f_delLen o1) (f_lostLog o1) (f_lostLen o1) (f_nakBuf o1) (f_win o1) (f_back o1) (f_repair o1) (f_period o1) (f_nextSeq o1) (f_qLen o1) (f_nakLen o1)
def H1x58 (s : List Int32) (o0 o1 : Ob) (a0_4 : List Int32) (a0_5 : List Int32) (a0_18 : List Int32) (a0_25 : Int32) : QHeap := H1v s (f_srcPayload o0) (f_pend o0) (f_queue o0) (f_stats o0) a0_4 a0_5 (f_rxVal o0) (f_rxNext o0) (f_rxLead o0) (f_rxTrail o0) (f_lossLeft o0) (f_dups o0) (f_drops o0) (f_delSeq o0) (f_delVal o0) (f_delLen o0) (f_lostLog o0) (f_lostLen o0) a0_18 (f_win o0) (f_back o0) (f_repair o0) (f_period o0) (f_nextSeq o0) (f_qLen o0) a0_25 (f_srcPayload o1) (f_pend o1) (f_queue o1) (f_stats o1) (f_state o1) (f_timer o1) (f_rxVal o1) (f_rxNext o1) (f_rxLead o1) (f_rxTrail o1) (f_lossLeft o1) (f_dups o1) (f_drops o1) (f_delSeq o1) (f_delVal o1) (f_delLen o1) (f_lostLog o1) (f_lostLen o1) (f_nakBuf o1) (f_win o1) (f_back o1) (f_repair o1) (f_period o1) (f_nextSeq o1) (f_qLen o1) (f_nakLen o1)
def J10_102 (o : Ob) : Option (Ob) :=
  (aget (f_stats o) (4 : Int32)).bind fun y390 => (aset (f_stats o) (4 : Int32) (y390 + (1 : Int32))).bind fun y391 => some (s_stats o y391)
theorem tJ10_102 (Ad : QAd n0 ad) (W : QW Z a0) (s : List Int32) (e0 : Ob) (o : Ob) {r : Ob} (h : J10_102 o = some r) : QTri l Z n0 ad 10 (102, [vR 1, none, none, none, none], [], (H1 s o e0)) (none : Option Value) (H1 s r e0) := by
 unfold J10_102 at h
 refine zS Ad W 4 (st' := (108, [vR 1, none, none, none, none], [.int (4:Int32), .ref 5, .int (4:Int32), .ref 5], (H1 s o e0))) rfl ?_
 obtain ⟨y390, hy390, h⟩ := bind_eq_some_iff.mp h
 refine zB Ad W (f := fun y390 => (109, [vR 1, none, none, none, none], [.int y390, .int (4:Int32), .ref 5], (H1 s o e0))) rfl hy390 ?_
 refine zS Ad W 2 (st' := (111, [vR 1, none, none, none, none], [.int (y390 + (1:Int32)), .int (4:Int32), .ref 5], (H1 s o e0))) rfl ?_
 obtain ⟨y391, hy391, h⟩ := bind_eq_some_iff.mp h
 refine zB Ad W (f := fun y391 => (112, [vR 1, none, none, none, none], [], (H1x53 s o e0 y391))) rfl hy391 ?_
 refine zS Ad W 1 (st' := (133, [vR 1, none, none, none, none], [], (H1x53 s o e0 y391))) rfl ?_
 have E392 : ((H1x53 s o e0 y391) : QHeap) = (H1 s (s_stats o y391) e0) := by simp only [fs, H1, H1v, H1x53, s_stats]
 rw [E392]
 obtain rfl := Option.some.inj h
 exact QTri.ret0 rfl rfl
/-- stepTimer(II)V -/
def F10 (o : Ob) (x1 : Int32) (x2 : Int32) : Option (Ob) :=
 (aget (f_state o) ((x1 * (32:Int32)) + x2)).bind fun y377 => (F11 y377).bind fun r378 => (if r378 = (0:Int32) then some o else (aget (f_timer o) ((x1 * (32:Int32)) + x2)).bind fun y380 => (aset (f_timer o) ((x1 * (32:Int32)) + x2) (y380 - (1:Int32))).bind fun y381 => (aget y381 ((x1 * (32:Int32)) + x2)).bind fun y382 => (if y382 = (0:Int32) then (if y377 = (1:Int32) then (aset (f_state o) ((x1 * (32:Int32)) + x2) (2:Int32)).bind fun y385 => (aset y381 ((x1 * (32:Int32)) + x2) (f_repair o)).bind fun y386 => (if (f_nakLen o) < (128:Int32) then (aset (f_nakBuf o) (f_nakLen o) ((x1 * (32:Int32)) + x2)).bind fun y388 => (J10_102 (s_nakLen (s_nakBuf (s_timer (s_state o y385) y386) y388) ((f_nakLen o) + (1:Int32)))) else (J10_102 (s_timer (s_state o y385) y386))) else (aset (f_state o) ((x1 * (32:Int32)) + x2) (1:Int32)).bind fun y394 => (F24 (s_state (s_timer o y381) y394) x1).bind fun r396 => (aset (f_timer (s_state (s_timer o y381) y394)) ((x1 * (32:Int32)) + x2) r396).bind fun y397 => some (s_timer (s_state (s_timer o y381) y394) y397)) else some (s_timer o y381)))
theorem tF10 (Ad : QAd n0 ad) (W : QW Z a0) (s : List Int32) (e0 : Ob) (o : Ob) (x1 : Int32) (x2 : Int32) {r : Ob} (h : F10 o x1 x2 = some r) : QTri l Z n0 ad 10 (0, qentry [.ref 1, .int x1, .int x2] (pMaxL 10), [], (H1 s o e0)) (none : Option Value) (H1 s r e0) := by
 unfold F10 at h
 refine zS Ad W 9 (st' := (12, [vR 1, vI x1, vI x2, vI ((x1 * (32:Int32)) + x2), none], [.int ((x1 * (32:Int32)) + x2), .ref 6], (H1 s o e0))) rfl ?_
 obtain ⟨y377, hy377, h⟩ := bind_eq_some_iff.mp h
 refine zB Ad W (f := fun y377 => (13, [vR 1, vI x1, vI x2, vI ((x1 * (32:Int32)) + x2), none], [.int y377], (H1 s o e0))) rfl hy377 ?_
 refine zS Ad W 3 (st' := (18, [vR 1, vI x1, vI x2, vI ((x1 * (32:Int32)) + x2), vI y377], [.int y377, .ref 1], (H1 s o e0))) rfl ?_
 obtain ⟨r378, hr378, h⟩ := bind_eq_some_iff.mp h
 refine QTri.callP W (a := 1) (as := [.int y377]) (rest := []) (w := (some (.int r378))) (σ₁ := (H1 s o e0)) rfl rfl rfl rfl rfl rfl rfl rfl (tF11 Ad W y377 hr378) ?_
 rcases qite h with ⟨hc379, h⟩ | ⟨hc379, h⟩
 ·refine zF Ad W (t := 25) (f := 24) rfl (XT.i0_ne_f hc379) ?_
  obtain rfl := Option.some.inj h
  exact QTri.ret0 rfl rfl
 ·refine zT Ad W (t := 25) (f := 24) rfl (XT.i0_ne_t hc379) ?_
  refine zS Ad W 6 (st' := (35, [vR 1, vI x1, vI x2, vI ((x1 * (32:Int32)) + x2), vI y377], [.int ((x1 * (32:Int32)) + x2), .ref 7, .int ((x1 * (32:Int32)) + x2), .ref 7], (H1 s o e0))) rfl ?_
  obtain ⟨y380, hy380, h⟩ := bind_eq_some_iff.mp h
  refine zB Ad W (f := fun y380 => (36, [vR 1, vI x1, vI x2, vI ((x1 * (32:Int32)) + x2), vI y377], [.int y380, .int ((x1 * (32:Int32)) + x2), .ref 7], (H1 s o e0))) rfl hy380 ?_
  refine zS Ad W 2 (st' := (38, [vR 1, vI x1, vI x2, vI ((x1 * (32:Int32)) + x2), vI y377], [.int (y380 - (1:Int32)), .int ((x1 * (32:Int32)) + x2), .ref 7], (H1 s o e0))) rfl ?_
  obtain ⟨y381, hy381, h⟩ := bind_eq_some_iff.mp h
  refine zB Ad W (f := fun y381 => (39, [vR 1, vI x1, vI x2, vI ((x1 * (32:Int32)) + x2), vI y377], [], (H1x40 s o e0 y381))) rfl hy381 ?_
  refine zS Ad W 3 (st' := (44, [vR 1, vI x1, vI x2, vI ((x1 * (32:Int32)) + x2), vI y377], [.int ((x1 * (32:Int32)) + x2), .ref 7], (H1x40 s o e0 y381))) rfl ?_
  obtain ⟨y382, hy382, h⟩ := bind_eq_some_iff.mp h
  refine zB Ad W (f := fun y382 => (45, [vR 1, vI x1, vI x2, vI ((x1 * (32:Int32)) + x2), vI y377], [.int y382], (H1x40 s o e0 y381))) rfl hy382 ?_
  rcases qite h with ⟨hc383, h⟩ | ⟨hc383, h⟩
  ·refine zT Ad W (t := 49) (f := 48) rfl (XT.i0_eq_t hc383) ?_
   refine zS Ad W 2 (st' := (52, [vR 1, vI x1, vI x2, vI ((x1 * (32:Int32)) + x2), vI y377], [.int (1:Int32), .int y377], (H1x40 s o e0 y381))) rfl ?_
   rcases qite h with ⟨hc384, h⟩ | ⟨hc384, h⟩
   ·refine zF Ad W (t := 115) (f := 55) rfl (XT.ii_ne_f hc384) ?_
    refine zS Ad W 4 (st' := (61, [vR 1, vI x1, vI x2, vI ((x1 * (32:Int32)) + x2), vI y377], [.int (2:Int32), .int ((x1 * (32:Int32)) + x2), .ref 6], (H1x40 s o e0 y381))) rfl ?_
    obtain ⟨y385, hy385, h⟩ := bind_eq_some_iff.mp h
    refine zB Ad W (f := fun y385 => (62, [vR 1, vI x1, vI x2, vI ((x1 * (32:Int32)) + x2), vI y377], [], (H1x43 s o e0 y385 y381))) rfl hy385 ?_
    refine zS Ad W 5 (st' := (71, [vR 1, vI x1, vI x2, vI ((x1 * (32:Int32)) + x2), vI y377], [.int (f_repair o), .int ((x1 * (32:Int32)) + x2), .ref 7], (H1x43 s o e0 y385 y381))) rfl ?_
    obtain ⟨y386, hy386, h⟩ := bind_eq_some_iff.mp h
    refine zB Ad W (f := fun y386 => (72, [vR 1, vI x1, vI x2, vI ((x1 * (32:Int32)) + x2), vI y377], [], (H1x43 s o e0 y385 y386))) rfl hy386 ?_
    refine zS Ad W 3 (st' := (79, [vR 1, vI x1, vI x2, vI ((x1 * (32:Int32)) + x2), vI y377], [.int (128:Int32), .int (f_nakLen o)], (H1x43 s o e0 y385 y386))) rfl ?_
    rcases qite h with ⟨hc387, h⟩ | ⟨hc387, h⟩
    ·refine zF Ad W (t := 102) (f := 82) rfl (XT.ii_ge_f hc387) ?_
     refine zS Ad W 5 (st' := (91, [vR 1, vI x1, vI x2, vI ((x1 * (32:Int32)) + x2), vI y377], [.int ((x1 * (32:Int32)) + x2), .int (f_nakLen o), .ref 20], (H1x43 s o e0 y385 y386))) rfl ?_
     obtain ⟨y388, hy388, h⟩ := bind_eq_some_iff.mp h
     refine zB Ad W (f := fun y388 => (92, [vR 1, vI x1, vI x2, vI ((x1 * (32:Int32)) + x2), vI y377], [], (H1x57 s o e0 y385 y386 y388))) rfl hy388 ?_
     refine zS Ad W 6 (st' := (102, [vR 1, vI x1, vI x2, vI ((x1 * (32:Int32)) + x2), vI y377], [], (H1x58 s o e0 y385 y386 y388 ((f_nakLen o) + (1:Int32))))) rfl ?_
     have E389 : ((H1x58 s o e0 y385 y386 y388 ((f_nakLen o) + (1:Int32))) : QHeap) = (H1 s (s_nakLen (s_nakBuf (s_timer (s_state o y385) y386) y388) ((f_nakLen o) + (1:Int32))) e0) := by simp only [fs, H1, H1v, H1x58, s_state, s_timer, s_nakBuf, s_nakLen]
     rw [E389]
     exact zM [tt,ff,ff,ff,ff] (tJ10_102 Ad W s e0 (s_nakLen (s_nakBuf (s_timer (s_state o y385) y386) y388) ((f_nakLen o) + (1:Int32))) h)
    ·refine zT Ad W (t := 102) (f := 82) rfl (XT.ii_ge_t hc387) ?_
     have E393 : ((H1x43 s o e0 y385 y386) : QHeap) = (H1 s (s_timer (s_state o y385) y386) e0) := by simp only [fs, H1, H1v, H1x43, s_state, s_timer]
     rw [E393]
     exact zM [tt,ff,ff,ff,ff] (tJ10_102 Ad W s e0 (s_timer (s_state o y385) y386) h)
   ·refine zT Ad W (t := 115) (f := 55) rfl (XT.ii_ne_t hc384) ?_
    refine zS Ad W 4 (st' := (121, [vR 1, vI x1, vI x2, vI ((x1 * (32:Int32)) + x2), vI y377], [.int (1:Int32), .int ((x1 * (32:Int32)) + x2), .ref 6], (H1x40 s o e0 y381))) rfl ?_
    obtain ⟨y394, hy394, h⟩ := bind_eq_some_iff.mp h
    refine zB Ad W (f := fun y394 => (122, [vR 1, vI x1, vI x2, vI ((x1 * (32:Int32)) + x2), vI y377], [], (H1x43 s o e0 y394 y381))) rfl hy394 ?_
    refine zS Ad W 5 (st' := (129, [vR 1, vI x1, vI x2, vI ((x1 * (32:Int32)) + x2), vI y377], [.int x1, .ref 1, .int ((x1 * (32:Int32)) + x2), .ref 7], (H1x43 s o e0 y394 y381))) rfl ?_
    have E395 : ((H1x43 s o e0 y394 y381) : QHeap) = (H1 s (s_state (s_timer o y381) y394) e0) := by simp only [fs, H1, H1v, H1x43, s_state, s_timer]
    rw [E395]
    obtain ⟨r396, hr396, h⟩ := bind_eq_some_iff.mp h
    refine QTri.callP W (a := 1) (as := [.int x1]) (rest := [.int ((x1 * (32:Int32)) + x2), .ref 7]) (w := (some (.int r396))) (σ₁ := (H1 s (s_state (s_timer o y381) y394) e0)) rfl rfl rfl rfl rfl rfl rfl rfl (tF24a1 Ad W s e0 (s_state (s_timer o y381) y394) x1 hr396) ?_
    obtain ⟨y397, hy397, h⟩ := bind_eq_some_iff.mp h
    refine zB Ad W (f := fun y397 => (133, [vR 1, vI x1, vI x2, vI ((x1 * (32:Int32)) + x2), vI y377], [], (H1x40 s (s_state (s_timer o y381) y394) e0 y397))) rfl hy397 ?_
    have E398 : ((H1x40 s (s_state (s_timer o y381) y394) e0 y397) : QHeap) = (H1 s (s_timer (s_state (s_timer o y381) y394) y397) e0) := by simp only [fs, H1, H1v, H1x40, s_timer]
    rw [E398]
    obtain rfl := Option.some.inj h
    exact QTri.ret0 rfl rfl
  ·refine zF Ad W (t := 49) (f := 48) rfl (XT.i0_eq_f hc383) ?_
   have E399 : ((H1x40 s o e0 y381) : QHeap) = (H1 s (s_timer o y381) e0) := by simp only [fs, H1, H1v, H1x40, s_timer]
   rw [E399]
   obtain rfl := Option.some.inj h
   exact QTri.ret0 rfl rfl
def B9_14 (x1 : Int32) (v : Int32 × Ob) : Option (((Ob)) ⊕ (Int32 × Ob)) :=
  (if v.1 < (32 : Int32) then (F10 v.2 x1 v.1).bind fun r400 => some (.inr ((v.1 + (1 : Int32)), r400)) else some (.inl v.2))
theorem tB9_14 (Ad : QAd n0 ad) (W : QW Z a0) (s : List Int32) (e0 : Ob) (x1 : Int32) (v : Int32 × Ob) {r : ((Ob)) ⊕ (Int32 × Ob)} {u : Option Value} {τ : QHeap} (h : B9_14 x1 v = some r) (hx0 : ∀ x : Ob, r = .inl x → QTri l Z n0 ad 9 (32, [vR 1, vI x1, none], [], (H1 s x e0)) u τ) (hc : ∀ x : Int32 × Ob, r = .inr x → QTri l Z n0 ad 9 (14, [vR 1, vI x1, vI x.1], [], (H1 s x.2 e0)) u τ) : QTri l Z n0 ad 9 (14, [vR 1, vI x1, vI v.1], [], (H1 s v.2 e0)) u τ := by
 unfold B9_14 at h
 refine zS Ad W 2 (st' := (17, [vR 1, vI x1, vI v.1], [.int (32:Int32), .int v.1], (H1 s v.2 e0))) rfl ?_
 rcases qite h with ⟨hc376, h⟩ | ⟨hc376, h⟩
 ·refine zF Ad W (t := 32) (f := 20) rfl (XT.ii_ge_f hc376) ?_
  refine zS Ad W 3 (st' := (23, [vR 1, vI x1, vI v.1], [.int v.1, .int x1, .ref 1], (H1 s v.2 e0))) rfl ?_
  obtain ⟨r400, hr400, h⟩ := bind_eq_some_iff.mp h
  refine QTri.callP W (a := 1) (as := [.int x1, .int v.1]) (rest := []) (w := none) (σ₁ := (H1 s r400 e0)) rfl rfl rfl rfl rfl rfl rfl rfl (tF10 Ad W s e0 v.2 x1 v.1 hr400) ?_
  refine zS Ad W 2 (st' := (14, [vR 1, vI x1, vI (v.1 + (1:Int32))], [], (H1 s r400 e0))) rfl ?_
  obtain rfl := Option.some.inj h
  exact zM [tt,tt,tt] (hc ((v.1 + (1:Int32)), r400) rfl)
 ·refine zT Ad W (t := 32) (f := 20) rfl (XT.ii_ge_t hc376) ?_
  obtain rfl := Option.some.inj h
  exact zM [tt,tt,ff] (hx0 v.2 rfl)
def B9_7 (v : Int32 × Ob) : Option (((Ob)) ⊕ (Int32 × Ob)) :=
  (if v.1 < (4 : Int32) then (loopN (B9_14 v.1) qN ((0 : Int32), v.2)).bind fun e401 => some (.inr ((v.1 + (1 : Int32)), e401)) else some (.inl v.2))
theorem tB9_7 (Ad : QAd n0 ad) (W : QW Z a0) (s : List Int32) (e0 : Ob) (v : Int32 × Ob) {r : ((Ob)) ⊕ (Int32 × Ob)} {u : Option Value} {τ : QHeap} (h : B9_7 v = some r) (hx0 : ∀ x : Ob, r = .inl x → u = (none : Option Value) ∧ τ = (H1 s x e0)) (hc : ∀ x : Int32 × Ob, r = .inr x → QTri l Z n0 ad 9 (7, [vR 1, vI x.1, none], [], (H1 s x.2 e0)) u τ) : QTri l Z n0 ad 9 (7, [vR 1, vI v.1, none], [], (H1 s v.2 e0)) u τ := by
 unfold B9_7 at h
 refine zS Ad W 2 (st' := (9, [vR 1, vI v.1, none], [.int (4:Int32), .int v.1], (H1 s v.2 e0))) rfl ?_
 rcases qite h with ⟨hc375, h⟩ | ⟨hc375, h⟩
 ·refine zF Ad W (t := 38) (f := 12) rfl (XT.ii_ge_f hc375) ?_
  refine zS Ad W 2 (st' := (14, [vR 1, vI v.1, vI (0:Int32)], [], (H1 s v.2 e0))) rfl ?_
  obtain ⟨e401, he401, h⟩ := bind_eq_some_iff.mp h
  refine zM [tt,tt,tt] (loopN_tri (B := B9_14 v.1) (T := fun lv402 => QTri l Z n0 ad 9 (14, [vR 1, vI v.1, vI lv402.1], [], (H1 s lv402.2 e0)) u τ) (KE := fun e401a => QTri l Z n0 ad 9 (32, [vR 1, vI v.1, none], [], (H1 s e401a e0)) u τ) (fun lv402 r hB hE hC => tB9_14 Ad W s e0 v.1 lv402 hB (fun x q => hE _ q) (fun x q => hC x q)) qN ((0:Int32), v.2) e401 he401 ?_)
  refine zS Ad W 2 (st' := (7, [vR 1, vI (v.1 + (1:Int32)), none], [], (H1 s e401 e0))) rfl ?_
  obtain rfl := Option.some.inj h
  exact zM [tt,tt,ff] (hc ((v.1 + (1:Int32)), e401) rfl)
 ·refine zT Ad W (t := 38) (f := 12) rfl (XT.ii_ge_t hc375) ?_
  obtain rfl := Option.some.inj h
  obtain ⟨rfl, rfl⟩ := hx0 v.2 rfl
  exact QTri.ret0 rfl rfl
/-- runTimers()V -/
def F9 (o : Ob) : Option (Ob) :=
 (loopN (B9_7) qN ((0:Int32), (s_nakLen o (0:Int32)))).bind fun e403 => some e403
theorem tF9 (Ad : QAd n0 ad) (W : QW Z a0) (s : List Int32) (e0 : Ob) (o : Ob) {r : Ob} (h : F9 o = some r) : QTri l Z n0 ad 9 (0, qentry [.ref 1] (pMaxL 9), [], (H1 s o e0)) (none : Option Value) (H1 s r e0) := by
 unfold F9 at h
 refine zS Ad W 3 (st' := (5, [vR 1, none, none], [], (H1x56 s o e0 (0:Int32)))) rfl ?_
 refine zS Ad W 2 (st' := (7, [vR 1, vI (0:Int32), none], [], (H1x56 s o e0 (0:Int32)))) rfl ?_
 have E374 : ((H1x56 s o e0 (0:Int32)) : QHeap) = (H1 s (s_nakLen o (0:Int32)) e0) := by simp only [fs, H1, H1v, H1x56, s_nakLen]
 rw [E374]
 obtain ⟨e403, he403, h⟩ := bind_eq_some_iff.mp h
 refine zM [tt,tt,ff] (loopN_tri (B := B9_7) (T := fun lv404 => QTri l Z n0 ad 9 (7, [vR 1, vI lv404.1, none], [], (H1 s lv404.2 e0)) (none : Option Value) (H1 s r e0)) (KE := fun e403a => (none : Option Value) = (none : Option Value) ∧ (H1 s r e0) = (H1 s e403a e0)) (fun lv404 r hB hE hC => tB9_7 Ad W s e0 lv404 hB (fun x q => hE _ q) (fun x q => hC x q)) qN ((0:Int32), (s_nakLen o (0:Int32))) e403 he403 ?_)
 obtain rfl := Option.some.inj h
 exact ⟨rfl, rfl⟩
def H1x59 (s : List Int32) (o0 o1 : Ob) (a0_1 : List Int32) (a0_2 : List Int32) : QHeap := H1v s (f_srcPayload o0) a0_1 a0_2 (f_stats o0) (f_state o0) (f_timer o0) (f_rxVal o0) (f_rxNext o0) (f_rxLead o0) (f_rxTrail o0) (f_lossLeft o0) (f_dups o0) (f_drops o0) (f_delSeq o0) (f_delVal o0) (f_delLen o0) (f_lostLog o0) (f_lostLen o0) (f_nakBuf o0) (f_win o0) (f_back o0) (f_repair o0) (f_period o0) (f_nextSeq o0) (f_qLen o0) (f_nakLen o0) (f_srcPayload o1) (f_pend o1) (f_queue o1) (f_stats o1) (f_state o1) (f_timer o1) (f_rxVal o1) (f_rxNext o1) (f_rxLead o1) (f_rxTrail o1) (f_lossLeft o1) (f_dups o1) (f_drops o1) (f_delSeq o1) (f_delVal o1) (f_delLen o1) (f_lostLog o1) (f_lostLen o1) (f_nakBuf o1) (f_win o1) (f_back o1) (f_repair o1) (f_period o1) (f_nextSeq o1) (f_qLen o1) (f_nakLen o1)
def H1x60 (s : List Int32) (o0 o1 : Ob) (a0_1 : List Int32) (a0_2 : List Int32) (a0_24 : Int32) : QHeap := H1v s (f_srcPayload o0) a0_1 a0_2 (f_stats o0) (f_state o0) (f_timer o0) (f_rxVal o0) (f_rxNext o0) (f_rxLead o0) (f_rxTrail o0) (f_lossLeft o0) (f_dups o0) (f_drops o0) (f_delSeq o0) (f_delVal o0) (f_delLen o0) (f_lostLog o0) (f_lostLen o0) (f_nakBuf o0) (f_win o0) (f_back o0) (f_repair o0) (f_period o0) (f_nextSeq o0) a0_24 (f_nakLen o0) (f_srcPayload o1) (f_pend o1) (f_queue o1) (f_stats o1) (f_state o1) (f_timer o1) (f_rxVal o1) (f_rxNext o1) (f_rxLead o1) (f_rxTrail o1) (f_lossLeft o1) (f_dups o1) (f_drops o1) (f_delSeq o1) (f_delVal o1) (f_delLen o1) (f_lostLog o1) (f_lostLen o1) (f_nakBuf o1) (f_win o1) (f_back o1) (f_repair o1) (f_period o1) (f_nextSeq o1) (f_qLen o1) (f_nakLen o1)
def B27_2 (x1 : Int32) (v : Int32 × Ob) : Option (((Ob)) ⊕ (Int32 × Ob)) :=
  (if v.1 < (4 : Int32) then (F16 v.2 v.1 (3 : Int32) x1 (0 : Int32) (0 : Int32) (0 : Int32)).bind fun r422 => some (.inr ((v.1 + (1 : Int32)), r422)) else some (.inl v.2))
theorem tB27_2 (Ad : QAd n0 ad) (W : QW Z a0) (s : List Int32) (e0 : Ob) (x1 : Int32) (v : Int32 × Ob) {r : ((Ob)) ⊕ (Int32 × Ob)} {u : Option Value} {τ : QHeap} (h : B27_2 x1 v = some r) (hx0 : ∀ x : Ob, r = .inl x → u = (none : Option Value) ∧ τ = (H1 s x e0)) (hc : ∀ x : Int32 × Ob, r = .inr x → QTri l Z n0 ad 27 (2, [vR 1, vI x1, vI x.1], [], (H1 s x.2 e0)) u τ) : QTri l Z n0 ad 27 (2, [vR 1, vI x1, vI v.1], [], (H1 s v.2 e0)) u τ := by
 unfold B27_2 at h
 refine zS Ad W 2 (st' := (4, [vR 1, vI x1, vI v.1], [.int (4:Int32), .int v.1], (H1 s v.2 e0))) rfl ?_
 rcases qite h with ⟨hc421, h⟩ | ⟨hc421, h⟩
 ·refine zF Ad W (t := 23) (f := 7) rfl (XT.ii_ge_f hc421) ?_
  refine zS Ad W 7 (st' := (14, [vR 1, vI x1, vI v.1], [.int (0:Int32), .int (0:Int32), .int (0:Int32), .int x1, .int (3:Int32), .int v.1, .ref 1], (H1 s v.2 e0))) rfl ?_
  obtain ⟨r422, hr422, h⟩ := bind_eq_some_iff.mp h
  refine QTri.callP W (a := 1) (as := [.int v.1, .int (3:Int32), .int x1, .int (0:Int32), .int (0:Int32), .int (0:Int32)]) (rest := []) (w := none) (σ₁ := (H1 s r422 e0)) rfl rfl rfl rfl rfl rfl rfl rfl (tF16a1 Ad W s e0 v.2 v.1 (3:Int32) x1 (0:Int32) (0:Int32) (0:Int32) hr422) ?_
  refine zS Ad W 2 (st' := (2, [vR 1, vI x1, vI (v.1 + (1:Int32))], [], (H1 s r422 e0))) rfl ?_
  obtain rfl := Option.some.inj h
  exact zM [tt,tt,tt] (hc ((v.1 + (1:Int32)), r422) rfl)
 ·refine zT Ad W (t := 23) (f := 7) rfl (XT.ii_ge_t hc421) ?_
  obtain rfl := Option.some.inj h
  obtain ⟨rfl, rfl⟩ := hx0 v.2 rfl
  exact QTri.ret0 rfl rfl
/-- multicastNcf(I)V -/
def F27 (o : Ob) (x1 : Int32) : Option (Ob) :=
 (loopN (B27_2 x1) qN ((0:Int32), o)).bind fun e423 => some e423
theorem tF27 (Ad : QAd n0 ad) (W : QW Z a0) (s : List Int32) (e0 : Ob) (o : Ob) (x1 : Int32) {r : Ob} (h : F27 o x1 = some r) : QTri l Z n0 ad 27 (0, qentry [.ref 1, .int x1] (pMaxL 27), [], (H1 s o e0)) (none : Option Value) (H1 s r e0) := by
 unfold F27 at h
 refine zS Ad W 2 (st' := (2, [vR 1, vI x1, vI (0:Int32)], [], (H1 s o e0))) rfl ?_
 obtain ⟨e423, he423, h⟩ := bind_eq_some_iff.mp h
 refine zM [tt,tt,tt] (loopN_tri (B := B27_2 x1) (T := fun lv424 => QTri l Z n0 ad 27 (2, [vR 1, vI x1, vI lv424.1], [], (H1 s lv424.2 e0)) (none : Option Value) (H1 s r e0)) (KE := fun e423a => (none : Option Value) = (none : Option Value) ∧ (H1 s r e0) = (H1 s e423a e0)) (fun lv424 r hB hE hC => tB27_2 Ad W s e0 x1 lv424 hB (fun x q => hE _ q) (fun x q => hC x q)) qN ((0:Int32), o) e423 he423 ?_)
 obtain rfl := Option.some.inj h
 exact ⟨rfl, rfl⟩
def J26_78 (o : Ob) (x1 : Int32) : Option (Ob) :=
  (F27 o x1).bind fun r425 => (aget (f_stats r425) (7 : Int32)).bind fun y426 => (aset (f_stats r425) (7 : Int32) (y426 + (1 : Int32))).bind fun y427 => some (s_stats r425 y427)
theorem tJ26_78 (Ad : QAd n0 ad) (W : QW Z a0) (s : List Int32) (e0 : Ob) (o : Ob) (x1 : Int32) {r : Ob} (h : J26_78 o x1 = some r) : QTri l Z n0 ad 26 (78, [vR 1, vI x1], [], (H1 s o e0)) (none : Option Value) (H1 s r e0) := by
 unfold J26_78 at h
 refine zS Ad W 2 (st' := (80, [vR 1, vI x1], [.int x1, .ref 1], (H1 s o e0))) rfl ?_
 obtain ⟨r425, hr425, h⟩ := bind_eq_some_iff.mp h
 refine QTri.callP W (a := 1) (as := [.int x1]) (rest := []) (w := none) (σ₁ := (H1 s r425 e0)) rfl rfl rfl rfl rfl rfl rfl rfl (tF27 Ad W s e0 o x1 hr425) ?_
 refine zS Ad W 4 (st' := (90, [vR 1, vI x1], [.int (7:Int32), .ref 5, .int (7:Int32), .ref 5], (H1 s r425 e0))) rfl ?_
 obtain ⟨y426, hy426, h⟩ := bind_eq_some_iff.mp h
 refine zB Ad W (f := fun y426 => (91, [vR 1, vI x1], [.int y426, .int (7:Int32), .ref 5], (H1 s r425 e0))) rfl hy426 ?_
 refine zS Ad W 2 (st' := (93, [vR 1, vI x1], [.int (y426 + (1:Int32)), .int (7:Int32), .ref 5], (H1 s r425 e0))) rfl ?_
 obtain ⟨y427, hy427, h⟩ := bind_eq_some_iff.mp h
 refine zB Ad W (f := fun y427 => (94, [vR 1, vI x1], [], (H1x53 s r425 e0 y427))) rfl hy427 ?_
 have E428 : ((H1x53 s r425 e0 y427) : QHeap) = (H1 s (s_stats r425 y427) e0) := by simp only [fs, H1, H1v, H1x53, s_stats]
 rw [E428]
 obtain rfl := Option.some.inj h
 exact QTri.ret0 rfl rfl
def J26_68 (o : Ob) (x1 : Int32) : Option (Ob) :=
  (aget (f_stats o) (5 : Int32)).bind fun y418 => (aset (f_stats o) (5 : Int32) (y418 + (1 : Int32))).bind fun y419 => (J26_78 (s_stats o y419) x1)
theorem tJ26_68 (Ad : QAd n0 ad) (W : QW Z a0) (s : List Int32) (e0 : Ob) (o : Ob) (x1 : Int32) {r : Ob} (h : J26_68 o x1 = some r) : QTri l Z n0 ad 26 (68, [vR 1, vI x1], [], (H1 s o e0)) (none : Option Value) (H1 s r e0) := by
 unfold J26_68 at h
 refine zS Ad W 4 (st' := (74, [vR 1, vI x1], [.int (5:Int32), .ref 5, .int (5:Int32), .ref 5], (H1 s o e0))) rfl ?_
 obtain ⟨y418, hy418, h⟩ := bind_eq_some_iff.mp h
 refine zB Ad W (f := fun y418 => (75, [vR 1, vI x1], [.int y418, .int (5:Int32), .ref 5], (H1 s o e0))) rfl hy418 ?_
 refine zS Ad W 2 (st' := (77, [vR 1, vI x1], [.int (y418 + (1:Int32)), .int (5:Int32), .ref 5], (H1 s o e0))) rfl ?_
 obtain ⟨y419, hy419, h⟩ := bind_eq_some_iff.mp h
 refine zB Ad W (f := fun y419 => (78, [vR 1, vI x1], [], (H1x53 s o e0 y419))) rfl hy419 ?_
 have E420 : ((H1x53 s o e0 y419) : QHeap) = (H1 s (s_stats o y419) e0) := by simp only [fs, H1, H1v, H1x53, s_stats]
 rw [E420]
 exact zM [tt,tt] (tJ26_78 Ad W s e0 (s_stats o y419) x1 h)
/-- handleNak(I)V -/
def F26 (o : Ob) (x1 : Int32) : Option (Ob) :=
 (F18 x1).bind fun r410 => (if r410 = (0:Int32) then some o else (aget (f_pend o) x1).bind fun y412 => (if y412 = (0:Int32) then (aset (f_pend o) x1 (1:Int32)).bind fun y414 => (if (f_qLen o) < (64:Int32) then (aset (f_queue o) (f_qLen o) x1).bind fun y416 => (J26_68 (s_qLen (s_queue (s_pend o y414) y416) ((f_qLen o) + (1:Int32))) x1) else (J26_68 (s_pend o y414) x1)) else (aget (f_stats o) (6:Int32)).bind fun y430 => (aset (f_stats o) (6:Int32) (y430 + (1:Int32))).bind fun y431 => (J26_78 (s_stats o y431) x1)))
theorem tF26 (Ad : QAd n0 ad) (W : QW Z a0) (s : List Int32) (e0 : Ob) (o : Ob) (x1 : Int32) {r : Ob} (h : F26 o x1 = some r) : QTri l Z n0 ad 26 (0, qentry [.ref 1, .int x1] (pMaxL 26), [], (H1 s o e0)) (none : Option Value) (H1 s r e0) := by
 unfold F26 at h
 refine zS Ad W 2 (st' := (2, [vR 1, vI x1], [.int x1, .ref 1], (H1 s o e0))) rfl ?_
 obtain ⟨r410, hr410, h⟩ := bind_eq_some_iff.mp h
 refine QTri.callP W (a := 1) (as := [.int x1]) (rest := []) (w := (some (.int r410))) (σ₁ := (H1 s o e0)) rfl rfl rfl rfl rfl rfl rfl rfl (tF18 Ad W x1 hr410) ?_
 rcases qite h with ⟨hc411, h⟩ | ⟨hc411, h⟩
 ·refine zF Ad W (t := 9) (f := 8) rfl (XT.i0_ne_f hc411) ?_
  obtain rfl := Option.some.inj h
  exact QTri.ret0 rfl rfl
 ·refine zT Ad W (t := 9) (f := 8) rfl (XT.i0_ne_t hc411) ?_
  refine zS Ad W 3 (st' := (14, [vR 1, vI x1], [.int x1, .ref 3], (H1 s o e0))) rfl ?_
  obtain ⟨y412, hy412, h⟩ := bind_eq_some_iff.mp h
  refine zB Ad W (f := fun y412 => (15, [vR 1, vI x1], [.int y412], (H1 s o e0))) rfl hy412 ?_
  rcases qite h with ⟨hc413, h⟩ | ⟨hc413, h⟩
  ·refine zT Ad W (t := 32) (f := 18) rfl (XT.i0_eq_t hc413) ?_
   refine zS Ad W 4 (st' := (38, [vR 1, vI x1], [.int (1:Int32), .int x1, .ref 3], (H1 s o e0))) rfl ?_
   obtain ⟨y414, hy414, h⟩ := bind_eq_some_iff.mp h
   refine zB Ad W (f := fun y414 => (39, [vR 1, vI x1], [], (H1x35 s o e0 y414))) rfl hy414 ?_
   refine zS Ad W 3 (st' := (45, [vR 1, vI x1], [.int (64:Int32), .int (f_qLen o)], (H1x35 s o e0 y414))) rfl ?_
   rcases qite h with ⟨hc415, h⟩ | ⟨hc415, h⟩
   ·refine zF Ad W (t := 68) (f := 48) rfl (XT.ii_ge_f hc415) ?_
    refine zS Ad W 5 (st' := (57, [vR 1, vI x1], [.int x1, .int (f_qLen o), .ref 4], (H1x35 s o e0 y414))) rfl ?_
    obtain ⟨y416, hy416, h⟩ := bind_eq_some_iff.mp h
    refine zB Ad W (f := fun y416 => (58, [vR 1, vI x1], [], (H1x59 s o e0 y414 y416))) rfl hy416 ?_
    refine zS Ad W 6 (st' := (68, [vR 1, vI x1], [], (H1x60 s o e0 y414 y416 ((f_qLen o) + (1:Int32))))) rfl ?_
    have E417 : ((H1x60 s o e0 y414 y416 ((f_qLen o) + (1:Int32))) : QHeap) = (H1 s (s_qLen (s_queue (s_pend o y414) y416) ((f_qLen o) + (1:Int32))) e0) := by simp only [fs, H1, H1v, H1x60, s_pend, s_queue, s_qLen]
    rw [E417]
    exact zM [tt,tt] (tJ26_68 Ad W s e0 (s_qLen (s_queue (s_pend o y414) y416) ((f_qLen o) + (1:Int32))) x1 h)
   ·refine zT Ad W (t := 68) (f := 48) rfl (XT.ii_ge_t hc415) ?_
    have E429 : ((H1x35 s o e0 y414) : QHeap) = (H1 s (s_pend o y414) e0) := by simp only [fs, H1, H1v, H1x35, s_pend]
    rw [E429]
    exact zM [tt,tt] (tJ26_68 Ad W s e0 (s_pend o y414) x1 h)
  ·refine zF Ad W (t := 32) (f := 18) rfl (XT.i0_eq_f hc413) ?_
   refine zS Ad W 4 (st' := (25, [vR 1, vI x1], [.int (6:Int32), .ref 5, .int (6:Int32), .ref 5], (H1 s o e0))) rfl ?_
   obtain ⟨y430, hy430, h⟩ := bind_eq_some_iff.mp h
   refine zB Ad W (f := fun y430 => (26, [vR 1, vI x1], [.int y430, .int (6:Int32), .ref 5], (H1 s o e0))) rfl hy430 ?_
   refine zS Ad W 2 (st' := (28, [vR 1, vI x1], [.int (y430 + (1:Int32)), .int (6:Int32), .ref 5], (H1 s o e0))) rfl ?_
   obtain ⟨y431, hy431, h⟩ := bind_eq_some_iff.mp h
   refine zB Ad W (f := fun y431 => (29, [vR 1, vI x1], [], (H1x53 s o e0 y431))) rfl hy431 ?_
   refine zS Ad W 1 (st' := (78, [vR 1, vI x1], [], (H1x53 s o e0 y431))) rfl ?_
   have E432 : ((H1x53 s o e0 y431) : QHeap) = (H1 s (s_stats o y431) e0) := by simp only [fs, H1, H1v, H1x53, s_stats]
   rw [E432]
   exact zM [tt,tt] (tJ26_78 Ad W s e0 (s_stats o y431) x1 h)
def J12_38 (o : Ob) : Option (((Ob)) ⊕ (Int32 × Ob)) :=
  some (.inl (s_nakLen o (0 : Int32)))
theorem tJ12_38 (Ad : QAd n0 ad) (W : QW Z a0) (s : List Int32) (e0 : Ob) (o : Ob) {r : ((Ob)) ⊕ (Int32 × Ob)} {u : Option Value} {τ : QHeap} (h : J12_38 o = some r) (hx0 : ∀ x : Ob, r = .inl x → u = (none : Option Value) ∧ τ = (H1 s x e0)) (hc : ∀ x : Int32 × Ob, r = .inr x → QTri l Z n0 ad 12 (2, [vR 1, vI x.1, none], [], (H1 s x.2 e0)) u τ) : QTri l Z n0 ad 12 (38, [vR 1, none, none], [], (H1 s o e0)) u τ := by
 unfold J12_38 at h
 refine zS Ad W 3 (st' := (43, [vR 1, none, none], [], (H1x56 s o e0 (0:Int32)))) rfl ?_
 have E434 : ((H1x56 s o e0 (0:Int32)) : QHeap) = (H1 s (s_nakLen o (0:Int32)) e0) := by simp only [fs, H1, H1v, H1x56, s_nakLen]
 rw [E434]
 obtain rfl := Option.some.inj h
 obtain ⟨rfl, rfl⟩ := hx0 (s_nakLen o (0:Int32)) rfl
 exact QTri.ret0 rfl rfl
def B12_2 (v : Int32 × Ob) : Option (((Ob)) ⊕ (Int32 × Ob)) :=
  (if v.1 < (f_nakLen v.2) then (if v.1 < (128 : Int32) then (aget (f_nakBuf v.2) v.1).bind fun y408 => (F26 v.2 (y408 % (32 : Int32))).bind fun r433 => some (.inr ((v.1 + (1 : Int32)), r433)) else (J12_38 v.2)) else (J12_38 v.2))
theorem tB12_2 (Ad : QAd n0 ad) (W : QW Z a0) (s : List Int32) (e0 : Ob) (v : Int32 × Ob) {r : ((Ob)) ⊕ (Int32 × Ob)} {u : Option Value} {τ : QHeap} (h : B12_2 v = some r) (hx0 : ∀ x : Ob, r = .inl x → u = (none : Option Value) ∧ τ = (H1 s x e0)) (hc : ∀ x : Int32 × Ob, r = .inr x → QTri l Z n0 ad 12 (2, [vR 1, vI x.1, none], [], (H1 s x.2 e0)) u τ) : QTri l Z n0 ad 12 (2, [vR 1, vI v.1, none], [], (H1 s v.2 e0)) u τ := by
 unfold B12_2 at h
 refine zS Ad W 3 (st' := (7, [vR 1, vI v.1, none], [.int (f_nakLen v.2), .int v.1], (H1 s v.2 e0))) rfl ?_
 rcases qite h with ⟨hc406, h⟩ | ⟨hc406, h⟩
 ·refine zF Ad W (t := 38) (f := 10) rfl (XT.ii_ge_f hc406) ?_
  refine zS Ad W 2 (st' := (14, [vR 1, vI v.1, none], [.int (128:Int32), .int v.1], (H1 s v.2 e0))) rfl ?_
  rcases qite h with ⟨hc407, h⟩ | ⟨hc407, h⟩
  ·refine zF Ad W (t := 38) (f := 17) rfl (XT.ii_ge_f hc407) ?_
   refine zS Ad W 3 (st' := (22, [vR 1, vI v.1, none], [.int v.1, .ref 20], (H1 s v.2 e0))) rfl ?_
   obtain ⟨y408, hy408, h⟩ := bind_eq_some_iff.mp h
   refine zB Ad W (f := fun y408 => (23, [vR 1, vI v.1, none], [.int y408], (H1 s v.2 e0))) rfl hy408 ?_
   refine zS Ad W 5 (st' := (29, [vR 1, vI v.1, vI (y408 % (32:Int32))], [.int (y408 % (32:Int32)), .ref 1], (H1 s v.2 e0))) rfl ?_
   obtain ⟨r433, hr433, h⟩ := bind_eq_some_iff.mp h
   refine QTri.callP W (a := 1) (as := [.int (y408 % (32:Int32))]) (rest := []) (w := none) (σ₁ := (H1 s r433 e0)) rfl rfl rfl rfl rfl rfl rfl rfl (tF26 Ad W s e0 v.2 (y408 % (32:Int32)) hr433) ?_
   refine zS Ad W 2 (st' := (2, [vR 1, vI (v.1 + (1:Int32)), vI (y408 % (32:Int32))], [], (H1 s r433 e0))) rfl ?_
   obtain rfl := Option.some.inj h
   exact zM [tt,tt,ff] (hc ((v.1 + (1:Int32)), r433) rfl)
  ·refine zT Ad W (t := 38) (f := 17) rfl (XT.ii_ge_t hc407) ?_
   exact zM [tt,ff,ff] (tJ12_38 Ad W s e0 v.2 h hx0 hc)
 ·refine zT Ad W (t := 38) (f := 10) rfl (XT.ii_ge_t hc406) ?_
  exact zM [tt,ff,ff] (tJ12_38 Ad W s e0 v.2 h hx0 hc)
/-- handleNaks()V -/
def F12 (o : Ob) : Option (Ob) :=
 (loopN (B12_2) qN ((0:Int32), o)).bind fun e435 => some e435
theorem tF12 (Ad : QAd n0 ad) (W : QW Z a0) (s : List Int32) (e0 : Ob) (o : Ob) {r : Ob} (h : F12 o = some r) : QTri l Z n0 ad 12 (0, qentry [.ref 1] (pMaxL 12), [], (H1 s o e0)) (none : Option Value) (H1 s r e0) := by
 unfold F12 at h
 refine zS Ad W 2 (st' := (2, [vR 1, vI (0:Int32), none], [], (H1 s o e0))) rfl ?_
 obtain ⟨e435, he435, h⟩ := bind_eq_some_iff.mp h
 refine zM [tt,tt,ff] (loopN_tri (B := B12_2) (T := fun lv436 => QTri l Z n0 ad 12 (2, [vR 1, vI lv436.1, none], [], (H1 s lv436.2 e0)) (none : Option Value) (H1 s r e0)) (KE := fun e435a => (none : Option Value) = (none : Option Value) ∧ (H1 s r e0) = (H1 s e435a e0)) (fun lv436 r hB hE hC => tB12_2 Ad W s e0 lv436 hB (fun x q => hE _ q) (fun x q => hC x q)) qN ((0:Int32), o) e435 he435 ?_)
 obtain rfl := Option.some.inj h
 exact ⟨rfl, rfl⟩
def J6_52 (o : Ob) : Option (Ob) :=
  (F9 o).bind fun r405 => (F12 r405).bind fun r437 => some r437
theorem tJ6_52 (Ad : QAd n0 ad) (W : QW Z a0) (s : List Int32) (e0 : Ob) (o : Ob) {r : Ob} (h : J6_52 o = some r) : QTri l Z n0 ad 6 (52, [vR 1], [], (H1 s o e0)) (none : Option Value) (H1 s r e0) := by
 unfold J6_52 at h
 refine zS Ad W 1 (st' := (53, [vR 1], [.ref 1], (H1 s o e0))) rfl ?_
 obtain ⟨r405, hr405, h⟩ := bind_eq_some_iff.mp h
 refine QTri.callP W (a := 1) (as := []) (rest := []) (w := none) (σ₁ := (H1 s r405 e0)) rfl rfl rfl rfl rfl rfl rfl rfl (tF9 Ad W s e0 o hr405) ?_
 refine zS Ad W 1 (st' := (57, [vR 1], [.ref 1], (H1 s r405 e0))) rfl ?_
 obtain ⟨r437, hr437, h⟩ := bind_eq_some_iff.mp h
 refine QTri.callP W (a := 1) (as := []) (rest := []) (w := none) (σ₁ := (H1 s r437 e0)) rfl rfl rfl rfl rfl rfl rfl rfl (tF12 Ad W s e0 r405 hr437) ?_
 obtain rfl := Option.some.inj h
 exact QTri.ret0 rfl rfl
/-- tick()V -/
def F6 (o : Ob) : Option (Ob) :=
 (aget (f_stats o) (0:Int32)).bind fun y343 => (aset (f_stats o) (0:Int32) (y343 + (1:Int32))).bind fun y344 => (F7 (s_stats o y344)).bind fun r365 => (if (0:Int32) < (f_period r365) then (aget (f_stats r365) (0:Int32)).bind fun y367 => (qrem y367 (f_period r365)).bind fun y368 => (if y368 = (0:Int32) then (aget (f_stats r365) (3:Int32)).bind fun y370 => (aset (f_stats r365) (3:Int32) (y370 + (1:Int32))).bind fun y371 => (F13 (s_stats r365 y371) (2:Int32) (0:Int32) (0:Int32)).bind fun r373 => (J6_52 r373) else (J6_52 r365)) else (J6_52 r365))
theorem tF6 (Ad : QAd n0 ad) (W : QW Z a0) (s : List Int32) (e0 : Ob) (o : Ob) {r : Ob} (h : F6 o = some r) : QTri l Z n0 ad 6 (0, qentry [.ref 1] (pMaxL 6), [], (H1 s o e0)) (none : Option Value) (H1 s r e0) := by
 unfold F6 at h
 refine zS Ad W 4 (st' := (6, [vR 1], [.int (0:Int32), .ref 5, .int (0:Int32), .ref 5], (H1 s o e0))) rfl ?_
 obtain ⟨y343, hy343, h⟩ := bind_eq_some_iff.mp h
 refine zB Ad W (f := fun y343 => (7, [vR 1], [.int y343, .int (0:Int32), .ref 5], (H1 s o e0))) rfl hy343 ?_
 refine zS Ad W 2 (st' := (9, [vR 1], [.int (y343 + (1:Int32)), .int (0:Int32), .ref 5], (H1 s o e0))) rfl ?_
 obtain ⟨y344, hy344, h⟩ := bind_eq_some_iff.mp h
 refine zB Ad W (f := fun y344 => (10, [vR 1], [], (H1x53 s o e0 y344))) rfl hy344 ?_
 refine zS Ad W 1 (st' := (11, [vR 1], [.ref 1], (H1x53 s o e0 y344))) rfl ?_
 have E345 : ((H1x53 s o e0 y344) : QHeap) = (H1 s (s_stats o y344) e0) := by simp only [fs, H1, H1v, H1x53, s_stats]
 rw [E345]
 obtain ⟨r365, hr365, h⟩ := bind_eq_some_iff.mp h
 refine QTri.callP W (a := 1) (as := []) (rest := []) (w := none) (σ₁ := (H1 s r365 e0)) rfl rfl rfl rfl rfl rfl rfl rfl (tF7 Ad W s e0 (s_stats o y344) hr365) ?_
 refine zS Ad W 2 (st' := (18, [vR 1], [.int (f_period r365)], (H1 s r365 e0))) rfl ?_
 rcases qite h with ⟨hc366, h⟩ | ⟨hc366, h⟩
 ·refine zF Ad W (t := 52) (f := 21) rfl (XT.i0_le_f hc366) ?_
  refine zS Ad W 3 (st' := (26, [vR 1], [.int (0:Int32), .ref 5], (H1 s r365 e0))) rfl ?_
  obtain ⟨y367, hy367, h⟩ := bind_eq_some_iff.mp h
  refine zB Ad W (f := fun y367 => (27, [vR 1], [.int y367], (H1 s r365 e0))) rfl hy367 ?_
  refine zS Ad W 2 (st' := (31, [vR 1], [.int (f_period r365), .int y367], (H1 s r365 e0))) rfl ?_
  obtain ⟨y368, hy368, h⟩ := bind_eq_some_iff.mp h
  refine zB Ad W (f := fun y368 => (32, [vR 1], [.int y368], (H1 s r365 e0))) rfl hy368 ?_
  rcases qite h with ⟨hc369, h⟩ | ⟨hc369, h⟩
  ·refine zF Ad W (t := 52) (f := 35) rfl (XT.i0_ne_f hc369) ?_
   refine zS Ad W 4 (st' := (41, [vR 1], [.int (3:Int32), .ref 5, .int (3:Int32), .ref 5], (H1 s r365 e0))) rfl ?_
   obtain ⟨y370, hy370, h⟩ := bind_eq_some_iff.mp h
   refine zB Ad W (f := fun y370 => (42, [vR 1], [.int y370, .int (3:Int32), .ref 5], (H1 s r365 e0))) rfl hy370 ?_
   refine zS Ad W 2 (st' := (44, [vR 1], [.int (y370 + (1:Int32)), .int (3:Int32), .ref 5], (H1 s r365 e0))) rfl ?_
   obtain ⟨y371, hy371, h⟩ := bind_eq_some_iff.mp h
   refine zB Ad W (f := fun y371 => (45, [vR 1], [], (H1x53 s r365 e0 y371))) rfl hy371 ?_
   refine zS Ad W 4 (st' := (49, [vR 1], [.int (0:Int32), .int (0:Int32), .int (2:Int32), .ref 1], (H1x53 s r365 e0 y371))) rfl ?_
   have E372 : ((H1x53 s r365 e0 y371) : QHeap) = (H1 s (s_stats r365 y371) e0) := by simp only [fs, H1, H1v, H1x53, s_stats]
   rw [E372]
   obtain ⟨r373, hr373, h⟩ := bind_eq_some_iff.mp h
   refine QTri.callP W (a := 1) (as := [.int (2:Int32), .int (0:Int32), .int (0:Int32)]) (rest := []) (w := none) (σ₁ := (H1 s r373 e0)) rfl rfl rfl rfl rfl rfl rfl rfl (tF13a1 Ad W s e0 (s_stats r365 y371) (2:Int32) (0:Int32) (0:Int32) hr373) ?_
   exact zM [tt] (tJ6_52 Ad W s e0 r373 h)
  ·refine zT Ad W (t := 52) (f := 35) rfl (XT.i0_ne_t hc369) ?_
   exact zM [tt] (tJ6_52 Ad W s e0 r365 h)
 ·refine zT Ad W (t := 52) (f := 21) rfl (XT.i0_le_t hc366) ?_
  exact zM [tt] (tJ6_52 Ad W s e0 r365 h)
theorem tJ7_90a1 (Ad : QAd n0 ad) (W : QW Z a0) (s : List Int32) (e0 : Ob) (o : Ob) (x1 : Int32) (x2 : Int32) {r : ((Ob)) ⊕ (Int32 × Ob)} {u : Option Value} {τ : QHeap} (h : J7_90 o x1 x2 = some r) (hx0 : ∀ x : Ob, r = .inl x → u = (none : Option Value) ∧ τ = (H1 s e0 x)) (hc : ∀ x : Int32 × Ob, r = .inr x → QTri l Z n0 ad 7 (7, [vR 21, vI x1, vI x.1, none, none], [], (H1 s e0 x.2)) u τ) : QTri l Z n0 ad 7 (90, [vR 21, vI x1, vI x2, none, none], [], (H1 s e0 o)) u τ := by
 unfold J7_90 at h
 refine zS Ad W 2 (st' := (7, [vR 21, vI x1, vI (x2 + (1:Int32)), none, none], [], (H1 s e0 o))) rfl ?_
 obtain rfl := Option.some.inj h
 exact zM [tt,tt,tt,ff,ff] (hc ((x2 + (1:Int32)), o) rfl)
theorem tJ7_52a1 (Ad : QAd n0 ad) (W : QW Z a0) (s : List Int32) (e0 : Ob) (o : Ob) (x1 : Int32) (x2 : Int32) (x3 : Int32) (x4 : Int32) {r : ((Ob)) ⊕ (Int32 × Ob)} {u : Option Value} {τ : QHeap} (h : J7_52 o x1 x2 x3 x4 = some r) (hx0 : ∀ x : Ob, r = .inl x → u = (none : Option Value) ∧ τ = (H1 s e0 x)) (hc : ∀ x : Int32 × Ob, r = .inr x → QTri l Z n0 ad 7 (7, [vR 21, vI x1, vI x.1, none, none], [], (H1 s e0 x.2)) u τ) : QTri l Z n0 ad 7 (52, [vR 21, vI x1, vI x2, vI x3, vI x4], [], (H1 s e0 o)) u τ := by
 unfold J7_52 at h
 refine zS Ad W 4 (st' := (58, [vR 21, vI x1, vI x2, vI x3, vI x4], [.int (2:Int32), .ref 25, .int (2:Int32), .ref 25], (H1 s e0 o))) rfl ?_
 obtain ⟨y453, hy453, h⟩ := bind_eq_some_iff.mp h
 refine zB Ad W (f := fun y453 => (59, [vR 21, vI x1, vI x2, vI x3, vI x4], [.int y453, .int (2:Int32), .ref 25], (H1 s e0 o))) rfl hy453 ?_
 refine zS Ad W 2 (st' := (61, [vR 21, vI x1, vI x2, vI x3, vI x4], [.int (y453 + (1:Int32)), .int (2:Int32), .ref 25], (H1 s e0 o))) rfl ?_
 obtain ⟨y454, hy454, h⟩ := bind_eq_some_iff.mp h
 refine zB Ad W (f := fun y454 => (62, [vR 21, vI x1, vI x2, vI x3, vI x4], [], (H1x54 s e0 o y454))) rfl hy454 ?_
 refine zS Ad W 4 (st' := (67, [vR 21, vI x1, vI x2, vI x3, vI x4], [.int x4, .int x3, .int (1:Int32), .ref 21], (H1x54 s e0 o y454))) rfl ?_
 have E455 : ((H1x54 s e0 o y454) : QHeap) = (H1 s e0 (s_stats o y454)) := by simp only [fs, H1, H1v, H1x54, s_stats]
 rw [E455]
 obtain ⟨r456, hr456, h⟩ := bind_eq_some_iff.mp h
 refine QTri.callP W (a := 21) (as := [.int (1:Int32), .int x3, .int x4]) (rest := []) (w := none) (σ₁ := (H1 s e0 r456)) rfl rfl rfl rfl rfl rfl rfl rfl (tF13 Ad W s e0 (s_stats o y454) (1:Int32) x3 x4 hr456) ?_
 refine zS Ad W 1 (st' := (90, [vR 21, vI x1, vI x2, vI x3, vI x4], [], (H1 s e0 r456))) rfl ?_
 exact zM [tt,tt,tt,ff,ff] (tJ7_90a1 Ad W s e0 r456 x1 x2 h hx0 hc)
def H1x61 (s : List Int32) (o0 o1 : Ob) (a1_24 : Int32) : QHeap := H1v s (f_srcPayload o0) (f_pend o0) (f_queue o0) (f_stats o0) (f_state o0) (f_timer o0) (f_rxVal o0) (f_rxNext o0) (f_rxLead o0) (f_rxTrail o0) (f_lossLeft o0) (f_dups o0) (f_drops o0) (f_delSeq o0) (f_delVal o0) (f_delLen o0) (f_lostLog o0) (f_lostLen o0) (f_nakBuf o0) (f_win o0) (f_back o0) (f_repair o0) (f_period o0) (f_nextSeq o0) (f_qLen o0) (f_nakLen o0) (f_srcPayload o1) (f_pend o1) (f_queue o1) (f_stats o1) (f_state o1) (f_timer o1) (f_rxVal o1) (f_rxNext o1) (f_rxLead o1) (f_rxTrail o1) (f_lossLeft o1) (f_dups o1) (f_drops o1) (f_delSeq o1) (f_delVal o1) (f_delLen o1) (f_lostLog o1) (f_lostLen o1) (f_nakBuf o1) (f_win o1) (f_back o1) (f_repair o1) (f_period o1) (f_nextSeq o1) a1_24 (f_nakLen o1)
theorem tJ7_96a1 (Ad : QAd n0 ad) (W : QW Z a0) (s : List Int32) (e0 : Ob) (x1 : Int32) (o : Ob) {r : ((Ob)) ⊕ (Int32 × Ob)} {u : Option Value} {τ : QHeap} (h : J7_96 o = some r) (hx0 : ∀ x : Ob, r = .inl x → u = (none : Option Value) ∧ τ = (H1 s e0 x)) (hc : ∀ x : Int32 × Ob, r = .inr x → QTri l Z n0 ad 7 (7, [vR 21, vI x1, vI x.1, none, none], [], (H1 s e0 x.2)) u τ) : QTri l Z n0 ad 7 (96, [vR 21, none, none, none, none], [], (H1 s e0 o)) u τ := by
 unfold J7_96 at h
 refine zS Ad W 3 (st' := (101, [vR 21, none, none, none, none], [], (H1x61 s e0 o (0:Int32)))) rfl ?_
 have E458 : ((H1x61 s e0 o (0:Int32)) : QHeap) = (H1 s e0 (s_qLen o (0:Int32))) := by simp only [fs, H1, H1v, H1x61, s_qLen]
 rw [E458]
 obtain rfl := Option.some.inj h
 obtain ⟨rfl, rfl⟩ := hx0 (s_qLen o (0:Int32)) rfl
 exact QTri.ret0 rfl rfl
theorem tB7_7a1 (Ad : QAd n0 ad) (W : QW Z a0) (s : List Int32) (e0 : Ob) (x1 : Int32) (v : Int32 × Ob) {r : ((Ob)) ⊕ (Int32 × Ob)} {u : Option Value} {τ : QHeap} (h : B7_7 x1 v = some r) (hx0 : ∀ x : Ob, r = .inl x → u = (none : Option Value) ∧ τ = (H1 s e0 x)) (hc : ∀ x : Int32 × Ob, r = .inr x → QTri l Z n0 ad 7 (7, [vR 21, vI x1, vI x.1, none, none], [], (H1 s e0 x.2)) u τ) : QTri l Z n0 ad 7 (7, [vR 21, vI x1, vI v.1, none, none], [], (H1 s e0 v.2)) u τ := by
 unfold B7_7 at h
 refine zS Ad W 3 (st' := (12, [vR 21, vI x1, vI v.1, none, none], [.int (f_qLen v.2), .int v.1], (H1 s e0 v.2))) rfl ?_
 rcases qite h with ⟨hc443, h⟩ | ⟨hc443, h⟩
 ·refine zF Ad W (t := 96) (f := 15) rfl (XT.ii_ge_f hc443) ?_
  refine zS Ad W 2 (st' := (18, [vR 21, vI x1, vI v.1, none, none], [.int (64:Int32), .int v.1], (H1 s e0 v.2))) rfl ?_
  rcases qite h with ⟨hc444, h⟩ | ⟨hc444, h⟩
  ·refine zF Ad W (t := 96) (f := 21) rfl (XT.ii_ge_f hc444) ?_
   refine zS Ad W 3 (st' := (26, [vR 21, vI x1, vI v.1, none, none], [.int v.1, .ref 24], (H1 s e0 v.2))) rfl ?_
   obtain ⟨y445, hy445, h⟩ := bind_eq_some_iff.mp h
   refine zB Ad W (f := fun y445 => (27, [vR 21, vI x1, vI v.1, none, none], [.int y445], (H1 s e0 v.2))) rfl hy445 ?_
   refine zS Ad W 3 (st' := (30, [vR 21, vI x1, vI v.1, vI y445, none], [.int x1, .int y445], (H1 s e0 v.2))) rfl ?_
   rcases qite h with ⟨hc446, h⟩ | ⟨hc446, h⟩
   ·refine zT Ad W (t := 73) (f := 33) rfl (XT.ii_lt_t hc446) ?_
    refine zS Ad W 4 (st' := (79, [vR 21, vI x1, vI v.1, vI y445, none], [.int (3:Int32), .ref 25, .int (3:Int32), .ref 25], (H1 s e0 v.2))) rfl ?_
    obtain ⟨y447, hy447, h⟩ := bind_eq_some_iff.mp h
    refine zB Ad W (f := fun y447 => (80, [vR 21, vI x1, vI v.1, vI y445, none], [.int y447, .int (3:Int32), .ref 25], (H1 s e0 v.2))) rfl hy447 ?_
    refine zS Ad W 2 (st' := (82, [vR 21, vI x1, vI v.1, vI y445, none], [.int (y447 + (1:Int32)), .int (3:Int32), .ref 25], (H1 s e0 v.2))) rfl ?_
    obtain ⟨y448, hy448, h⟩ := bind_eq_some_iff.mp h
    refine zB Ad W (f := fun y448 => (83, [vR 21, vI x1, vI v.1, vI y445, none], [], (H1x54 s e0 v.2 y448))) rfl hy448 ?_
    refine zS Ad W 4 (st' := (87, [vR 21, vI x1, vI v.1, vI y445, none], [.int (0:Int32), .int (0:Int32), .int (2:Int32), .ref 21], (H1x54 s e0 v.2 y448))) rfl ?_
    have E449 : ((H1x54 s e0 v.2 y448) : QHeap) = (H1 s e0 (s_stats v.2 y448)) := by simp only [fs, H1, H1v, H1x54, s_stats]
    rw [E449]
    obtain ⟨r450, hr450, h⟩ := bind_eq_some_iff.mp h
    refine QTri.callP W (a := 21) (as := [.int (2:Int32), .int (0:Int32), .int (0:Int32)]) (rest := []) (w := none) (σ₁ := (H1 s e0 r450)) rfl rfl rfl rfl rfl rfl rfl rfl (tF13 Ad W s e0 (s_stats v.2 y448) (2:Int32) (0:Int32) (0:Int32) hr450) ?_
    exact zM [tt,tt,tt,ff,ff] (tJ7_90a1 Ad W s e0 r450 x1 v.1 h hx0 hc)
   ·refine zF Ad W (t := 73) (f := 33) rfl (XT.ii_lt_f hc446) ?_
    refine zS Ad W 4 (st' := (38, [vR 21, vI x1, vI v.1, vI y445, vI (0:Int32)], [.int y445, .ref 21], (H1 s e0 v.2))) rfl ?_
    obtain ⟨r451, hr451, h⟩ := bind_eq_some_iff.mp h
    refine QTri.callP W (a := 21) (as := [.int y445]) (rest := []) (w := (some (.int r451))) (σ₁ := (H1 s e0 v.2)) rfl rfl rfl rfl rfl rfl rfl rfl (tF18 Ad W y445 hr451) ?_
    rcases qite h with ⟨hc452, h⟩ | ⟨hc452, h⟩
    ·refine zT Ad W (t := 52) (f := 44) rfl (XT.i0_eq_t hc452) ?_
     exact zM [tt,tt,tt,tt,tt] (tJ7_52a1 Ad W s e0 v.2 x1 v.1 y445 (0:Int32) h hx0 hc)
    ·refine zF Ad W (t := 52) (f := 44) rfl (XT.i0_eq_f hc452) ?_
     refine zS Ad W 3 (st' := (49, [vR 21, vI x1, vI v.1, vI y445, vI (0:Int32)], [.int y445, .ref 22], (H1 s e0 v.2))) rfl ?_
     obtain ⟨y457, hy457, h⟩ := bind_eq_some_iff.mp h
     refine zB Ad W (f := fun y457 => (50, [vR 21, vI x1, vI v.1, vI y445, vI (0:Int32)], [.int y457], (H1 s e0 v.2))) rfl hy457 ?_
     refine zS Ad W 1 (st' := (52, [vR 21, vI x1, vI v.1, vI y445, vI y457], [], (H1 s e0 v.2))) rfl ?_
     exact zM [tt,tt,tt,tt,tt] (tJ7_52a1 Ad W s e0 v.2 x1 v.1 y445 y457 h hx0 hc)
  ·refine zT Ad W (t := 96) (f := 21) rfl (XT.ii_ge_t hc444) ?_
   exact zM [tt,ff,ff,ff,ff] (tJ7_96a1 Ad W s e0 x1 v.2 h hx0 hc)
 ·refine zT Ad W (t := 96) (f := 15) rfl (XT.ii_ge_t hc443) ?_
  exact zM [tt,ff,ff,ff,ff] (tJ7_96a1 Ad W s e0 x1 v.2 h hx0 hc)
theorem tF7a1 (Ad : QAd n0 ad) (W : QW Z a0) (s : List Int32) (e0 : Ob) (o : Ob) {r : Ob} (h : F7 o = some r) : QTri l Z n0 ad 7 (0, qentry [.ref 21] (pMaxL 7), [], (H1 s e0 o)) (none : Option Value) (H1 s e0 r) := by
 unfold F7 at h
 refine zS Ad W 1 (st' := (1, [vR 21, none, none, none, none], [.ref 21], (H1 s e0 o))) rfl ?_
 obtain ⟨r442, hr442, h⟩ := bind_eq_some_iff.mp h
 refine QTri.callP W (a := 21) (as := []) (rest := []) (w := (some (.int r442))) (σ₁ := (H1 s e0 o)) rfl rfl rfl rfl rfl rfl rfl rfl (tF8 Ad W s e0 o hr442) ?_
 refine zS Ad W 3 (st' := (7, [vR 21, vI r442, vI (0:Int32), none, none], [], (H1 s e0 o))) rfl ?_
 obtain ⟨e459, he459, h⟩ := bind_eq_some_iff.mp h
 refine zM [tt,tt,tt,ff,ff] (loopN_tri (B := B7_7 r442) (T := fun lv460 => QTri l Z n0 ad 7 (7, [vR 21, vI r442, vI lv460.1, none, none], [], (H1 s e0 lv460.2)) (none : Option Value) (H1 s e0 r)) (KE := fun e459a => (none : Option Value) = (none : Option Value) ∧ (H1 s e0 r) = (H1 s e0 e459a)) (fun lv460 r hB hE hC => tB7_7a1 Ad W s e0 r442 lv460 hB (fun x q => hE _ q) (fun x q => hC x q)) qN ((0:Int32), o) e459 he459 ?_)
 obtain rfl := Option.some.inj h
 exact ⟨rfl, rfl⟩
def H1x62 (s : List Int32) (o0 o1 : Ob) (a1_25 : Int32) : QHeap := H1v s (f_srcPayload o0) (f_pend o0) (f_queue o0) (f_stats o0) (f_state o0) (f_timer o0) (f_rxVal o0) (f_rxNext o0) (f_rxLead o0) (f_rxTrail o0) (f_lossLeft o0) (f_dups o0) (f_drops o0) (f_delSeq o0) (f_delVal o0) (f_delLen o0) (f_lostLog o0) (f_lostLen o0) (f_nakBuf o0) (f_win o0) (f_back o0) (f_repair o0) (f_period o0) (f_nextSeq o0) (f_qLen o0) (f_nakLen o0) (f_srcPayload o1) (f_pend o1) (f_queue o1) (f_stats o1) (f_state o1) (f_timer o1) (f_rxVal o1) (f_rxNext o1) (f_rxLead o1) (f_rxTrail o1) (f_lossLeft o1) (f_dups o1) (f_drops o1) (f_delSeq o1) (f_delVal o1) (f_delLen o1) (f_lostLog o1) (f_lostLen o1) (f_nakBuf o1) (f_win o1) (f_back o1) (f_repair o1) (f_period o1) (f_nextSeq o1) (f_qLen o1) a1_25
def H1x63 (s : List Int32) (o0 o1 : Ob) (a1_4 : List Int32) (a1_5 : List Int32) (a1_18 : List Int32) : QHeap := H1v s (f_srcPayload o0) (f_pend o0) (f_queue o0) (f_stats o0) (f_state o0) (f_timer o0) (f_rxVal o0) (f_rxNext o0) (f_rxLead o0) (f_rxTrail o0) (f_lossLeft o0) (f_dups o0) (f_drops o0) (f_delSeq o0) (f_delVal o0) (f_delLen o0) (f_lostLog o0) (f_lostLen o0) (f_nakBuf o0) (f_win o0) (f_back o0) (f_repair o0) (f_period o0) (f_nextSeq o0) (f_qLen o0) (f_nakLen o0) (f_srcPayload o1) (f_pend o1) (f_queue o1) (f_stats o1) a1_4 a1_5 (f_rxVal o1) (f_rxNext o1) (f_rxLead o1) (f_rxTrail o1) (f_lossLeft o1) (f_dups o1) (f_drops o1) (f_delSeq o1) (f_delVal o1) (f_delLen o1) (f_lostLog o1) (f_lostLen o1) a1_18 (f_win o1) (f_back o1) (f_repair o1) (f_period o1) (f_nextSeq o1) (f_qLen o1) (f_nakLen o1)
def H1x64 (s : List Int32) (o0 o1 : Ob) (a1_4 : List Int32) (a1_5 : List Int32) (a1_18 : List Int32) (a1_25 : Int32) : QHeap := H1v s (f_srcPayload o0) (f_pend o0) (f_queue o0) (f_stats o0) (f_state o0) (f_timer o0) (f_rxVal o0) (f_rxNext o0) (f_rxLead o0) (f_rxTrail o0) (f_lossLeft o0) (f_dups o0) (f_drops o0) (f_delSeq o0) (f_delVal o0) (f_delLen o0) (f_lostLog o0) (f_lostLen o0) (f_nakBuf o0) (f_win o0) (f_back o0) (f_repair o0) (f_period o0) (f_nextSeq o0) (f_qLen o0) (f_nakLen o0) (f_srcPayload o1) (f_pend o1) (f_queue o1) (f_stats o1) a1_4 a1_5 (f_rxVal o1) (f_rxNext o1) (f_rxLead o1) (f_rxTrail o1) (f_lossLeft o1) (f_dups o1) (f_drops o1) (f_delSeq o1) (f_delVal o1) (f_delLen o1) (f_lostLog o1) (f_lostLen o1) a1_18 (f_win o1) (f_back o1) (f_repair o1) (f_period o1) (f_nextSeq o1) (f_qLen o1) a1_25
theorem tJ10_102a1 (Ad : QAd n0 ad) (W : QW Z a0) (s : List Int32) (e0 : Ob) (o : Ob) {r : Ob} (h : J10_102 o = some r) : QTri l Z n0 ad 10 (102, [vR 21, none, none, none, none], [], (H1 s e0 o)) (none : Option Value) (H1 s e0 r) := by
 unfold J10_102 at h
 refine zS Ad W 4 (st' := (108, [vR 21, none, none, none, none], [.int (4:Int32), .ref 25, .int (4:Int32), .ref 25], (H1 s e0 o))) rfl ?_
 obtain ⟨y486, hy486, h⟩ := bind_eq_some_iff.mp h
 refine zB Ad W (f := fun y486 => (109, [vR 21, none, none, none, none], [.int y486, .int (4:Int32), .ref 25], (H1 s e0 o))) rfl hy486 ?_
 refine zS Ad W 2 (st' := (111, [vR 21, none, none, none, none], [.int (y486 + (1:Int32)), .int (4:Int32), .ref 25], (H1 s e0 o))) rfl ?_
 obtain ⟨y487, hy487, h⟩ := bind_eq_some_iff.mp h
 refine zB Ad W (f := fun y487 => (112, [vR 21, none, none, none, none], [], (H1x54 s e0 o y487))) rfl hy487 ?_
 refine zS Ad W 1 (st' := (133, [vR 21, none, none, none, none], [], (H1x54 s e0 o y487))) rfl ?_
 have E488 : ((H1x54 s e0 o y487) : QHeap) = (H1 s e0 (s_stats o y487)) := by simp only [fs, H1, H1v, H1x54, s_stats]
 rw [E488]
 obtain rfl := Option.some.inj h
 exact QTri.ret0 rfl rfl
theorem tF10a1 (Ad : QAd n0 ad) (W : QW Z a0) (s : List Int32) (e0 : Ob) (o : Ob) (x1 : Int32) (x2 : Int32) {r : Ob} (h : F10 o x1 x2 = some r) : QTri l Z n0 ad 10 (0, qentry [.ref 21, .int x1, .int x2] (pMaxL 10), [], (H1 s e0 o)) (none : Option Value) (H1 s e0 r) := by
 unfold F10 at h
 refine zS Ad W 9 (st' := (12, [vR 21, vI x1, vI x2, vI ((x1 * (32:Int32)) + x2), none], [.int ((x1 * (32:Int32)) + x2), .ref 26], (H1 s e0 o))) rfl ?_
 obtain ⟨y473, hy473, h⟩ := bind_eq_some_iff.mp h
 refine zB Ad W (f := fun y473 => (13, [vR 21, vI x1, vI x2, vI ((x1 * (32:Int32)) + x2), none], [.int y473], (H1 s e0 o))) rfl hy473 ?_
 refine zS Ad W 3 (st' := (18, [vR 21, vI x1, vI x2, vI ((x1 * (32:Int32)) + x2), vI y473], [.int y473, .ref 21], (H1 s e0 o))) rfl ?_
 obtain ⟨r474, hr474, h⟩ := bind_eq_some_iff.mp h
 refine QTri.callP W (a := 21) (as := [.int y473]) (rest := []) (w := (some (.int r474))) (σ₁ := (H1 s e0 o)) rfl rfl rfl rfl rfl rfl rfl rfl (tF11 Ad W y473 hr474) ?_
 rcases qite h with ⟨hc475, h⟩ | ⟨hc475, h⟩
 ·refine zF Ad W (t := 25) (f := 24) rfl (XT.i0_ne_f hc475) ?_
  obtain rfl := Option.some.inj h
  exact QTri.ret0 rfl rfl
 ·refine zT Ad W (t := 25) (f := 24) rfl (XT.i0_ne_t hc475) ?_
  refine zS Ad W 6 (st' := (35, [vR 21, vI x1, vI x2, vI ((x1 * (32:Int32)) + x2), vI y473], [.int ((x1 * (32:Int32)) + x2), .ref 27, .int ((x1 * (32:Int32)) + x2), .ref 27], (H1 s e0 o))) rfl ?_
  obtain ⟨y476, hy476, h⟩ := bind_eq_some_iff.mp h
  refine zB Ad W (f := fun y476 => (36, [vR 21, vI x1, vI x2, vI ((x1 * (32:Int32)) + x2), vI y473], [.int y476, .int ((x1 * (32:Int32)) + x2), .ref 27], (H1 s e0 o))) rfl hy476 ?_
  refine zS Ad W 2 (st' := (38, [vR 21, vI x1, vI x2, vI ((x1 * (32:Int32)) + x2), vI y473], [.int (y476 - (1:Int32)), .int ((x1 * (32:Int32)) + x2), .ref 27], (H1 s e0 o))) rfl ?_
  obtain ⟨y477, hy477, h⟩ := bind_eq_some_iff.mp h
  refine zB Ad W (f := fun y477 => (39, [vR 21, vI x1, vI x2, vI ((x1 * (32:Int32)) + x2), vI y473], [], (H1x20 s e0 o y477))) rfl hy477 ?_
  refine zS Ad W 3 (st' := (44, [vR 21, vI x1, vI x2, vI ((x1 * (32:Int32)) + x2), vI y473], [.int ((x1 * (32:Int32)) + x2), .ref 27], (H1x20 s e0 o y477))) rfl ?_
  obtain ⟨y478, hy478, h⟩ := bind_eq_some_iff.mp h
  refine zB Ad W (f := fun y478 => (45, [vR 21, vI x1, vI x2, vI ((x1 * (32:Int32)) + x2), vI y473], [.int y478], (H1x20 s e0 o y477))) rfl hy478 ?_
  rcases qite h with ⟨hc479, h⟩ | ⟨hc479, h⟩
  ·refine zT Ad W (t := 49) (f := 48) rfl (XT.i0_eq_t hc479) ?_
   refine zS Ad W 2 (st' := (52, [vR 21, vI x1, vI x2, vI ((x1 * (32:Int32)) + x2), vI y473], [.int (1:Int32), .int y473], (H1x20 s e0 o y477))) rfl ?_
   rcases qite h with ⟨hc480, h⟩ | ⟨hc480, h⟩
   ·refine zF Ad W (t := 115) (f := 55) rfl (XT.ii_ne_f hc480) ?_
    refine zS Ad W 4 (st' := (61, [vR 21, vI x1, vI x2, vI ((x1 * (32:Int32)) + x2), vI y473], [.int (2:Int32), .int ((x1 * (32:Int32)) + x2), .ref 26], (H1x20 s e0 o y477))) rfl ?_
    obtain ⟨y481, hy481, h⟩ := bind_eq_some_iff.mp h
    refine zB Ad W (f := fun y481 => (62, [vR 21, vI x1, vI x2, vI ((x1 * (32:Int32)) + x2), vI y473], [], (H1x22 s e0 o y481 y477))) rfl hy481 ?_
    refine zS Ad W 5 (st' := (71, [vR 21, vI x1, vI x2, vI ((x1 * (32:Int32)) + x2), vI y473], [.int (f_repair o), .int ((x1 * (32:Int32)) + x2), .ref 27], (H1x22 s e0 o y481 y477))) rfl ?_
    obtain ⟨y482, hy482, h⟩ := bind_eq_some_iff.mp h
    refine zB Ad W (f := fun y482 => (72, [vR 21, vI x1, vI x2, vI ((x1 * (32:Int32)) + x2), vI y473], [], (H1x22 s e0 o y481 y482))) rfl hy482 ?_
    refine zS Ad W 3 (st' := (79, [vR 21, vI x1, vI x2, vI ((x1 * (32:Int32)) + x2), vI y473], [.int (128:Int32), .int (f_nakLen o)], (H1x22 s e0 o y481 y482))) rfl ?_
    rcases qite h with ⟨hc483, h⟩ | ⟨hc483, h⟩
    ·refine zF Ad W (t := 102) (f := 82) rfl (XT.ii_ge_f hc483) ?_
     refine zS Ad W 5 (st' := (91, [vR 21, vI x1, vI x2, vI ((x1 * (32:Int32)) + x2), vI y473], [.int ((x1 * (32:Int32)) + x2), .int (f_nakLen o), .ref 40], (H1x22 s e0 o y481 y482))) rfl ?_
     obtain ⟨y484, hy484, h⟩ := bind_eq_some_iff.mp h
     refine zB Ad W (f := fun y484 => (92, [vR 21, vI x1, vI x2, vI ((x1 * (32:Int32)) + x2), vI y473], [], (H1x63 s e0 o y481 y482 y484))) rfl hy484 ?_
     refine zS Ad W 6 (st' := (102, [vR 21, vI x1, vI x2, vI ((x1 * (32:Int32)) + x2), vI y473], [], (H1x64 s e0 o y481 y482 y484 ((f_nakLen o) + (1:Int32))))) rfl ?_
     have E485 : ((H1x64 s e0 o y481 y482 y484 ((f_nakLen o) + (1:Int32))) : QHeap) = (H1 s e0 (s_nakLen (s_nakBuf (s_timer (s_state o y481) y482) y484) ((f_nakLen o) + (1:Int32)))) := by simp only [fs, H1, H1v, H1x64, s_state, s_timer, s_nakBuf, s_nakLen]
     rw [E485]
     exact zM [tt,ff,ff,ff,ff] (tJ10_102a1 Ad W s e0 (s_nakLen (s_nakBuf (s_timer (s_state o y481) y482) y484) ((f_nakLen o) + (1:Int32))) h)
    ·refine zT Ad W (t := 102) (f := 82) rfl (XT.ii_ge_t hc483) ?_
     have E489 : ((H1x22 s e0 o y481 y482) : QHeap) = (H1 s e0 (s_timer (s_state o y481) y482)) := by simp only [fs, H1, H1v, H1x22, s_state, s_timer]
     rw [E489]
     exact zM [tt,ff,ff,ff,ff] (tJ10_102a1 Ad W s e0 (s_timer (s_state o y481) y482) h)
   ·refine zT Ad W (t := 115) (f := 55) rfl (XT.ii_ne_t hc480) ?_
    refine zS Ad W 4 (st' := (121, [vR 21, vI x1, vI x2, vI ((x1 * (32:Int32)) + x2), vI y473], [.int (1:Int32), .int ((x1 * (32:Int32)) + x2), .ref 26], (H1x20 s e0 o y477))) rfl ?_
    obtain ⟨y490, hy490, h⟩ := bind_eq_some_iff.mp h
    refine zB Ad W (f := fun y490 => (122, [vR 21, vI x1, vI x2, vI ((x1 * (32:Int32)) + x2), vI y473], [], (H1x22 s e0 o y490 y477))) rfl hy490 ?_
    refine zS Ad W 5 (st' := (129, [vR 21, vI x1, vI x2, vI ((x1 * (32:Int32)) + x2), vI y473], [.int x1, .ref 21, .int ((x1 * (32:Int32)) + x2), .ref 27], (H1x22 s e0 o y490 y477))) rfl ?_
    have E491 : ((H1x22 s e0 o y490 y477) : QHeap) = (H1 s e0 (s_state (s_timer o y477) y490)) := by simp only [fs, H1, H1v, H1x22, s_state, s_timer]
    rw [E491]
    obtain ⟨r492, hr492, h⟩ := bind_eq_some_iff.mp h
    refine QTri.callP W (a := 21) (as := [.int x1]) (rest := [.int ((x1 * (32:Int32)) + x2), .ref 27]) (w := (some (.int r492))) (σ₁ := (H1 s e0 (s_state (s_timer o y477) y490))) rfl rfl rfl rfl rfl rfl rfl rfl (tF24 Ad W s e0 (s_state (s_timer o y477) y490) x1 hr492) ?_
    obtain ⟨y493, hy493, h⟩ := bind_eq_some_iff.mp h
    refine zB Ad W (f := fun y493 => (133, [vR 21, vI x1, vI x2, vI ((x1 * (32:Int32)) + x2), vI y473], [], (H1x20 s e0 (s_state (s_timer o y477) y490) y493))) rfl hy493 ?_
    have E494 : ((H1x20 s e0 (s_state (s_timer o y477) y490) y493) : QHeap) = (H1 s e0 (s_timer (s_state (s_timer o y477) y490) y493)) := by simp only [fs, H1, H1v, H1x20, s_timer]
    rw [E494]
    obtain rfl := Option.some.inj h
    exact QTri.ret0 rfl rfl
  ·refine zF Ad W (t := 49) (f := 48) rfl (XT.i0_eq_f hc479) ?_
   have E495 : ((H1x20 s e0 o y477) : QHeap) = (H1 s e0 (s_timer o y477)) := by simp only [fs, H1, H1v, H1x20, s_timer]
   rw [E495]
   obtain rfl := Option.some.inj h
   exact QTri.ret0 rfl rfl
theorem tB9_14a1 (Ad : QAd n0 ad) (W : QW Z a0) (s : List Int32) (e0 : Ob) (x1 : Int32) (v : Int32 × Ob) {r : ((Ob)) ⊕ (Int32 × Ob)} {u : Option Value} {τ : QHeap} (h : B9_14 x1 v = some r) (hx0 : ∀ x : Ob, r = .inl x → QTri l Z n0 ad 9 (32, [vR 21, vI x1, none], [], (H1 s e0 x)) u τ) (hc : ∀ x : Int32 × Ob, r = .inr x → QTri l Z n0 ad 9 (14, [vR 21, vI x1, vI x.1], [], (H1 s e0 x.2)) u τ) : QTri l Z n0 ad 9 (14, [vR 21, vI x1, vI v.1], [], (H1 s e0 v.2)) u τ := by
 unfold B9_14 at h
 refine zS Ad W 2 (st' := (17, [vR 21, vI x1, vI v.1], [.int (32:Int32), .int v.1], (H1 s e0 v.2))) rfl ?_
 rcases qite h with ⟨hc472, h⟩ | ⟨hc472, h⟩
 ·refine zF Ad W (t := 32) (f := 20) rfl (XT.ii_ge_f hc472) ?_
  refine zS Ad W 3 (st' := (23, [vR 21, vI x1, vI v.1], [.int v.1, .int x1, .ref 21], (H1 s e0 v.2))) rfl ?_
  obtain ⟨r496, hr496, h⟩ := bind_eq_some_iff.mp h
  refine QTri.callP W (a := 21) (as := [.int x1, .int v.1]) (rest := []) (w := none) (σ₁ := (H1 s e0 r496)) rfl rfl rfl rfl rfl rfl rfl rfl (tF10a1 Ad W s e0 v.2 x1 v.1 hr496) ?_
  refine zS Ad W 2 (st' := (14, [vR 21, vI x1, vI (v.1 + (1:Int32))], [], (H1 s e0 r496))) rfl ?_
  obtain rfl := Option.some.inj h
  exact zM [tt,tt,tt] (hc ((v.1 + (1:Int32)), r496) rfl)
 ·refine zT Ad W (t := 32) (f := 20) rfl (XT.ii_ge_t hc472) ?_
  obtain rfl := Option.some.inj h
  exact zM [tt,tt,ff] (hx0 v.2 rfl)
theorem tB9_7a1 (Ad : QAd n0 ad) (W : QW Z a0) (s : List Int32) (e0 : Ob) (v : Int32 × Ob) {r : ((Ob)) ⊕ (Int32 × Ob)} {u : Option Value} {τ : QHeap} (h : B9_7 v = some r) (hx0 : ∀ x : Ob, r = .inl x → u = (none : Option Value) ∧ τ = (H1 s e0 x)) (hc : ∀ x : Int32 × Ob, r = .inr x → QTri l Z n0 ad 9 (7, [vR 21, vI x.1, none], [], (H1 s e0 x.2)) u τ) : QTri l Z n0 ad 9 (7, [vR 21, vI v.1, none], [], (H1 s e0 v.2)) u τ := by
 unfold B9_7 at h
 refine zS Ad W 2 (st' := (9, [vR 21, vI v.1, none], [.int (4:Int32), .int v.1], (H1 s e0 v.2))) rfl ?_
 rcases qite h with ⟨hc471, h⟩ | ⟨hc471, h⟩
 ·refine zF Ad W (t := 38) (f := 12) rfl (XT.ii_ge_f hc471) ?_
  refine zS Ad W 2 (st' := (14, [vR 21, vI v.1, vI (0:Int32)], [], (H1 s e0 v.2))) rfl ?_
  obtain ⟨e497, he497, h⟩ := bind_eq_some_iff.mp h
  refine zM [tt,tt,tt] (loopN_tri (B := B9_14 v.1) (T := fun lv498 => QTri l Z n0 ad 9 (14, [vR 21, vI v.1, vI lv498.1], [], (H1 s e0 lv498.2)) u τ) (KE := fun e497a => QTri l Z n0 ad 9 (32, [vR 21, vI v.1, none], [], (H1 s e0 e497a)) u τ) (fun lv498 r hB hE hC => tB9_14a1 Ad W s e0 v.1 lv498 hB (fun x q => hE _ q) (fun x q => hC x q)) qN ((0:Int32), v.2) e497 he497 ?_)
  refine zS Ad W 2 (st' := (7, [vR 21, vI (v.1 + (1:Int32)), none], [], (H1 s e0 e497))) rfl ?_
  obtain rfl := Option.some.inj h
  exact zM [tt,tt,ff] (hc ((v.1 + (1:Int32)), e497) rfl)
 ·refine zT Ad W (t := 38) (f := 12) rfl (XT.ii_ge_t hc471) ?_
  obtain rfl := Option.some.inj h
  obtain ⟨rfl, rfl⟩ := hx0 v.2 rfl
  exact QTri.ret0 rfl rfl
theorem tF9a1 (Ad : QAd n0 ad) (W : QW Z a0) (s : List Int32) (e0 : Ob) (o : Ob) {r : Ob} (h : F9 o = some r) : QTri l Z n0 ad 9 (0, qentry [.ref 21] (pMaxL 9), [], (H1 s e0 o)) (none : Option Value) (H1 s e0 r) := by
 unfold F9 at h
 refine zS Ad W 3 (st' := (5, [vR 21, none, none], [], (H1x62 s e0 o (0:Int32)))) rfl ?_
 refine zS Ad W 2 (st' := (7, [vR 21, vI (0:Int32), none], [], (H1x62 s e0 o (0:Int32)))) rfl ?_
 have E470 : ((H1x62 s e0 o (0:Int32)) : QHeap) = (H1 s e0 (s_nakLen o (0:Int32))) := by simp only [fs, H1, H1v, H1x62, s_nakLen]
 rw [E470]
 obtain ⟨e499, he499, h⟩ := bind_eq_some_iff.mp h
 refine zM [tt,tt,ff] (loopN_tri (B := B9_7) (T := fun lv500 => QTri l Z n0 ad 9 (7, [vR 21, vI lv500.1, none], [], (H1 s e0 lv500.2)) (none : Option Value) (H1 s e0 r)) (KE := fun e499a => (none : Option Value) = (none : Option Value) ∧ (H1 s e0 r) = (H1 s e0 e499a)) (fun lv500 r hB hE hC => tB9_7a1 Ad W s e0 lv500 hB (fun x q => hE _ q) (fun x q => hC x q)) qN ((0:Int32), (s_nakLen o (0:Int32))) e499 he499 ?_)
 obtain rfl := Option.some.inj h
 exact ⟨rfl, rfl⟩
def H1x65 (s : List Int32) (o0 o1 : Ob) (a1_1 : List Int32) (a1_2 : List Int32) : QHeap := H1v s (f_srcPayload o0) (f_pend o0) (f_queue o0) (f_stats o0) (f_state o0) (f_timer o0) (f_rxVal o0) (f_rxNext o0) (f_rxLead o0) (f_rxTrail o0) (f_lossLeft o0) (f_dups o0) (f_drops o0) (f_delSeq o0) (f_delVal o0) (f_delLen o0) (f_lostLog o0) (f_lostLen o0) (f_nakBuf o0) (f_win o0) (f_back o0) (f_repair o0) (f_period o0) (f_nextSeq o0) (f_qLen o0) (f_nakLen o0) (f_srcPayload o1) a1_1 a1_2 (f_stats o1) (f_state o1) (f_timer o1) (f_rxVal o1) (f_rxNext o1) (f_rxLead o1) (f_rxTrail o1) (f_lossLeft o1) (f_dups o1) (f_drops o1) (f_delSeq o1) (f_delVal o1) (f_delLen o1) (f_lostLog o1) (f_lostLen o1) (f_nakBuf o1) (f_win o1) (f_back o1) (f_repair o1) (f_period o1) (f_nextSeq o1) (f_qLen o1) (f_nakLen o1)
def H1x66 (s : List Int32) (o0 o1 : Ob) (a1_1 : List Int32) (a1_2 : List Int32) (a1_24 : Int32) : QHeap := H1v s (f_srcPayload o0) (f_pend o0) (f_queue o0) (f_stats o0) (f_state o0) (f_timer o0) (f_rxVal o0) (f_rxNext o0) (f_rxLead o0) (f_rxTrail o0) (f_lossLeft o0) (f_dups o0) (f_drops o0) (f_delSeq o0) (f_delVal o0) (f_delLen o0) (f_lostLog o0) (f_lostLen o0) (f_nakBuf o0) (f_win o0) (f_back o0) (f_repair o0) (f_period o0) (f_nextSeq o0) (f_qLen o0) (f_nakLen o0) (f_srcPayload o1) a1_1 a1_2 (f_stats o1) (f_state o1) (f_timer o1) (f_rxVal o1) (f_rxNext o1) (f_rxLead o1) (f_rxTrail o1) (f_lossLeft o1) (f_dups o1) (f_drops o1) (f_delSeq o1) (f_delVal o1) (f_delLen o1) (f_lostLog o1) (f_lostLen o1) (f_nakBuf o1) (f_win o1) (f_back o1) (f_repair o1) (f_period o1) (f_nextSeq o1) a1_24 (f_nakLen o1)
theorem tB27_2a1 (Ad : QAd n0 ad) (W : QW Z a0) (s : List Int32) (e0 : Ob) (x1 : Int32) (v : Int32 × Ob) {r : ((Ob)) ⊕ (Int32 × Ob)} {u : Option Value} {τ : QHeap} (h : B27_2 x1 v = some r) (hx0 : ∀ x : Ob, r = .inl x → u = (none : Option Value) ∧ τ = (H1 s e0 x)) (hc : ∀ x : Int32 × Ob, r = .inr x → QTri l Z n0 ad 27 (2, [vR 21, vI x1, vI x.1], [], (H1 s e0 x.2)) u τ) : QTri l Z n0 ad 27 (2, [vR 21, vI x1, vI v.1], [], (H1 s e0 v.2)) u τ := by
 unfold B27_2 at h
 refine zS Ad W 2 (st' := (4, [vR 21, vI x1, vI v.1], [.int (4:Int32), .int v.1], (H1 s e0 v.2))) rfl ?_
 rcases qite h with ⟨hc517, h⟩ | ⟨hc517, h⟩
 ·refine zF Ad W (t := 23) (f := 7) rfl (XT.ii_ge_f hc517) ?_
  refine zS Ad W 7 (st' := (14, [vR 21, vI x1, vI v.1], [.int (0:Int32), .int (0:Int32), .int (0:Int32), .int x1, .int (3:Int32), .int v.1, .ref 21], (H1 s e0 v.2))) rfl ?_
  obtain ⟨r518, hr518, h⟩ := bind_eq_some_iff.mp h
  refine QTri.callP W (a := 21) (as := [.int v.1, .int (3:Int32), .int x1, .int (0:Int32), .int (0:Int32), .int (0:Int32)]) (rest := []) (w := none) (σ₁ := (H1 s e0 r518)) rfl rfl rfl rfl rfl rfl rfl rfl (tF16 Ad W s e0 v.2 v.1 (3:Int32) x1 (0:Int32) (0:Int32) (0:Int32) hr518) ?_
  refine zS Ad W 2 (st' := (2, [vR 21, vI x1, vI (v.1 + (1:Int32))], [], (H1 s e0 r518))) rfl ?_
  obtain rfl := Option.some.inj h
  exact zM [tt,tt,tt] (hc ((v.1 + (1:Int32)), r518) rfl)
 ·refine zT Ad W (t := 23) (f := 7) rfl (XT.ii_ge_t hc517) ?_
  obtain rfl := Option.some.inj h
  obtain ⟨rfl, rfl⟩ := hx0 v.2 rfl
  exact QTri.ret0 rfl rfl
theorem tF27a1 (Ad : QAd n0 ad) (W : QW Z a0) (s : List Int32) (e0 : Ob) (o : Ob) (x1 : Int32) {r : Ob} (h : F27 o x1 = some r) : QTri l Z n0 ad 27 (0, qentry [.ref 21, .int x1] (pMaxL 27), [], (H1 s e0 o)) (none : Option Value) (H1 s e0 r) := by
 unfold F27 at h
 refine zS Ad W 2 (st' := (2, [vR 21, vI x1, vI (0:Int32)], [], (H1 s e0 o))) rfl ?_
 obtain ⟨e519, he519, h⟩ := bind_eq_some_iff.mp h
 refine zM [tt,tt,tt] (loopN_tri (B := B27_2 x1) (T := fun lv520 => QTri l Z n0 ad 27 (2, [vR 21, vI x1, vI lv520.1], [], (H1 s e0 lv520.2)) (none : Option Value) (H1 s e0 r)) (KE := fun e519a => (none : Option Value) = (none : Option Value) ∧ (H1 s e0 r) = (H1 s e0 e519a)) (fun lv520 r hB hE hC => tB27_2a1 Ad W s e0 x1 lv520 hB (fun x q => hE _ q) (fun x q => hC x q)) qN ((0:Int32), o) e519 he519 ?_)
 obtain rfl := Option.some.inj h
 exact ⟨rfl, rfl⟩
theorem tJ26_78a1 (Ad : QAd n0 ad) (W : QW Z a0) (s : List Int32) (e0 : Ob) (o : Ob) (x1 : Int32) {r : Ob} (h : J26_78 o x1 = some r) : QTri l Z n0 ad 26 (78, [vR 21, vI x1], [], (H1 s e0 o)) (none : Option Value) (H1 s e0 r) := by
 unfold J26_78 at h
 refine zS Ad W 2 (st' := (80, [vR 21, vI x1], [.int x1, .ref 21], (H1 s e0 o))) rfl ?_
 obtain ⟨r521, hr521, h⟩ := bind_eq_some_iff.mp h
 refine QTri.callP W (a := 21) (as := [.int x1]) (rest := []) (w := none) (σ₁ := (H1 s e0 r521)) rfl rfl rfl rfl rfl rfl rfl rfl (tF27a1 Ad W s e0 o x1 hr521) ?_
 refine zS Ad W 4 (st' := (90, [vR 21, vI x1], [.int (7:Int32), .ref 25, .int (7:Int32), .ref 25], (H1 s e0 r521))) rfl ?_
 obtain ⟨y522, hy522, h⟩ := bind_eq_some_iff.mp h
 refine zB Ad W (f := fun y522 => (91, [vR 21, vI x1], [.int y522, .int (7:Int32), .ref 25], (H1 s e0 r521))) rfl hy522 ?_
 refine zS Ad W 2 (st' := (93, [vR 21, vI x1], [.int (y522 + (1:Int32)), .int (7:Int32), .ref 25], (H1 s e0 r521))) rfl ?_
 obtain ⟨y523, hy523, h⟩ := bind_eq_some_iff.mp h
 refine zB Ad W (f := fun y523 => (94, [vR 21, vI x1], [], (H1x54 s e0 r521 y523))) rfl hy523 ?_
 have E524 : ((H1x54 s e0 r521 y523) : QHeap) = (H1 s e0 (s_stats r521 y523)) := by simp only [fs, H1, H1v, H1x54, s_stats]
 rw [E524]
 obtain rfl := Option.some.inj h
 exact QTri.ret0 rfl rfl
theorem tJ26_68a1 (Ad : QAd n0 ad) (W : QW Z a0) (s : List Int32) (e0 : Ob) (o : Ob) (x1 : Int32) {r : Ob} (h : J26_68 o x1 = some r) : QTri l Z n0 ad 26 (68, [vR 21, vI x1], [], (H1 s e0 o)) (none : Option Value) (H1 s e0 r) := by
 unfold J26_68 at h
 refine zS Ad W 4 (st' := (74, [vR 21, vI x1], [.int (5:Int32), .ref 25, .int (5:Int32), .ref 25], (H1 s e0 o))) rfl ?_
 obtain ⟨y514, hy514, h⟩ := bind_eq_some_iff.mp h
 refine zB Ad W (f := fun y514 => (75, [vR 21, vI x1], [.int y514, .int (5:Int32), .ref 25], (H1 s e0 o))) rfl hy514 ?_
 refine zS Ad W 2 (st' := (77, [vR 21, vI x1], [.int (y514 + (1:Int32)), .int (5:Int32), .ref 25], (H1 s e0 o))) rfl ?_
 obtain ⟨y515, hy515, h⟩ := bind_eq_some_iff.mp h
 refine zB Ad W (f := fun y515 => (78, [vR 21, vI x1], [], (H1x54 s e0 o y515))) rfl hy515 ?_
 have E516 : ((H1x54 s e0 o y515) : QHeap) = (H1 s e0 (s_stats o y515)) := by simp only [fs, H1, H1v, H1x54, s_stats]
 rw [E516]
 exact zM [tt,tt] (tJ26_78a1 Ad W s e0 (s_stats o y515) x1 h)
theorem tF26a1 (Ad : QAd n0 ad) (W : QW Z a0) (s : List Int32) (e0 : Ob) (o : Ob) (x1 : Int32) {r : Ob} (h : F26 o x1 = some r) : QTri l Z n0 ad 26 (0, qentry [.ref 21, .int x1] (pMaxL 26), [], (H1 s e0 o)) (none : Option Value) (H1 s e0 r) := by
 unfold F26 at h
 refine zS Ad W 2 (st' := (2, [vR 21, vI x1], [.int x1, .ref 21], (H1 s e0 o))) rfl ?_
 obtain ⟨r506, hr506, h⟩ := bind_eq_some_iff.mp h
 refine QTri.callP W (a := 21) (as := [.int x1]) (rest := []) (w := (some (.int r506))) (σ₁ := (H1 s e0 o)) rfl rfl rfl rfl rfl rfl rfl rfl (tF18 Ad W x1 hr506) ?_
 rcases qite h with ⟨hc507, h⟩ | ⟨hc507, h⟩
 ·refine zF Ad W (t := 9) (f := 8) rfl (XT.i0_ne_f hc507) ?_
  obtain rfl := Option.some.inj h
  exact QTri.ret0 rfl rfl
 ·refine zT Ad W (t := 9) (f := 8) rfl (XT.i0_ne_t hc507) ?_
  refine zS Ad W 3 (st' := (14, [vR 21, vI x1], [.int x1, .ref 23], (H1 s e0 o))) rfl ?_
  obtain ⟨y508, hy508, h⟩ := bind_eq_some_iff.mp h
  refine zB Ad W (f := fun y508 => (15, [vR 21, vI x1], [.int y508], (H1 s e0 o))) rfl hy508 ?_
  rcases qite h with ⟨hc509, h⟩ | ⟨hc509, h⟩
  ·refine zT Ad W (t := 32) (f := 18) rfl (XT.i0_eq_t hc509) ?_
   refine zS Ad W 4 (st' := (38, [vR 21, vI x1], [.int (1:Int32), .int x1, .ref 23], (H1 s e0 o))) rfl ?_
   obtain ⟨y510, hy510, h⟩ := bind_eq_some_iff.mp h
   refine zB Ad W (f := fun y510 => (39, [vR 21, vI x1], [], (H1x15 s e0 o y510))) rfl hy510 ?_
   refine zS Ad W 3 (st' := (45, [vR 21, vI x1], [.int (64:Int32), .int (f_qLen o)], (H1x15 s e0 o y510))) rfl ?_
   rcases qite h with ⟨hc511, h⟩ | ⟨hc511, h⟩
   ·refine zF Ad W (t := 68) (f := 48) rfl (XT.ii_ge_f hc511) ?_
    refine zS Ad W 5 (st' := (57, [vR 21, vI x1], [.int x1, .int (f_qLen o), .ref 24], (H1x15 s e0 o y510))) rfl ?_
    obtain ⟨y512, hy512, h⟩ := bind_eq_some_iff.mp h
    refine zB Ad W (f := fun y512 => (58, [vR 21, vI x1], [], (H1x65 s e0 o y510 y512))) rfl hy512 ?_
    refine zS Ad W 6 (st' := (68, [vR 21, vI x1], [], (H1x66 s e0 o y510 y512 ((f_qLen o) + (1:Int32))))) rfl ?_
    have E513 : ((H1x66 s e0 o y510 y512 ((f_qLen o) + (1:Int32))) : QHeap) = (H1 s e0 (s_qLen (s_queue (s_pend o y510) y512) ((f_qLen o) + (1:Int32)))) := by simp only [fs, H1, H1v, H1x66, s_pend, s_queue, s_qLen]
    rw [E513]
    exact zM [tt,tt] (tJ26_68a1 Ad W s e0 (s_qLen (s_queue (s_pend o y510) y512) ((f_qLen o) + (1:Int32))) x1 h)
   ·refine zT Ad W (t := 68) (f := 48) rfl (XT.ii_ge_t hc511) ?_
    have E525 : ((H1x15 s e0 o y510) : QHeap) = (H1 s e0 (s_pend o y510)) := by simp only [fs, H1, H1v, H1x15, s_pend]
    rw [E525]
    exact zM [tt,tt] (tJ26_68a1 Ad W s e0 (s_pend o y510) x1 h)
  ·refine zF Ad W (t := 32) (f := 18) rfl (XT.i0_eq_f hc509) ?_
   refine zS Ad W 4 (st' := (25, [vR 21, vI x1], [.int (6:Int32), .ref 25, .int (6:Int32), .ref 25], (H1 s e0 o))) rfl ?_
   obtain ⟨y526, hy526, h⟩ := bind_eq_some_iff.mp h
   refine zB Ad W (f := fun y526 => (26, [vR 21, vI x1], [.int y526, .int (6:Int32), .ref 25], (H1 s e0 o))) rfl hy526 ?_
   refine zS Ad W 2 (st' := (28, [vR 21, vI x1], [.int (y526 + (1:Int32)), .int (6:Int32), .ref 25], (H1 s e0 o))) rfl ?_
   obtain ⟨y527, hy527, h⟩ := bind_eq_some_iff.mp h
   refine zB Ad W (f := fun y527 => (29, [vR 21, vI x1], [], (H1x54 s e0 o y527))) rfl hy527 ?_
   refine zS Ad W 1 (st' := (78, [vR 21, vI x1], [], (H1x54 s e0 o y527))) rfl ?_
   have E528 : ((H1x54 s e0 o y527) : QHeap) = (H1 s e0 (s_stats o y527)) := by simp only [fs, H1, H1v, H1x54, s_stats]
   rw [E528]
   exact zM [tt,tt] (tJ26_78a1 Ad W s e0 (s_stats o y527) x1 h)
theorem tJ12_38a1 (Ad : QAd n0 ad) (W : QW Z a0) (s : List Int32) (e0 : Ob) (o : Ob) {r : ((Ob)) ⊕ (Int32 × Ob)} {u : Option Value} {τ : QHeap} (h : J12_38 o = some r) (hx0 : ∀ x : Ob, r = .inl x → u = (none : Option Value) ∧ τ = (H1 s e0 x)) (hc : ∀ x : Int32 × Ob, r = .inr x → QTri l Z n0 ad 12 (2, [vR 21, vI x.1, none], [], (H1 s e0 x.2)) u τ) : QTri l Z n0 ad 12 (38, [vR 21, none, none], [], (H1 s e0 o)) u τ := by
 unfold J12_38 at h
 refine zS Ad W 3 (st' := (43, [vR 21, none, none], [], (H1x62 s e0 o (0:Int32)))) rfl ?_
 have E530 : ((H1x62 s e0 o (0:Int32)) : QHeap) = (H1 s e0 (s_nakLen o (0:Int32))) := by simp only [fs, H1, H1v, H1x62, s_nakLen]
 rw [E530]
 obtain rfl := Option.some.inj h
 obtain ⟨rfl, rfl⟩ := hx0 (s_nakLen o (0:Int32)) rfl
 exact QTri.ret0 rfl rfl
theorem tB12_2a1 (Ad : QAd n0 ad) (W : QW Z a0) (s : List Int32) (e0 : Ob) (v : Int32 × Ob) {r : ((Ob)) ⊕ (Int32 × Ob)} {u : Option Value} {τ : QHeap} (h : B12_2 v = some r) (hx0 : ∀ x : Ob, r = .inl x → u = (none : Option Value) ∧ τ = (H1 s e0 x)) (hc : ∀ x : Int32 × Ob, r = .inr x → QTri l Z n0 ad 12 (2, [vR 21, vI x.1, none], [], (H1 s e0 x.2)) u τ) : QTri l Z n0 ad 12 (2, [vR 21, vI v.1, none], [], (H1 s e0 v.2)) u τ := by
 unfold B12_2 at h
 refine zS Ad W 3 (st' := (7, [vR 21, vI v.1, none], [.int (f_nakLen v.2), .int v.1], (H1 s e0 v.2))) rfl ?_
 rcases qite h with ⟨hc502, h⟩ | ⟨hc502, h⟩
 ·refine zF Ad W (t := 38) (f := 10) rfl (XT.ii_ge_f hc502) ?_
  refine zS Ad W 2 (st' := (14, [vR 21, vI v.1, none], [.int (128:Int32), .int v.1], (H1 s e0 v.2))) rfl ?_
  rcases qite h with ⟨hc503, h⟩ | ⟨hc503, h⟩
  ·refine zF Ad W (t := 38) (f := 17) rfl (XT.ii_ge_f hc503) ?_
   refine zS Ad W 3 (st' := (22, [vR 21, vI v.1, none], [.int v.1, .ref 40], (H1 s e0 v.2))) rfl ?_
   obtain ⟨y504, hy504, h⟩ := bind_eq_some_iff.mp h
   refine zB Ad W (f := fun y504 => (23, [vR 21, vI v.1, none], [.int y504], (H1 s e0 v.2))) rfl hy504 ?_
   refine zS Ad W 5 (st' := (29, [vR 21, vI v.1, vI (y504 % (32:Int32))], [.int (y504 % (32:Int32)), .ref 21], (H1 s e0 v.2))) rfl ?_
   obtain ⟨r529, hr529, h⟩ := bind_eq_some_iff.mp h
   refine QTri.callP W (a := 21) (as := [.int (y504 % (32:Int32))]) (rest := []) (w := none) (σ₁ := (H1 s e0 r529)) rfl rfl rfl rfl rfl rfl rfl rfl (tF26a1 Ad W s e0 v.2 (y504 % (32:Int32)) hr529) ?_
   refine zS Ad W 2 (st' := (2, [vR 21, vI (v.1 + (1:Int32)), vI (y504 % (32:Int32))], [], (H1 s e0 r529))) rfl ?_
   obtain rfl := Option.some.inj h
   exact zM [tt,tt,ff] (hc ((v.1 + (1:Int32)), r529) rfl)
  ·refine zT Ad W (t := 38) (f := 17) rfl (XT.ii_ge_t hc503) ?_
   exact zM [tt,ff,ff] (tJ12_38a1 Ad W s e0 v.2 h hx0 hc)
 ·refine zT Ad W (t := 38) (f := 10) rfl (XT.ii_ge_t hc502) ?_
  exact zM [tt,ff,ff] (tJ12_38a1 Ad W s e0 v.2 h hx0 hc)
theorem tF12a1 (Ad : QAd n0 ad) (W : QW Z a0) (s : List Int32) (e0 : Ob) (o : Ob) {r : Ob} (h : F12 o = some r) : QTri l Z n0 ad 12 (0, qentry [.ref 21] (pMaxL 12), [], (H1 s e0 o)) (none : Option Value) (H1 s e0 r) := by
 unfold F12 at h
 refine zS Ad W 2 (st' := (2, [vR 21, vI (0:Int32), none], [], (H1 s e0 o))) rfl ?_
 obtain ⟨e531, he531, h⟩ := bind_eq_some_iff.mp h
 refine zM [tt,tt,ff] (loopN_tri (B := B12_2) (T := fun lv532 => QTri l Z n0 ad 12 (2, [vR 21, vI lv532.1, none], [], (H1 s e0 lv532.2)) (none : Option Value) (H1 s e0 r)) (KE := fun e531a => (none : Option Value) = (none : Option Value) ∧ (H1 s e0 r) = (H1 s e0 e531a)) (fun lv532 r hB hE hC => tB12_2a1 Ad W s e0 lv532 hB (fun x q => hE _ q) (fun x q => hC x q)) qN ((0:Int32), o) e531 he531 ?_)
 obtain rfl := Option.some.inj h
 exact ⟨rfl, rfl⟩
theorem tJ6_52a1 (Ad : QAd n0 ad) (W : QW Z a0) (s : List Int32) (e0 : Ob) (o : Ob) {r : Ob} (h : J6_52 o = some r) : QTri l Z n0 ad 6 (52, [vR 21], [], (H1 s e0 o)) (none : Option Value) (H1 s e0 r) := by
 unfold J6_52 at h
 refine zS Ad W 1 (st' := (53, [vR 21], [.ref 21], (H1 s e0 o))) rfl ?_
 obtain ⟨r501, hr501, h⟩ := bind_eq_some_iff.mp h
 refine QTri.callP W (a := 21) (as := []) (rest := []) (w := none) (σ₁ := (H1 s e0 r501)) rfl rfl rfl rfl rfl rfl rfl rfl (tF9a1 Ad W s e0 o hr501) ?_
 refine zS Ad W 1 (st' := (57, [vR 21], [.ref 21], (H1 s e0 r501))) rfl ?_
 obtain ⟨r533, hr533, h⟩ := bind_eq_some_iff.mp h
 refine QTri.callP W (a := 21) (as := []) (rest := []) (w := none) (σ₁ := (H1 s e0 r533)) rfl rfl rfl rfl rfl rfl rfl rfl (tF12a1 Ad W s e0 r501 hr533) ?_
 obtain rfl := Option.some.inj h
 exact QTri.ret0 rfl rfl
theorem tF6a1 (Ad : QAd n0 ad) (W : QW Z a0) (s : List Int32) (e0 : Ob) (o : Ob) {r : Ob} (h : F6 o = some r) : QTri l Z n0 ad 6 (0, qentry [.ref 21] (pMaxL 6), [], (H1 s e0 o)) (none : Option Value) (H1 s e0 r) := by
 unfold F6 at h
 refine zS Ad W 4 (st' := (6, [vR 21], [.int (0:Int32), .ref 25, .int (0:Int32), .ref 25], (H1 s e0 o))) rfl ?_
 obtain ⟨y439, hy439, h⟩ := bind_eq_some_iff.mp h
 refine zB Ad W (f := fun y439 => (7, [vR 21], [.int y439, .int (0:Int32), .ref 25], (H1 s e0 o))) rfl hy439 ?_
 refine zS Ad W 2 (st' := (9, [vR 21], [.int (y439 + (1:Int32)), .int (0:Int32), .ref 25], (H1 s e0 o))) rfl ?_
 obtain ⟨y440, hy440, h⟩ := bind_eq_some_iff.mp h
 refine zB Ad W (f := fun y440 => (10, [vR 21], [], (H1x54 s e0 o y440))) rfl hy440 ?_
 refine zS Ad W 1 (st' := (11, [vR 21], [.ref 21], (H1x54 s e0 o y440))) rfl ?_
 have E441 : ((H1x54 s e0 o y440) : QHeap) = (H1 s e0 (s_stats o y440)) := by simp only [fs, H1, H1v, H1x54, s_stats]
 rw [E441]
 obtain ⟨r461, hr461, h⟩ := bind_eq_some_iff.mp h
 refine QTri.callP W (a := 21) (as := []) (rest := []) (w := none) (σ₁ := (H1 s e0 r461)) rfl rfl rfl rfl rfl rfl rfl rfl (tF7a1 Ad W s e0 (s_stats o y440) hr461) ?_
 refine zS Ad W 2 (st' := (18, [vR 21], [.int (f_period r461)], (H1 s e0 r461))) rfl ?_
 rcases qite h with ⟨hc462, h⟩ | ⟨hc462, h⟩
 ·refine zF Ad W (t := 52) (f := 21) rfl (XT.i0_le_f hc462) ?_
  refine zS Ad W 3 (st' := (26, [vR 21], [.int (0:Int32), .ref 25], (H1 s e0 r461))) rfl ?_
  obtain ⟨y463, hy463, h⟩ := bind_eq_some_iff.mp h
  refine zB Ad W (f := fun y463 => (27, [vR 21], [.int y463], (H1 s e0 r461))) rfl hy463 ?_
  refine zS Ad W 2 (st' := (31, [vR 21], [.int (f_period r461), .int y463], (H1 s e0 r461))) rfl ?_
  obtain ⟨y464, hy464, h⟩ := bind_eq_some_iff.mp h
  refine zB Ad W (f := fun y464 => (32, [vR 21], [.int y464], (H1 s e0 r461))) rfl hy464 ?_
  rcases qite h with ⟨hc465, h⟩ | ⟨hc465, h⟩
  ·refine zF Ad W (t := 52) (f := 35) rfl (XT.i0_ne_f hc465) ?_
   refine zS Ad W 4 (st' := (41, [vR 21], [.int (3:Int32), .ref 25, .int (3:Int32), .ref 25], (H1 s e0 r461))) rfl ?_
   obtain ⟨y466, hy466, h⟩ := bind_eq_some_iff.mp h
   refine zB Ad W (f := fun y466 => (42, [vR 21], [.int y466, .int (3:Int32), .ref 25], (H1 s e0 r461))) rfl hy466 ?_
   refine zS Ad W 2 (st' := (44, [vR 21], [.int (y466 + (1:Int32)), .int (3:Int32), .ref 25], (H1 s e0 r461))) rfl ?_
   obtain ⟨y467, hy467, h⟩ := bind_eq_some_iff.mp h
   refine zB Ad W (f := fun y467 => (45, [vR 21], [], (H1x54 s e0 r461 y467))) rfl hy467 ?_
   refine zS Ad W 4 (st' := (49, [vR 21], [.int (0:Int32), .int (0:Int32), .int (2:Int32), .ref 21], (H1x54 s e0 r461 y467))) rfl ?_
   have E468 : ((H1x54 s e0 r461 y467) : QHeap) = (H1 s e0 (s_stats r461 y467)) := by simp only [fs, H1, H1v, H1x54, s_stats]
   rw [E468]
   obtain ⟨r469, hr469, h⟩ := bind_eq_some_iff.mp h
   refine QTri.callP W (a := 21) (as := [.int (2:Int32), .int (0:Int32), .int (0:Int32)]) (rest := []) (w := none) (σ₁ := (H1 s e0 r469)) rfl rfl rfl rfl rfl rfl rfl rfl (tF13 Ad W s e0 (s_stats r461 y467) (2:Int32) (0:Int32) (0:Int32) hr469) ?_
   exact zM [tt] (tJ6_52a1 Ad W s e0 r469 h)
  ·refine zT Ad W (t := 52) (f := 35) rfl (XT.i0_ne_t hc465) ?_
   exact zM [tt] (tJ6_52a1 Ad W s e0 r461 h)
 ·refine zT Ad W (t := 52) (f := 21) rfl (XT.i0_le_t hc462) ?_
  exact zM [tt] (tJ6_52a1 Ad W s e0 r461 h)
def B0_26 (s : List Int32) (v : Int32 × Ob × Ob) : Option (((Ob × Ob) ⊕ (Int32 × QHeap)) ⊕ (Int32 × Ob × Ob)) :=
  (if (s.length.toInt32) < (v.1 + (3 : Int32)) then some (.inl (Sum.inl (v.2.1, v.2.2))) else (aget s v.1).bind fun y26 => (aget s (v.1 + (1 : Int32))).bind fun y27 => (aget s (v.1 + (2 : Int32))).bind fun y28 => (F3 v.2.2 ((-1 : Int32) - (y28 &&& (255 : Int32)))).bind fun r171 => (if r171.1 = (-1 : Int32) then (F4 r171.2 (y27 ||| (4 : Int32)) y28).bind fun r180 => (if r180.1 = (0 : Int32) then (if (y26 &&& (3 : Int32)) = (0 : Int32) then (F3 v.2.1 y27).bind fun r320 => (F3 r180.2 y27).bind fun r321 => (if r320.1 = r321.1 then (J0_162 s r320.2 r321.2 v.1) else some (.inl (Sum.inr ((0 : Int32), (H1 s r320.2 r321.2))))) else (if (y26 &&& (3 : Int32)) = (1 : Int32) then (F23 v.2.1).bind fun r328 => (F23 r180.2).bind fun r333 => (J0_162 s r328 r333 v.1) else (if (y26 &&& (3 : Int32)) = (2 : Int32) then (F4 v.2.1 y27 y28).bind fun r340 => (F4 r180.2 y27 y28).bind fun r341 => (if r340.1 = r341.1 then (J0_162 s r340.2 r341.2 v.1) else some (.inl (Sum.inr ((0 : Int32), (H1 s r340.2 r341.2))))) else (F6 v.2.1).bind fun r438 => (F6 r180.2).bind fun r534 => (J0_162 s r438 r534 v.1)))) else some (.inl (Sum.inr ((0 : Int32), (H1 s v.2.1 r180.2))))) else some (.inl (Sum.inr ((0 : Int32), (H1 s v.2.1 r171.2))))))
theorem tB0_26 (Ad : QAd n0 ad) (W : QW Z a0) (s : List Int32) (v : Int32 × Ob × Ob) {r : ((Ob × Ob) ⊕ (Int32 × QHeap)) ⊕ (Int32 × Ob × Ob)} {u : Option Value} {τ : QHeap} (h : B0_26 s v = some r) (hx0 : ∀ x : Ob × Ob, r = .inl (Sum.inl x) → QTri l Z n0 ad 0 (168, [none, vR 1, vR 21, none, none, none, none], [], (H1 s x.1 x.2)) u τ) (hx1 : ∀ x : Int32 × QHeap, r = .inl (Sum.inr x) → u = (some (Value.int x.1)) ∧ τ = x.2) (hc : ∀ x : Int32 × Ob × Ob, r = .inr x → QTri l Z n0 ad 0 (26, [vR 0, vR 1, vR 21, vI x.1, none, none, none], [], (H1 s x.2.1 x.2.2)) u τ) : QTri l Z n0 ad 0 (26, [vR 0, vR 1, vR 21, vI v.1, none, none, none], [], (H1 s v.2.1 v.2.2)) u τ := by
 unfold B0_26 at h
 refine zS Ad W 5 (st' := (31, [vR 0, vR 1, vR 21, vI v.1, none, none, none], [.int (s.length.toInt32), .int (v.1 + (3:Int32))], (H1 s v.2.1 v.2.2))) rfl ?_
 rcases qite h with ⟨hc25, h⟩ | ⟨hc25, h⟩
 ·refine zT Ad W (t := 168) (f := 34) rfl (XT.ii_gt_t hc25) ?_
  obtain rfl := Option.some.inj h
  exact zM [ff,tt,tt,ff,ff,ff,ff] (hx0 (v.2.1, v.2.2) rfl)
 ·refine zF Ad W (t := 168) (f := 34) rfl (XT.ii_gt_f hc25) ?_
  refine zS Ad W 2 (st' := (36, [vR 0, vR 1, vR 21, vI v.1, none, none, none], [.int v.1, .ref 0], (H1 s v.2.1 v.2.2))) rfl ?_
  obtain ⟨y26, hy26, h⟩ := bind_eq_some_iff.mp h
  refine zB Ad W (f := fun y26 => (37, [vR 0, vR 1, vR 21, vI v.1, none, none, none], [.int y26], (H1 s v.2.1 v.2.2))) rfl hy26 ?_
  refine zS Ad W 7 (st' := (45, [vR 0, vR 1, vR 21, vI v.1, vI (y26 &&& (3:Int32)), none, none], [.int (v.1 + (1:Int32)), .ref 0], (H1 s v.2.1 v.2.2))) rfl ?_
  obtain ⟨y27, hy27, h⟩ := bind_eq_some_iff.mp h
  refine zB Ad W (f := fun y27 => (46, [vR 0, vR 1, vR 21, vI v.1, vI (y26 &&& (3:Int32)), none, none], [.int y27], (H1 s v.2.1 v.2.2))) rfl hy27 ?_
  refine zS Ad W 5 (st' := (52, [vR 0, vR 1, vR 21, vI v.1, vI (y26 &&& (3:Int32)), vI y27, none], [.int (v.1 + (2:Int32)), .ref 0], (H1 s v.2.1 v.2.2))) rfl ?_
  obtain ⟨y28, hy28, h⟩ := bind_eq_some_iff.mp h
  refine zB Ad W (f := fun y28 => (53, [vR 0, vR 1, vR 21, vI v.1, vI (y26 &&& (3:Int32)), vI y27, none], [.int y28], (H1 s v.2.1 v.2.2))) rfl hy28 ?_
  refine zS Ad W 7 (st' := (64, [vR 0, vR 1, vR 21, vI v.1, vI (y26 &&& (3:Int32)), vI y27, vI y28], [.int ((-1:Int32) - (y28 &&& (255:Int32))), .ref 21], (H1 s v.2.1 v.2.2))) rfl ?_
  obtain ⟨r171, hr171, h⟩ := bind_eq_some_iff.mp h
  refine QTri.callV W (a := 21) (as := [.int ((-1:Int32) - (y28 &&& (255:Int32)))]) (rest := []) (w := (some (.int r171.1))) (σ₁ := (H1 s v.2.1 r171.2)) rfl rfl rfl rfl rfl rfl rfl rfl (tF3 Ad W s v.2.1 v.2.2 ((-1:Int32) - (y28 &&& (255:Int32))) hr171) ?_
  refine zS Ad W 1 (st' := (68, [vR 0, vR 1, vR 21, vI v.1, vI (y26 &&& (3:Int32)), vI y27, vI y28], [.int (-1:Int32), .int r171.1], (H1 s v.2.1 r171.2))) rfl ?_
  rcases qite h with ⟨hc172, h⟩ | ⟨hc172, h⟩
  ·refine zT Ad W (t := 73) (f := 71) rfl (XT.ii_eq_t hc172) ?_
   refine zS Ad W 5 (st' := (80, [vR 0, vR 1, vR 21, vI v.1, vI (y26 &&& (3:Int32)), vI y27, vI y28], [.int y28, .int (y27 ||| (4:Int32)), .ref 21], (H1 s v.2.1 r171.2))) rfl ?_
   obtain ⟨r180, hr180, h⟩ := bind_eq_some_iff.mp h
   refine QTri.callV W (a := 21) (as := [.int (y27 ||| (4:Int32)), .int y28]) (rest := []) (w := (some (.int r180.1))) (σ₁ := (H1 s v.2.1 r180.2)) rfl rfl rfl rfl rfl rfl rfl rfl (tF4 Ad W s v.2.1 r171.2 (y27 ||| (4:Int32)) y28 hr180) ?_
   rcases qite h with ⟨hc181, h⟩ | ⟨hc181, h⟩
   ·refine zT Ad W (t := 88) (f := 86) rfl (XT.i0_eq_t hc181) ?_
    refine zS Ad W 1 (st' := (90, [vR 0, vR 1, vR 21, vI v.1, vI (y26 &&& (3:Int32)), vI y27, vI y28], [.int (y26 &&& (3:Int32))], (H1 s v.2.1 r180.2))) rfl ?_
    rcases qite h with ⟨hc182, h⟩ | ⟨hc182, h⟩
    ·refine zF Ad W (t := 110) (f := 93) rfl (XT.i0_ne_f hc182) ?_
     refine zS Ad W 2 (st' := (96, [vR 0, vR 1, vR 21, vI v.1, vI (y26 &&& (3:Int32)), vI y27, vI y28], [.int y27, .ref 1], (H1 s v.2.1 r180.2))) rfl ?_
     obtain ⟨r320, hr320, h⟩ := bind_eq_some_iff.mp h
     refine QTri.callV W (a := 1) (as := [.int y27]) (rest := []) (w := (some (.int r320.1))) (σ₁ := (H1 s r320.2 r180.2)) rfl rfl rfl rfl rfl rfl rfl rfl (tF3a1 Ad W s r180.2 v.2.1 y27 hr320) ?_
     refine zS Ad W 2 (st' := (102, [vR 0, vR 1, vR 21, vI v.1, vI (y26 &&& (3:Int32)), vI y27, vI y28], [.int y27, .ref 21, .int r320.1], (H1 s r320.2 r180.2))) rfl ?_
     obtain ⟨r321, hr321, h⟩ := bind_eq_some_iff.mp h
     refine QTri.callV W (a := 21) (as := [.int y27]) (rest := [.int r320.1]) (w := (some (.int r321.1))) (σ₁ := (H1 s r320.2 r321.2)) rfl rfl rfl rfl rfl rfl rfl rfl (tF3 Ad W s r320.2 r180.2 y27 hr321) ?_
     rcases qite h with ⟨hc322, h⟩ | ⟨hc322, h⟩
     ·refine zT Ad W (t := 162) (f := 108) rfl (XT.ii_eq_t hc322) ?_
      exact zM [tt,tt,tt,tt,ff,ff,ff] (tJ0_162 Ad W s r320.2 r321.2 v.1 h hx0 hx1 hc)
     ·refine zF Ad W (t := 162) (f := 108) rfl (XT.ii_eq_f hc322) ?_
      refine zS Ad W 1 (st' := (109, [vR 0, vR 1, vR 21, vI v.1, vI (y26 &&& (3:Int32)), vI y27, vI y28], [.int (0:Int32)], (H1 s r320.2 r321.2))) rfl ?_
      obtain rfl := Option.some.inj h
      obtain ⟨rfl, rfl⟩ := hx1 ((0:Int32), (H1 s r320.2 r321.2)) rfl
      exact QTri.retZ rfl rfl
    ·refine zT Ad W (t := 110) (f := 93) rfl (XT.i0_ne_t hc182) ?_
     refine zS Ad W 2 (st' := (113, [vR 0, vR 1, vR 21, vI v.1, vI (y26 &&& (3:Int32)), vI y27, vI y28], [.int (1:Int32), .int (y26 &&& (3:Int32))], (H1 s v.2.1 r180.2))) rfl ?_
     rcases qite h with ⟨hc323, h⟩ | ⟨hc323, h⟩
     ·refine zF Ad W (t := 127) (f := 116) rfl (XT.ii_ne_f hc323) ?_
      refine zS Ad W 1 (st' := (117, [vR 0, vR 1, vR 21, vI v.1, vI (y26 &&& (3:Int32)), vI y27, vI y28], [.ref 1], (H1 s v.2.1 r180.2))) rfl ?_
      obtain ⟨r328, hr328, h⟩ := bind_eq_some_iff.mp h
      refine QTri.callV W (a := 1) (as := []) (rest := []) (w := none) (σ₁ := (H1 s r328 r180.2)) rfl rfl rfl rfl rfl rfl rfl rfl (tF23 Ad W s r180.2 v.2.1 hr328) ?_
      refine zS Ad W 1 (st' := (121, [vR 0, vR 1, vR 21, vI v.1, vI (y26 &&& (3:Int32)), vI y27, vI y28], [.ref 21], (H1 s r328 r180.2))) rfl ?_
      obtain ⟨r333, hr333, h⟩ := bind_eq_some_iff.mp h
      refine QTri.callV W (a := 21) (as := []) (rest := []) (w := none) (σ₁ := (H1 s r328 r333)) rfl rfl rfl rfl rfl rfl rfl rfl (tF23a1 Ad W s r328 r180.2 hr333) ?_
      refine zS Ad W 1 (st' := (162, [vR 0, vR 1, vR 21, vI v.1, vI (y26 &&& (3:Int32)), vI y27, vI y28], [], (H1 s r328 r333))) rfl ?_
      exact zM [tt,tt,tt,tt,ff,ff,ff] (tJ0_162 Ad W s r328 r333 v.1 h hx0 hx1 hc)
     ·refine zT Ad W (t := 127) (f := 116) rfl (XT.ii_ne_t hc323) ?_
      refine zS Ad W 2 (st' := (130, [vR 0, vR 1, vR 21, vI v.1, vI (y26 &&& (3:Int32)), vI y27, vI y28], [.int (2:Int32), .int (y26 &&& (3:Int32))], (H1 s v.2.1 r180.2))) rfl ?_
      rcases qite h with ⟨hc334, h⟩ | ⟨hc334, h⟩
      ·refine zF Ad W (t := 154) (f := 133) rfl (XT.ii_ne_f hc334) ?_
       refine zS Ad W 3 (st' := (138, [vR 0, vR 1, vR 21, vI v.1, vI (y26 &&& (3:Int32)), vI y27, vI y28], [.int y28, .int y27, .ref 1], (H1 s v.2.1 r180.2))) rfl ?_
       obtain ⟨r340, hr340, h⟩ := bind_eq_some_iff.mp h
       refine QTri.callV W (a := 1) (as := [.int y27, .int y28]) (rest := []) (w := (some (.int r340.1))) (σ₁ := (H1 s r340.2 r180.2)) rfl rfl rfl rfl rfl rfl rfl rfl (tF4a1 Ad W s r180.2 v.2.1 y27 y28 hr340) ?_
       refine zS Ad W 3 (st' := (146, [vR 0, vR 1, vR 21, vI v.1, vI (y26 &&& (3:Int32)), vI y27, vI y28], [.int y28, .int y27, .ref 21, .int r340.1], (H1 s r340.2 r180.2))) rfl ?_
       obtain ⟨r341, hr341, h⟩ := bind_eq_some_iff.mp h
       refine QTri.callV W (a := 21) (as := [.int y27, .int y28]) (rest := [.int r340.1]) (w := (some (.int r341.1))) (σ₁ := (H1 s r340.2 r341.2)) rfl rfl rfl rfl rfl rfl rfl rfl (tF4 Ad W s r340.2 r180.2 y27 y28 hr341) ?_
       rcases qite h with ⟨hc342, h⟩ | ⟨hc342, h⟩
       ·refine zT Ad W (t := 162) (f := 152) rfl (XT.ii_eq_t hc342) ?_
        exact zM [tt,tt,tt,tt,ff,ff,ff] (tJ0_162 Ad W s r340.2 r341.2 v.1 h hx0 hx1 hc)
       ·refine zF Ad W (t := 162) (f := 152) rfl (XT.ii_eq_f hc342) ?_
        refine zS Ad W 1 (st' := (153, [vR 0, vR 1, vR 21, vI v.1, vI (y26 &&& (3:Int32)), vI y27, vI y28], [.int (0:Int32)], (H1 s r340.2 r341.2))) rfl ?_
        obtain rfl := Option.some.inj h
        obtain ⟨rfl, rfl⟩ := hx1 ((0:Int32), (H1 s r340.2 r341.2)) rfl
        exact QTri.retZ rfl rfl
      ·refine zT Ad W (t := 154) (f := 133) rfl (XT.ii_ne_t hc334) ?_
       refine zS Ad W 1 (st' := (155, [vR 0, vR 1, vR 21, vI v.1, vI (y26 &&& (3:Int32)), vI y27, vI y28], [.ref 1], (H1 s v.2.1 r180.2))) rfl ?_
       obtain ⟨r438, hr438, h⟩ := bind_eq_some_iff.mp h
       refine QTri.callV W (a := 1) (as := []) (rest := []) (w := none) (σ₁ := (H1 s r438 r180.2)) rfl rfl rfl rfl rfl rfl rfl rfl (tF6 Ad W s r180.2 v.2.1 hr438) ?_
       refine zS Ad W 1 (st' := (159, [vR 0, vR 1, vR 21, vI v.1, vI (y26 &&& (3:Int32)), vI y27, vI y28], [.ref 21], (H1 s r438 r180.2))) rfl ?_
       obtain ⟨r534, hr534, h⟩ := bind_eq_some_iff.mp h
       refine QTri.callV W (a := 21) (as := []) (rest := []) (w := none) (σ₁ := (H1 s r438 r534)) rfl rfl rfl rfl rfl rfl rfl rfl (tF6a1 Ad W s r438 r180.2 hr534) ?_
       exact zM [tt,tt,tt,tt,ff,ff,ff] (tJ0_162 Ad W s r438 r534 v.1 h hx0 hx1 hc)
   ·refine zF Ad W (t := 88) (f := 86) rfl (XT.i0_eq_f hc181) ?_
    refine zS Ad W 1 (st' := (87, [vR 0, vR 1, vR 21, vI v.1, vI (y26 &&& (3:Int32)), vI y27, vI y28], [.int (0:Int32)], (H1 s v.2.1 r180.2))) rfl ?_
    obtain rfl := Option.some.inj h
    obtain ⟨rfl, rfl⟩ := hx1 ((0:Int32), (H1 s v.2.1 r180.2)) rfl
    exact QTri.retZ rfl rfl
  ·refine zF Ad W (t := 73) (f := 71) rfl (XT.ii_eq_f hc172) ?_
   refine zS Ad W 1 (st' := (72, [vR 0, vR 1, vR 21, vI v.1, vI (y26 &&& (3:Int32)), vI y27, vI y28], [.int (0:Int32)], (H1 s v.2.1 r171.2))) rfl ?_
   obtain rfl := Option.some.inj h
   obtain ⟨rfl, rfl⟩ := hx1 ((0:Int32), (H1 s v.2.1 r171.2)) rfl
   exact QTri.retZ rfl rfl
/-- sourceLead()I -/
def F30 (o : Ob) : Option (Int32) :=
 (F14 o).bind fun r537 => some r537
theorem tF30 (Ad : QAd n0 ad) (W : QW Z a0) (s : List Int32) (e0 : Ob) (o : Ob) {r : Int32} (h : F30 o = some r) : QTri l Z n0 ad 30 (0, qentry [.ref 1] (pMaxL 30), [], (H1 s o e0)) (some (Value.int r)) (H1 s o e0) := by
 unfold F30 at h
 refine zS Ad W 1 (st' := (1, [vR 1], [.ref 1], (H1 s o e0))) rfl ?_
 obtain ⟨r537, hr537, h⟩ := bind_eq_some_iff.mp h
 refine QTri.callP W (a := 1) (as := []) (rest := []) (w := (some (.int r537))) (σ₁ := (H1 s o e0)) rfl rfl rfl rfl rfl rfl rfl rfl (tF14a1 Ad W s e0 o hr537) ?_
 obtain rfl := Option.some.inj h
 exact QTri.retI rfl rfl
theorem tF30a1 (Ad : QAd n0 ad) (W : QW Z a0) (s : List Int32) (e0 : Ob) (o : Ob) {r : Int32} (h : F30 o = some r) : QTri l Z n0 ad 30 (0, qentry [.ref 21] (pMaxL 30), [], (H1 s e0 o)) (some (Value.int r)) (H1 s e0 o) := by
 unfold F30 at h
 refine zS Ad W 1 (st' := (1, [vR 21], [.ref 21], (H1 s e0 o))) rfl ?_
 obtain ⟨r539, hr539, h⟩ := bind_eq_some_iff.mp h
 refine QTri.callP W (a := 21) (as := []) (rest := []) (w := (some (.int r539))) (σ₁ := (H1 s e0 o)) rfl rfl rfl rfl rfl rfl rfl rfl (tF14 Ad W s e0 o hr539) ?_
 obtain rfl := Option.some.inj h
 exact QTri.retI rfl rfl
/-- sourceTrail()I -/
def F31 (o : Ob) : Option (Int32) :=
 (F8 o).bind fun r542 => some r542
theorem tF31 (Ad : QAd n0 ad) (W : QW Z a0) (s : List Int32) (e0 : Ob) (o : Ob) {r : Int32} (h : F31 o = some r) : QTri l Z n0 ad 31 (0, qentry [.ref 1] (pMaxL 31), [], (H1 s o e0)) (some (Value.int r)) (H1 s o e0) := by
 unfold F31 at h
 refine zS Ad W 1 (st' := (1, [vR 1], [.ref 1], (H1 s o e0))) rfl ?_
 obtain ⟨r542, hr542, h⟩ := bind_eq_some_iff.mp h
 refine QTri.callP W (a := 1) (as := []) (rest := []) (w := (some (.int r542))) (σ₁ := (H1 s o e0)) rfl rfl rfl rfl rfl rfl rfl rfl (tF8a1 Ad W s e0 o hr542) ?_
 obtain rfl := Option.some.inj h
 exact QTri.retI rfl rfl
theorem tF31a1 (Ad : QAd n0 ad) (W : QW Z a0) (s : List Int32) (e0 : Ob) (o : Ob) {r : Int32} (h : F31 o = some r) : QTri l Z n0 ad 31 (0, qentry [.ref 21] (pMaxL 31), [], (H1 s e0 o)) (some (Value.int r)) (H1 s e0 o) := by
 unfold F31 at h
 refine zS Ad W 1 (st' := (1, [vR 21], [.ref 21], (H1 s e0 o))) rfl ?_
 obtain ⟨r544, hr544, h⟩ := bind_eq_some_iff.mp h
 refine QTri.callP W (a := 21) (as := []) (rest := []) (w := (some (.int r544))) (σ₁ := (H1 s e0 o)) rfl rfl rfl rfl rfl rfl rfl rfl (tF8 Ad W s e0 o hr544) ?_
 obtain rfl := Option.some.inj h
 exact QTri.retI rfl rfl
/-- stat(I)I -/
def F32 (o : Ob) (x1 : Int32) : Option (Int32) :=
 (if x1 = (8:Int32) then some (f_qLen o) else (if x1 < (0:Int32) then some (-1:Int32) else (if (9:Int32) < x1 then some (-1:Int32) else (aget (f_stats o) x1).bind fun y551 => some y551)))
theorem tF32 (Ad : QAd n0 ad) (W : QW Z a0) (s : List Int32) (e0 : Ob) (o : Ob) (x1 : Int32) {r : Int32} (h : F32 o x1 = some r) : QTri l Z n0 ad 32 (0, qentry [.ref 1, .int x1] (pMaxL 32), [], (H1 s o e0)) (some (Value.int r)) (H1 s o e0) := by
 unfold F32 at h
 refine zS Ad W 2 (st' := (3, [vR 1, vI x1], [.int (8:Int32), .int x1], (H1 s o e0))) rfl ?_
 rcases qite h with ⟨hc548, h⟩ | ⟨hc548, h⟩
 ·refine zF Ad W (t := 11) (f := 6) rfl (XT.ii_ne_f hc548) ?_
  refine zS Ad W 2 (st' := (10, [vR 1, vI x1], [.int (f_qLen o)], (H1 s o e0))) rfl ?_
  obtain rfl := Option.some.inj h
  exact QTri.retI rfl rfl
 ·refine zT Ad W (t := 11) (f := 6) rfl (XT.ii_ne_t hc548) ?_
  refine zS Ad W 1 (st' := (12, [vR 1, vI x1], [.int x1], (H1 s o e0))) rfl ?_
  rcases qite h with ⟨hc549, h⟩ | ⟨hc549, h⟩
  ·refine zT Ad W (t := 21) (f := 15) rfl (XT.i0_lt_t hc549) ?_
   refine zS Ad W 1 (st' := (22, [vR 1, vI x1], [.int (-1:Int32)], (H1 s o e0))) rfl ?_
   obtain rfl := Option.some.inj h
   exact QTri.retI rfl rfl
  ·refine zF Ad W (t := 21) (f := 15) rfl (XT.i0_lt_f hc549) ?_
   refine zS Ad W 2 (st' := (18, [vR 1, vI x1], [.int (9:Int32), .int x1], (H1 s o e0))) rfl ?_
   rcases qite h with ⟨hc550, h⟩ | ⟨hc550, h⟩
   ·refine zF Ad W (t := 23) (f := 21) rfl (XT.ii_le_f hc550) ?_
    refine zS Ad W 1 (st' := (22, [vR 1, vI x1], [.int (-1:Int32)], (H1 s o e0))) rfl ?_
    obtain rfl := Option.some.inj h
    exact QTri.retI rfl rfl
   ·refine zT Ad W (t := 23) (f := 21) rfl (XT.ii_le_t hc550) ?_
    refine zS Ad W 3 (st' := (28, [vR 1, vI x1], [.int x1, .ref 5], (H1 s o e0))) rfl ?_
    obtain ⟨y551, hy551, h⟩ := bind_eq_some_iff.mp h
    refine zB Ad W (f := fun y551 => (29, [vR 1, vI x1], [.int y551], (H1 s o e0))) rfl hy551 ?_
    obtain rfl := Option.some.inj h
    exact QTri.retI rfl rfl
theorem tF32a1 (Ad : QAd n0 ad) (W : QW Z a0) (s : List Int32) (e0 : Ob) (o : Ob) (x1 : Int32) {r : Int32} (h : F32 o x1 = some r) : QTri l Z n0 ad 32 (0, qentry [.ref 21, .int x1] (pMaxL 32), [], (H1 s e0 o)) (some (Value.int r)) (H1 s e0 o) := by
 unfold F32 at h
 refine zS Ad W 2 (st' := (3, [vR 21, vI x1], [.int (8:Int32), .int x1], (H1 s e0 o))) rfl ?_
 rcases qite h with ⟨hc553, h⟩ | ⟨hc553, h⟩
 ·refine zF Ad W (t := 11) (f := 6) rfl (XT.ii_ne_f hc553) ?_
  refine zS Ad W 2 (st' := (10, [vR 21, vI x1], [.int (f_qLen o)], (H1 s e0 o))) rfl ?_
  obtain rfl := Option.some.inj h
  exact QTri.retI rfl rfl
 ·refine zT Ad W (t := 11) (f := 6) rfl (XT.ii_ne_t hc553) ?_
  refine zS Ad W 1 (st' := (12, [vR 21, vI x1], [.int x1], (H1 s e0 o))) rfl ?_
  rcases qite h with ⟨hc554, h⟩ | ⟨hc554, h⟩
  ·refine zT Ad W (t := 21) (f := 15) rfl (XT.i0_lt_t hc554) ?_
   refine zS Ad W 1 (st' := (22, [vR 21, vI x1], [.int (-1:Int32)], (H1 s e0 o))) rfl ?_
   obtain rfl := Option.some.inj h
   exact QTri.retI rfl rfl
  ·refine zF Ad W (t := 21) (f := 15) rfl (XT.i0_lt_f hc554) ?_
   refine zS Ad W 2 (st' := (18, [vR 21, vI x1], [.int (9:Int32), .int x1], (H1 s e0 o))) rfl ?_
   rcases qite h with ⟨hc555, h⟩ | ⟨hc555, h⟩
   ·refine zF Ad W (t := 23) (f := 21) rfl (XT.ii_le_f hc555) ?_
    refine zS Ad W 1 (st' := (22, [vR 21, vI x1], [.int (-1:Int32)], (H1 s e0 o))) rfl ?_
    obtain rfl := Option.some.inj h
    exact QTri.retI rfl rfl
   ·refine zT Ad W (t := 23) (f := 21) rfl (XT.ii_le_t hc555) ?_
    refine zS Ad W 3 (st' := (28, [vR 21, vI x1], [.int x1, .ref 25], (H1 s e0 o))) rfl ?_
    obtain ⟨y556, hy556, h⟩ := bind_eq_some_iff.mp h
    refine zB Ad W (f := fun y556 => (29, [vR 21, vI x1], [.int y556], (H1 s e0 o))) rfl hy556 ?_
    obtain rfl := Option.some.inj h
    exact QTri.retI rfl rfl
def B29_28 (o1 : Ob) (o2 : Ob) (v : Int32) : Option (((Unit) ⊕ (Int32)) ⊕ (Int32)) :=
  (if v < (10 : Int32) then (F32 o1 v).bind fun r552 => (F32 o2 v).bind fun r557 => (if r552 = r557 then some (.inr (v + (1 : Int32))) else some (.inl (Sum.inr (0 : Int32)))) else some (.inl (Sum.inl ())))
theorem tB29_28 (Ad : QAd n0 ad) (W : QW Z a0) (s : List Int32) (o1 : Ob) (o2 : Ob) (v : Int32) {r : ((Unit) ⊕ (Int32)) ⊕ (Int32)} {u : Option Value} {τ : QHeap} (h : B29_28 o1 o2 v = some r) (hx0 : ∀ x : Unit, r = .inl (Sum.inl x) → QTri l Z n0 ad 29 (55, [vR 1, vR 21, none, none], [], (H1 s o1 o2)) u τ) (hx1 : ∀ x : Int32, r = .inl (Sum.inr x) → u = (some (Value.int x)) ∧ τ = (H1 s o1 o2)) (hc : ∀ x : Int32, r = .inr x → QTri l Z n0 ad 29 (28, [vR 1, vR 21, vI x, none], [], (H1 s o1 o2)) u τ) : QTri l Z n0 ad 29 (28, [vR 1, vR 21, vI v, none], [], (H1 s o1 o2)) u τ := by
 unfold B29_28 at h
 refine zS Ad W 2 (st' := (31, [vR 1, vR 21, vI v, none], [.int (10:Int32), .int v], (H1 s o1 o2))) rfl ?_
 rcases qite h with ⟨hc547, h⟩ | ⟨hc547, h⟩
 ·refine zF Ad W (t := 55) (f := 34) rfl (XT.ii_ge_f hc547) ?_
  refine zS Ad W 2 (st' := (36, [vR 1, vR 21, vI v, none], [.int v, .ref 1], (H1 s o1 o2))) rfl ?_
  obtain ⟨r552, hr552, h⟩ := bind_eq_some_iff.mp h
  refine QTri.callV W (a := 1) (as := [.int v]) (rest := []) (w := (some (.int r552))) (σ₁ := (H1 s o1 o2)) rfl rfl rfl rfl rfl rfl rfl rfl (tF32 Ad W s o2 o1 v hr552) ?_
  refine zS Ad W 2 (st' := (41, [vR 1, vR 21, vI v, none], [.int v, .ref 21, .int r552], (H1 s o1 o2))) rfl ?_
  obtain ⟨r557, hr557, h⟩ := bind_eq_some_iff.mp h
  refine QTri.callV W (a := 21) (as := [.int v]) (rest := [.int r552]) (w := (some (.int r557))) (σ₁ := (H1 s o1 o2)) rfl rfl rfl rfl rfl rfl rfl rfl (tF32a1 Ad W s o1 o2 v hr557) ?_
  rcases qite h with ⟨hc558, h⟩ | ⟨hc558, h⟩
  ·refine zT Ad W (t := 49) (f := 47) rfl (XT.ii_eq_t hc558) ?_
   refine zS Ad W 2 (st' := (28, [vR 1, vR 21, vI (v + (1:Int32)), none], [], (H1 s o1 o2))) rfl ?_
   obtain rfl := Option.some.inj h
   exact zM [tt,tt,tt,ff] (hc (v + (1:Int32)) rfl)
  ·refine zF Ad W (t := 49) (f := 47) rfl (XT.ii_eq_f hc558) ?_
   refine zS Ad W 1 (st' := (48, [vR 1, vR 21, vI v, none], [.int (0:Int32)], (H1 s o1 o2))) rfl ?_
   obtain rfl := Option.some.inj h
   obtain ⟨rfl, rfl⟩ := hx1 (0:Int32) rfl
   exact QTri.retZ rfl rfl
 ·refine zT Ad W (t := 55) (f := 34) rfl (XT.ii_ge_t hc547) ?_
  obtain rfl := Option.some.inj h
  exact zM [tt,tt,ff,ff] (hx0 () rfl)
/-- pending(I)Z -/
def F33 (o : Ob) (x1 : Int32) : Option (Int32) :=
 (F18 x1).bind fun r562 => (if r562 = (0:Int32) then some (0:Int32) else (aget (f_pend o) x1).bind fun y564 => some (y564 &&& 1))
theorem tF33 (Ad : QAd n0 ad) (W : QW Z a0) (s : List Int32) (e0 : Ob) (o : Ob) (x1 : Int32) {r : Int32} (h : F33 o x1 = some r) : QTri l Z n0 ad 33 (0, qentry [.ref 1, .int x1] (pMaxL 33), [], (H1 s o e0)) (some (Value.int r)) (H1 s o e0) := by
 unfold F33 at h
 refine zS Ad W 2 (st' := (2, [vR 1, vI x1], [.int x1, .ref 1], (H1 s o e0))) rfl ?_
 obtain ⟨r562, hr562, h⟩ := bind_eq_some_iff.mp h
 refine QTri.callP W (a := 1) (as := [.int x1]) (rest := []) (w := (some (.int r562))) (σ₁ := (H1 s o e0)) rfl rfl rfl rfl rfl rfl rfl rfl (tF18 Ad W x1 hr562) ?_
 rcases qite h with ⟨hc563, h⟩ | ⟨hc563, h⟩
 ·refine zF Ad W (t := 10) (f := 8) rfl (XT.i0_ne_f hc563) ?_
  refine zS Ad W 1 (st' := (9, [vR 1, vI x1], [.int (0:Int32)], (H1 s o e0))) rfl ?_
  obtain rfl := Option.some.inj h
  exact QTri.retZ rfl rfl
 ·refine zT Ad W (t := 10) (f := 8) rfl (XT.i0_ne_t hc563) ?_
  refine zS Ad W 3 (st' := (15, [vR 1, vI x1], [.int x1, .ref 3], (H1 s o e0))) rfl ?_
  obtain ⟨y564, hy564, h⟩ := bind_eq_some_iff.mp h
  refine zB Ad W (f := fun y564 => (16, [vR 1, vI x1], [.int y564], (H1 s o e0))) rfl hy564 ?_
  obtain rfl := Option.some.inj h
  exact QTri.retZ rfl rfl
theorem tF33a1 (Ad : QAd n0 ad) (W : QW Z a0) (s : List Int32) (e0 : Ob) (o : Ob) (x1 : Int32) {r : Int32} (h : F33 o x1 = some r) : QTri l Z n0 ad 33 (0, qentry [.ref 21, .int x1] (pMaxL 33), [], (H1 s e0 o)) (some (Value.int r)) (H1 s e0 o) := by
 unfold F33 at h
 refine zS Ad W 2 (st' := (2, [vR 21, vI x1], [.int x1, .ref 21], (H1 s e0 o))) rfl ?_
 obtain ⟨r566, hr566, h⟩ := bind_eq_some_iff.mp h
 refine QTri.callP W (a := 21) (as := [.int x1]) (rest := []) (w := (some (.int r566))) (σ₁ := (H1 s e0 o)) rfl rfl rfl rfl rfl rfl rfl rfl (tF18 Ad W x1 hr566) ?_
 rcases qite h with ⟨hc567, h⟩ | ⟨hc567, h⟩
 ·refine zF Ad W (t := 10) (f := 8) rfl (XT.i0_ne_f hc567) ?_
  refine zS Ad W 1 (st' := (9, [vR 21, vI x1], [.int (0:Int32)], (H1 s e0 o))) rfl ?_
  obtain rfl := Option.some.inj h
  exact QTri.retZ rfl rfl
 ·refine zT Ad W (t := 10) (f := 8) rfl (XT.i0_ne_t hc567) ?_
  refine zS Ad W 3 (st' := (15, [vR 21, vI x1], [.int x1, .ref 23], (H1 s e0 o))) rfl ?_
  obtain ⟨y568, hy568, h⟩ := bind_eq_some_iff.mp h
  refine zB Ad W (f := fun y568 => (16, [vR 21, vI x1], [.int y568], (H1 s e0 o))) rfl hy568 ?_
  obtain rfl := Option.some.inj h
  exact QTri.retZ rfl rfl
/-- queued(I)I -/
def F34 (o : Ob) (x1 : Int32) : Option (Int32) :=
 (if x1 < (0:Int32) then some (-1:Int32) else (if x1 < (f_qLen o) then (aget (f_queue o) x1).bind fun y573 => some y573 else some (-1:Int32)))
theorem tF34 (Ad : QAd n0 ad) (W : QW Z a0) (s : List Int32) (e0 : Ob) (o : Ob) (x1 : Int32) {r : Int32} (h : F34 o x1 = some r) : QTri l Z n0 ad 34 (0, qentry [.ref 1, .int x1] (pMaxL 34), [], (H1 s o e0)) (some (Value.int r)) (H1 s o e0) := by
 unfold F34 at h
 refine zS Ad W 1 (st' := (1, [vR 1, vI x1], [.int x1], (H1 s o e0))) rfl ?_
 rcases qite h with ⟨hc571, h⟩ | ⟨hc571, h⟩
 ·refine zT Ad W (t := 12) (f := 4) rfl (XT.i0_lt_t hc571) ?_
  refine zS Ad W 1 (st' := (13, [vR 1, vI x1], [.int (-1:Int32)], (H1 s o e0))) rfl ?_
  obtain rfl := Option.some.inj h
  exact QTri.retI rfl rfl
 ·refine zF Ad W (t := 12) (f := 4) rfl (XT.i0_lt_f hc571) ?_
  refine zS Ad W 3 (st' := (9, [vR 1, vI x1], [.int (f_qLen o), .int x1], (H1 s o e0))) rfl ?_
  rcases qite h with ⟨hc572, h⟩ | ⟨hc572, h⟩
  ·refine zT Ad W (t := 14) (f := 12) rfl (XT.ii_lt_t hc572) ?_
   refine zS Ad W 3 (st' := (19, [vR 1, vI x1], [.int x1, .ref 4], (H1 s o e0))) rfl ?_
   obtain ⟨y573, hy573, h⟩ := bind_eq_some_iff.mp h
   refine zB Ad W (f := fun y573 => (20, [vR 1, vI x1], [.int y573], (H1 s o e0))) rfl hy573 ?_
   obtain rfl := Option.some.inj h
   exact QTri.retI rfl rfl
  ·refine zF Ad W (t := 14) (f := 12) rfl (XT.ii_lt_f hc572) ?_
   refine zS Ad W 1 (st' := (13, [vR 1, vI x1], [.int (-1:Int32)], (H1 s o e0))) rfl ?_
   obtain rfl := Option.some.inj h
   exact QTri.retI rfl rfl
theorem tF34a1 (Ad : QAd n0 ad) (W : QW Z a0) (s : List Int32) (e0 : Ob) (o : Ob) (x1 : Int32) {r : Int32} (h : F34 o x1 = some r) : QTri l Z n0 ad 34 (0, qentry [.ref 21, .int x1] (pMaxL 34), [], (H1 s e0 o)) (some (Value.int r)) (H1 s e0 o) := by
 unfold F34 at h
 refine zS Ad W 1 (st' := (1, [vR 21, vI x1], [.int x1], (H1 s e0 o))) rfl ?_
 rcases qite h with ⟨hc575, h⟩ | ⟨hc575, h⟩
 ·refine zT Ad W (t := 12) (f := 4) rfl (XT.i0_lt_t hc575) ?_
  refine zS Ad W 1 (st' := (13, [vR 21, vI x1], [.int (-1:Int32)], (H1 s e0 o))) rfl ?_
  obtain rfl := Option.some.inj h
  exact QTri.retI rfl rfl
 ·refine zF Ad W (t := 12) (f := 4) rfl (XT.i0_lt_f hc575) ?_
  refine zS Ad W 3 (st' := (9, [vR 21, vI x1], [.int (f_qLen o), .int x1], (H1 s e0 o))) rfl ?_
  rcases qite h with ⟨hc576, h⟩ | ⟨hc576, h⟩
  ·refine zT Ad W (t := 14) (f := 12) rfl (XT.ii_lt_t hc576) ?_
   refine zS Ad W 3 (st' := (19, [vR 21, vI x1], [.int x1, .ref 24], (H1 s e0 o))) rfl ?_
   obtain ⟨y577, hy577, h⟩ := bind_eq_some_iff.mp h
   refine zB Ad W (f := fun y577 => (20, [vR 21, vI x1], [.int y577], (H1 s e0 o))) rfl hy577 ?_
   obtain rfl := Option.some.inj h
   exact QTri.retI rfl rfl
  ·refine zF Ad W (t := 14) (f := 12) rfl (XT.ii_lt_f hc576) ?_
   refine zS Ad W 1 (st' := (13, [vR 21, vI x1], [.int (-1:Int32)], (H1 s e0 o))) rfl ?_
   obtain rfl := Option.some.inj h
   exact QTri.retI rfl rfl
def B29_57 (o1 : Ob) (o2 : Ob) (v : Int32) : Option (((Unit) ⊕ (Int32)) ⊕ (Int32)) :=
  (if v < (32 : Int32) then (F33 o1 v).bind fun r565 => (F33 o2 v).bind fun r569 => (if r565 = r569 then (F34 o1 v).bind fun r574 => (F34 o2 v).bind fun r578 => (if r574 = r578 then some (.inr (v + (1 : Int32))) else some (.inl (Sum.inr (0 : Int32)))) else some (.inl (Sum.inr (0 : Int32)))) else some (.inl (Sum.inl ())))
theorem tB29_57 (Ad : QAd n0 ad) (W : QW Z a0) (s : List Int32) (o1 : Ob) (o2 : Ob) (v : Int32) {r : ((Unit) ⊕ (Int32)) ⊕ (Int32)} {u : Option Value} {τ : QHeap} (h : B29_57 o1 o2 v = some r) (hx0 : ∀ x : Unit, r = .inl (Sum.inl x) → QTri l Z n0 ad 29 (99, [vR 1, vR 21, none, none], [], (H1 s o1 o2)) u τ) (hx1 : ∀ x : Int32, r = .inl (Sum.inr x) → u = (some (Value.int x)) ∧ τ = (H1 s o1 o2)) (hc : ∀ x : Int32, r = .inr x → QTri l Z n0 ad 29 (57, [vR 1, vR 21, vI x, none], [], (H1 s o1 o2)) u τ) : QTri l Z n0 ad 29 (57, [vR 1, vR 21, vI v, none], [], (H1 s o1 o2)) u τ := by
 unfold B29_57 at h
 refine zS Ad W 2 (st' := (60, [vR 1, vR 21, vI v, none], [.int (32:Int32), .int v], (H1 s o1 o2))) rfl ?_
 rcases qite h with ⟨hc561, h⟩ | ⟨hc561, h⟩
 ·refine zF Ad W (t := 99) (f := 63) rfl (XT.ii_ge_f hc561) ?_
  refine zS Ad W 2 (st' := (65, [vR 1, vR 21, vI v, none], [.int v, .ref 1], (H1 s o1 o2))) rfl ?_
  obtain ⟨r565, hr565, h⟩ := bind_eq_some_iff.mp h
  refine QTri.callV W (a := 1) (as := [.int v]) (rest := []) (w := (some (.int r565))) (σ₁ := (H1 s o1 o2)) rfl rfl rfl rfl rfl rfl rfl rfl (tF33 Ad W s o2 o1 v hr565) ?_
  refine zS Ad W 2 (st' := (70, [vR 1, vR 21, vI v, none], [.int v, .ref 21, .int r565], (H1 s o1 o2))) rfl ?_
  obtain ⟨r569, hr569, h⟩ := bind_eq_some_iff.mp h
  refine QTri.callV W (a := 21) (as := [.int v]) (rest := [.int r565]) (w := (some (.int r569))) (σ₁ := (H1 s o1 o2)) rfl rfl rfl rfl rfl rfl rfl rfl (tF33a1 Ad W s o1 o2 v hr569) ?_
  rcases qite h with ⟨hc570, h⟩ | ⟨hc570, h⟩
  ·refine zT Ad W (t := 78) (f := 76) rfl (XT.ii_eq_t hc570) ?_
   refine zS Ad W 2 (st' := (80, [vR 1, vR 21, vI v, none], [.int v, .ref 1], (H1 s o1 o2))) rfl ?_
   obtain ⟨r574, hr574, h⟩ := bind_eq_some_iff.mp h
   refine QTri.callV W (a := 1) (as := [.int v]) (rest := []) (w := (some (.int r574))) (σ₁ := (H1 s o1 o2)) rfl rfl rfl rfl rfl rfl rfl rfl (tF34 Ad W s o2 o1 v hr574) ?_
   refine zS Ad W 2 (st' := (85, [vR 1, vR 21, vI v, none], [.int v, .ref 21, .int r574], (H1 s o1 o2))) rfl ?_
   obtain ⟨r578, hr578, h⟩ := bind_eq_some_iff.mp h
   refine QTri.callV W (a := 21) (as := [.int v]) (rest := [.int r574]) (w := (some (.int r578))) (σ₁ := (H1 s o1 o2)) rfl rfl rfl rfl rfl rfl rfl rfl (tF34a1 Ad W s o1 o2 v hr578) ?_
   rcases qite h with ⟨hc579, h⟩ | ⟨hc579, h⟩
   ·refine zT Ad W (t := 93) (f := 91) rfl (XT.ii_eq_t hc579) ?_
    refine zS Ad W 2 (st' := (57, [vR 1, vR 21, vI (v + (1:Int32)), none], [], (H1 s o1 o2))) rfl ?_
    obtain rfl := Option.some.inj h
    exact zM [tt,tt,tt,ff] (hc (v + (1:Int32)) rfl)
   ·refine zF Ad W (t := 93) (f := 91) rfl (XT.ii_eq_f hc579) ?_
    refine zS Ad W 1 (st' := (92, [vR 1, vR 21, vI v, none], [.int (0:Int32)], (H1 s o1 o2))) rfl ?_
    obtain rfl := Option.some.inj h
    obtain ⟨rfl, rfl⟩ := hx1 (0:Int32) rfl
    exact QTri.retZ rfl rfl
  ·refine zF Ad W (t := 78) (f := 76) rfl (XT.ii_eq_f hc570) ?_
   refine zS Ad W 1 (st' := (77, [vR 1, vR 21, vI v, none], [.int (0:Int32)], (H1 s o1 o2))) rfl ?_
   obtain rfl := Option.some.inj h
   obtain ⟨rfl, rfl⟩ := hx1 (0:Int32) rfl
   exact QTri.retZ rfl rfl
 ·refine zT Ad W (t := 99) (f := 63) rfl (XT.ii_ge_t hc561) ?_
  obtain rfl := Option.some.inj h
  exact zM [tt,tt,ff,ff] (hx0 () rfl)
/-- rxInfo(II)I -/
def F35 (o : Ob) (x1 : Int32) (x2 : Int32) : Option (Int32) :=
 (F5 x1).bind fun r584 => (if r584 = (0:Int32) then some (-2:Int32) else (if x2 = (0:Int32) then (aget (f_rxNext o) x1).bind fun y587 => some y587 else (if x2 = (1:Int32) then (aget (f_rxLead o) x1).bind fun y589 => some y589 else (if x2 = (2:Int32) then (aget (f_rxTrail o) x1).bind fun y591 => some y591 else (if x2 = (3:Int32) then (aget (f_delLen o) x1).bind fun y593 => some y593 else (if x2 = (4:Int32) then (aget (f_lostLen o) x1).bind fun y595 => some y595 else (if x2 = (5:Int32) then (aget (f_lossLeft o) x1).bind fun y597 => some y597 else (if x2 = (6:Int32) then (aget (f_dups o) x1).bind fun y599 => some y599 else (if x2 = (7:Int32) then (aget (f_drops o) x1).bind fun y601 => some y601 else some (-2:Int32))))))))))
theorem tF35 (Ad : QAd n0 ad) (W : QW Z a0) (s : List Int32) (e0 : Ob) (o : Ob) (x1 : Int32) (x2 : Int32) {r : Int32} (h : F35 o x1 x2 = some r) : QTri l Z n0 ad 35 (0, qentry [.ref 1, .int x1, .int x2] (pMaxL 35), [], (H1 s o e0)) (some (Value.int r)) (H1 s o e0) := by
 unfold F35 at h
 refine zS Ad W 2 (st' := (2, [vR 1, vI x1, vI x2], [.int x1, .ref 1], (H1 s o e0))) rfl ?_
 obtain ⟨r584, hr584, h⟩ := bind_eq_some_iff.mp h
 refine QTri.callP W (a := 1) (as := [.int x1]) (rest := []) (w := (some (.int r584))) (σ₁ := (H1 s o e0)) rfl rfl rfl rfl rfl rfl rfl rfl (tF5 Ad W x1 hr584) ?_
 rcases qite h with ⟨hc585, h⟩ | ⟨hc585, h⟩
 ·refine zF Ad W (t := 11) (f := 8) rfl (XT.i0_ne_f hc585) ?_
  refine zS Ad W 1 (st' := (10, [vR 1, vI x1, vI x2], [.int (-2:Int32)], (H1 s o e0))) rfl ?_
  obtain rfl := Option.some.inj h
  exact QTri.retI rfl rfl
 ·refine zT Ad W (t := 11) (f := 8) rfl (XT.i0_ne_t hc585) ?_
  refine zS Ad W 1 (st' := (12, [vR 1, vI x1, vI x2], [.int x2], (H1 s o e0))) rfl ?_
  rcases qite h with ⟨hc586, h⟩ | ⟨hc586, h⟩
  ·refine zF Ad W (t := 22) (f := 15) rfl (XT.i0_ne_f hc586) ?_
   refine zS Ad W 3 (st' := (20, [vR 1, vI x1, vI x2], [.int x1, .ref 9], (H1 s o e0))) rfl ?_
   obtain ⟨y587, hy587, h⟩ := bind_eq_some_iff.mp h
   refine zB Ad W (f := fun y587 => (21, [vR 1, vI x1, vI x2], [.int y587], (H1 s o e0))) rfl hy587 ?_
   obtain rfl := Option.some.inj h
   exact QTri.retI rfl rfl
  ·refine zT Ad W (t := 22) (f := 15) rfl (XT.i0_ne_t hc586) ?_
   refine zS Ad W 2 (st' := (24, [vR 1, vI x1, vI x2], [.int (1:Int32), .int x2], (H1 s o e0))) rfl ?_
   rcases qite h with ⟨hc588, h⟩ | ⟨hc588, h⟩
   ·refine zF Ad W (t := 34) (f := 27) rfl (XT.ii_ne_f hc588) ?_
    refine zS Ad W 3 (st' := (32, [vR 1, vI x1, vI x2], [.int x1, .ref 10], (H1 s o e0))) rfl ?_
    obtain ⟨y589, hy589, h⟩ := bind_eq_some_iff.mp h
    refine zB Ad W (f := fun y589 => (33, [vR 1, vI x1, vI x2], [.int y589], (H1 s o e0))) rfl hy589 ?_
    obtain rfl := Option.some.inj h
    exact QTri.retI rfl rfl
   ·refine zT Ad W (t := 34) (f := 27) rfl (XT.ii_ne_t hc588) ?_
    refine zS Ad W 2 (st' := (36, [vR 1, vI x1, vI x2], [.int (2:Int32), .int x2], (H1 s o e0))) rfl ?_
    rcases qite h with ⟨hc590, h⟩ | ⟨hc590, h⟩
    ·refine zF Ad W (t := 46) (f := 39) rfl (XT.ii_ne_f hc590) ?_
     refine zS Ad W 3 (st' := (44, [vR 1, vI x1, vI x2], [.int x1, .ref 11], (H1 s o e0))) rfl ?_
     obtain ⟨y591, hy591, h⟩ := bind_eq_some_iff.mp h
     refine zB Ad W (f := fun y591 => (45, [vR 1, vI x1, vI x2], [.int y591], (H1 s o e0))) rfl hy591 ?_
     obtain rfl := Option.some.inj h
     exact QTri.retI rfl rfl
    ·refine zT Ad W (t := 46) (f := 39) rfl (XT.ii_ne_t hc590) ?_
     refine zS Ad W 2 (st' := (48, [vR 1, vI x1, vI x2], [.int (3:Int32), .int x2], (H1 s o e0))) rfl ?_
     rcases qite h with ⟨hc592, h⟩ | ⟨hc592, h⟩
     ·refine zF Ad W (t := 58) (f := 51) rfl (XT.ii_ne_f hc592) ?_
      refine zS Ad W 3 (st' := (56, [vR 1, vI x1, vI x2], [.int x1, .ref 17], (H1 s o e0))) rfl ?_
      obtain ⟨y593, hy593, h⟩ := bind_eq_some_iff.mp h
      refine zB Ad W (f := fun y593 => (57, [vR 1, vI x1, vI x2], [.int y593], (H1 s o e0))) rfl hy593 ?_
      obtain rfl := Option.some.inj h
      exact QTri.retI rfl rfl
     ·refine zT Ad W (t := 58) (f := 51) rfl (XT.ii_ne_t hc592) ?_
      refine zS Ad W 2 (st' := (60, [vR 1, vI x1, vI x2], [.int (4:Int32), .int x2], (H1 s o e0))) rfl ?_
      rcases qite h with ⟨hc594, h⟩ | ⟨hc594, h⟩
      ·refine zF Ad W (t := 70) (f := 63) rfl (XT.ii_ne_f hc594) ?_
       refine zS Ad W 3 (st' := (68, [vR 1, vI x1, vI x2], [.int x1, .ref 19], (H1 s o e0))) rfl ?_
       obtain ⟨y595, hy595, h⟩ := bind_eq_some_iff.mp h
       refine zB Ad W (f := fun y595 => (69, [vR 1, vI x1, vI x2], [.int y595], (H1 s o e0))) rfl hy595 ?_
       obtain rfl := Option.some.inj h
       exact QTri.retI rfl rfl
      ·refine zT Ad W (t := 70) (f := 63) rfl (XT.ii_ne_t hc594) ?_
       refine zS Ad W 2 (st' := (72, [vR 1, vI x1, vI x2], [.int (5:Int32), .int x2], (H1 s o e0))) rfl ?_
       rcases qite h with ⟨hc596, h⟩ | ⟨hc596, h⟩
       ·refine zF Ad W (t := 82) (f := 75) rfl (XT.ii_ne_f hc596) ?_
        refine zS Ad W 3 (st' := (80, [vR 1, vI x1, vI x2], [.int x1, .ref 12], (H1 s o e0))) rfl ?_
        obtain ⟨y597, hy597, h⟩ := bind_eq_some_iff.mp h
        refine zB Ad W (f := fun y597 => (81, [vR 1, vI x1, vI x2], [.int y597], (H1 s o e0))) rfl hy597 ?_
        obtain rfl := Option.some.inj h
        exact QTri.retI rfl rfl
       ·refine zT Ad W (t := 82) (f := 75) rfl (XT.ii_ne_t hc596) ?_
        refine zS Ad W 2 (st' := (85, [vR 1, vI x1, vI x2], [.int (6:Int32), .int x2], (H1 s o e0))) rfl ?_
        rcases qite h with ⟨hc598, h⟩ | ⟨hc598, h⟩
        ·refine zF Ad W (t := 95) (f := 88) rfl (XT.ii_ne_f hc598) ?_
         refine zS Ad W 3 (st' := (93, [vR 1, vI x1, vI x2], [.int x1, .ref 13], (H1 s o e0))) rfl ?_
         obtain ⟨y599, hy599, h⟩ := bind_eq_some_iff.mp h
         refine zB Ad W (f := fun y599 => (94, [vR 1, vI x1, vI x2], [.int y599], (H1 s o e0))) rfl hy599 ?_
         obtain rfl := Option.some.inj h
         exact QTri.retI rfl rfl
        ·refine zT Ad W (t := 95) (f := 88) rfl (XT.ii_ne_t hc598) ?_
         refine zS Ad W 2 (st' := (98, [vR 1, vI x1, vI x2], [.int (7:Int32), .int x2], (H1 s o e0))) rfl ?_
         rcases qite h with ⟨hc600, h⟩ | ⟨hc600, h⟩
         ·refine zF Ad W (t := 108) (f := 101) rfl (XT.ii_ne_f hc600) ?_
          refine zS Ad W 3 (st' := (106, [vR 1, vI x1, vI x2], [.int x1, .ref 14], (H1 s o e0))) rfl ?_
          obtain ⟨y601, hy601, h⟩ := bind_eq_some_iff.mp h
          refine zB Ad W (f := fun y601 => (107, [vR 1, vI x1, vI x2], [.int y601], (H1 s o e0))) rfl hy601 ?_
          obtain rfl := Option.some.inj h
          exact QTri.retI rfl rfl
         ·refine zT Ad W (t := 108) (f := 101) rfl (XT.ii_ne_t hc600) ?_
          refine zS Ad W 1 (st' := (110, [vR 1, vI x1, vI x2], [.int (-2:Int32)], (H1 s o e0))) rfl ?_
          obtain rfl := Option.some.inj h
          exact QTri.retI rfl rfl
theorem tF35a1 (Ad : QAd n0 ad) (W : QW Z a0) (s : List Int32) (e0 : Ob) (o : Ob) (x1 : Int32) (x2 : Int32) {r : Int32} (h : F35 o x1 x2 = some r) : QTri l Z n0 ad 35 (0, qentry [.ref 21, .int x1, .int x2] (pMaxL 35), [], (H1 s e0 o)) (some (Value.int r)) (H1 s e0 o) := by
 unfold F35 at h
 refine zS Ad W 2 (st' := (2, [vR 21, vI x1, vI x2], [.int x1, .ref 21], (H1 s e0 o))) rfl ?_
 obtain ⟨r603, hr603, h⟩ := bind_eq_some_iff.mp h
 refine QTri.callP W (a := 21) (as := [.int x1]) (rest := []) (w := (some (.int r603))) (σ₁ := (H1 s e0 o)) rfl rfl rfl rfl rfl rfl rfl rfl (tF5 Ad W x1 hr603) ?_
 rcases qite h with ⟨hc604, h⟩ | ⟨hc604, h⟩
 ·refine zF Ad W (t := 11) (f := 8) rfl (XT.i0_ne_f hc604) ?_
  refine zS Ad W 1 (st' := (10, [vR 21, vI x1, vI x2], [.int (-2:Int32)], (H1 s e0 o))) rfl ?_
  obtain rfl := Option.some.inj h
  exact QTri.retI rfl rfl
 ·refine zT Ad W (t := 11) (f := 8) rfl (XT.i0_ne_t hc604) ?_
  refine zS Ad W 1 (st' := (12, [vR 21, vI x1, vI x2], [.int x2], (H1 s e0 o))) rfl ?_
  rcases qite h with ⟨hc605, h⟩ | ⟨hc605, h⟩
  ·refine zF Ad W (t := 22) (f := 15) rfl (XT.i0_ne_f hc605) ?_
   refine zS Ad W 3 (st' := (20, [vR 21, vI x1, vI x2], [.int x1, .ref 29], (H1 s e0 o))) rfl ?_
   obtain ⟨y606, hy606, h⟩ := bind_eq_some_iff.mp h
   refine zB Ad W (f := fun y606 => (21, [vR 21, vI x1, vI x2], [.int y606], (H1 s e0 o))) rfl hy606 ?_
   obtain rfl := Option.some.inj h
   exact QTri.retI rfl rfl
  ·refine zT Ad W (t := 22) (f := 15) rfl (XT.i0_ne_t hc605) ?_
   refine zS Ad W 2 (st' := (24, [vR 21, vI x1, vI x2], [.int (1:Int32), .int x2], (H1 s e0 o))) rfl ?_
   rcases qite h with ⟨hc607, h⟩ | ⟨hc607, h⟩
   ·refine zF Ad W (t := 34) (f := 27) rfl (XT.ii_ne_f hc607) ?_
    refine zS Ad W 3 (st' := (32, [vR 21, vI x1, vI x2], [.int x1, .ref 30], (H1 s e0 o))) rfl ?_
    obtain ⟨y608, hy608, h⟩ := bind_eq_some_iff.mp h
    refine zB Ad W (f := fun y608 => (33, [vR 21, vI x1, vI x2], [.int y608], (H1 s e0 o))) rfl hy608 ?_
    obtain rfl := Option.some.inj h
    exact QTri.retI rfl rfl
   ·refine zT Ad W (t := 34) (f := 27) rfl (XT.ii_ne_t hc607) ?_
    refine zS Ad W 2 (st' := (36, [vR 21, vI x1, vI x2], [.int (2:Int32), .int x2], (H1 s e0 o))) rfl ?_
    rcases qite h with ⟨hc609, h⟩ | ⟨hc609, h⟩
    ·refine zF Ad W (t := 46) (f := 39) rfl (XT.ii_ne_f hc609) ?_
     refine zS Ad W 3 (st' := (44, [vR 21, vI x1, vI x2], [.int x1, .ref 31], (H1 s e0 o))) rfl ?_
     obtain ⟨y610, hy610, h⟩ := bind_eq_some_iff.mp h
     refine zB Ad W (f := fun y610 => (45, [vR 21, vI x1, vI x2], [.int y610], (H1 s e0 o))) rfl hy610 ?_
     obtain rfl := Option.some.inj h
     exact QTri.retI rfl rfl
    ·refine zT Ad W (t := 46) (f := 39) rfl (XT.ii_ne_t hc609) ?_
     refine zS Ad W 2 (st' := (48, [vR 21, vI x1, vI x2], [.int (3:Int32), .int x2], (H1 s e0 o))) rfl ?_
     rcases qite h with ⟨hc611, h⟩ | ⟨hc611, h⟩
     ·refine zF Ad W (t := 58) (f := 51) rfl (XT.ii_ne_f hc611) ?_
      refine zS Ad W 3 (st' := (56, [vR 21, vI x1, vI x2], [.int x1, .ref 37], (H1 s e0 o))) rfl ?_
      obtain ⟨y612, hy612, h⟩ := bind_eq_some_iff.mp h
      refine zB Ad W (f := fun y612 => (57, [vR 21, vI x1, vI x2], [.int y612], (H1 s e0 o))) rfl hy612 ?_
      obtain rfl := Option.some.inj h
      exact QTri.retI rfl rfl
     ·refine zT Ad W (t := 58) (f := 51) rfl (XT.ii_ne_t hc611) ?_
      refine zS Ad W 2 (st' := (60, [vR 21, vI x1, vI x2], [.int (4:Int32), .int x2], (H1 s e0 o))) rfl ?_
      rcases qite h with ⟨hc613, h⟩ | ⟨hc613, h⟩
      ·refine zF Ad W (t := 70) (f := 63) rfl (XT.ii_ne_f hc613) ?_
       refine zS Ad W 3 (st' := (68, [vR 21, vI x1, vI x2], [.int x1, .ref 39], (H1 s e0 o))) rfl ?_
       obtain ⟨y614, hy614, h⟩ := bind_eq_some_iff.mp h
       refine zB Ad W (f := fun y614 => (69, [vR 21, vI x1, vI x2], [.int y614], (H1 s e0 o))) rfl hy614 ?_
       obtain rfl := Option.some.inj h
       exact QTri.retI rfl rfl
      ·refine zT Ad W (t := 70) (f := 63) rfl (XT.ii_ne_t hc613) ?_
       refine zS Ad W 2 (st' := (72, [vR 21, vI x1, vI x2], [.int (5:Int32), .int x2], (H1 s e0 o))) rfl ?_
       rcases qite h with ⟨hc615, h⟩ | ⟨hc615, h⟩
       ·refine zF Ad W (t := 82) (f := 75) rfl (XT.ii_ne_f hc615) ?_
        refine zS Ad W 3 (st' := (80, [vR 21, vI x1, vI x2], [.int x1, .ref 32], (H1 s e0 o))) rfl ?_
        obtain ⟨y616, hy616, h⟩ := bind_eq_some_iff.mp h
        refine zB Ad W (f := fun y616 => (81, [vR 21, vI x1, vI x2], [.int y616], (H1 s e0 o))) rfl hy616 ?_
        obtain rfl := Option.some.inj h
        exact QTri.retI rfl rfl
       ·refine zT Ad W (t := 82) (f := 75) rfl (XT.ii_ne_t hc615) ?_
        refine zS Ad W 2 (st' := (85, [vR 21, vI x1, vI x2], [.int (6:Int32), .int x2], (H1 s e0 o))) rfl ?_
        rcases qite h with ⟨hc617, h⟩ | ⟨hc617, h⟩
        ·refine zF Ad W (t := 95) (f := 88) rfl (XT.ii_ne_f hc617) ?_
         refine zS Ad W 3 (st' := (93, [vR 21, vI x1, vI x2], [.int x1, .ref 33], (H1 s e0 o))) rfl ?_
         obtain ⟨y618, hy618, h⟩ := bind_eq_some_iff.mp h
         refine zB Ad W (f := fun y618 => (94, [vR 21, vI x1, vI x2], [.int y618], (H1 s e0 o))) rfl hy618 ?_
         obtain rfl := Option.some.inj h
         exact QTri.retI rfl rfl
        ·refine zT Ad W (t := 95) (f := 88) rfl (XT.ii_ne_t hc617) ?_
         refine zS Ad W 2 (st' := (98, [vR 21, vI x1, vI x2], [.int (7:Int32), .int x2], (H1 s e0 o))) rfl ?_
         rcases qite h with ⟨hc619, h⟩ | ⟨hc619, h⟩
         ·refine zF Ad W (t := 108) (f := 101) rfl (XT.ii_ne_f hc619) ?_
          refine zS Ad W 3 (st' := (106, [vR 21, vI x1, vI x2], [.int x1, .ref 34], (H1 s e0 o))) rfl ?_
          obtain ⟨y620, hy620, h⟩ := bind_eq_some_iff.mp h
          refine zB Ad W (f := fun y620 => (107, [vR 21, vI x1, vI x2], [.int y620], (H1 s e0 o))) rfl hy620 ?_
          obtain rfl := Option.some.inj h
          exact QTri.retI rfl rfl
         ·refine zT Ad W (t := 108) (f := 101) rfl (XT.ii_ne_t hc619) ?_
          refine zS Ad W 1 (st' := (110, [vR 21, vI x1, vI x2], [.int (-2:Int32)], (H1 s e0 o))) rfl ?_
          obtain rfl := Option.some.inj h
          exact QTri.retI rfl rfl
def B29_108 (o1 : Ob) (o2 : Ob) (x2 : Int32) (v : Int32) : Option (((Unit) ⊕ (Int32)) ⊕ (Int32)) :=
  (if v < (8 : Int32) then (F35 o1 x2 v).bind fun r602 => (F35 o2 x2 v).bind fun r621 => (if r602 = r621 then some (.inr (v + (1 : Int32))) else some (.inl (Sum.inr (0 : Int32)))) else some (.inl (Sum.inl ())))
theorem tB29_108 (Ad : QAd n0 ad) (W : QW Z a0) (s : List Int32) (o1 : Ob) (o2 : Ob) (x2 : Int32) (v : Int32) {r : ((Unit) ⊕ (Int32)) ⊕ (Int32)} {u : Option Value} {τ : QHeap} (h : B29_108 o1 o2 x2 v = some r) (hx0 : ∀ x : Unit, r = .inl (Sum.inl x) → QTri l Z n0 ad 29 (137, [vR 1, vR 21, vI x2, none], [], (H1 s o1 o2)) u τ) (hx1 : ∀ x : Int32, r = .inl (Sum.inr x) → u = (some (Value.int x)) ∧ τ = (H1 s o1 o2)) (hc : ∀ x : Int32, r = .inr x → QTri l Z n0 ad 29 (108, [vR 1, vR 21, vI x2, vI x], [], (H1 s o1 o2)) u τ) : QTri l Z n0 ad 29 (108, [vR 1, vR 21, vI x2, vI v], [], (H1 s o1 o2)) u τ := by
 unfold B29_108 at h
 refine zS Ad W 2 (st' := (111, [vR 1, vR 21, vI x2, vI v], [.int (8:Int32), .int v], (H1 s o1 o2))) rfl ?_
 rcases qite h with ⟨hc583, h⟩ | ⟨hc583, h⟩
 ·refine zF Ad W (t := 137) (f := 114) rfl (XT.ii_ge_f hc583) ?_
  refine zS Ad W 3 (st' := (117, [vR 1, vR 21, vI x2, vI v], [.int v, .int x2, .ref 1], (H1 s o1 o2))) rfl ?_
  obtain ⟨r602, hr602, h⟩ := bind_eq_some_iff.mp h
  refine QTri.callV W (a := 1) (as := [.int x2, .int v]) (rest := []) (w := (some (.int r602))) (σ₁ := (H1 s o1 o2)) rfl rfl rfl rfl rfl rfl rfl rfl (tF35 Ad W s o2 o1 x2 v hr602) ?_
  refine zS Ad W 3 (st' := (123, [vR 1, vR 21, vI x2, vI v], [.int v, .int x2, .ref 21, .int r602], (H1 s o1 o2))) rfl ?_
  obtain ⟨r621, hr621, h⟩ := bind_eq_some_iff.mp h
  refine QTri.callV W (a := 21) (as := [.int x2, .int v]) (rest := [.int r602]) (w := (some (.int r621))) (σ₁ := (H1 s o1 o2)) rfl rfl rfl rfl rfl rfl rfl rfl (tF35a1 Ad W s o1 o2 x2 v hr621) ?_
  rcases qite h with ⟨hc622, h⟩ | ⟨hc622, h⟩
  ·refine zT Ad W (t := 131) (f := 129) rfl (XT.ii_eq_t hc622) ?_
   refine zS Ad W 2 (st' := (108, [vR 1, vR 21, vI x2, vI (v + (1:Int32))], [], (H1 s o1 o2))) rfl ?_
   obtain rfl := Option.some.inj h
   exact zM [tt,tt,tt,tt] (hc (v + (1:Int32)) rfl)
  ·refine zF Ad W (t := 131) (f := 129) rfl (XT.ii_eq_f hc622) ?_
   refine zS Ad W 1 (st' := (130, [vR 1, vR 21, vI x2, vI v], [.int (0:Int32)], (H1 s o1 o2))) rfl ?_
   obtain rfl := Option.some.inj h
   obtain ⟨rfl, rfl⟩ := hx1 (0:Int32) rfl
   exact QTri.retZ rfl rfl
 ·refine zT Ad W (t := 137) (f := 114) rfl (XT.ii_ge_t hc583) ?_
  obtain rfl := Option.some.inj h
  exact zM [tt,tt,tt,ff] (hx0 () rfl)
/-- rxState(II)I -/
def F36 (o : Ob) (x1 : Int32) (x2 : Int32) : Option (Int32) :=
 (F5 x1).bind fun r626 => (if r626 = (0:Int32) then some (-1:Int32) else (F18 x2).bind fun r628 => (if r628 = (0:Int32) then some (-1:Int32) else (aget (f_state o) ((x1 * (32:Int32)) + x2)).bind fun y630 => some y630))
theorem tF36 (Ad : QAd n0 ad) (W : QW Z a0) (s : List Int32) (e0 : Ob) (o : Ob) (x1 : Int32) (x2 : Int32) {r : Int32} (h : F36 o x1 x2 = some r) : QTri l Z n0 ad 36 (0, qentry [.ref 1, .int x1, .int x2] (pMaxL 36), [], (H1 s o e0)) (some (Value.int r)) (H1 s o e0) := by
 unfold F36 at h
 refine zS Ad W 2 (st' := (2, [vR 1, vI x1, vI x2], [.int x1, .ref 1], (H1 s o e0))) rfl ?_
 obtain ⟨r626, hr626, h⟩ := bind_eq_some_iff.mp h
 refine QTri.callP W (a := 1) (as := [.int x1]) (rest := []) (w := (some (.int r626))) (σ₁ := (H1 s o e0)) rfl rfl rfl rfl rfl rfl rfl rfl (tF5 Ad W x1 hr626) ?_
 rcases qite h with ⟨hc627, h⟩ | ⟨hc627, h⟩
 ·refine zT Ad W (t := 16) (f := 8) rfl (XT.i0_eq_t hc627) ?_
  refine zS Ad W 1 (st' := (17, [vR 1, vI x1, vI x2], [.int (-1:Int32)], (H1 s o e0))) rfl ?_
  obtain rfl := Option.some.inj h
  exact QTri.retI rfl rfl
 ·refine zF Ad W (t := 16) (f := 8) rfl (XT.i0_eq_f hc627) ?_
  refine zS Ad W 2 (st' := (10, [vR 1, vI x1, vI x2], [.int x2, .ref 1], (H1 s o e0))) rfl ?_
  obtain ⟨r628, hr628, h⟩ := bind_eq_some_iff.mp h
  refine QTri.callP W (a := 1) (as := [.int x2]) (rest := []) (w := (some (.int r628))) (σ₁ := (H1 s o e0)) rfl rfl rfl rfl rfl rfl rfl rfl (tF18 Ad W x2 hr628) ?_
  rcases qite h with ⟨hc629, h⟩ | ⟨hc629, h⟩
  ·refine zF Ad W (t := 18) (f := 16) rfl (XT.i0_ne_f hc629) ?_
   refine zS Ad W 1 (st' := (17, [vR 1, vI x1, vI x2], [.int (-1:Int32)], (H1 s o e0))) rfl ?_
   obtain rfl := Option.some.inj h
   exact QTri.retI rfl rfl
  ·refine zT Ad W (t := 18) (f := 16) rfl (XT.i0_ne_t hc629) ?_
   refine zS Ad W 7 (st' := (28, [vR 1, vI x1, vI x2], [.int ((x1 * (32:Int32)) + x2), .ref 6], (H1 s o e0))) rfl ?_
   obtain ⟨y630, hy630, h⟩ := bind_eq_some_iff.mp h
   refine zB Ad W (f := fun y630 => (29, [vR 1, vI x1, vI x2], [.int y630], (H1 s o e0))) rfl hy630 ?_
   obtain rfl := Option.some.inj h
   exact QTri.retI rfl rfl
theorem tF36a1 (Ad : QAd n0 ad) (W : QW Z a0) (s : List Int32) (e0 : Ob) (o : Ob) (x1 : Int32) (x2 : Int32) {r : Int32} (h : F36 o x1 x2 = some r) : QTri l Z n0 ad 36 (0, qentry [.ref 21, .int x1, .int x2] (pMaxL 36), [], (H1 s e0 o)) (some (Value.int r)) (H1 s e0 o) := by
 unfold F36 at h
 refine zS Ad W 2 (st' := (2, [vR 21, vI x1, vI x2], [.int x1, .ref 21], (H1 s e0 o))) rfl ?_
 obtain ⟨r632, hr632, h⟩ := bind_eq_some_iff.mp h
 refine QTri.callP W (a := 21) (as := [.int x1]) (rest := []) (w := (some (.int r632))) (σ₁ := (H1 s e0 o)) rfl rfl rfl rfl rfl rfl rfl rfl (tF5 Ad W x1 hr632) ?_
 rcases qite h with ⟨hc633, h⟩ | ⟨hc633, h⟩
 ·refine zT Ad W (t := 16) (f := 8) rfl (XT.i0_eq_t hc633) ?_
  refine zS Ad W 1 (st' := (17, [vR 21, vI x1, vI x2], [.int (-1:Int32)], (H1 s e0 o))) rfl ?_
  obtain rfl := Option.some.inj h
  exact QTri.retI rfl rfl
 ·refine zF Ad W (t := 16) (f := 8) rfl (XT.i0_eq_f hc633) ?_
  refine zS Ad W 2 (st' := (10, [vR 21, vI x1, vI x2], [.int x2, .ref 21], (H1 s e0 o))) rfl ?_
  obtain ⟨r634, hr634, h⟩ := bind_eq_some_iff.mp h
  refine QTri.callP W (a := 21) (as := [.int x2]) (rest := []) (w := (some (.int r634))) (σ₁ := (H1 s e0 o)) rfl rfl rfl rfl rfl rfl rfl rfl (tF18 Ad W x2 hr634) ?_
  rcases qite h with ⟨hc635, h⟩ | ⟨hc635, h⟩
  ·refine zF Ad W (t := 18) (f := 16) rfl (XT.i0_ne_f hc635) ?_
   refine zS Ad W 1 (st' := (17, [vR 21, vI x1, vI x2], [.int (-1:Int32)], (H1 s e0 o))) rfl ?_
   obtain rfl := Option.some.inj h
   exact QTri.retI rfl rfl
  ·refine zT Ad W (t := 18) (f := 16) rfl (XT.i0_ne_t hc635) ?_
   refine zS Ad W 7 (st' := (28, [vR 21, vI x1, vI x2], [.int ((x1 * (32:Int32)) + x2), .ref 26], (H1 s e0 o))) rfl ?_
   obtain ⟨y636, hy636, h⟩ := bind_eq_some_iff.mp h
   refine zB Ad W (f := fun y636 => (29, [vR 21, vI x1, vI x2], [.int y636], (H1 s e0 o))) rfl hy636 ?_
   obtain rfl := Option.some.inj h
   exact QTri.retI rfl rfl
/-- rxTimer(II)I -/
def F37 (o : Ob) (x1 : Int32) (x2 : Int32) : Option (Int32) :=
 (F5 x1).bind fun r639 => (if r639 = (0:Int32) then some (-1:Int32) else (F18 x2).bind fun r641 => (if r641 = (0:Int32) then some (-1:Int32) else (aget (f_timer o) ((x1 * (32:Int32)) + x2)).bind fun y643 => some y643))
theorem tF37 (Ad : QAd n0 ad) (W : QW Z a0) (s : List Int32) (e0 : Ob) (o : Ob) (x1 : Int32) (x2 : Int32) {r : Int32} (h : F37 o x1 x2 = some r) : QTri l Z n0 ad 37 (0, qentry [.ref 1, .int x1, .int x2] (pMaxL 37), [], (H1 s o e0)) (some (Value.int r)) (H1 s o e0) := by
 unfold F37 at h
 refine zS Ad W 2 (st' := (2, [vR 1, vI x1, vI x2], [.int x1, .ref 1], (H1 s o e0))) rfl ?_
 obtain ⟨r639, hr639, h⟩ := bind_eq_some_iff.mp h
 refine QTri.callP W (a := 1) (as := [.int x1]) (rest := []) (w := (some (.int r639))) (σ₁ := (H1 s o e0)) rfl rfl rfl rfl rfl rfl rfl rfl (tF5 Ad W x1 hr639) ?_
 rcases qite h with ⟨hc640, h⟩ | ⟨hc640, h⟩
 ·refine zT Ad W (t := 16) (f := 8) rfl (XT.i0_eq_t hc640) ?_
  refine zS Ad W 1 (st' := (17, [vR 1, vI x1, vI x2], [.int (-1:Int32)], (H1 s o e0))) rfl ?_
  obtain rfl := Option.some.inj h
  exact QTri.retI rfl rfl
 ·refine zF Ad W (t := 16) (f := 8) rfl (XT.i0_eq_f hc640) ?_
  refine zS Ad W 2 (st' := (10, [vR 1, vI x1, vI x2], [.int x2, .ref 1], (H1 s o e0))) rfl ?_
  obtain ⟨r641, hr641, h⟩ := bind_eq_some_iff.mp h
  refine QTri.callP W (a := 1) (as := [.int x2]) (rest := []) (w := (some (.int r641))) (σ₁ := (H1 s o e0)) rfl rfl rfl rfl rfl rfl rfl rfl (tF18 Ad W x2 hr641) ?_
  rcases qite h with ⟨hc642, h⟩ | ⟨hc642, h⟩
  ·refine zF Ad W (t := 18) (f := 16) rfl (XT.i0_ne_f hc642) ?_
   refine zS Ad W 1 (st' := (17, [vR 1, vI x1, vI x2], [.int (-1:Int32)], (H1 s o e0))) rfl ?_
   obtain rfl := Option.some.inj h
   exact QTri.retI rfl rfl
  ·refine zT Ad W (t := 18) (f := 16) rfl (XT.i0_ne_t hc642) ?_
   refine zS Ad W 7 (st' := (28, [vR 1, vI x1, vI x2], [.int ((x1 * (32:Int32)) + x2), .ref 7], (H1 s o e0))) rfl ?_
   obtain ⟨y643, hy643, h⟩ := bind_eq_some_iff.mp h
   refine zB Ad W (f := fun y643 => (29, [vR 1, vI x1, vI x2], [.int y643], (H1 s o e0))) rfl hy643 ?_
   obtain rfl := Option.some.inj h
   exact QTri.retI rfl rfl
theorem tF37a1 (Ad : QAd n0 ad) (W : QW Z a0) (s : List Int32) (e0 : Ob) (o : Ob) (x1 : Int32) (x2 : Int32) {r : Int32} (h : F37 o x1 x2 = some r) : QTri l Z n0 ad 37 (0, qentry [.ref 21, .int x1, .int x2] (pMaxL 37), [], (H1 s e0 o)) (some (Value.int r)) (H1 s e0 o) := by
 unfold F37 at h
 refine zS Ad W 2 (st' := (2, [vR 21, vI x1, vI x2], [.int x1, .ref 21], (H1 s e0 o))) rfl ?_
 obtain ⟨r645, hr645, h⟩ := bind_eq_some_iff.mp h
 refine QTri.callP W (a := 21) (as := [.int x1]) (rest := []) (w := (some (.int r645))) (σ₁ := (H1 s e0 o)) rfl rfl rfl rfl rfl rfl rfl rfl (tF5 Ad W x1 hr645) ?_
 rcases qite h with ⟨hc646, h⟩ | ⟨hc646, h⟩
 ·refine zT Ad W (t := 16) (f := 8) rfl (XT.i0_eq_t hc646) ?_
  refine zS Ad W 1 (st' := (17, [vR 21, vI x1, vI x2], [.int (-1:Int32)], (H1 s e0 o))) rfl ?_
  obtain rfl := Option.some.inj h
  exact QTri.retI rfl rfl
 ·refine zF Ad W (t := 16) (f := 8) rfl (XT.i0_eq_f hc646) ?_
  refine zS Ad W 2 (st' := (10, [vR 21, vI x1, vI x2], [.int x2, .ref 21], (H1 s e0 o))) rfl ?_
  obtain ⟨r647, hr647, h⟩ := bind_eq_some_iff.mp h
  refine QTri.callP W (a := 21) (as := [.int x2]) (rest := []) (w := (some (.int r647))) (σ₁ := (H1 s e0 o)) rfl rfl rfl rfl rfl rfl rfl rfl (tF18 Ad W x2 hr647) ?_
  rcases qite h with ⟨hc648, h⟩ | ⟨hc648, h⟩
  ·refine zF Ad W (t := 18) (f := 16) rfl (XT.i0_ne_f hc648) ?_
   refine zS Ad W 1 (st' := (17, [vR 21, vI x1, vI x2], [.int (-1:Int32)], (H1 s e0 o))) rfl ?_
   obtain rfl := Option.some.inj h
   exact QTri.retI rfl rfl
  ·refine zT Ad W (t := 18) (f := 16) rfl (XT.i0_ne_t hc648) ?_
   refine zS Ad W 7 (st' := (28, [vR 21, vI x1, vI x2], [.int ((x1 * (32:Int32)) + x2), .ref 27], (H1 s e0 o))) rfl ?_
   obtain ⟨y649, hy649, h⟩ := bind_eq_some_iff.mp h
   refine zB Ad W (f := fun y649 => (29, [vR 21, vI x1, vI x2], [.int y649], (H1 s e0 o))) rfl hy649 ?_
   obtain rfl := Option.some.inj h
   exact QTri.retI rfl rfl
/-- deliveredSeq(II)I -/
def F38 (o : Ob) (x1 : Int32) (x2 : Int32) : Option (Int32) :=
 (F5 x1).bind fun r652 => (if r652 = (0:Int32) then some (-1:Int32) else (if x2 < (0:Int32) then some (-1:Int32) else (aget (f_delLen o) x1).bind fun y655 => (if x2 < y655 then (aget (f_delSeq o) ((x1 * (32:Int32)) + x2)).bind fun y657 => some y657 else some (-1:Int32))))
theorem tF38 (Ad : QAd n0 ad) (W : QW Z a0) (s : List Int32) (e0 : Ob) (o : Ob) (x1 : Int32) (x2 : Int32) {r : Int32} (h : F38 o x1 x2 = some r) : QTri l Z n0 ad 38 (0, qentry [.ref 1, .int x1, .int x2] (pMaxL 38), [], (H1 s o e0)) (some (Value.int r)) (H1 s o e0) := by
 unfold F38 at h
 refine zS Ad W 2 (st' := (2, [vR 1, vI x1, vI x2], [.int x1, .ref 1], (H1 s o e0))) rfl ?_
 obtain ⟨r652, hr652, h⟩ := bind_eq_some_iff.mp h
 refine QTri.callP W (a := 1) (as := [.int x1]) (rest := []) (w := (some (.int r652))) (σ₁ := (H1 s o e0)) rfl rfl rfl rfl rfl rfl rfl rfl (tF5 Ad W x1 hr652) ?_
 rcases qite h with ⟨hc653, h⟩ | ⟨hc653, h⟩
 ·refine zT Ad W (t := 22) (f := 8) rfl (XT.i0_eq_t hc653) ?_
  refine zS Ad W 1 (st' := (23, [vR 1, vI x1, vI x2], [.int (-1:Int32)], (H1 s o e0))) rfl ?_
  obtain rfl := Option.some.inj h
  exact QTri.retI rfl rfl
 ·refine zF Ad W (t := 22) (f := 8) rfl (XT.i0_eq_f hc653) ?_
  refine zS Ad W 1 (st' := (9, [vR 1, vI x1, vI x2], [.int x2], (H1 s o e0))) rfl ?_
  rcases qite h with ⟨hc654, h⟩ | ⟨hc654, h⟩
  ·refine zT Ad W (t := 22) (f := 12) rfl (XT.i0_lt_t hc654) ?_
   refine zS Ad W 1 (st' := (23, [vR 1, vI x1, vI x2], [.int (-1:Int32)], (H1 s o e0))) rfl ?_
   obtain rfl := Option.some.inj h
   exact QTri.retI rfl rfl
  ·refine zF Ad W (t := 22) (f := 12) rfl (XT.i0_lt_f hc654) ?_
   refine zS Ad W 4 (st' := (18, [vR 1, vI x1, vI x2], [.int x1, .ref 17, .int x2], (H1 s o e0))) rfl ?_
   obtain ⟨y655, hy655, h⟩ := bind_eq_some_iff.mp h
   refine zB Ad W (f := fun y655 => (19, [vR 1, vI x1, vI x2], [.int y655, .int x2], (H1 s o e0))) rfl hy655 ?_
   rcases qite h with ⟨hc656, h⟩ | ⟨hc656, h⟩
   ·refine zT Ad W (t := 24) (f := 22) rfl (XT.ii_lt_t hc656) ?_
    refine zS Ad W 7 (st' := (34, [vR 1, vI x1, vI x2], [.int ((x1 * (32:Int32)) + x2), .ref 15], (H1 s o e0))) rfl ?_
    obtain ⟨y657, hy657, h⟩ := bind_eq_some_iff.mp h
    refine zB Ad W (f := fun y657 => (35, [vR 1, vI x1, vI x2], [.int y657], (H1 s o e0))) rfl hy657 ?_
    obtain rfl := Option.some.inj h
    exact QTri.retI rfl rfl
   ·refine zF Ad W (t := 24) (f := 22) rfl (XT.ii_lt_f hc656) ?_
    refine zS Ad W 1 (st' := (23, [vR 1, vI x1, vI x2], [.int (-1:Int32)], (H1 s o e0))) rfl ?_
    obtain rfl := Option.some.inj h
    exact QTri.retI rfl rfl
theorem tF38a1 (Ad : QAd n0 ad) (W : QW Z a0) (s : List Int32) (e0 : Ob) (o : Ob) (x1 : Int32) (x2 : Int32) {r : Int32} (h : F38 o x1 x2 = some r) : QTri l Z n0 ad 38 (0, qentry [.ref 21, .int x1, .int x2] (pMaxL 38), [], (H1 s e0 o)) (some (Value.int r)) (H1 s e0 o) := by
 unfold F38 at h
 refine zS Ad W 2 (st' := (2, [vR 21, vI x1, vI x2], [.int x1, .ref 21], (H1 s e0 o))) rfl ?_
 obtain ⟨r659, hr659, h⟩ := bind_eq_some_iff.mp h
 refine QTri.callP W (a := 21) (as := [.int x1]) (rest := []) (w := (some (.int r659))) (σ₁ := (H1 s e0 o)) rfl rfl rfl rfl rfl rfl rfl rfl (tF5 Ad W x1 hr659) ?_
 rcases qite h with ⟨hc660, h⟩ | ⟨hc660, h⟩
 ·refine zT Ad W (t := 22) (f := 8) rfl (XT.i0_eq_t hc660) ?_
  refine zS Ad W 1 (st' := (23, [vR 21, vI x1, vI x2], [.int (-1:Int32)], (H1 s e0 o))) rfl ?_
  obtain rfl := Option.some.inj h
  exact QTri.retI rfl rfl
 ·refine zF Ad W (t := 22) (f := 8) rfl (XT.i0_eq_f hc660) ?_
  refine zS Ad W 1 (st' := (9, [vR 21, vI x1, vI x2], [.int x2], (H1 s e0 o))) rfl ?_
  rcases qite h with ⟨hc661, h⟩ | ⟨hc661, h⟩
  ·refine zT Ad W (t := 22) (f := 12) rfl (XT.i0_lt_t hc661) ?_
   refine zS Ad W 1 (st' := (23, [vR 21, vI x1, vI x2], [.int (-1:Int32)], (H1 s e0 o))) rfl ?_
   obtain rfl := Option.some.inj h
   exact QTri.retI rfl rfl
  ·refine zF Ad W (t := 22) (f := 12) rfl (XT.i0_lt_f hc661) ?_
   refine zS Ad W 4 (st' := (18, [vR 21, vI x1, vI x2], [.int x1, .ref 37, .int x2], (H1 s e0 o))) rfl ?_
   obtain ⟨y662, hy662, h⟩ := bind_eq_some_iff.mp h
   refine zB Ad W (f := fun y662 => (19, [vR 21, vI x1, vI x2], [.int y662, .int x2], (H1 s e0 o))) rfl hy662 ?_
   rcases qite h with ⟨hc663, h⟩ | ⟨hc663, h⟩
   ·refine zT Ad W (t := 24) (f := 22) rfl (XT.ii_lt_t hc663) ?_
    refine zS Ad W 7 (st' := (34, [vR 21, vI x1, vI x2], [.int ((x1 * (32:Int32)) + x2), .ref 35], (H1 s e0 o))) rfl ?_
    obtain ⟨y664, hy664, h⟩ := bind_eq_some_iff.mp h
    refine zB Ad W (f := fun y664 => (35, [vR 21, vI x1, vI x2], [.int y664], (H1 s e0 o))) rfl hy664 ?_
    obtain rfl := Option.some.inj h
    exact QTri.retI rfl rfl
   ·refine zF Ad W (t := 24) (f := 22) rfl (XT.ii_lt_f hc663) ?_
    refine zS Ad W 1 (st' := (23, [vR 21, vI x1, vI x2], [.int (-1:Int32)], (H1 s e0 o))) rfl ?_
    obtain rfl := Option.some.inj h
    exact QTri.retI rfl rfl
/-- deliveredValue(II)I -/
def F39 (o : Ob) (x1 : Int32) (x2 : Int32) : Option (Int32) :=
 (F5 x1).bind fun r667 => (if r667 = (0:Int32) then some (-1:Int32) else (if x2 < (0:Int32) then some (-1:Int32) else (aget (f_delLen o) x1).bind fun y670 => (if x2 < y670 then (aget (f_delVal o) ((x1 * (32:Int32)) + x2)).bind fun y672 => some y672 else some (-1:Int32))))
theorem tF39 (Ad : QAd n0 ad) (W : QW Z a0) (s : List Int32) (e0 : Ob) (o : Ob) (x1 : Int32) (x2 : Int32) {r : Int32} (h : F39 o x1 x2 = some r) : QTri l Z n0 ad 39 (0, qentry [.ref 1, .int x1, .int x2] (pMaxL 39), [], (H1 s o e0)) (some (Value.int r)) (H1 s o e0) := by
 unfold F39 at h
 refine zS Ad W 2 (st' := (2, [vR 1, vI x1, vI x2], [.int x1, .ref 1], (H1 s o e0))) rfl ?_
 obtain ⟨r667, hr667, h⟩ := bind_eq_some_iff.mp h
 refine QTri.callP W (a := 1) (as := [.int x1]) (rest := []) (w := (some (.int r667))) (σ₁ := (H1 s o e0)) rfl rfl rfl rfl rfl rfl rfl rfl (tF5 Ad W x1 hr667) ?_
 rcases qite h with ⟨hc668, h⟩ | ⟨hc668, h⟩
 ·refine zT Ad W (t := 22) (f := 8) rfl (XT.i0_eq_t hc668) ?_
  refine zS Ad W 1 (st' := (23, [vR 1, vI x1, vI x2], [.int (-1:Int32)], (H1 s o e0))) rfl ?_
  obtain rfl := Option.some.inj h
  exact QTri.retI rfl rfl
 ·refine zF Ad W (t := 22) (f := 8) rfl (XT.i0_eq_f hc668) ?_
  refine zS Ad W 1 (st' := (9, [vR 1, vI x1, vI x2], [.int x2], (H1 s o e0))) rfl ?_
  rcases qite h with ⟨hc669, h⟩ | ⟨hc669, h⟩
  ·refine zT Ad W (t := 22) (f := 12) rfl (XT.i0_lt_t hc669) ?_
   refine zS Ad W 1 (st' := (23, [vR 1, vI x1, vI x2], [.int (-1:Int32)], (H1 s o e0))) rfl ?_
   obtain rfl := Option.some.inj h
   exact QTri.retI rfl rfl
  ·refine zF Ad W (t := 22) (f := 12) rfl (XT.i0_lt_f hc669) ?_
   refine zS Ad W 4 (st' := (18, [vR 1, vI x1, vI x2], [.int x1, .ref 17, .int x2], (H1 s o e0))) rfl ?_
   obtain ⟨y670, hy670, h⟩ := bind_eq_some_iff.mp h
   refine zB Ad W (f := fun y670 => (19, [vR 1, vI x1, vI x2], [.int y670, .int x2], (H1 s o e0))) rfl hy670 ?_
   rcases qite h with ⟨hc671, h⟩ | ⟨hc671, h⟩
   ·refine zT Ad W (t := 24) (f := 22) rfl (XT.ii_lt_t hc671) ?_
    refine zS Ad W 7 (st' := (34, [vR 1, vI x1, vI x2], [.int ((x1 * (32:Int32)) + x2), .ref 16], (H1 s o e0))) rfl ?_
    obtain ⟨y672, hy672, h⟩ := bind_eq_some_iff.mp h
    refine zB Ad W (f := fun y672 => (35, [vR 1, vI x1, vI x2], [.int y672], (H1 s o e0))) rfl hy672 ?_
    obtain rfl := Option.some.inj h
    exact QTri.retI rfl rfl
   ·refine zF Ad W (t := 24) (f := 22) rfl (XT.ii_lt_f hc671) ?_
    refine zS Ad W 1 (st' := (23, [vR 1, vI x1, vI x2], [.int (-1:Int32)], (H1 s o e0))) rfl ?_
    obtain rfl := Option.some.inj h
    exact QTri.retI rfl rfl
theorem tF39a1 (Ad : QAd n0 ad) (W : QW Z a0) (s : List Int32) (e0 : Ob) (o : Ob) (x1 : Int32) (x2 : Int32) {r : Int32} (h : F39 o x1 x2 = some r) : QTri l Z n0 ad 39 (0, qentry [.ref 21, .int x1, .int x2] (pMaxL 39), [], (H1 s e0 o)) (some (Value.int r)) (H1 s e0 o) := by
 unfold F39 at h
 refine zS Ad W 2 (st' := (2, [vR 21, vI x1, vI x2], [.int x1, .ref 21], (H1 s e0 o))) rfl ?_
 obtain ⟨r674, hr674, h⟩ := bind_eq_some_iff.mp h
 refine QTri.callP W (a := 21) (as := [.int x1]) (rest := []) (w := (some (.int r674))) (σ₁ := (H1 s e0 o)) rfl rfl rfl rfl rfl rfl rfl rfl (tF5 Ad W x1 hr674) ?_
 rcases qite h with ⟨hc675, h⟩ | ⟨hc675, h⟩
 ·refine zT Ad W (t := 22) (f := 8) rfl (XT.i0_eq_t hc675) ?_
  refine zS Ad W 1 (st' := (23, [vR 21, vI x1, vI x2], [.int (-1:Int32)], (H1 s e0 o))) rfl ?_
  obtain rfl := Option.some.inj h
  exact QTri.retI rfl rfl
 ·refine zF Ad W (t := 22) (f := 8) rfl (XT.i0_eq_f hc675) ?_
  refine zS Ad W 1 (st' := (9, [vR 21, vI x1, vI x2], [.int x2], (H1 s e0 o))) rfl ?_
  rcases qite h with ⟨hc676, h⟩ | ⟨hc676, h⟩
  ·refine zT Ad W (t := 22) (f := 12) rfl (XT.i0_lt_t hc676) ?_
   refine zS Ad W 1 (st' := (23, [vR 21, vI x1, vI x2], [.int (-1:Int32)], (H1 s e0 o))) rfl ?_
   obtain rfl := Option.some.inj h
   exact QTri.retI rfl rfl
  ·refine zF Ad W (t := 22) (f := 12) rfl (XT.i0_lt_f hc676) ?_
   refine zS Ad W 4 (st' := (18, [vR 21, vI x1, vI x2], [.int x1, .ref 37, .int x2], (H1 s e0 o))) rfl ?_
   obtain ⟨y677, hy677, h⟩ := bind_eq_some_iff.mp h
   refine zB Ad W (f := fun y677 => (19, [vR 21, vI x1, vI x2], [.int y677, .int x2], (H1 s e0 o))) rfl hy677 ?_
   rcases qite h with ⟨hc678, h⟩ | ⟨hc678, h⟩
   ·refine zT Ad W (t := 24) (f := 22) rfl (XT.ii_lt_t hc678) ?_
    refine zS Ad W 7 (st' := (34, [vR 21, vI x1, vI x2], [.int ((x1 * (32:Int32)) + x2), .ref 36], (H1 s e0 o))) rfl ?_
    obtain ⟨y679, hy679, h⟩ := bind_eq_some_iff.mp h
    refine zB Ad W (f := fun y679 => (35, [vR 21, vI x1, vI x2], [.int y679], (H1 s e0 o))) rfl hy679 ?_
    obtain rfl := Option.some.inj h
    exact QTri.retI rfl rfl
   ·refine zF Ad W (t := 24) (f := 22) rfl (XT.ii_lt_f hc678) ?_
    refine zS Ad W 1 (st' := (23, [vR 21, vI x1, vI x2], [.int (-1:Int32)], (H1 s e0 o))) rfl ?_
    obtain rfl := Option.some.inj h
    exact QTri.retI rfl rfl
/-- lostSeq(II)I -/
def F40 (o : Ob) (x1 : Int32) (x2 : Int32) : Option (Int32) :=
 (F5 x1).bind fun r682 => (if r682 = (0:Int32) then some (-1:Int32) else (if x2 < (0:Int32) then some (-1:Int32) else (aget (f_lostLen o) x1).bind fun y685 => (if x2 < y685 then (aget (f_lostLog o) ((x1 * (32:Int32)) + x2)).bind fun y687 => some y687 else some (-1:Int32))))
theorem tF40 (Ad : QAd n0 ad) (W : QW Z a0) (s : List Int32) (e0 : Ob) (o : Ob) (x1 : Int32) (x2 : Int32) {r : Int32} (h : F40 o x1 x2 = some r) : QTri l Z n0 ad 40 (0, qentry [.ref 1, .int x1, .int x2] (pMaxL 40), [], (H1 s o e0)) (some (Value.int r)) (H1 s o e0) := by
 unfold F40 at h
 refine zS Ad W 2 (st' := (2, [vR 1, vI x1, vI x2], [.int x1, .ref 1], (H1 s o e0))) rfl ?_
 obtain ⟨r682, hr682, h⟩ := bind_eq_some_iff.mp h
 refine QTri.callP W (a := 1) (as := [.int x1]) (rest := []) (w := (some (.int r682))) (σ₁ := (H1 s o e0)) rfl rfl rfl rfl rfl rfl rfl rfl (tF5 Ad W x1 hr682) ?_
 rcases qite h with ⟨hc683, h⟩ | ⟨hc683, h⟩
 ·refine zT Ad W (t := 22) (f := 8) rfl (XT.i0_eq_t hc683) ?_
  refine zS Ad W 1 (st' := (23, [vR 1, vI x1, vI x2], [.int (-1:Int32)], (H1 s o e0))) rfl ?_
  obtain rfl := Option.some.inj h
  exact QTri.retI rfl rfl
 ·refine zF Ad W (t := 22) (f := 8) rfl (XT.i0_eq_f hc683) ?_
  refine zS Ad W 1 (st' := (9, [vR 1, vI x1, vI x2], [.int x2], (H1 s o e0))) rfl ?_
  rcases qite h with ⟨hc684, h⟩ | ⟨hc684, h⟩
  ·refine zT Ad W (t := 22) (f := 12) rfl (XT.i0_lt_t hc684) ?_
   refine zS Ad W 1 (st' := (23, [vR 1, vI x1, vI x2], [.int (-1:Int32)], (H1 s o e0))) rfl ?_
   obtain rfl := Option.some.inj h
   exact QTri.retI rfl rfl
  ·refine zF Ad W (t := 22) (f := 12) rfl (XT.i0_lt_f hc684) ?_
   refine zS Ad W 4 (st' := (18, [vR 1, vI x1, vI x2], [.int x1, .ref 19, .int x2], (H1 s o e0))) rfl ?_
   obtain ⟨y685, hy685, h⟩ := bind_eq_some_iff.mp h
   refine zB Ad W (f := fun y685 => (19, [vR 1, vI x1, vI x2], [.int y685, .int x2], (H1 s o e0))) rfl hy685 ?_
   rcases qite h with ⟨hc686, h⟩ | ⟨hc686, h⟩
   ·refine zT Ad W (t := 24) (f := 22) rfl (XT.ii_lt_t hc686) ?_
    refine zS Ad W 7 (st' := (34, [vR 1, vI x1, vI x2], [.int ((x1 * (32:Int32)) + x2), .ref 18], (H1 s o e0))) rfl ?_
    obtain ⟨y687, hy687, h⟩ := bind_eq_some_iff.mp h
    refine zB Ad W (f := fun y687 => (35, [vR 1, vI x1, vI x2], [.int y687], (H1 s o e0))) rfl hy687 ?_
    obtain rfl := Option.some.inj h
    exact QTri.retI rfl rfl
   ·refine zF Ad W (t := 24) (f := 22) rfl (XT.ii_lt_f hc686) ?_
    refine zS Ad W 1 (st' := (23, [vR 1, vI x1, vI x2], [.int (-1:Int32)], (H1 s o e0))) rfl ?_
    obtain rfl := Option.some.inj h
    exact QTri.retI rfl rfl
theorem tF40a1 (Ad : QAd n0 ad) (W : QW Z a0) (s : List Int32) (e0 : Ob) (o : Ob) (x1 : Int32) (x2 : Int32) {r : Int32} (h : F40 o x1 x2 = some r) : QTri l Z n0 ad 40 (0, qentry [.ref 21, .int x1, .int x2] (pMaxL 40), [], (H1 s e0 o)) (some (Value.int r)) (H1 s e0 o) := by
 unfold F40 at h
 refine zS Ad W 2 (st' := (2, [vR 21, vI x1, vI x2], [.int x1, .ref 21], (H1 s e0 o))) rfl ?_
 obtain ⟨r689, hr689, h⟩ := bind_eq_some_iff.mp h
 refine QTri.callP W (a := 21) (as := [.int x1]) (rest := []) (w := (some (.int r689))) (σ₁ := (H1 s e0 o)) rfl rfl rfl rfl rfl rfl rfl rfl (tF5 Ad W x1 hr689) ?_
 rcases qite h with ⟨hc690, h⟩ | ⟨hc690, h⟩
 ·refine zT Ad W (t := 22) (f := 8) rfl (XT.i0_eq_t hc690) ?_
  refine zS Ad W 1 (st' := (23, [vR 21, vI x1, vI x2], [.int (-1:Int32)], (H1 s e0 o))) rfl ?_
  obtain rfl := Option.some.inj h
  exact QTri.retI rfl rfl
 ·refine zF Ad W (t := 22) (f := 8) rfl (XT.i0_eq_f hc690) ?_
  refine zS Ad W 1 (st' := (9, [vR 21, vI x1, vI x2], [.int x2], (H1 s e0 o))) rfl ?_
  rcases qite h with ⟨hc691, h⟩ | ⟨hc691, h⟩
  ·refine zT Ad W (t := 22) (f := 12) rfl (XT.i0_lt_t hc691) ?_
   refine zS Ad W 1 (st' := (23, [vR 21, vI x1, vI x2], [.int (-1:Int32)], (H1 s e0 o))) rfl ?_
   obtain rfl := Option.some.inj h
   exact QTri.retI rfl rfl
  ·refine zF Ad W (t := 22) (f := 12) rfl (XT.i0_lt_f hc691) ?_
   refine zS Ad W 4 (st' := (18, [vR 21, vI x1, vI x2], [.int x1, .ref 39, .int x2], (H1 s e0 o))) rfl ?_
   obtain ⟨y692, hy692, h⟩ := bind_eq_some_iff.mp h
   refine zB Ad W (f := fun y692 => (19, [vR 21, vI x1, vI x2], [.int y692, .int x2], (H1 s e0 o))) rfl hy692 ?_
   rcases qite h with ⟨hc693, h⟩ | ⟨hc693, h⟩
   ·refine zT Ad W (t := 24) (f := 22) rfl (XT.ii_lt_t hc693) ?_
    refine zS Ad W 7 (st' := (34, [vR 21, vI x1, vI x2], [.int ((x1 * (32:Int32)) + x2), .ref 38], (H1 s e0 o))) rfl ?_
    obtain ⟨y694, hy694, h⟩ := bind_eq_some_iff.mp h
    refine zB Ad W (f := fun y694 => (35, [vR 21, vI x1, vI x2], [.int y694], (H1 s e0 o))) rfl hy694 ?_
    obtain rfl := Option.some.inj h
    exact QTri.retI rfl rfl
   ·refine zF Ad W (t := 24) (f := 22) rfl (XT.ii_lt_f hc693) ?_
    refine zS Ad W 1 (st' := (23, [vR 21, vI x1, vI x2], [.int (-1:Int32)], (H1 s e0 o))) rfl ?_
    obtain rfl := Option.some.inj h
    exact QTri.retI rfl rfl
def B29_139 (o1 : Ob) (o2 : Ob) (x2 : Int32) (v : Int32) : Option (((Unit) ⊕ (Int32)) ⊕ (Int32)) :=
  (if v < (32 : Int32) then (F36 o1 x2 v).bind fun r631 => (F36 o2 x2 v).bind fun r637 => (if r631 = r637 then (F37 o1 x2 v).bind fun r644 => (F37 o2 x2 v).bind fun r650 => (if r644 = r650 then (F38 o1 x2 v).bind fun r658 => (F38 o2 x2 v).bind fun r665 => (if r658 = r665 then (F39 o1 x2 v).bind fun r673 => (F39 o2 x2 v).bind fun r680 => (if r673 = r680 then (F40 o1 x2 v).bind fun r688 => (F40 o2 x2 v).bind fun r695 => (if r688 = r695 then some (.inr (v + (1 : Int32))) else some (.inl (Sum.inr (0 : Int32)))) else some (.inl (Sum.inr (0 : Int32)))) else some (.inl (Sum.inr (0 : Int32)))) else some (.inl (Sum.inr (0 : Int32)))) else some (.inl (Sum.inr (0 : Int32)))) else some (.inl (Sum.inl ())))
theorem tB29_139 (Ad : QAd n0 ad) (W : QW Z a0) (s : List Int32) (o1 : Ob) (o2 : Ob) (x2 : Int32) (v : Int32) {r : ((Unit) ⊕ (Int32)) ⊕ (Int32)} {u : Option Value} {τ : QHeap} (h : B29_139 o1 o2 x2 v = some r) (hx0 : ∀ x : Unit, r = .inl (Sum.inl x) → QTri l Z n0 ad 29 (236, [vR 1, vR 21, vI x2, none], [], (H1 s o1 o2)) u τ) (hx1 : ∀ x : Int32, r = .inl (Sum.inr x) → u = (some (Value.int x)) ∧ τ = (H1 s o1 o2)) (hc : ∀ x : Int32, r = .inr x → QTri l Z n0 ad 29 (139, [vR 1, vR 21, vI x2, vI x], [], (H1 s o1 o2)) u τ) : QTri l Z n0 ad 29 (139, [vR 1, vR 21, vI x2, vI v], [], (H1 s o1 o2)) u τ := by
 unfold B29_139 at h
 refine zS Ad W 2 (st' := (142, [vR 1, vR 21, vI x2, vI v], [.int (32:Int32), .int v], (H1 s o1 o2))) rfl ?_
 rcases qite h with ⟨hc625, h⟩ | ⟨hc625, h⟩
 ·refine zF Ad W (t := 236) (f := 145) rfl (XT.ii_ge_f hc625) ?_
  refine zS Ad W 3 (st' := (148, [vR 1, vR 21, vI x2, vI v], [.int v, .int x2, .ref 1], (H1 s o1 o2))) rfl ?_
  obtain ⟨r631, hr631, h⟩ := bind_eq_some_iff.mp h
  refine QTri.callV W (a := 1) (as := [.int x2, .int v]) (rest := []) (w := (some (.int r631))) (σ₁ := (H1 s o1 o2)) rfl rfl rfl rfl rfl rfl rfl rfl (tF36 Ad W s o2 o1 x2 v hr631) ?_
  refine zS Ad W 3 (st' := (154, [vR 1, vR 21, vI x2, vI v], [.int v, .int x2, .ref 21, .int r631], (H1 s o1 o2))) rfl ?_
  obtain ⟨r637, hr637, h⟩ := bind_eq_some_iff.mp h
  refine QTri.callV W (a := 21) (as := [.int x2, .int v]) (rest := [.int r631]) (w := (some (.int r637))) (σ₁ := (H1 s o1 o2)) rfl rfl rfl rfl rfl rfl rfl rfl (tF36a1 Ad W s o1 o2 x2 v hr637) ?_
  rcases qite h with ⟨hc638, h⟩ | ⟨hc638, h⟩
  ·refine zT Ad W (t := 162) (f := 160) rfl (XT.ii_eq_t hc638) ?_
   refine zS Ad W 3 (st' := (165, [vR 1, vR 21, vI x2, vI v], [.int v, .int x2, .ref 1], (H1 s o1 o2))) rfl ?_
   obtain ⟨r644, hr644, h⟩ := bind_eq_some_iff.mp h
   refine QTri.callV W (a := 1) (as := [.int x2, .int v]) (rest := []) (w := (some (.int r644))) (σ₁ := (H1 s o1 o2)) rfl rfl rfl rfl rfl rfl rfl rfl (tF37 Ad W s o2 o1 x2 v hr644) ?_
   refine zS Ad W 3 (st' := (171, [vR 1, vR 21, vI x2, vI v], [.int v, .int x2, .ref 21, .int r644], (H1 s o1 o2))) rfl ?_
   obtain ⟨r650, hr650, h⟩ := bind_eq_some_iff.mp h
   refine QTri.callV W (a := 21) (as := [.int x2, .int v]) (rest := [.int r644]) (w := (some (.int r650))) (σ₁ := (H1 s o1 o2)) rfl rfl rfl rfl rfl rfl rfl rfl (tF37a1 Ad W s o1 o2 x2 v hr650) ?_
   rcases qite h with ⟨hc651, h⟩ | ⟨hc651, h⟩
   ·refine zT Ad W (t := 179) (f := 177) rfl (XT.ii_eq_t hc651) ?_
    refine zS Ad W 3 (st' := (182, [vR 1, vR 21, vI x2, vI v], [.int v, .int x2, .ref 1], (H1 s o1 o2))) rfl ?_
    obtain ⟨r658, hr658, h⟩ := bind_eq_some_iff.mp h
    refine QTri.callV W (a := 1) (as := [.int x2, .int v]) (rest := []) (w := (some (.int r658))) (σ₁ := (H1 s o1 o2)) rfl rfl rfl rfl rfl rfl rfl rfl (tF38 Ad W s o2 o1 x2 v hr658) ?_
    refine zS Ad W 3 (st' := (188, [vR 1, vR 21, vI x2, vI v], [.int v, .int x2, .ref 21, .int r658], (H1 s o1 o2))) rfl ?_
    obtain ⟨r665, hr665, h⟩ := bind_eq_some_iff.mp h
    refine QTri.callV W (a := 21) (as := [.int x2, .int v]) (rest := [.int r658]) (w := (some (.int r665))) (σ₁ := (H1 s o1 o2)) rfl rfl rfl rfl rfl rfl rfl rfl (tF38a1 Ad W s o1 o2 x2 v hr665) ?_
    rcases qite h with ⟨hc666, h⟩ | ⟨hc666, h⟩
    ·refine zT Ad W (t := 196) (f := 194) rfl (XT.ii_eq_t hc666) ?_
     refine zS Ad W 3 (st' := (199, [vR 1, vR 21, vI x2, vI v], [.int v, .int x2, .ref 1], (H1 s o1 o2))) rfl ?_
     obtain ⟨r673, hr673, h⟩ := bind_eq_some_iff.mp h
     refine QTri.callV W (a := 1) (as := [.int x2, .int v]) (rest := []) (w := (some (.int r673))) (σ₁ := (H1 s o1 o2)) rfl rfl rfl rfl rfl rfl rfl rfl (tF39 Ad W s o2 o1 x2 v hr673) ?_
     refine zS Ad W 3 (st' := (205, [vR 1, vR 21, vI x2, vI v], [.int v, .int x2, .ref 21, .int r673], (H1 s o1 o2))) rfl ?_
     obtain ⟨r680, hr680, h⟩ := bind_eq_some_iff.mp h
     refine QTri.callV W (a := 21) (as := [.int x2, .int v]) (rest := [.int r673]) (w := (some (.int r680))) (σ₁ := (H1 s o1 o2)) rfl rfl rfl rfl rfl rfl rfl rfl (tF39a1 Ad W s o1 o2 x2 v hr680) ?_
     rcases qite h with ⟨hc681, h⟩ | ⟨hc681, h⟩
     ·refine zT Ad W (t := 213) (f := 211) rfl (XT.ii_eq_t hc681) ?_
      refine zS Ad W 3 (st' := (216, [vR 1, vR 21, vI x2, vI v], [.int v, .int x2, .ref 1], (H1 s o1 o2))) rfl ?_
      obtain ⟨r688, hr688, h⟩ := bind_eq_some_iff.mp h
      refine QTri.callV W (a := 1) (as := [.int x2, .int v]) (rest := []) (w := (some (.int r688))) (σ₁ := (H1 s o1 o2)) rfl rfl rfl rfl rfl rfl rfl rfl (tF40 Ad W s o2 o1 x2 v hr688) ?_
      refine zS Ad W 3 (st' := (222, [vR 1, vR 21, vI x2, vI v], [.int v, .int x2, .ref 21, .int r688], (H1 s o1 o2))) rfl ?_
      obtain ⟨r695, hr695, h⟩ := bind_eq_some_iff.mp h
      refine QTri.callV W (a := 21) (as := [.int x2, .int v]) (rest := [.int r688]) (w := (some (.int r695))) (σ₁ := (H1 s o1 o2)) rfl rfl rfl rfl rfl rfl rfl rfl (tF40a1 Ad W s o1 o2 x2 v hr695) ?_
      rcases qite h with ⟨hc696, h⟩ | ⟨hc696, h⟩
      ·refine zT Ad W (t := 230) (f := 228) rfl (XT.ii_eq_t hc696) ?_
       refine zS Ad W 2 (st' := (139, [vR 1, vR 21, vI x2, vI (v + (1:Int32))], [], (H1 s o1 o2))) rfl ?_
       obtain rfl := Option.some.inj h
       exact zM [tt,tt,tt,tt] (hc (v + (1:Int32)) rfl)
      ·refine zF Ad W (t := 230) (f := 228) rfl (XT.ii_eq_f hc696) ?_
       refine zS Ad W 1 (st' := (229, [vR 1, vR 21, vI x2, vI v], [.int (0:Int32)], (H1 s o1 o2))) rfl ?_
       obtain rfl := Option.some.inj h
       obtain ⟨rfl, rfl⟩ := hx1 (0:Int32) rfl
       exact QTri.retZ rfl rfl
     ·refine zF Ad W (t := 213) (f := 211) rfl (XT.ii_eq_f hc681) ?_
      refine zS Ad W 1 (st' := (212, [vR 1, vR 21, vI x2, vI v], [.int (0:Int32)], (H1 s o1 o2))) rfl ?_
      obtain rfl := Option.some.inj h
      obtain ⟨rfl, rfl⟩ := hx1 (0:Int32) rfl
      exact QTri.retZ rfl rfl
    ·refine zF Ad W (t := 196) (f := 194) rfl (XT.ii_eq_f hc666) ?_
     refine zS Ad W 1 (st' := (195, [vR 1, vR 21, vI x2, vI v], [.int (0:Int32)], (H1 s o1 o2))) rfl ?_
     obtain rfl := Option.some.inj h
     obtain ⟨rfl, rfl⟩ := hx1 (0:Int32) rfl
     exact QTri.retZ rfl rfl
   ·refine zF Ad W (t := 179) (f := 177) rfl (XT.ii_eq_f hc651) ?_
    refine zS Ad W 1 (st' := (178, [vR 1, vR 21, vI x2, vI v], [.int (0:Int32)], (H1 s o1 o2))) rfl ?_
    obtain rfl := Option.some.inj h
    obtain ⟨rfl, rfl⟩ := hx1 (0:Int32) rfl
    exact QTri.retZ rfl rfl
  ·refine zF Ad W (t := 162) (f := 160) rfl (XT.ii_eq_f hc638) ?_
   refine zS Ad W 1 (st' := (161, [vR 1, vR 21, vI x2, vI v], [.int (0:Int32)], (H1 s o1 o2))) rfl ?_
   obtain rfl := Option.some.inj h
   obtain ⟨rfl, rfl⟩ := hx1 (0:Int32) rfl
   exact QTri.retZ rfl rfl
 ·refine zT Ad W (t := 236) (f := 145) rfl (XT.ii_ge_t hc625) ?_
  obtain rfl := Option.some.inj h
  exact zM [tt,tt,tt,ff] (hx0 () rfl)
def B29_101 (o1 : Ob) (o2 : Ob) (v : Int32) : Option (((Int32)) ⊕ (Int32)) :=
  (if v < (4 : Int32) then ((loopN (B29_108 o1 o2 v) qN (0 : Int32)).bind fun e623 => match e623 with | .inl e623a => ((loopN (B29_139 o1 o2 v) qN (0 : Int32)).bind fun e697 => match e697 with | .inl e697a => some (.inr (v + (1 : Int32))) | .inr e697a => some (.inl e697a)) | .inr e623a => some (.inl e623a)) else some (.inl (1 : Int32)))
theorem tB29_101 (Ad : QAd n0 ad) (W : QW Z a0) (s : List Int32) (o1 : Ob) (o2 : Ob) (v : Int32) {r : ((Int32)) ⊕ (Int32)} {u : Option Value} {τ : QHeap} (h : B29_101 o1 o2 v = some r) (hx0 : ∀ x : Int32, r = .inl x → u = (some (Value.int x)) ∧ τ = (H1 s o1 o2)) (hc : ∀ x : Int32, r = .inr x → QTri l Z n0 ad 29 (101, [vR 1, vR 21, vI x, none], [], (H1 s o1 o2)) u τ) : QTri l Z n0 ad 29 (101, [vR 1, vR 21, vI v, none], [], (H1 s o1 o2)) u τ := by
 unfold B29_101 at h
 refine zS Ad W 2 (st' := (103, [vR 1, vR 21, vI v, none], [.int (4:Int32), .int v], (H1 s o1 o2))) rfl ?_
 rcases qite h with ⟨hc582, h⟩ | ⟨hc582, h⟩
 ·refine zF Ad W (t := 242) (f := 106) rfl (XT.ii_ge_f hc582) ?_
  refine zS Ad W 2 (st' := (108, [vR 1, vR 21, vI v, vI (0:Int32)], [], (H1 s o1 o2))) rfl ?_
  obtain ⟨e623, he623, h⟩ := bind_eq_some_iff.mp h
  refine zM [tt,tt,tt,tt] (loopN_tri (B := B29_108 o1 o2 v) (T := fun lv624 => QTri l Z n0 ad 29 (108, [vR 1, vR 21, vI v, vI lv624], [], (H1 s o1 o2)) u τ) (KE := fun e => match e with | .inl e623a => QTri l Z n0 ad 29 (137, [vR 1, vR 21, vI v, none], [], (H1 s o1 o2)) u τ | .inr e623a => u = (some (Value.int e623a)) ∧ τ = (H1 s o1 o2)) (fun lv624 r hB hE hC => tB29_108 Ad W s o1 o2 v lv624 hB (fun x q => hE _ q) (fun x q => hE _ q) (fun x q => hC x q)) qN (0:Int32) e623 he623 ?_)
  rcases e623 with e623a | e623a
  ·refine zS Ad W 2 (st' := (139, [vR 1, vR 21, vI v, vI (0:Int32)], [], (H1 s o1 o2))) rfl ?_
   obtain ⟨e697, he697, h⟩ := bind_eq_some_iff.mp h
   refine zM [tt,tt,tt,tt] (loopN_tri (B := B29_139 o1 o2 v) (T := fun lv698 => QTri l Z n0 ad 29 (139, [vR 1, vR 21, vI v, vI lv698], [], (H1 s o1 o2)) u τ) (KE := fun e => match e with | .inl e697a => QTri l Z n0 ad 29 (236, [vR 1, vR 21, vI v, none], [], (H1 s o1 o2)) u τ | .inr e697a => u = (some (Value.int e697a)) ∧ τ = (H1 s o1 o2)) (fun lv698 r hB hE hC => tB29_139 Ad W s o1 o2 v lv698 hB (fun x q => hE _ q) (fun x q => hE _ q) (fun x q => hC x q)) qN (0:Int32) e697 he697 ?_)
   rcases e697 with e697a | e697a
   ·refine zS Ad W 2 (st' := (101, [vR 1, vR 21, vI (v + (1:Int32)), none], [], (H1 s o1 o2))) rfl ?_
    obtain rfl := Option.some.inj h
    exact zM [tt,tt,tt,ff] (hc (v + (1:Int32)) rfl)
   ·obtain rfl := Option.some.inj h
    exact hx0 e697a rfl
  ·obtain rfl := Option.some.inj h
   exact hx0 e623a rfl
 ·refine zT Ad W (t := 242) (f := 106) rfl (XT.ii_ge_t hc582) ?_
  refine zS Ad W 1 (st' := (243, [vR 1, vR 21, vI v, none], [.int (1:Int32)], (H1 s o1 o2))) rfl ?_
  obtain rfl := Option.some.inj h
  obtain ⟨rfl, rfl⟩ := hx0 (1:Int32) rfl
  exact QTri.retZ rfl rfl
/-- same(LNakMulticast;LNakMulticast;)Z -/
def F29 (o1 : Ob) (o2 : Ob) : Option (Int32) :=
 (F30 o1).bind fun r538 => (F30 o2).bind fun r540 => (if r538 = r540 then (F31 o1).bind fun r543 => (F31 o2).bind fun r545 => (if r543 = r545 then ((loopN (B29_28 o1 o2) qN (0:Int32)).bind fun e559 => match e559 with | .inl e559a => ((loopN (B29_57 o1 o2) qN (0:Int32)).bind fun e580 => match e580 with | .inl e580a => (loopN (B29_101 o1 o2) qN (0:Int32)).bind fun e699 => some e699 | .inr e580a => some e580a) | .inr e559a => some e559a) else some (0:Int32)) else some (0:Int32))
theorem tF29 (Ad : QAd n0 ad) (W : QW Z a0) (s : List Int32) (o1 : Ob) (o2 : Ob) {r : Int32} (h : F29 o1 o2 = some r) : QTri l Z n0 ad 29 (0, qentry [.ref 1, .ref 21] (pMaxL 29), [], (H1 s o1 o2)) (some (Value.int r)) (H1 s o1 o2) := by
 unfold F29 at h
 refine zS Ad W 1 (st' := (1, [vR 1, vR 21, none, none], [.ref 1], (H1 s o1 o2))) rfl ?_
 obtain ⟨r538, hr538, h⟩ := bind_eq_some_iff.mp h
 refine QTri.callV W (a := 1) (as := []) (rest := []) (w := (some (.int r538))) (σ₁ := (H1 s o1 o2)) rfl rfl rfl rfl rfl rfl rfl rfl (tF30 Ad W s o2 o1 hr538) ?_
 refine zS Ad W 1 (st' := (5, [vR 1, vR 21, none, none], [.ref 21, .int r538], (H1 s o1 o2))) rfl ?_
 obtain ⟨r540, hr540, h⟩ := bind_eq_some_iff.mp h
 refine QTri.callV W (a := 21) (as := []) (rest := [.int r538]) (w := (some (.int r540))) (σ₁ := (H1 s o1 o2)) rfl rfl rfl rfl rfl rfl rfl rfl (tF30a1 Ad W s o1 o2 hr540) ?_
 rcases qite h with ⟨hc541, h⟩ | ⟨hc541, h⟩
 ·refine zT Ad W (t := 13) (f := 11) rfl (XT.ii_eq_t hc541) ?_
  refine zS Ad W 1 (st' := (14, [vR 1, vR 21, none, none], [.ref 1], (H1 s o1 o2))) rfl ?_
  obtain ⟨r543, hr543, h⟩ := bind_eq_some_iff.mp h
  refine QTri.callV W (a := 1) (as := []) (rest := []) (w := (some (.int r543))) (σ₁ := (H1 s o1 o2)) rfl rfl rfl rfl rfl rfl rfl rfl (tF31 Ad W s o2 o1 hr543) ?_
  refine zS Ad W 1 (st' := (18, [vR 1, vR 21, none, none], [.ref 21, .int r543], (H1 s o1 o2))) rfl ?_
  obtain ⟨r545, hr545, h⟩ := bind_eq_some_iff.mp h
  refine QTri.callV W (a := 21) (as := []) (rest := [.int r543]) (w := (some (.int r545))) (σ₁ := (H1 s o1 o2)) rfl rfl rfl rfl rfl rfl rfl rfl (tF31a1 Ad W s o1 o2 hr545) ?_
  rcases qite h with ⟨hc546, h⟩ | ⟨hc546, h⟩
  ·refine zT Ad W (t := 26) (f := 24) rfl (XT.ii_eq_t hc546) ?_
   refine zS Ad W 2 (st' := (28, [vR 1, vR 21, vI (0:Int32), none], [], (H1 s o1 o2))) rfl ?_
   obtain ⟨e559, he559, h⟩ := bind_eq_some_iff.mp h
   refine zM [tt,tt,tt,ff] (loopN_tri (B := B29_28 o1 o2) (T := fun lv560 => QTri l Z n0 ad 29 (28, [vR 1, vR 21, vI lv560, none], [], (H1 s o1 o2)) (some (Value.int r)) (H1 s o1 o2)) (KE := fun e => match e with | .inl e559a => QTri l Z n0 ad 29 (55, [vR 1, vR 21, none, none], [], (H1 s o1 o2)) (some (Value.int r)) (H1 s o1 o2) | .inr e559a => (some (Value.int r)) = (some (Value.int e559a)) ∧ (H1 s o1 o2) = (H1 s o1 o2)) (fun lv560 r hB hE hC => tB29_28 Ad W s o1 o2 lv560 hB (fun x q => hE _ q) (fun x q => hE _ q) (fun x q => hC x q)) qN (0:Int32) e559 he559 ?_)
   rcases e559 with e559a | e559a
   ·refine zS Ad W 2 (st' := (57, [vR 1, vR 21, vI (0:Int32), none], [], (H1 s o1 o2))) rfl ?_
    obtain ⟨e580, he580, h⟩ := bind_eq_some_iff.mp h
    refine zM [tt,tt,tt,ff] (loopN_tri (B := B29_57 o1 o2) (T := fun lv581 => QTri l Z n0 ad 29 (57, [vR 1, vR 21, vI lv581, none], [], (H1 s o1 o2)) (some (Value.int r)) (H1 s o1 o2)) (KE := fun e => match e with | .inl e580a => QTri l Z n0 ad 29 (99, [vR 1, vR 21, none, none], [], (H1 s o1 o2)) (some (Value.int r)) (H1 s o1 o2) | .inr e580a => (some (Value.int r)) = (some (Value.int e580a)) ∧ (H1 s o1 o2) = (H1 s o1 o2)) (fun lv581 r hB hE hC => tB29_57 Ad W s o1 o2 lv581 hB (fun x q => hE _ q) (fun x q => hE _ q) (fun x q => hC x q)) qN (0:Int32) e580 he580 ?_)
    rcases e580 with e580a | e580a
    ·refine zS Ad W 2 (st' := (101, [vR 1, vR 21, vI (0:Int32), none], [], (H1 s o1 o2))) rfl ?_
     obtain ⟨e699, he699, h⟩ := bind_eq_some_iff.mp h
     refine zM [tt,tt,tt,ff] (loopN_tri (B := B29_101 o1 o2) (T := fun lv700 => QTri l Z n0 ad 29 (101, [vR 1, vR 21, vI lv700, none], [], (H1 s o1 o2)) (some (Value.int r)) (H1 s o1 o2)) (KE := fun e699a => (some (Value.int r)) = (some (Value.int e699a)) ∧ (H1 s o1 o2) = (H1 s o1 o2)) (fun lv700 r hB hE hC => tB29_101 Ad W s o1 o2 lv700 hB (fun x q => hE _ q) (fun x q => hC x q)) qN (0:Int32) e699 he699 ?_)
     obtain rfl := Option.some.inj h
     exact ⟨rfl, rfl⟩
    ·obtain rfl := Option.some.inj h
     exact ⟨rfl, rfl⟩
   ·obtain rfl := Option.some.inj h
    exact ⟨rfl, rfl⟩
  ·refine zF Ad W (t := 26) (f := 24) rfl (XT.ii_eq_f hc546) ?_
   refine zS Ad W 1 (st' := (25, [vR 1, vR 21, none, none], [.int (0:Int32)], (H1 s o1 o2))) rfl ?_
   obtain rfl := Option.some.inj h
   exact QTri.retZ rfl rfl
 ·refine zF Ad W (t := 13) (f := 11) rfl (XT.ii_eq_f hc541) ?_
  refine zS Ad W 1 (st' := (12, [vR 1, vR 21, none, none], [.int (0:Int32)], (H1 s o1 o2))) rfl ?_
  obtain rfl := Option.some.inj h
  exact QTri.retZ rfl rfl
/-- the law -/
def F0 (s : List Int32) : Option (Int32 × QHeap) :=
 (F1 (3:Int32) (2:Int32) (2:Int32) (4:Int32)).bind fun r13 => (F1 (3:Int32) (2:Int32) (2:Int32) (4:Int32)).bind fun r24 => ((loopN (B0_26 s) qN ((0:Int32), r13, r24)).bind fun e535 => match e535 with | .inl e535a => (F29 e535a.1 e535a.2).bind fun r701 => some ((r701 &&& 1), (H1 s e535a.1 e535a.2)) | .inr e535a => some e535a)
theorem tF0 (Ad : QAd n0 ad) (W : QW Z a0) (s : List Int32) {r : Int32 × QHeap} (h : F0 s = some r) : QTri l Z n0 ad 0 (0, qentry [.ref 0] (pMaxL 0), [], [.inr (.inl (.int, s))]) (some (Value.int r.1)) r.2 := by
 unfold F0 at h
 refine zS Ad W 1 (st' := (3, [vR 0, none, none, none, none, none, none], [.ref 1], [.inr (.inl (.int, s)), .inl [.null, .null, .null, .null, .null, .null, .null, .null, .null, .null, .null, .null, .null, .null, .null, .null, .null, .null, .null, .int (f_win ob0), .int (f_back ob0), .int (f_repair ob0), .int (f_period ob0), .int (f_nextSeq ob0), .int (f_qLen ob0), .int (f_nakLen ob0)]])) rfl ?_
 refine zS Ad W 5 (st' := (8, [vR 0, none, none, none, none, none, none], [.int (4:Int32), .int (2:Int32), .int (2:Int32), .int (3:Int32), .ref 1, .ref 1], [.inr (.inl (.int, s)), .inl [.null, .null, .null, .null, .null, .null, .null, .null, .null, .null, .null, .null, .null, .null, .null, .null, .null, .null, .null, .int (f_win ob0), .int (f_back ob0), .int (f_repair ob0), .int (f_period ob0), .int (f_nextSeq ob0), .int (f_qLen ob0), .int (f_nakLen ob0)]])) rfl ?_
 obtain ⟨r13, hr13, h⟩ := bind_eq_some_iff.mp h
 refine QTri.callI W (a := 1) (as := [.int (3:Int32), .int (2:Int32), .int (2:Int32), .int (4:Int32)]) (rest := [.ref 1]) (σ₁ := (H0 s r13)) rfl rfl rfl rfl rfl rfl (tF1 Ad W s (3:Int32) (2:Int32) (2:Int32) (4:Int32) hr13) ?_
 refine zS Ad W 2 (st' := (15, [vR 0, vR 1, none, none, none, none, none], [.ref 21], [.inr (.inl (.int, s)), .inl [.ref 2, .ref 3, .ref 4, .ref 5, .ref 6, .ref 7, .ref 8, .ref 9, .ref 10, .ref 11, .ref 12, .ref 13, .ref 14, .ref 15, .ref 16, .ref 17, .ref 18, .ref 19, .ref 20, .int (f_win r13), .int (f_back r13), .int (f_repair r13), .int (f_period r13), .int (f_nextSeq r13), .int (f_qLen r13), .int (f_nakLen r13)], .inr (.inl (.int, (f_srcPayload r13))), .inr (.inl (.boolean, (f_pend r13))), .inr (.inl (.int, (f_queue r13))), .inr (.inl (.int, (f_stats r13))), .inr (.inl (.int, (f_state r13))), .inr (.inl (.int, (f_timer r13))), .inr (.inl (.int, (f_rxVal r13))), .inr (.inl (.int, (f_rxNext r13))), .inr (.inl (.int, (f_rxLead r13))), .inr (.inl (.int, (f_rxTrail r13))), .inr (.inl (.int, (f_lossLeft r13))), .inr (.inl (.int, (f_dups r13))), .inr (.inl (.int, (f_drops r13))), .inr (.inl (.int, (f_delSeq r13))), .inr (.inl (.int, (f_delVal r13))), .inr (.inl (.int, (f_delLen r13))), .inr (.inl (.int, (f_lostLog r13))), .inr (.inl (.int, (f_lostLen r13))), .inr (.inl (.int, (f_nakBuf r13))), .inl [.null, .null, .null, .null, .null, .null, .null, .null, .null, .null, .null, .null, .null, .null, .null, .null, .null, .null, .null, .int (f_win ob0), .int (f_back ob0), .int (f_repair ob0), .int (f_period ob0), .int (f_nextSeq ob0), .int (f_qLen ob0), .int (f_nakLen ob0)]])) rfl ?_
 refine zS Ad W 5 (st' := (20, [vR 0, vR 1, none, none, none, none, none], [.int (4:Int32), .int (2:Int32), .int (2:Int32), .int (3:Int32), .ref 21, .ref 21], [.inr (.inl (.int, s)), .inl [.ref 2, .ref 3, .ref 4, .ref 5, .ref 6, .ref 7, .ref 8, .ref 9, .ref 10, .ref 11, .ref 12, .ref 13, .ref 14, .ref 15, .ref 16, .ref 17, .ref 18, .ref 19, .ref 20, .int (f_win r13), .int (f_back r13), .int (f_repair r13), .int (f_period r13), .int (f_nextSeq r13), .int (f_qLen r13), .int (f_nakLen r13)], .inr (.inl (.int, (f_srcPayload r13))), .inr (.inl (.boolean, (f_pend r13))), .inr (.inl (.int, (f_queue r13))), .inr (.inl (.int, (f_stats r13))), .inr (.inl (.int, (f_state r13))), .inr (.inl (.int, (f_timer r13))), .inr (.inl (.int, (f_rxVal r13))), .inr (.inl (.int, (f_rxNext r13))), .inr (.inl (.int, (f_rxLead r13))), .inr (.inl (.int, (f_rxTrail r13))), .inr (.inl (.int, (f_lossLeft r13))), .inr (.inl (.int, (f_dups r13))), .inr (.inl (.int, (f_drops r13))), .inr (.inl (.int, (f_delSeq r13))), .inr (.inl (.int, (f_delVal r13))), .inr (.inl (.int, (f_delLen r13))), .inr (.inl (.int, (f_lostLog r13))), .inr (.inl (.int, (f_lostLen r13))), .inr (.inl (.int, (f_nakBuf r13))), .inl [.null, .null, .null, .null, .null, .null, .null, .null, .null, .null, .null, .null, .null, .null, .null, .null, .null, .null, .null, .int (f_win ob0), .int (f_back ob0), .int (f_repair ob0), .int (f_period ob0), .int (f_nextSeq ob0), .int (f_qLen ob0), .int (f_nakLen ob0)]])) rfl ?_
 obtain ⟨r24, hr24, h⟩ := bind_eq_some_iff.mp h
 refine QTri.callI W (a := 21) (as := [.int (3:Int32), .int (2:Int32), .int (2:Int32), .int (4:Int32)]) (rest := [.ref 21]) (σ₁ := (H1 s r13 r24)) rfl rfl rfl rfl rfl rfl (tF1a1 Ad W s r13 (3:Int32) (2:Int32) (2:Int32) (4:Int32) hr24) ?_
 refine zS Ad W 3 (st' := (26, [vR 0, vR 1, vR 21, vI (0:Int32), none, none, none], [], (H1 s r13 r24))) rfl ?_
 obtain ⟨e535, he535, h⟩ := bind_eq_some_iff.mp h
 refine zM [tt,tt,tt,tt,ff,ff,ff] (loopN_tri (B := B0_26 s) (T := fun lv536 => QTri l Z n0 ad 0 (26, [vR 0, vR 1, vR 21, vI lv536.1, none, none, none], [], (H1 s lv536.2.1 lv536.2.2)) (some (Value.int r.1)) r.2) (KE := fun e => match e with | .inl e535a => QTri l Z n0 ad 0 (168, [none, vR 1, vR 21, none, none, none, none], [], (H1 s e535a.1 e535a.2)) (some (Value.int r.1)) r.2 | .inr e535a => (some (Value.int r.1)) = (some (Value.int e535a.1)) ∧ r.2 = e535a.2) (fun lv536 r hB hE hC => tB0_26 Ad W s lv536 hB (fun x q => hE _ q) (fun x q => hE _ q) (fun x q => hC x q)) qN ((0:Int32), r13, r24) e535 he535 ?_)
 rcases e535 with e535a | e535a
 ·refine zS Ad W 2 (st' := (170, [none, vR 1, vR 21, none, none, none, none], [.ref 21, .ref 1], (H1 s e535a.1 e535a.2))) rfl ?_
  obtain ⟨r701, hr701, h⟩ := bind_eq_some_iff.mp h
  refine QTri.callS W (as := [.ref 1, .ref 21]) (rest := []) (w := (some (.int r701))) (σ₁ := (H1 s e535a.1 e535a.2)) rfl rfl rfl rfl rfl rfl rfl (tF29 Ad W s e535a.1 e535a.2 hr701) ?_
  obtain rfl := Option.some.inj h
  exact QTri.retZ rfl rfl
 ·obtain rfl := Option.some.inj h
  exact ⟨rfl, rfl⟩
end Walks
theorem script_ok {s : State} {w : Value} (hfit : Fit s) (h1 : (Jvm.Cond.arrayOf (Jvm.Term.arg 0) Jvm.ClassFile.FieldType.int).value #[w] s none s [] = some true) (h2 : (Jvm.Cond.le (Jvm.Term.length (Jvm.Term.arg 0)) (Jvm.Term.int 260)).value #[w] s none s [] = some true) :
    ∃ (a : Addr) (c : Cell) (xs : List Int32), w = .ref a ∧ Arr s s.heap a c .int ∧ c.slots = (xs.map Value.int).toArray ∧ xs.length ≤ 260 := by
  obtain ⟨a, ha⟩ := arr_v h1
  obtain ⟨c, A⟩ := Arr.start ha h1
  have hw : w = .ref a := by simpa [Term.eval] using ha
  subst hw
  have hel : ∀ i, i < c.slots.size → ∃ x, c.slots[i]? = some (.int x) := fun i hi => by
    have q := hfit A.1 hi
    obtain ⟨hs, k, hk, comp, hkind⟩ := A.2.1
    have e : s.slotType? c.cls c.vm i = some .int := by
      cases hq : c.vm <;> first | exact absurd hq (hs _) | simp [State.slotType?, hk, hkind]
    have q2 : fits .int c.slots[i] = true := by simpa [State.fitsSlot, e] using q
    obtain ⟨x, hx⟩ := fit_I q2 (Or.inl rfl)
    exact ⟨x, by rw [Array.getElem?_eq_getElem hi, hx]⟩
  refine ⟨a, c, c.slots.toList.map (fun v => match v with | .int x => x | _ => 0), rfl, A, ?_, ?_⟩
  · apply Array.ext'
    rw [List.map_map]
    have : c.slots.toList.map (Value.int ∘ fun v => match v with | .int x => x | _ => 0) = c.slots.toList := by
      conv => rhs; rw [← List.map_id c.slots.toList]
      refine List.map_congr_left fun v hv => ?_
      obtain ⟨i, hi⟩ := List.mem_iff_getElem?.mp hv
      rw [Array.getElem?_toList] at hi
      obtain ⟨x, hx⟩ := hel i (Array.getElem?_eq_some_iff.mp hi).1
      rw [hi] at hx
      cases hx
      rfl
    exact this.symm
  · have hl := A.fin (Vm.Alike.refl _)
    simp only [List.length_map, Array.length_toList]
    simp only [Cond.value, Term.eval] at h2
    simp [hl] at h2
    by_cases hs : c.slots.size < 2147483648
    · rw [if_pos hs] at h2
      have h3 : c.slots.size.toInt32 ≤ 260 := by simpa using h2
      rw [Int32.le_iff_toInt_le] at h3
      have h4 : (c.slots.size.toInt32).toInt = c.slots.size := Int32.toInt_ofNat_of_lt (by omega)
      rw [h4] at h3
      have h5 : (260 : Int32).toInt = 260 := rfl
      rw [h5] at h3
      omega
    · rw [if_neg hs] at h2
      simp at h2
theorem i_lt {x y : Int32} : x < y ↔ x.toInt < y.toInt := Int32.lt_iff_toInt_lt
theorem i_eq {x y : Int32} : x = y ↔ x.toInt = y.toInt := Int32.toInt_inj.symm
theorem i_lo (x : Int32) : -2147483648 ≤ x.toInt := Int32.le_toInt x
theorem i_hi (x : Int32) : x.toInt < 2147483648 := Int32.toInt_lt x
theorem i_add {x y : Int32} (h1 : -2147483648 ≤ x.toInt + y.toInt) (h2 : x.toInt + y.toInt < 2147483648) : (x + y).toInt = x.toInt + y.toInt := XT.add32 ⟨h1, by omega⟩
theorem i_sub {x y : Int32} (h1 : -2147483648 ≤ x.toInt - y.toInt) (h2 : x.toInt - y.toInt < 2147483648) : (x - y).toInt = x.toInt - y.toInt := XT.sub32 ⟨h1, by omega⟩
theorem i_mul {x y : Int32} (h1 : -2147483648 ≤ x.toInt * y.toInt) (h2 : x.toInt * y.toInt < 2147483648) : (x * y).toInt = x.toInt * y.toInt := XT.mul32 ⟨h1, by omega⟩
theorem i_nat (x : Int32) : x.toNatClampNeg = x.toInt.toNat := rfl
theorem aget_at {α : Type} {xs : List α} {j : Int32} {n : Nat} (hj : j.toInt = n) (hn : n < xs.length) : aget xs j = some xs[n] := by
 have h0 : ¬ j < 0 := by rw [i_lt]; show ¬ j.toInt < 0; omega
 unfold aget
 rw [if_neg h0, i_nat, hj]
 simp [hn]
theorem aget_rep {α : Type} {m : Nat} {a : α} {j : Int32} (h0 : 0 ≤ j.toInt) (h1 : j.toInt < m) : aget (List.replicate m a) j = some a := by
 rw [aget_at (n := j.toInt.toNat) (by omega) (by rw [List.length_replicate]; omega)]
 simp
theorem aset_at {α : Type} {xs : List α} {j : Int32} {n : Nat} {v : α} (hj : j.toInt = n) (hn : n < xs.length) : aset xs j v = some (xs.set n v) := by
 have h0 : ¬ j < 0 := by rw [i_lt]; show ¬ j.toInt < 0; omega
 unfold aset
 have e : j.toNatClampNeg = n := by rw [i_nat, hj]; simp
 rw [if_neg h0, e, if_pos hn]
theorem rep_set {α : Type} (m k : Nat) (a : α) : (List.replicate m a).set k a = List.replicate m a := by
 apply List.ext_getElem (by simp)
 intro i h1 h2
 rw [List.getElem_set]
 split <;> simp
theorem small_cases {x : Int32} (h0 : 0 ≤ x.toInt) {n : Nat} (h1 : x.toInt < n) {P : Int32 → Prop} (h : ∀ m : Nat, m < n → P (Int32.ofInt m)) : P x := by
 have e : Int32.ofInt (x.toInt.toNat : Nat) = x := by
  rw [Int.toNat_of_nonneg h0, Int32.ofInt_toInt]
 rw [← e]
 exact h _ (by omega)
theorem bit_ne {x : Int32} (h0 : 0 ≤ x.toInt) (h1 : x.toInt < 32) : ¬ (((1 : Int32) <<< (x &&& 31)) &&& ((1 : Int32) <<< (x &&& 31))) = 0 :=
 small_cases (P := fun x => ¬ (((1 : Int32) <<< (x &&& 31)) &&& ((1 : Int32) <<< (x &&& 31))) = 0) h0 (n := 32) h1 (by decide)
def okP {α : Type} (m : Option α) (P : α → Prop) : Prop := ∃ a, m = some a ∧ P a
theorem okP.some {α : Type} {a : α} {P : α → Prop} (h : P a) : okP (some a) P := ⟨a, rfl, h⟩
theorem okP.bind {α β : Type} {m : Option α} {f : α → Option β} {P : β → Prop} (h : okP m fun a => okP (f a) P) : okP (m.bind f) P := by
 obtain ⟨a, e, b, e2, h2⟩ := h
 exact ⟨b, by rw [e]; exact e2, h2⟩
theorem okP.ite {α : Type} {c : Prop} [Decidable c] {a b : Option α} {P : α → Prop} (h1 : c → okP a P) (h2 : ¬ c → okP b P) : okP (if c then a else b) P := by
 by_cases h : c
 ·rw [if_pos h]; exact h1 h
 ·rw [if_neg h]; exact h2 h
theorem okP.mono {α : Type} {m : Option α} {P Q : α → Prop} (h : okP m P) (k : ∀ a, P a → Q a) : okP m Q := by
 obtain ⟨a, e, h⟩ := h
 exact ⟨a, e, k a h⟩
theorem okP.of {α : Type} {m : Option α} {a : α} {P : α → Prop} (e : m = Option.some a) (h : P a) : okP m P := ⟨a, e, h⟩
theorem okP.aget {α : Type} {xs : List α} {j : Int32} {P : α → Prop} (h0 : 0 ≤ j.toInt) (h1 : j.toInt < xs.length) (k : ∀ v, xs[j.toInt.toNat]? = Option.some v → P v) : okP (aget xs j) P :=
 ⟨_, aget_at (n := j.toInt.toNat) (by omega) (by omega), k _ (List.getElem?_eq_getElem _)⟩
theorem okP.aset {α : Type} {xs : List α} {j : Int32} {v : α} {P : List α → Prop} (h0 : 0 ≤ j.toInt) (h1 : j.toInt < xs.length) (k : P (xs.set j.toInt.toNat v)) : okP (aset xs j v) P :=
 ⟨_, aset_at (n := j.toInt.toNat) (by omega) (by omega), k⟩
theorem okP.loop {V E : Type} {B : V → Option (E ⊕ V)} {P : E → Prop} {n : Nat} {v : V} (I : V → Prop) (μ : V → Nat) (hv : I v) (hm : μ v < n) (hB : ∀ v, I v → okP (B v) (fun r => Sum.elim P (fun v' => I v' ∧ μ v' < μ v) r)) : okP (loopN B n v) P := by
 refine loopN_inv I P μ ?_ n v hv hm
 intro v hv
 obtain ⟨r, e, h⟩ := hB v hv
 cases r with
 | inl x => exact Or.inl ⟨x, e, h⟩
 | inr x => exact Or.inr ⟨x, e, h⟩
theorem len_i {n : Nat} (h : n ≤ 1000) : (n.toInt32).toInt = n := by
 have e : n.toInt32 = Int32.ofInt n := rfl
 rw [e, Int32.toInt_ofInt_of_le (by show _ ≤ (n : Int); omega) (by show (n : Int) < _; omega)]
theorem and1 (x : Int32) : x &&& 1 = 0 ∨ x &&& 1 = 1 := by
 have e : (x &&& 1).toBitVec = x.toBitVec &&& 1#32 := rfl
 have h := BitVec.and_one_eq_setWidth_ofBool_getLsbD (x := x.toBitVec)
 cases g : x.toBitVec.getLsbD 0
 ·left; apply Int32.toBitVec_inj.1; rw [e, h, g]; rfl
 ·right; apply Int32.toBitVec_inj.1; rw [e, h, g]; rfl
theorem okP.not {α : Type} {m : Option α} {a : α} {P : α → Prop} (h : okP m P) (e : m = Option.some a) : P a := by
 obtain ⟨b, e2, h⟩ := h
 rw [e] at e2
 exact (Option.some.inj e2) ▸ h
theorem and_rng {x m : Int32} (hm : 0 ≤ m.toInt) : 0 ≤ (x &&& m).toInt ∧ (x &&& m).toInt ≤ m.toInt := by
 have e : (x &&& m).toBitVec.toNat = x.toBitVec.toNat &&& m.toBitVec.toNat := BitVec.toNat_and ..
 have l : (x &&& m).toBitVec.toNat ≤ m.toBitVec.toNat := by rw [e]; exact Nat.and_le_right
 have c1 : m.toInt = if 2 * m.toBitVec.toNat < 2 ^ 32 then (m.toBitVec.toNat : Int) else m.toBitVec.toNat - (2 ^ 32 : Nat) := BitVec.toInt_eq_toNat_cond m.toBitVec
 have c2 : (x &&& m).toInt = if 2 * (x &&& m).toBitVec.toNat < 2 ^ 32 then ((x &&& m).toBitVec.toNat : Int) else (x &&& m).toBitVec.toNat - (2 ^ 32 : Nat) := BitVec.toInt_eq_toNat_cond (x &&& m).toBitVec
 have b : m.toBitVec.toNat < 2 ^ 32 := m.toBitVec.isLt
 by_cases h : 2 * m.toBitVec.toNat < 2 ^ 32
 ·rw [if_pos h] at c1
  rw [if_pos (by omega)] at c2
  omega
 ·rw [if_neg h] at c1
  omega
theorem mod_rng {x m : Int32} (hx : 0 ≤ x.toInt) (hm : 0 < m.toInt) : 0 ≤ (x % m).toInt ∧ (x % m).toInt < m.toInt := by
 rw [Int32.toInt_mod, Int.tmod_eq_emod_of_nonneg hx]
 exact ⟨Int.emod_nonneg _ (by omega), Int.emod_lt_of_pos _ hm⟩
def sFit (s : List Int32) (τ : QHeap) : Prop := τ.length - List.length ([Sum.inr (Sum.inl (FieldType.int, s))] : QHeap) ≤ room_1.cells ∧ qhs τ - qhs [Sum.inr (Sum.inl (FieldType.int, s))] ≤ room_1.slots
def NN (l : List Int32) : Prop := l.length = 4 ∧ ∀ v ∈ l, 0 ≤ v.toInt
def Sh (W : Int32) (o : Ob) : Prop := (f_srcPayload o).length = 32 ∧ (f_pend o).length = 32 ∧ (f_queue o).length = 64 ∧ (f_stats o).length = 10 ∧ (f_state o).length = 128 ∧ (f_timer o).length = 128 ∧ (f_rxVal o).length = 128 ∧ (f_rxNext o).length = 4 ∧ (f_rxLead o).length = 4 ∧ (f_rxTrail o).length = 4 ∧ (f_lossLeft o).length = 4 ∧ (f_dups o).length = 4 ∧ (f_drops o).length = 4 ∧ (f_delSeq o).length = 128 ∧ (f_delVal o).length = 128 ∧ (f_lostLog o).length = 128 ∧ (f_nakBuf o).length = 128 ∧ f_win o = W ∧ NN (f_delLen o) ∧ NN (f_lostLen o) ∧ 0 ≤ (f_nextSeq o).toInt ∧ 0 ≤ (f_qLen o).toInt ∧ 0 ≤ (f_nakLen o).toInt
theorem Sh_srcPayload {W : Int32} {o : Ob} {x : List Int32} (h : Sh W o) (hx : x.length = 32) : Sh W (s_srcPayload o x) := by
 dsimp only [Sh, f_srcPayload, f_pend, f_queue, f_stats, f_state, f_timer, f_rxVal, f_rxNext, f_rxLead, f_rxTrail, f_lossLeft, f_dups, f_drops, f_delSeq, f_delVal, f_delLen, f_lostLog, f_lostLen, f_nakBuf, f_win, f_nextSeq, f_qLen, f_nakLen, s_srcPayload] at h ⊢
 exact ⟨hx, h.2.1, h.2.2.1, h.2.2.2.1, h.2.2.2.2.1, h.2.2.2.2.2.1, h.2.2.2.2.2.2.1, h.2.2.2.2.2.2.2.1, h.2.2.2.2.2.2.2.2.1, h.2.2.2.2.2.2.2.2.2.1, h.2.2.2.2.2.2.2.2.2.2.1, h.2.2.2.2.2.2.2.2.2.2.2.1, h.2.2.2.2.2.2.2.2.2.2.2.2.1, h.2.2.2.2.2.2.2.2.2.2.2.2.2.1, h.2.2.2.2.2.2.2.2.2.2.2.2.2.2.1, h.2.2.2.2.2.2.2.2.2.2.2.2.2.2.2.1, h.2.2.2.2.2.2.2.2.2.2.2.2.2.2.2.2.1, h.2.2.2.2.2.2.2.2.2.2.2.2.2.2.2.2.2⟩
theorem Sh_l_srcPayload {W : Int32} {o : Ob} (h : Sh W o) : (f_srcPayload o).length = 32 := h.1
theorem Sh_pend {W : Int32} {o : Ob} {x : List Int32} (h : Sh W o) (hx : x.length = 32) : Sh W (s_pend o x) := by
 dsimp only [Sh, f_srcPayload, f_pend, f_queue, f_stats, f_state, f_timer, f_rxVal, f_rxNext, f_rxLead, f_rxTrail, f_lossLeft, f_dups, f_drops, f_delSeq, f_delVal, f_delLen, f_lostLog, f_lostLen, f_nakBuf, f_win, f_nextSeq, f_qLen, f_nakLen, s_pend] at h ⊢
 exact ⟨h.1, hx, h.2.2.1, h.2.2.2.1, h.2.2.2.2.1, h.2.2.2.2.2.1, h.2.2.2.2.2.2.1, h.2.2.2.2.2.2.2.1, h.2.2.2.2.2.2.2.2.1, h.2.2.2.2.2.2.2.2.2.1, h.2.2.2.2.2.2.2.2.2.2.1, h.2.2.2.2.2.2.2.2.2.2.2.1, h.2.2.2.2.2.2.2.2.2.2.2.2.1, h.2.2.2.2.2.2.2.2.2.2.2.2.2.1, h.2.2.2.2.2.2.2.2.2.2.2.2.2.2.1, h.2.2.2.2.2.2.2.2.2.2.2.2.2.2.2.1, h.2.2.2.2.2.2.2.2.2.2.2.2.2.2.2.2.1, h.2.2.2.2.2.2.2.2.2.2.2.2.2.2.2.2.2⟩
theorem Sh_l_pend {W : Int32} {o : Ob} (h : Sh W o) : (f_pend o).length = 32 := h.2.1
theorem Sh_queue {W : Int32} {o : Ob} {x : List Int32} (h : Sh W o) (hx : x.length = 64) : Sh W (s_queue o x) := by
 dsimp only [Sh, f_srcPayload, f_pend, f_queue, f_stats, f_state, f_timer, f_rxVal, f_rxNext, f_rxLead, f_rxTrail, f_lossLeft, f_dups, f_drops, f_delSeq, f_delVal, f_delLen, f_lostLog, f_lostLen, f_nakBuf, f_win, f_nextSeq, f_qLen, f_nakLen, s_queue] at h ⊢
 exact ⟨h.1, h.2.1, hx, h.2.2.2.1, h.2.2.2.2.1, h.2.2.2.2.2.1, h.2.2.2.2.2.2.1, h.2.2.2.2.2.2.2.1, h.2.2.2.2.2.2.2.2.1, h.2.2.2.2.2.2.2.2.2.1, h.2.2.2.2.2.2.2.2.2.2.1, h.2.2.2.2.2.2.2.2.2.2.2.1, h.2.2.2.2.2.2.2.2.2.2.2.2.1, h.2.2.2.2.2.2.2.2.2.2.2.2.2.1, h.2.2.2.2.2.2.2.2.2.2.2.2.2.2.1, h.2.2.2.2.2.2.2.2.2.2.2.2.2.2.2.1, h.2.2.2.2.2.2.2.2.2.2.2.2.2.2.2.2.1, h.2.2.2.2.2.2.2.2.2.2.2.2.2.2.2.2.2⟩
theorem Sh_l_queue {W : Int32} {o : Ob} (h : Sh W o) : (f_queue o).length = 64 := h.2.2.1
theorem Sh_stats {W : Int32} {o : Ob} {x : List Int32} (h : Sh W o) (hx : x.length = 10) : Sh W (s_stats o x) := by
 dsimp only [Sh, f_srcPayload, f_pend, f_queue, f_stats, f_state, f_timer, f_rxVal, f_rxNext, f_rxLead, f_rxTrail, f_lossLeft, f_dups, f_drops, f_delSeq, f_delVal, f_delLen, f_lostLog, f_lostLen, f_nakBuf, f_win, f_nextSeq, f_qLen, f_nakLen, s_stats] at h ⊢
 exact ⟨h.1, h.2.1, h.2.2.1, hx, h.2.2.2.2.1, h.2.2.2.2.2.1, h.2.2.2.2.2.2.1, h.2.2.2.2.2.2.2.1, h.2.2.2.2.2.2.2.2.1, h.2.2.2.2.2.2.2.2.2.1, h.2.2.2.2.2.2.2.2.2.2.1, h.2.2.2.2.2.2.2.2.2.2.2.1, h.2.2.2.2.2.2.2.2.2.2.2.2.1, h.2.2.2.2.2.2.2.2.2.2.2.2.2.1, h.2.2.2.2.2.2.2.2.2.2.2.2.2.2.1, h.2.2.2.2.2.2.2.2.2.2.2.2.2.2.2.1, h.2.2.2.2.2.2.2.2.2.2.2.2.2.2.2.2.1, h.2.2.2.2.2.2.2.2.2.2.2.2.2.2.2.2.2⟩
theorem Sh_l_stats {W : Int32} {o : Ob} (h : Sh W o) : (f_stats o).length = 10 := h.2.2.2.1
theorem Sh_state {W : Int32} {o : Ob} {x : List Int32} (h : Sh W o) (hx : x.length = 128) : Sh W (s_state o x) := by
 dsimp only [Sh, f_srcPayload, f_pend, f_queue, f_stats, f_state, f_timer, f_rxVal, f_rxNext, f_rxLead, f_rxTrail, f_lossLeft, f_dups, f_drops, f_delSeq, f_delVal, f_delLen, f_lostLog, f_lostLen, f_nakBuf, f_win, f_nextSeq, f_qLen, f_nakLen, s_state] at h ⊢
 exact ⟨h.1, h.2.1, h.2.2.1, h.2.2.2.1, hx, h.2.2.2.2.2.1, h.2.2.2.2.2.2.1, h.2.2.2.2.2.2.2.1, h.2.2.2.2.2.2.2.2.1, h.2.2.2.2.2.2.2.2.2.1, h.2.2.2.2.2.2.2.2.2.2.1, h.2.2.2.2.2.2.2.2.2.2.2.1, h.2.2.2.2.2.2.2.2.2.2.2.2.1, h.2.2.2.2.2.2.2.2.2.2.2.2.2.1, h.2.2.2.2.2.2.2.2.2.2.2.2.2.2.1, h.2.2.2.2.2.2.2.2.2.2.2.2.2.2.2.1, h.2.2.2.2.2.2.2.2.2.2.2.2.2.2.2.2.1, h.2.2.2.2.2.2.2.2.2.2.2.2.2.2.2.2.2⟩
theorem Sh_l_state {W : Int32} {o : Ob} (h : Sh W o) : (f_state o).length = 128 := h.2.2.2.2.1
theorem Sh_timer {W : Int32} {o : Ob} {x : List Int32} (h : Sh W o) (hx : x.length = 128) : Sh W (s_timer o x) := by
 dsimp only [Sh, f_srcPayload, f_pend, f_queue, f_stats, f_state, f_timer, f_rxVal, f_rxNext, f_rxLead, f_rxTrail, f_lossLeft, f_dups, f_drops, f_delSeq, f_delVal, f_delLen, f_lostLog, f_lostLen, f_nakBuf, f_win, f_nextSeq, f_qLen, f_nakLen, s_timer] at h ⊢
 exact ⟨h.1, h.2.1, h.2.2.1, h.2.2.2.1, h.2.2.2.2.1, hx, h.2.2.2.2.2.2.1, h.2.2.2.2.2.2.2.1, h.2.2.2.2.2.2.2.2.1, h.2.2.2.2.2.2.2.2.2.1, h.2.2.2.2.2.2.2.2.2.2.1, h.2.2.2.2.2.2.2.2.2.2.2.1, h.2.2.2.2.2.2.2.2.2.2.2.2.1, h.2.2.2.2.2.2.2.2.2.2.2.2.2.1, h.2.2.2.2.2.2.2.2.2.2.2.2.2.2.1, h.2.2.2.2.2.2.2.2.2.2.2.2.2.2.2.1, h.2.2.2.2.2.2.2.2.2.2.2.2.2.2.2.2.1, h.2.2.2.2.2.2.2.2.2.2.2.2.2.2.2.2.2⟩
theorem Sh_l_timer {W : Int32} {o : Ob} (h : Sh W o) : (f_timer o).length = 128 := h.2.2.2.2.2.1
theorem Sh_rxVal {W : Int32} {o : Ob} {x : List Int32} (h : Sh W o) (hx : x.length = 128) : Sh W (s_rxVal o x) := by
 dsimp only [Sh, f_srcPayload, f_pend, f_queue, f_stats, f_state, f_timer, f_rxVal, f_rxNext, f_rxLead, f_rxTrail, f_lossLeft, f_dups, f_drops, f_delSeq, f_delVal, f_delLen, f_lostLog, f_lostLen, f_nakBuf, f_win, f_nextSeq, f_qLen, f_nakLen, s_rxVal] at h ⊢
 exact ⟨h.1, h.2.1, h.2.2.1, h.2.2.2.1, h.2.2.2.2.1, h.2.2.2.2.2.1, hx, h.2.2.2.2.2.2.2.1, h.2.2.2.2.2.2.2.2.1, h.2.2.2.2.2.2.2.2.2.1, h.2.2.2.2.2.2.2.2.2.2.1, h.2.2.2.2.2.2.2.2.2.2.2.1, h.2.2.2.2.2.2.2.2.2.2.2.2.1, h.2.2.2.2.2.2.2.2.2.2.2.2.2.1, h.2.2.2.2.2.2.2.2.2.2.2.2.2.2.1, h.2.2.2.2.2.2.2.2.2.2.2.2.2.2.2.1, h.2.2.2.2.2.2.2.2.2.2.2.2.2.2.2.2.1, h.2.2.2.2.2.2.2.2.2.2.2.2.2.2.2.2.2⟩
theorem Sh_l_rxVal {W : Int32} {o : Ob} (h : Sh W o) : (f_rxVal o).length = 128 := h.2.2.2.2.2.2.1
theorem Sh_rxNext {W : Int32} {o : Ob} {x : List Int32} (h : Sh W o) (hx : x.length = 4) : Sh W (s_rxNext o x) := by
 dsimp only [Sh, f_srcPayload, f_pend, f_queue, f_stats, f_state, f_timer, f_rxVal, f_rxNext, f_rxLead, f_rxTrail, f_lossLeft, f_dups, f_drops, f_delSeq, f_delVal, f_delLen, f_lostLog, f_lostLen, f_nakBuf, f_win, f_nextSeq, f_qLen, f_nakLen, s_rxNext] at h ⊢
 exact ⟨h.1, h.2.1, h.2.2.1, h.2.2.2.1, h.2.2.2.2.1, h.2.2.2.2.2.1, h.2.2.2.2.2.2.1, hx, h.2.2.2.2.2.2.2.2.1, h.2.2.2.2.2.2.2.2.2.1, h.2.2.2.2.2.2.2.2.2.2.1, h.2.2.2.2.2.2.2.2.2.2.2.1, h.2.2.2.2.2.2.2.2.2.2.2.2.1, h.2.2.2.2.2.2.2.2.2.2.2.2.2.1, h.2.2.2.2.2.2.2.2.2.2.2.2.2.2.1, h.2.2.2.2.2.2.2.2.2.2.2.2.2.2.2.1, h.2.2.2.2.2.2.2.2.2.2.2.2.2.2.2.2.1, h.2.2.2.2.2.2.2.2.2.2.2.2.2.2.2.2.2⟩
theorem Sh_l_rxNext {W : Int32} {o : Ob} (h : Sh W o) : (f_rxNext o).length = 4 := h.2.2.2.2.2.2.2.1
theorem Sh_rxLead {W : Int32} {o : Ob} {x : List Int32} (h : Sh W o) (hx : x.length = 4) : Sh W (s_rxLead o x) := by
 dsimp only [Sh, f_srcPayload, f_pend, f_queue, f_stats, f_state, f_timer, f_rxVal, f_rxNext, f_rxLead, f_rxTrail, f_lossLeft, f_dups, f_drops, f_delSeq, f_delVal, f_delLen, f_lostLog, f_lostLen, f_nakBuf, f_win, f_nextSeq, f_qLen, f_nakLen, s_rxLead] at h ⊢
 exact ⟨h.1, h.2.1, h.2.2.1, h.2.2.2.1, h.2.2.2.2.1, h.2.2.2.2.2.1, h.2.2.2.2.2.2.1, h.2.2.2.2.2.2.2.1, hx, h.2.2.2.2.2.2.2.2.2.1, h.2.2.2.2.2.2.2.2.2.2.1, h.2.2.2.2.2.2.2.2.2.2.2.1, h.2.2.2.2.2.2.2.2.2.2.2.2.1, h.2.2.2.2.2.2.2.2.2.2.2.2.2.1, h.2.2.2.2.2.2.2.2.2.2.2.2.2.2.1, h.2.2.2.2.2.2.2.2.2.2.2.2.2.2.2.1, h.2.2.2.2.2.2.2.2.2.2.2.2.2.2.2.2.1, h.2.2.2.2.2.2.2.2.2.2.2.2.2.2.2.2.2⟩
theorem Sh_l_rxLead {W : Int32} {o : Ob} (h : Sh W o) : (f_rxLead o).length = 4 := h.2.2.2.2.2.2.2.2.1
theorem Sh_rxTrail {W : Int32} {o : Ob} {x : List Int32} (h : Sh W o) (hx : x.length = 4) : Sh W (s_rxTrail o x) := by
 dsimp only [Sh, f_srcPayload, f_pend, f_queue, f_stats, f_state, f_timer, f_rxVal, f_rxNext, f_rxLead, f_rxTrail, f_lossLeft, f_dups, f_drops, f_delSeq, f_delVal, f_delLen, f_lostLog, f_lostLen, f_nakBuf, f_win, f_nextSeq, f_qLen, f_nakLen, s_rxTrail] at h ⊢
 exact ⟨h.1, h.2.1, h.2.2.1, h.2.2.2.1, h.2.2.2.2.1, h.2.2.2.2.2.1, h.2.2.2.2.2.2.1, h.2.2.2.2.2.2.2.1, h.2.2.2.2.2.2.2.2.1, hx, h.2.2.2.2.2.2.2.2.2.2.1, h.2.2.2.2.2.2.2.2.2.2.2.1, h.2.2.2.2.2.2.2.2.2.2.2.2.1, h.2.2.2.2.2.2.2.2.2.2.2.2.2.1, h.2.2.2.2.2.2.2.2.2.2.2.2.2.2.1, h.2.2.2.2.2.2.2.2.2.2.2.2.2.2.2.1, h.2.2.2.2.2.2.2.2.2.2.2.2.2.2.2.2.1, h.2.2.2.2.2.2.2.2.2.2.2.2.2.2.2.2.2⟩
theorem Sh_l_rxTrail {W : Int32} {o : Ob} (h : Sh W o) : (f_rxTrail o).length = 4 := h.2.2.2.2.2.2.2.2.2.1
theorem Sh_lossLeft {W : Int32} {o : Ob} {x : List Int32} (h : Sh W o) (hx : x.length = 4) : Sh W (s_lossLeft o x) := by
 dsimp only [Sh, f_srcPayload, f_pend, f_queue, f_stats, f_state, f_timer, f_rxVal, f_rxNext, f_rxLead, f_rxTrail, f_lossLeft, f_dups, f_drops, f_delSeq, f_delVal, f_delLen, f_lostLog, f_lostLen, f_nakBuf, f_win, f_nextSeq, f_qLen, f_nakLen, s_lossLeft] at h ⊢
 exact ⟨h.1, h.2.1, h.2.2.1, h.2.2.2.1, h.2.2.2.2.1, h.2.2.2.2.2.1, h.2.2.2.2.2.2.1, h.2.2.2.2.2.2.2.1, h.2.2.2.2.2.2.2.2.1, h.2.2.2.2.2.2.2.2.2.1, hx, h.2.2.2.2.2.2.2.2.2.2.2.1, h.2.2.2.2.2.2.2.2.2.2.2.2.1, h.2.2.2.2.2.2.2.2.2.2.2.2.2.1, h.2.2.2.2.2.2.2.2.2.2.2.2.2.2.1, h.2.2.2.2.2.2.2.2.2.2.2.2.2.2.2.1, h.2.2.2.2.2.2.2.2.2.2.2.2.2.2.2.2.1, h.2.2.2.2.2.2.2.2.2.2.2.2.2.2.2.2.2⟩
theorem Sh_l_lossLeft {W : Int32} {o : Ob} (h : Sh W o) : (f_lossLeft o).length = 4 := h.2.2.2.2.2.2.2.2.2.2.1
theorem Sh_dups {W : Int32} {o : Ob} {x : List Int32} (h : Sh W o) (hx : x.length = 4) : Sh W (s_dups o x) := by
 dsimp only [Sh, f_srcPayload, f_pend, f_queue, f_stats, f_state, f_timer, f_rxVal, f_rxNext, f_rxLead, f_rxTrail, f_lossLeft, f_dups, f_drops, f_delSeq, f_delVal, f_delLen, f_lostLog, f_lostLen, f_nakBuf, f_win, f_nextSeq, f_qLen, f_nakLen, s_dups] at h ⊢
 exact ⟨h.1, h.2.1, h.2.2.1, h.2.2.2.1, h.2.2.2.2.1, h.2.2.2.2.2.1, h.2.2.2.2.2.2.1, h.2.2.2.2.2.2.2.1, h.2.2.2.2.2.2.2.2.1, h.2.2.2.2.2.2.2.2.2.1, h.2.2.2.2.2.2.2.2.2.2.1, hx, h.2.2.2.2.2.2.2.2.2.2.2.2.1, h.2.2.2.2.2.2.2.2.2.2.2.2.2.1, h.2.2.2.2.2.2.2.2.2.2.2.2.2.2.1, h.2.2.2.2.2.2.2.2.2.2.2.2.2.2.2.1, h.2.2.2.2.2.2.2.2.2.2.2.2.2.2.2.2.1, h.2.2.2.2.2.2.2.2.2.2.2.2.2.2.2.2.2⟩
theorem Sh_l_dups {W : Int32} {o : Ob} (h : Sh W o) : (f_dups o).length = 4 := h.2.2.2.2.2.2.2.2.2.2.2.1
theorem Sh_drops {W : Int32} {o : Ob} {x : List Int32} (h : Sh W o) (hx : x.length = 4) : Sh W (s_drops o x) := by
 dsimp only [Sh, f_srcPayload, f_pend, f_queue, f_stats, f_state, f_timer, f_rxVal, f_rxNext, f_rxLead, f_rxTrail, f_lossLeft, f_dups, f_drops, f_delSeq, f_delVal, f_delLen, f_lostLog, f_lostLen, f_nakBuf, f_win, f_nextSeq, f_qLen, f_nakLen, s_drops] at h ⊢
 exact ⟨h.1, h.2.1, h.2.2.1, h.2.2.2.1, h.2.2.2.2.1, h.2.2.2.2.2.1, h.2.2.2.2.2.2.1, h.2.2.2.2.2.2.2.1, h.2.2.2.2.2.2.2.2.1, h.2.2.2.2.2.2.2.2.2.1, h.2.2.2.2.2.2.2.2.2.2.1, h.2.2.2.2.2.2.2.2.2.2.2.1, hx, h.2.2.2.2.2.2.2.2.2.2.2.2.2.1, h.2.2.2.2.2.2.2.2.2.2.2.2.2.2.1, h.2.2.2.2.2.2.2.2.2.2.2.2.2.2.2.1, h.2.2.2.2.2.2.2.2.2.2.2.2.2.2.2.2.1, h.2.2.2.2.2.2.2.2.2.2.2.2.2.2.2.2.2⟩
theorem Sh_l_drops {W : Int32} {o : Ob} (h : Sh W o) : (f_drops o).length = 4 := h.2.2.2.2.2.2.2.2.2.2.2.2.1
theorem Sh_delSeq {W : Int32} {o : Ob} {x : List Int32} (h : Sh W o) (hx : x.length = 128) : Sh W (s_delSeq o x) := by
 dsimp only [Sh, f_srcPayload, f_pend, f_queue, f_stats, f_state, f_timer, f_rxVal, f_rxNext, f_rxLead, f_rxTrail, f_lossLeft, f_dups, f_drops, f_delSeq, f_delVal, f_delLen, f_lostLog, f_lostLen, f_nakBuf, f_win, f_nextSeq, f_qLen, f_nakLen, s_delSeq] at h ⊢
 exact ⟨h.1, h.2.1, h.2.2.1, h.2.2.2.1, h.2.2.2.2.1, h.2.2.2.2.2.1, h.2.2.2.2.2.2.1, h.2.2.2.2.2.2.2.1, h.2.2.2.2.2.2.2.2.1, h.2.2.2.2.2.2.2.2.2.1, h.2.2.2.2.2.2.2.2.2.2.1, h.2.2.2.2.2.2.2.2.2.2.2.1, h.2.2.2.2.2.2.2.2.2.2.2.2.1, hx, h.2.2.2.2.2.2.2.2.2.2.2.2.2.2.1, h.2.2.2.2.2.2.2.2.2.2.2.2.2.2.2.1, h.2.2.2.2.2.2.2.2.2.2.2.2.2.2.2.2.1, h.2.2.2.2.2.2.2.2.2.2.2.2.2.2.2.2.2⟩
theorem Sh_l_delSeq {W : Int32} {o : Ob} (h : Sh W o) : (f_delSeq o).length = 128 := h.2.2.2.2.2.2.2.2.2.2.2.2.2.1
theorem Sh_delVal {W : Int32} {o : Ob} {x : List Int32} (h : Sh W o) (hx : x.length = 128) : Sh W (s_delVal o x) := by
 dsimp only [Sh, f_srcPayload, f_pend, f_queue, f_stats, f_state, f_timer, f_rxVal, f_rxNext, f_rxLead, f_rxTrail, f_lossLeft, f_dups, f_drops, f_delSeq, f_delVal, f_delLen, f_lostLog, f_lostLen, f_nakBuf, f_win, f_nextSeq, f_qLen, f_nakLen, s_delVal] at h ⊢
 exact ⟨h.1, h.2.1, h.2.2.1, h.2.2.2.1, h.2.2.2.2.1, h.2.2.2.2.2.1, h.2.2.2.2.2.2.1, h.2.2.2.2.2.2.2.1, h.2.2.2.2.2.2.2.2.1, h.2.2.2.2.2.2.2.2.2.1, h.2.2.2.2.2.2.2.2.2.2.1, h.2.2.2.2.2.2.2.2.2.2.2.1, h.2.2.2.2.2.2.2.2.2.2.2.2.1, h.2.2.2.2.2.2.2.2.2.2.2.2.2.1, hx, h.2.2.2.2.2.2.2.2.2.2.2.2.2.2.2.1, h.2.2.2.2.2.2.2.2.2.2.2.2.2.2.2.2.1, h.2.2.2.2.2.2.2.2.2.2.2.2.2.2.2.2.2⟩
theorem Sh_l_delVal {W : Int32} {o : Ob} (h : Sh W o) : (f_delVal o).length = 128 := h.2.2.2.2.2.2.2.2.2.2.2.2.2.2.1
theorem Sh_lostLog {W : Int32} {o : Ob} {x : List Int32} (h : Sh W o) (hx : x.length = 128) : Sh W (s_lostLog o x) := by
 dsimp only [Sh, f_srcPayload, f_pend, f_queue, f_stats, f_state, f_timer, f_rxVal, f_rxNext, f_rxLead, f_rxTrail, f_lossLeft, f_dups, f_drops, f_delSeq, f_delVal, f_delLen, f_lostLog, f_lostLen, f_nakBuf, f_win, f_nextSeq, f_qLen, f_nakLen, s_lostLog] at h ⊢
 exact ⟨h.1, h.2.1, h.2.2.1, h.2.2.2.1, h.2.2.2.2.1, h.2.2.2.2.2.1, h.2.2.2.2.2.2.1, h.2.2.2.2.2.2.2.1, h.2.2.2.2.2.2.2.2.1, h.2.2.2.2.2.2.2.2.2.1, h.2.2.2.2.2.2.2.2.2.2.1, h.2.2.2.2.2.2.2.2.2.2.2.1, h.2.2.2.2.2.2.2.2.2.2.2.2.1, h.2.2.2.2.2.2.2.2.2.2.2.2.2.1, h.2.2.2.2.2.2.2.2.2.2.2.2.2.2.1, hx, h.2.2.2.2.2.2.2.2.2.2.2.2.2.2.2.2.1, h.2.2.2.2.2.2.2.2.2.2.2.2.2.2.2.2.2⟩
theorem Sh_l_lostLog {W : Int32} {o : Ob} (h : Sh W o) : (f_lostLog o).length = 128 := h.2.2.2.2.2.2.2.2.2.2.2.2.2.2.2.1
theorem Sh_nakBuf {W : Int32} {o : Ob} {x : List Int32} (h : Sh W o) (hx : x.length = 128) : Sh W (s_nakBuf o x) := by
 dsimp only [Sh, f_srcPayload, f_pend, f_queue, f_stats, f_state, f_timer, f_rxVal, f_rxNext, f_rxLead, f_rxTrail, f_lossLeft, f_dups, f_drops, f_delSeq, f_delVal, f_delLen, f_lostLog, f_lostLen, f_nakBuf, f_win, f_nextSeq, f_qLen, f_nakLen, s_nakBuf] at h ⊢
 exact ⟨h.1, h.2.1, h.2.2.1, h.2.2.2.1, h.2.2.2.2.1, h.2.2.2.2.2.1, h.2.2.2.2.2.2.1, h.2.2.2.2.2.2.2.1, h.2.2.2.2.2.2.2.2.1, h.2.2.2.2.2.2.2.2.2.1, h.2.2.2.2.2.2.2.2.2.2.1, h.2.2.2.2.2.2.2.2.2.2.2.1, h.2.2.2.2.2.2.2.2.2.2.2.2.1, h.2.2.2.2.2.2.2.2.2.2.2.2.2.1, h.2.2.2.2.2.2.2.2.2.2.2.2.2.2.1, h.2.2.2.2.2.2.2.2.2.2.2.2.2.2.2.1, hx, h.2.2.2.2.2.2.2.2.2.2.2.2.2.2.2.2.2⟩
theorem Sh_l_nakBuf {W : Int32} {o : Ob} (h : Sh W o) : (f_nakBuf o).length = 128 := h.2.2.2.2.2.2.2.2.2.2.2.2.2.2.2.2.1
theorem Sh_back {W : Int32} {o : Ob} {x : Int32} (h : Sh W o) : Sh W (s_back o x) := by
 dsimp only [Sh, f_srcPayload, f_pend, f_queue, f_stats, f_state, f_timer, f_rxVal, f_rxNext, f_rxLead, f_rxTrail, f_lossLeft, f_dups, f_drops, f_delSeq, f_delVal, f_delLen, f_lostLog, f_lostLen, f_nakBuf, f_win, f_nextSeq, f_qLen, f_nakLen, s_back] at h ⊢
 exact h
theorem Sh_repair {W : Int32} {o : Ob} {x : Int32} (h : Sh W o) : Sh W (s_repair o x) := by
 dsimp only [Sh, f_srcPayload, f_pend, f_queue, f_stats, f_state, f_timer, f_rxVal, f_rxNext, f_rxLead, f_rxTrail, f_lossLeft, f_dups, f_drops, f_delSeq, f_delVal, f_delLen, f_lostLog, f_lostLen, f_nakBuf, f_win, f_nextSeq, f_qLen, f_nakLen, s_repair] at h ⊢
 exact h
theorem Sh_period {W : Int32} {o : Ob} {x : Int32} (h : Sh W o) : Sh W (s_period o x) := by
 dsimp only [Sh, f_srcPayload, f_pend, f_queue, f_stats, f_state, f_timer, f_rxVal, f_rxNext, f_rxLead, f_rxTrail, f_lossLeft, f_dups, f_drops, f_delSeq, f_delVal, f_delLen, f_lostLog, f_lostLen, f_nakBuf, f_win, f_nextSeq, f_qLen, f_nakLen, s_period] at h ⊢
 exact h
theorem inc1 {x : Int32} (h : x.toInt < 2147483647) : (x + 1).toInt = x.toInt + 1 := by
 have := i_lo x
 have e1 : (1 : Int32).toInt = 1 := rfl
 rw [i_add (by omega) (by omega), e1]
theorem NN_set {l : List Int32} (h : NN l) (k : Nat) {v : Int32} (hv : 0 ≤ v.toInt) : NN (l.set k v) := by
 refine ⟨by rw [List.length_set]; exact h.1, fun x hx => ?_⟩
 rcases List.mem_or_eq_of_mem_set hx with q | q
 ·exact h.2 x q
 ·rw [q]; exact hv
theorem Sh_dl {W : Int32} {o : Ob} (h : Sh W o) {x : List Int32} (hx : NN x) : Sh W (s_delLen o x) := by
 dsimp only [Sh, f_srcPayload, f_pend, f_queue, f_stats, f_state, f_timer, f_rxVal, f_rxNext, f_rxLead, f_rxTrail, f_lossLeft, f_dups, f_drops, f_delSeq, f_delVal, f_delLen, f_lostLog, f_lostLen, f_nakBuf, f_win, f_back, f_repair, f_period, f_nextSeq, f_qLen, f_nakLen, s_delLen] at h ⊢
 obtain ⟨a1, a2, a3, a4, a5, a6, a7, a8, a9, a10, a11, a12, a13, a14, a15, a16, a17, a18, a19, a20⟩ := h
 exact ⟨a1, a2, a3, a4, a5, a6, a7, a8, a9, a10, a11, a12, a13, a14, a15, a16, a17, a18, hx, a20⟩
theorem Sh_ll {W : Int32} {o : Ob} (h : Sh W o) {x : List Int32} (hx : NN x) : Sh W (s_lostLen o x) := by
 dsimp only [Sh, f_srcPayload, f_pend, f_queue, f_stats, f_state, f_timer, f_rxVal, f_rxNext, f_rxLead, f_rxTrail, f_lossLeft, f_dups, f_drops, f_delSeq, f_delVal, f_delLen, f_lostLog, f_lostLen, f_nakBuf, f_win, f_back, f_repair, f_period, f_nextSeq, f_qLen, f_nakLen, s_lostLen] at h ⊢
 obtain ⟨a1, a2, a3, a4, a5, a6, a7, a8, a9, a10, a11, a12, a13, a14, a15, a16, a17, a18, a19, a20, a21⟩ := h
 exact ⟨a1, a2, a3, a4, a5, a6, a7, a8, a9, a10, a11, a12, a13, a14, a15, a16, a17, a18, a19, hx, a21⟩
theorem Sh_ns {W : Int32} {o : Ob} (h : Sh W o) {x : Int32} (hx : 0 ≤ x.toInt) : Sh W (s_nextSeq o x) := by
 dsimp only [Sh, f_srcPayload, f_pend, f_queue, f_stats, f_state, f_timer, f_rxVal, f_rxNext, f_rxLead, f_rxTrail, f_lossLeft, f_dups, f_drops, f_delSeq, f_delVal, f_delLen, f_lostLog, f_lostLen, f_nakBuf, f_win, f_back, f_repair, f_period, f_nextSeq, f_qLen, f_nakLen, s_nextSeq] at h ⊢
 obtain ⟨a1, a2, a3, a4, a5, a6, a7, a8, a9, a10, a11, a12, a13, a14, a15, a16, a17, a18, a19, a20, a21, a22⟩ := h
 exact ⟨a1, a2, a3, a4, a5, a6, a7, a8, a9, a10, a11, a12, a13, a14, a15, a16, a17, a18, a19, a20, hx, a22⟩
theorem Sh_ql {W : Int32} {o : Ob} (h : Sh W o) {x : Int32} (hx : 0 ≤ x.toInt) : Sh W (s_qLen o x) := by
 dsimp only [Sh, f_srcPayload, f_pend, f_queue, f_stats, f_state, f_timer, f_rxVal, f_rxNext, f_rxLead, f_rxTrail, f_lossLeft, f_dups, f_drops, f_delSeq, f_delVal, f_delLen, f_lostLog, f_lostLen, f_nakBuf, f_win, f_back, f_repair, f_period, f_nextSeq, f_qLen, f_nakLen, s_qLen] at h ⊢
 obtain ⟨a1, a2, a3, a4, a5, a6, a7, a8, a9, a10, a11, a12, a13, a14, a15, a16, a17, a18, a19, a20, a21, a22, a23⟩ := h
 exact ⟨a1, a2, a3, a4, a5, a6, a7, a8, a9, a10, a11, a12, a13, a14, a15, a16, a17, a18, a19, a20, a21, hx, a23⟩
theorem Sh_nl {W : Int32} {o : Ob} (h : Sh W o) {x : Int32} (hx : 0 ≤ x.toInt) : Sh W (s_nakLen o x) := by
 dsimp only [Sh, f_srcPayload, f_pend, f_queue, f_stats, f_state, f_timer, f_rxVal, f_rxNext, f_rxLead, f_rxTrail, f_lossLeft, f_dups, f_drops, f_delSeq, f_delVal, f_delLen, f_lostLog, f_lostLen, f_nakBuf, f_win, f_back, f_repair, f_period, f_nextSeq, f_qLen, f_nakLen, s_nakLen] at h ⊢
 obtain ⟨a1, a2, a3, a4, a5, a6, a7, a8, a9, a10, a11, a12, a13, a14, a15, a16, a17, a18, a19, a20, a21, a22, a23⟩ := h
 exact ⟨a1, a2, a3, a4, a5, a6, a7, a8, a9, a10, a11, a12, a13, a14, a15, a16, a17, a18, a19, a20, a21, a22, hx⟩
theorem q_dl {W : Int32} {o : Ob} (h : Sh W o) : NN (f_delLen o) := h.2.2.2.2.2.2.2.2.2.2.2.2.2.2.2.2.2.2.1
theorem q_ll {W : Int32} {o : Ob} (h : Sh W o) : NN (f_lostLen o) := h.2.2.2.2.2.2.2.2.2.2.2.2.2.2.2.2.2.2.2.1
theorem q_ns {W : Int32} {o : Ob} (h : Sh W o) : 0 ≤ (f_nextSeq o).toInt := h.2.2.2.2.2.2.2.2.2.2.2.2.2.2.2.2.2.2.2.2.1
theorem q_ql {W : Int32} {o : Ob} (h : Sh W o) : 0 ≤ (f_qLen o).toInt := h.2.2.2.2.2.2.2.2.2.2.2.2.2.2.2.2.2.2.2.2.2.1
theorem q_nl {W : Int32} {o : Ob} (h : Sh W o) : 0 ≤ (f_nakLen o).toInt := h.2.2.2.2.2.2.2.2.2.2.2.2.2.2.2.2.2.2.2.2.2.2
theorem q_win {W : Int32} {o : Ob} (h : Sh W o) : f_win o = W := h.2.2.2.2.2.2.2.2.2.2.2.2.2.2.2.2.2.1
theorem st_ok {W : Int32} {o : Ob} (h : Sh W o) {k : Int32} (k0 : 0 ≤ k.toInt) (k1 : k.toInt < 10) {β : Type} {f : List Int32 → Option β} {P : β → Prop} (hf : ∀ l, Sh W (s_stats o l) → okP (f l) P) : okP ((aget (f_stats o) k).bind fun y => (aset (f_stats o) k (y + 1)).bind f) P := by
 have l := Sh_l_stats h
 apply okP.bind
 refine okP.aget k0 (by omega) (fun y _ => ?_)
 apply okP.bind
 refine okP.aset k0 (by omega) ?_
 exact hf _ (Sh_stats h (by rw [List.length_set]; exact l))
theorem vseq (x : Int32) : okP (F18 x) (fun r => r = 0 ∨ (r ≠ 0 ∧ 0 ≤ x.toInt ∧ x.toInt < 32)) := by
 have z0 : (0 : Int32).toInt = 0 := rfl
 have z32 : (32 : Int32).toInt = 32 := rfl
 unfold F18
 refine okP.ite (fun _ => okP.some (Or.inl rfl)) (fun a => ?_)
 refine okP.ite (fun b => okP.some (Or.inr ⟨by decide, ?_⟩)) (fun _ => okP.some (Or.inl rfl))
 rw [i_lt] at a b
 omega
theorem vrx (x : Int32) : okP (F5 x) (fun r => (r = 0 ∧ ¬ (0 ≤ x.toInt ∧ x.toInt < 4)) ∨ (r ≠ 0 ∧ 0 ≤ x.toInt ∧ x.toInt < 4)) := by
 have z0 : (0 : Int32).toInt = 0 := rfl
 have z4 : (4 : Int32).toInt = 4 := rfl
 unfold F5
 refine okP.ite (fun a => okP.some (Or.inl ⟨rfl, by rw [i_lt] at a; omega⟩)) (fun a => ?_)
 refine okP.ite (fun b => okP.some (Or.inr ⟨by decide, ?_⟩)) (fun b => okP.some (Or.inl ⟨rfl, by rw [i_lt] at b; omega⟩))
 rw [i_lt] at a b
 omega
theorem r32 {r k : Int32} (h0 : 0 ≤ r.toInt) (h4 : r.toInt < 4) (k0 : 0 ≤ k.toInt) (k1 : k.toInt < 32) : (r * 32 + k).toInt = r.toInt * 32 + k.toInt := by
 have e : (r * 32).toInt = r.toInt * 32 := i_mul (x := r) (y := 32) (by show _ ≤ r.toInt * 32; omega) (by show r.toInt * 32 < _; omega)
 rw [i_add (by omega) (by omega), e]
theorem agg_ok {W : Int32} {o : Ob} (h : Sh W o) (a b c : Int32) : okP (F15 o a b c) (fun p => Sh W p) := by
 have z32 : (32 : Int32).toInt = 32 := rfl
 have j : ∀ p, Sh W p → okP (J15_20 p c) (fun p => Sh W p) := by
  intro p hp
  unfold J15_20
  apply okP.bind
  refine okP.loop (fun w => 0 ≤ w.1.toInt ∧ w.1.toInt ≤ 32 ∧ Sh W w.2) (fun w => (32 - w.1.toInt).toNat) ⟨by show (0 : Int) ≤ 0; decide, by show (0 : Int) ≤ 32; decide, hp⟩ (by show (32 - (0 : Int)).toNat < 4000; decide) ?_
  rintro ⟨w, p⟩ ⟨a1, a2, a3⟩
  simp only at a1 a2 a3
  unfold B15_23
  simp only
  refine okP.ite (fun _ => ?_) (fun _ => okP.some (okP.some a3))
  refine okP.ite (fun c => ?_) (fun _ => okP.some (okP.some a3))
  rw [i_lt, z32] at c
  have l := Sh_l_pend a3
  have e2 : (w + 1).toInt = w.toInt + 1 := inc1 (by omega)
  apply okP.bind
  refine okP.aset a1 (by omega) ?_
  exact okP.some ⟨⟨by simp only; omega, by simp only; omega, Sh_pend a3 (by rw [List.length_set]; exact l)⟩, by simp only; omega⟩
 have l := Sh_l_pend h
 unfold F15
 refine okP.ite (fun _ => ?_) (fun _ => j o h)
 apply okP.bind
 refine okP.mono (vseq b) ?_
 rintro r (rfl | ⟨r0, b0, b1⟩)
 ·rw [if_pos rfl]; exact j o h
 ·rw [if_neg r0]
  apply okP.bind
  refine okP.aset b0 (by omega) ?_
  exact j _ (Sh_pend h (by rw [List.length_set]; exact l))
theorem lead_ok {W : Int32} {o : Ob} (h : Sh W o) {r : Int32} (r0 : 0 ≤ r.toInt) (r4 : r.toInt < 4) (x : Int32) : okP (F19 o r x) (fun p => Sh W p) := by
 have z32 : (32 : Int32).toInt = 32 := rfl
 have z0 : (0 : Int32).toInt = 0 := rfl
 have j : ∀ p, Sh W p → okP (J19_76 p r x) (fun p => Sh W p) := by
  intro p hp
  have l := Sh_l_rxLead hp
  unfold J19_76
  apply okP.bind
  refine okP.aget r0 (by omega) (fun y _ => ?_)
  refine okP.ite (fun _ => ?_) (fun _ => okP.some hp)
  apply okP.bind
  refine okP.aset r0 (by omega) ?_
  exact okP.some (Sh_rxLead hp (by rw [List.length_set]; exact l))
 have l := Sh_l_rxLead h
 unfold F19
 apply okP.bind
 refine okP.aget r0 (by omega) (fun y _ => ?_)
 obtain ⟨s, hs⟩ : ∃ s, s = (if y + 1 < 0 then (0 : Int32) else y + 1) := ⟨_, rfl⟩
 have s0 : 0 ≤ s.toInt := by
  rw [hs]
  by_cases c : y + 1 < 0
  ·rw [if_pos c]; decide
  ·rw [if_neg c]; rw [i_lt, z0] at c; omega
 rw [← hs]
 apply okP.bind
 refine okP.loop (fun w => 0 ≤ w.1.toInt ∧ Sh W w.2) (fun w => (32 - w.1.toInt).toNat) ⟨s0, h⟩ (by show (32 - s.toInt).toNat < 4000; omega) ?_
 rintro ⟨w, p⟩ ⟨a1, a3⟩
 simp only at a1 a3
 unfold B19_18 J19_70 F24
 simp only
 refine okP.ite (fun _ => okP.some (j p a3)) (fun _ => ?_)
 refine okP.ite (fun c => ?_) (fun _ => okP.some (j p a3))
 rw [i_lt, z32] at c
 have e2 : (w + 1).toInt = w.toInt + 1 := inc1 (by omega)
 have ei := r32 r0 r4 a1 c
 have l1 := Sh_l_state a3
 have l2 := Sh_l_timer a3
 apply okP.bind
 refine okP.aget (by omega) (by omega) (fun z _ => ?_)
 apply okP.ite <;> intro _
 ·apply okP.bind
  refine okP.aset (by omega) (by omega) ?_
  simp only [Option.bind_some]
  obtain ⟨q, hq⟩ : ∃ q, q = s_state p ((f_state p).set (r * 32 + w).toInt.toNat 1) := ⟨_, rfl⟩
  have g : Sh W q := by rw [hq]; exact Sh_state a3 (by rw [List.length_set]; exact l1)
  rw [← hq]
  have l3 := Sh_l_timer g
  apply okP.bind
  refine okP.aset (by omega) (by omega) ?_
  exact okP.some ⟨⟨by simp only; omega, Sh_timer g (by rw [List.length_set]; exact l3)⟩, by simp only; omega⟩
 ·exact okP.some ⟨⟨by simp only; omega, a3⟩, by simp only; omega⟩
theorem lost_ok {W : Int32} {o : Ob} (h : Sh W o) {r : Int32} (r0 : 0 ≤ r.toInt) (r4 : r.toInt < 4) (x : Int32) : okP (F25 o r x) (fun p => Sh W p) := by
 obtain ⟨l, nn⟩ := id (q_ll h)
 have l2 := Sh_l_lostLog h
 have z32 : (32 : Int32).toInt = 32 := rfl
 unfold F25
 apply okP.bind
 refine okP.aget r0 (by omega) (fun y hy => ?_)
 refine okP.ite (fun c => ?_) (fun _ => okP.some h)
 apply okP.bind
 refine okP.aget r0 (by omega) (fun z hz => ?_)
 have ez : z = y := by rw [hy] at hz; exact (Option.some.inj hz).symm
 subst ez
 have z0 := nn z (List.mem_of_getElem? hy)
 rw [i_lt, z32] at c
 have ei := r32 r0 r4 z0 c
 apply okP.bind
 refine okP.aset (by omega) (by omega) ?_
 apply okP.bind
 refine okP.aget r0 (by omega) (fun u hu => ?_)
 have eu : u = z := by rw [hy] at hu; exact (Option.some.inj hu).symm
 subst eu
 have e1 : (u + 1).toInt = u.toInt + 1 := inc1 (by omega)
 apply okP.bind
 refine okP.aset r0 (by omega) ?_
 apply okP.some
 exact Sh_ll (Sh_lostLog h (by rw [List.length_set]; exact l2)) (NN_set ⟨l, nn⟩ _ (by omega))
theorem trail_ok {W : Int32} {o : Ob} (h : Sh W o) {r : Int32} (r0 : 0 ≤ r.toInt) (r4 : r.toInt < 4) (x : Int32) : okP (F20 o r x) (fun p => Sh W p) := by
 have z32 : (32 : Int32).toInt = 32 := rfl
 have z0 : (0 : Int32).toInt = 0 := rfl
 have l1 := Sh_l_rxTrail h
 have l2 := Sh_l_rxNext h
 unfold F20
 apply okP.bind
 refine okP.aget r0 (by omega) (fun y _ => ?_)
 refine okP.ite (fun _ => ?_) (fun _ => okP.some h)
 apply okP.bind
 refine okP.aset r0 (by omega) ?_
 apply okP.bind
 refine okP.aget r0 (by omega) (fun z _ => ?_)
 obtain ⟨s, hs⟩ : ∃ s, s = (if z < 0 then (0 : Int32) else z) := ⟨_, rfl⟩
 have s0 : 0 ≤ s.toInt := by
  rw [hs]
  by_cases c : z < 0
  ·rw [if_pos c]; decide
  ·rw [if_neg c]; rw [i_lt, z0] at c; omega
 rw [← hs]
 apply okP.bind
 refine okP.loop (fun w => 0 ≤ w.1.toInt ∧ Sh W w.2) (fun w => (32 - w.1.toInt).toNat) ⟨s0, Sh_rxTrail h (by rw [List.length_set]; exact l1)⟩ (by show (32 - s.toInt).toNat < 4000; omega) ?_
 rintro ⟨w, p⟩ ⟨a1, a3⟩
 simp only at a1 a3
 unfold B20_34 J20_108
 simp only
 refine okP.ite (fun _ => ?_) (fun _ => okP.some (okP.some a3))
 refine okP.ite (fun c => ?_) (fun _ => okP.some (okP.some a3))
 rw [i_lt, z32] at c
 have e2 : (w + 1).toInt = w.toInt + 1 := inc1 (by omega)
 have ei := r32 r0 r4 a1 c
 have l3 := Sh_l_state a3
 have l4 := Sh_l_timer a3
 have nx : ∀ q, Sh W q → (0 ≤ (w + 1).toInt ∧ Sh W q) ∧ (32 - (w + 1).toInt).toNat < (32 - w.toInt).toNat := fun q hq => ⟨⟨by omega, hq⟩, by omega⟩
 apply okP.bind
 refine okP.aget (by omega) (by omega) (fun z _ => ?_)
 refine okP.ite (fun _ => okP.some (nx p a3)) (fun _ => ?_)
 refine okP.ite (fun _ => okP.some (nx p a3)) (fun _ => ?_)
 refine okP.ite (fun _ => okP.some (nx p a3)) (fun _ => ?_)
 apply okP.bind
 refine okP.aset (by omega) (by omega) ?_
 apply okP.bind
 refine okP.aset (by omega) (by omega) ?_
 apply okP.bind
 refine okP.mono (lost_ok (Sh_timer (Sh_state a3 (by rw [List.length_set]; exact l3)) (by rw [List.length_set]; exact l4)) r0 r4 w) (fun q hq => ?_)
 exact okP.some (nx q hq)
theorem del_ok {W : Int32} {o : Ob} (h : Sh W o) {r : Int32} (r0 : 0 ≤ r.toInt) (r4 : r.toInt < 4) (x v : Int32) : okP (F22 o r x v) (fun p => Sh W p) := by
 obtain ⟨l, nn⟩ := id (q_dl h)
 have l2 := Sh_l_delSeq h
 have l3 := Sh_l_delVal h
 have z32 : (32 : Int32).toInt = 32 := rfl
 unfold F22
 apply okP.bind
 refine okP.aget r0 (by omega) (fun y hy => ?_)
 refine okP.ite (fun c => ?_) (fun _ => okP.some h)
 apply okP.bind
 refine okP.aget r0 (by omega) (fun z hz => ?_)
 have ez : z = y := by rw [hy] at hz; exact (Option.some.inj hz).symm
 subst ez
 have z0 := nn z (List.mem_of_getElem? hy)
 rw [i_lt, z32] at c
 have ei := r32 r0 r4 z0 c
 apply okP.bind
 refine okP.aset (by omega) (by omega) ?_
 apply okP.bind
 refine okP.aset (by omega) (by omega) ?_
 apply okP.bind
 refine okP.aget r0 (by omega) (fun u hu => ?_)
 have eu : u = z := by rw [hy] at hu; exact (Option.some.inj hu).symm
 subst eu
 have e1 : (u + 1).toInt = u.toInt + 1 := inc1 (by omega)
 apply okP.bind
 refine okP.aset r0 (by omega) ?_
 apply okP.some
 exact Sh_dl (Sh_delVal (Sh_delSeq h (by rw [List.length_set]; exact l2)) (by rw [List.length_set]; exact l3)) (NN_set ⟨l, nn⟩ _ (by omega))
theorem deliver_ok {W : Int32} {o : Ob} (h : Sh W o) {r : Int32} (r0 : 0 ≤ r.toInt) (r4 : r.toInt < 4) : okP (F21 o r) (fun p => Sh W p) := by
 have z32 : (32 : Int32).toInt = 32 := rfl
 have z0 : (0 : Int32).toInt = 0 := rfl
 have l := Sh_l_rxNext h
 unfold F21
 apply okP.bind
 refine okP.aget r0 (by omega) (fun y _ => ?_)
 apply okP.bind
 by_cases yn : y < 0
 ·refine okP.loop (fun w => w.1 = y ∧ Sh W w.2) (fun _ => 0) ⟨rfl, h⟩ (by decide) ?_
  rintro ⟨w, p⟩ ⟨a1, a3⟩
  simp only at a1 a3
  unfold B21_7
  simp only
  rw [a1, if_pos yn]
  exact okP.some (okP.some a3)
 rw [i_lt, z0] at yn
 refine okP.loop (fun w => 0 ≤ w.1.toInt ∧ Sh W w.2) (fun w => (32 - w.1.toInt).toNat) ⟨by show 0 ≤ y.toInt; omega, h⟩ (by show (32 - y.toInt).toNat < 4000; omega) ?_
 rintro ⟨w, p⟩ ⟨a1, a3⟩
 simp only at a1 a3
 unfold B21_7
 simp only
 refine okP.ite (fun _ => okP.some (okP.some a3)) (fun _ => ?_)
 refine okP.ite (fun c => ?_) (fun _ => okP.some (okP.some a3))
 rw [i_lt, z32] at c
 have e2 : (w + 1).toInt = w.toInt + 1 := inc1 (by omega)
 have ei := r32 r0 r4 a1 c
 have l1 := Sh_l_state a3
 have l2 := Sh_l_rxVal a3
 obtain ⟨i, hi⟩ : ∃ i, i = r * 32 + w := ⟨_, rfl⟩
 rw [← hi] at ei ⊢
 have j73 : ∀ q, Sh W q → okP (J21_73 q r w) (fun r_1 => Sum.elim (fun a => okP (some a) fun p => Sh W p) (fun v' => (0 ≤ v'.1.toInt ∧ Sh W v'.2) ∧ (32 - v'.1.toInt).toNat < (32 - w.toInt).toNat) r_1) := by
  intro q hq
  have l3 := Sh_l_rxNext hq
  unfold J21_73
  apply okP.bind
  refine okP.aset r0 (by omega) ?_
  exact okP.some ⟨⟨by simp only; omega, Sh_rxNext hq (by rw [List.length_set]; exact l3)⟩, by simp only; omega⟩
 have j48 : ∀ z : Int32, okP (J21_48 p r w i z) (fun r_1 => Sum.elim (fun a => okP (some a) fun p => Sh W p) (fun v' => (0 ≤ v'.1.toInt ∧ Sh W v'.2) ∧ (32 - v'.1.toInt).toNat < (32 - w.toInt).toNat) r_1) := by
  intro z
  unfold J21_48
  refine okP.ite (fun _ => ?_) (fun _ => j73 p a3)
  apply okP.bind
  refine okP.aget (by omega) (by omega) (fun u _ => ?_)
  apply okP.bind
  refine okP.mono (del_ok a3 r0 r4 w u) (fun q hq => ?_)
  have l4 := Sh_l_state hq
  apply okP.bind
  refine okP.aset (by omega) (by omega) ?_
  exact j73 _ (Sh_state hq (by rw [List.length_set]; exact l4))
 apply okP.bind
 refine okP.aget (by omega) (by omega) (fun z _ => ?_)
 refine okP.ite (fun _ => j48 z) (fun _ => ?_)
 exact okP.ite (fun _ => j48 z) (fun _ => okP.some (okP.some a3))
theorem data_ok {W : Int32} {o : Ob} (h : Sh W o) {r : Int32} (r0 : 0 ≤ r.toInt) (r4 : r.toInt < 4) (a b c d : Int32) : okP (F17 o r a b c d) (fun p => Sh W p) := by
 have j : ∀ p, Sh W p → okP (J17_76 p r c d) (fun p => Sh W p) := by
  intro p hp
  unfold J17_76
  apply okP.bind
  refine okP.mono (lead_ok hp r0 r4 c) (fun p hp => ?_)
  apply okP.bind
  refine okP.mono (trail_ok hp r0 r4 d) (fun p hp => ?_)
  apply okP.bind
  exact okP.mono (deliver_ok hp r0 r4) (fun p hp => okP.some hp)
 unfold F17
 apply okP.bind
 refine okP.mono (vseq a) ?_
 rintro q (rfl | ⟨q0, a0, a1⟩)
 ·rw [if_pos rfl]; exact j o h
 rw [if_neg q0]
 have ei := r32 r0 r4 a0 a1
 have l1 := Sh_l_state h
 have l2 := Sh_l_rxVal h
 have l3 := Sh_l_timer h
 have l4 := Sh_l_dups h
 obtain ⟨i, hi⟩ : ∃ i, i = r * 32 + a := ⟨_, rfl⟩
 rw [← hi] at ei ⊢
 have j39 : okP (J17_39 o r b c d i) (fun p => Sh W p) := by
  unfold J17_39
  apply okP.bind
  refine okP.aset (by omega) (by omega) ?_
  apply okP.bind
  refine okP.aset (by omega) (by omega) ?_
  apply okP.bind
  refine okP.aset (by omega) (by omega) ?_
  exact j _ (Sh_timer (Sh_rxVal (Sh_state h (by rw [List.length_set]; exact l1)) (by rw [List.length_set]; exact l2)) (by rw [List.length_set]; exact l3))
 have iw : ∀ x : Int32, okP (F11 x) (fun _ => True) := by
  intro x
  unfold F11
  repeat' with_reducible (first | exact okP.some trivial | (apply okP.ite <;> intro _))
 apply okP.bind
 refine okP.aget (by omega) (by omega) (fun z _ => ?_)
 refine okP.ite (fun _ => j39) (fun _ => ?_)
 apply okP.bind
 refine okP.mono (iw z) (fun _ _ => ?_)
 refine okP.ite (fun _ => ?_) (fun _ => j39)
 apply okP.bind
 refine okP.aget r0 (by omega) (fun u _ => ?_)
 apply okP.bind
 refine okP.aset r0 (by omega) ?_
 exact j _ (Sh_dups h (by rw [List.length_set]; exact l4))
theorem ncf_ok {W : Int32} {o : Ob} (h : Sh W o) {r : Int32} (r0 : 0 ≤ r.toInt) (r4 : r.toInt < 4) (x : Int32) : okP (F28 o r x) (fun p => Sh W p) := by
 unfold F28
 apply okP.bind
 refine okP.mono (vseq x) ?_
 rintro q (rfl | ⟨q0, a0, a1⟩)
 ·rw [if_pos rfl]; exact okP.some h
 rw [if_neg q0]
 have ei := r32 r0 r4 a0 a1
 have l1 := Sh_l_state h
 have l3 := Sh_l_timer h
 obtain ⟨i, hi⟩ : ∃ i, i = r * 32 + x := ⟨_, rfl⟩
 rw [← hi] at ei ⊢
 have j : okP (J28_36 o i) (fun p => Sh W p) := by
  unfold J28_36
  apply okP.bind
  refine okP.aset (by omega) (by omega) ?_
  apply okP.bind
  refine okP.aset (by omega) (by omega) ?_
  exact okP.some (Sh_timer (Sh_state h (by rw [List.length_set]; exact l1)) (by rw [List.length_set]; exact l3))
 apply okP.bind
 refine okP.aget (by omega) (by omega) (fun z _ => ?_)
 refine okP.ite (fun _ => j) (fun _ => ?_)
 exact okP.ite (fun _ => j) (fun _ => okP.some h)
theorem copy_ok {W : Int32} {o : Ob} (h : Sh W o) {r : Int32} (r0 : 0 ≤ r.toInt) (r4 : r.toInt < 4) (a b c d e : Int32) : okP (F16 o r a b c d e) (fun p => Sh W p) := by
 have l1 := Sh_l_lossLeft h
 have l2 := Sh_l_drops h
 have l3 := Sh_l_stats h
 have j : okP (J16_50 o r b c d e) (fun p => Sh W p) := by
  unfold J16_50
  apply okP.bind
  exact okP.mono (data_ok h r0 r4 b c d e) (fun p hp => okP.some hp)
 unfold F16
 apply okP.bind
 refine okP.aget r0 (by omega) (fun y _ => ?_)
 refine okP.ite (fun _ => ?_) (fun _ => ?_)
 ·apply okP.bind
  refine okP.aget r0 (by omega) (fun y _ => ?_)
  apply okP.bind
  refine okP.aset r0 (by omega) ?_
  apply okP.bind
  refine okP.aget r0 (by omega) (fun y _ => ?_)
  apply okP.bind
  refine okP.aset r0 (by omega) ?_
  apply okP.bind
  refine okP.aget (by decide) (by rw [l3]; decide) (fun y _ => ?_)
  apply okP.bind
  refine okP.aset (by decide) (by rw [l3]; decide) ?_
  exact okP.some (Sh_stats (Sh_drops (Sh_lossLeft h (by rw [List.length_set]; exact l1)) (by rw [List.length_set]; exact l2)) (by rw [List.length_set]; exact l3))
 refine okP.ite (fun _ => j) (fun _ => ?_)
 refine okP.ite (fun _ => j) (fun _ => ?_)
 refine okP.ite (fun _ => ?_) (fun _ => ?_)
 ·apply okP.bind
  refine okP.mono (lead_ok h r0 r4 d) (fun p hp => ?_)
  apply okP.bind
  refine okP.mono (trail_ok hp r0 r4 e) (fun p hp => ?_)
  apply okP.bind
  exact okP.mono (deliver_ok hp r0 r4) (fun p hp => okP.some hp)
 ·apply okP.bind
  exact okP.mono (ncf_ok h r0 r4 b) (fun p hp => okP.some hp)
theorem trl_ok {W : Int32} {o : Ob} (h : Sh W o) : okP (F8 o) (fun _ => True) := by
 unfold F8
 exact okP.ite (fun _ => okP.some trivial) (fun _ => okP.some trivial)
theorem multi_ok {W : Int32} {o : Ob} (h : Sh W o) (a b c : Int32) : okP (F13 o a b c) (fun p => Sh W p) := by
 have z4 : (4 : Int32).toInt = 4 := rfl
 unfold F13 F14
 simp only [Option.bind_some]
 apply okP.bind
 refine okP.mono (trl_ok h) (fun t _ => ?_)
 apply okP.bind
 refine okP.mono (agg_ok h a b t) (fun p hp => ?_)
 apply okP.bind
 refine okP.loop (fun w => 0 ≤ w.1.toInt ∧ w.1.toInt ≤ 4 ∧ Sh W w.2) (fun w => (4 - w.1.toInt).toNat) ⟨by show (0 : Int) ≤ 0; decide, by show (0 : Int) ≤ 4; decide, hp⟩ (by show (4 - (0 : Int)).toNat < 4000; decide) ?_
 rintro ⟨w, p⟩ ⟨a1, a2, a3⟩
 simp only at a1 a2 a3
 unfold B13_23
 simp only
 refine okP.ite (fun c => ?_) (fun _ => okP.some (okP.some a3))
 rw [i_lt, z4] at c
 have e2 : (w + 1).toInt = w.toInt + 1 := inc1 (by omega)
 apply okP.bind
 refine okP.mono (copy_ok a3 a1 c _ _ _ _ _) (fun q hq => ?_)
 exact okP.some ⟨⟨by simp only; omega, by simp only; omega, hq⟩, by simp only; omega⟩
theorem send_ok {W : Int32} {o : Ob} (h : Sh W o) (x : Int32) : okP (F3 o x) (fun r => Sh W r.2) := by
 have z32 : (32 : Int32).toInt = 32 := rfl
 have n0 := q_ns h
 have l1 := Sh_l_srcPayload h
 unfold F3
 refine okP.ite (fun _ => okP.some h) (fun _ => ?_)
 refine okP.ite (fun _ => okP.some h) (fun _ => ?_)
 refine okP.ite (fun c => ?_) (fun _ => okP.some h)
 rw [i_lt, z32] at c
 have e2 : (f_nextSeq o + 1).toInt = (f_nextSeq o).toInt + 1 := inc1 (by omega)
 obtain ⟨m, hm⟩ : ∃ m, m = f_nextSeq o + 1 := ⟨_, rfl⟩
 rw [← hm] at e2 ⊢
 have l2 := Sh_l_stats h
 apply okP.bind
 refine okP.aset n0 (by omega) ?_
 apply okP.bind
 refine okP.aget (by decide) (by rw [l2]; decide) (fun y _ => ?_)
 apply okP.bind
 refine okP.aset (by decide) (by rw [l2]; decide) ?_
 apply okP.bind
 refine okP.mono (multi_ok (Sh_stats (Sh_ns (Sh_srcPayload h (by rw [List.length_set]; exact l1)) (x := m) (by omega)) (by rw [List.length_set]; exact l2)) _ _ _) (fun p hp => ?_)
 exact okP.some hp
theorem spm_ok {W : Int32} {o : Ob} (h : Sh W o) : okP (F23 o) (fun p => Sh W p) := by
 unfold F23
 refine st_ok h (by decide) (by decide) (fun l hl => ?_)
 apply okP.bind
 exact okP.mono (multi_ok hl _ _ _) (fun p hp => okP.some hp)
theorem clamp_ok (a b c : Int32) : okP (F2 a b c) (fun _ => True) := by
 unfold F2
 exact okP.ite (fun _ => okP.some trivial) (fun _ => okP.ite (fun _ => okP.some trivial) (fun _ => okP.some trivial))
theorem loss_ok {W : Int32} {o : Ob} (h : Sh W o) (x y : Int32) : okP (F4 o x y) (fun r => Sh W r.2) := by
 have l1 := Sh_l_lossLeft h
 unfold F4
 apply okP.bind
 refine okP.mono (vrx x) ?_
 rintro r (⟨rfl, _⟩ | ⟨r0, x0, x4⟩)
 ·rw [if_pos rfl]; exact okP.some h
 rw [if_neg r0]
 apply okP.bind
 refine okP.mono (clamp_ok _ _ _) (fun _ _ => ?_)
 apply okP.bind
 refine okP.aset x0 (by omega) ?_
 exact okP.some (Sh_lossLeft h (by rw [List.length_set]; exact l1))
theorem serve_ok {W : Int32} {o : Ob} (h : Sh W o) : okP (F7 o) (fun p => Sh W p) := by
 have z64 : (64 : Int32).toInt = 64 := rfl
 unfold F7
 apply okP.bind
 refine okP.mono (trl_ok h) (fun t _ => ?_)
 apply okP.bind
 refine okP.loop (fun w => 0 ≤ w.1.toInt ∧ w.1.toInt ≤ 64 ∧ Sh W w.2) (fun w => (64 - w.1.toInt).toNat) ⟨by show (0 : Int) ≤ 0; decide, by show (0 : Int) ≤ 64; decide, h⟩ (by show (64 - (0 : Int)).toNat < 4000; decide) ?_
 rintro ⟨w, p⟩ ⟨a1, a2, a3⟩
 simp only at a1 a2 a3
 unfold B7_7 J7_96
 simp only
 have done : Sh W (s_qLen p 0) := Sh_ql a3 (by decide)
 refine okP.ite (fun _ => ?_) (fun _ => okP.some (okP.some done))
 refine okP.ite (fun c => ?_) (fun _ => okP.some (okP.some done))
 rw [i_lt, z64] at c
 have e2 : (w + 1).toInt = w.toInt + 1 := inc1 (by omega)
 have l1 := Sh_l_queue a3
 have l2 := Sh_l_srcPayload a3
 have nx : ∀ q, Sh W q → okP (J7_90 q t w) (fun r => Sum.elim (fun a => okP (some a) fun p => Sh W p) (fun v' => (0 ≤ v'.1.toInt ∧ v'.1.toInt ≤ 64 ∧ Sh W v'.2) ∧ (64 - v'.1.toInt).toNat < (64 - w.toInt).toNat) r) := by
  intro q hq
  unfold J7_90
  exact okP.some ⟨⟨by simp only; omega, by simp only; omega, hq⟩, by simp only; omega⟩
 have j52 : ∀ a b : Int32, okP (J7_52 p t w a b) (fun r => Sum.elim (fun a => okP (some a) fun p => Sh W p) (fun v' => (0 ≤ v'.1.toInt ∧ v'.1.toInt ≤ 64 ∧ Sh W v'.2) ∧ (64 - v'.1.toInt).toNat < (64 - w.toInt).toNat) r) := by
  intro a b
  unfold J7_52
  refine st_ok a3 (by decide) (by decide) (fun l hl => ?_)
  apply okP.bind
  exact okP.mono (multi_ok hl _ _ _) nx
 apply okP.bind
 refine okP.aget a1 (by omega) (fun y _ => ?_)
 refine okP.ite (fun _ => ?_) (fun _ => ?_)
 ·refine st_ok a3 (by decide) (by decide) (fun l hl => ?_)
  apply okP.bind
  exact okP.mono (multi_ok hl _ _ _) nx
 ·apply okP.bind
  refine okP.mono (vseq y) ?_
  rintro r (rfl | ⟨r0, y0, y1⟩)
  ·rw [if_pos rfl]; exact j52 _ _
  ·rw [if_neg r0]
   apply okP.bind
   refine okP.aget y0 (by omega) (fun u _ => ?_)
   exact j52 _ _
theorem timer_ok {W : Int32} {o : Ob} (h : Sh W o) {r x : Int32} (r0 : 0 ≤ r.toInt) (r4 : r.toInt < 4) (x0 : 0 ≤ x.toInt) (x1 : x.toInt < 32) : okP (F10 o r x) (fun p => Sh W p) := by
 have ei := r32 r0 r4 x0 x1
 have l1 := Sh_l_state h
 have l2 := Sh_l_timer h
 have l3 := Sh_l_nakBuf h
 have n0 := q_nl h
 have z128 : (128 : Int32).toInt = 128 := rfl
 have iw : ∀ x : Int32, okP (F11 x) (fun _ => True) := by
  intro x
  unfold F11
  repeat' with_reducible (first | exact okP.some trivial | (apply okP.ite <;> intro _))
 have j : ∀ p, Sh W p → okP (J10_102 p) (fun p => Sh W p) := by
  intro p hp
  unfold J10_102
  exact st_ok hp (by decide) (by decide) (fun l hl => okP.some hl)
 unfold F10 F24
 obtain ⟨i, hi⟩ : ∃ i, i = r * 32 + x := ⟨_, rfl⟩
 rw [← hi] at ei ⊢
 apply okP.bind
 refine okP.aget (by omega) (by omega) (fun y _ => ?_)
 apply okP.bind
 refine okP.mono (iw y) (fun _ _ => ?_)
 refine okP.ite (fun _ => okP.some h) (fun _ => ?_)
 apply okP.bind
 refine okP.aget (by omega) (by omega) (fun z _ => ?_)
 apply okP.bind
 refine okP.aset (by omega) (by omega) ?_
 obtain ⟨T, hT⟩ : ∃ T, T = (f_timer o).set i.toInt.toNat (z - 1) := ⟨_, rfl⟩
 have lT : T.length = 128 := by rw [hT, List.length_set]; exact l2
 rw [← hT]
 apply okP.bind
 refine okP.aget (by omega) (by omega) (fun u _ => ?_)
 refine okP.ite (fun _ => ?_) (fun _ => okP.some (Sh_timer h lT))
 refine okP.ite (fun _ => ?_) (fun _ => ?_)
 ·apply okP.bind
  refine okP.aset (by omega) (by omega) ?_
  apply okP.bind
  refine okP.aset (by omega) (by omega) ?_
  have g : Sh W (s_timer (s_state o ((f_state o).set i.toInt.toNat 2)) (T.set i.toInt.toNat (f_repair o))) := Sh_timer (Sh_state h (by rw [List.length_set]; exact l1)) (by rw [List.length_set]; exact lT)
  refine okP.ite (fun c => ?_) (fun _ => j _ g)
  rw [i_lt, z128] at c
  have e2 : (f_nakLen o + 1).toInt = (f_nakLen o).toInt + 1 := inc1 (by omega)
  obtain ⟨m, hm⟩ : ∃ m, m = f_nakLen o + 1 := ⟨_, rfl⟩
  rw [← hm] at e2 ⊢
  apply okP.bind
  refine okP.aset n0 (by omega) ?_
  exact j _ (Sh_nl (Sh_nakBuf g (by rw [List.length_set]; exact l3)) (by omega))
 ·apply okP.bind
  refine okP.aset (by omega) (by omega) ?_
  simp only [Option.bind_some]
  obtain ⟨q, hq⟩ : ∃ q, q = s_state (s_timer o T) ((f_state o).set i.toInt.toNat 1) := ⟨_, rfl⟩
  have g : Sh W q := by rw [hq]; exact Sh_state (Sh_timer h lT) (by rw [List.length_set]; exact l1)
  rw [← hq]
  have l4 := Sh_l_timer g
  apply okP.bind
  refine okP.aset (by omega) (by omega) ?_
  exact okP.some (Sh_timer g (by rw [List.length_set]; exact l4))
theorem timers_ok {W : Int32} {o : Ob} (h : Sh W o) : okP (F9 o) (fun p => Sh W p) := by
 have z4 : (4 : Int32).toInt = 4 := rfl
 have z32 : (32 : Int32).toInt = 32 := rfl
 unfold F9
 apply okP.bind
 refine okP.loop (fun w => 0 ≤ w.1.toInt ∧ w.1.toInt ≤ 4 ∧ Sh W w.2) (fun w => (4 - w.1.toInt).toNat) ⟨by show (0 : Int) ≤ 0; decide, by show (0 : Int) ≤ 4; decide, Sh_nl h (by decide)⟩ (by show (4 - (0 : Int)).toNat < 4000; decide) ?_
 rintro ⟨w, p⟩ ⟨a1, a2, a3⟩
 simp only at a1 a2 a3
 unfold B9_7
 simp only
 refine okP.ite (fun c => ?_) (fun _ => okP.some (okP.some a3))
 rw [i_lt, z4] at c
 have e2 : (w + 1).toInt = w.toInt + 1 := inc1 (by omega)
 apply okP.bind
 have inner : okP (loopN (B9_14 w) qN (0, p)) (fun p => Sh W p) := by
  refine okP.loop (fun v => 0 ≤ v.1.toInt ∧ v.1.toInt ≤ 32 ∧ Sh W v.2) (fun v => (32 - v.1.toInt).toNat) ⟨by show (0 : Int) ≤ 0; decide, by show (0 : Int) ≤ 32; decide, a3⟩ (by show (32 - (0 : Int)).toNat < 4000; decide) ?_
  rintro ⟨v, p⟩ ⟨b1, b2, b3⟩
  simp only at b1 b2 b3
  unfold B9_14
  simp only
  refine okP.ite (fun d => ?_) (fun _ => okP.some b3)
  rw [i_lt, z32] at d
  have e3 : (v + 1).toInt = v.toInt + 1 := inc1 (by omega)
  apply okP.bind
  refine okP.mono (timer_ok b3 a1 c b1 d) (fun q hq => ?_)
  exact okP.some ⟨⟨by simp only; omega, by simp only; omega, hq⟩, by simp only; omega⟩
 refine okP.mono inner (fun q hq => ?_)
 exact okP.some ⟨⟨by simp only; omega, by simp only; omega, hq⟩, by simp only; omega⟩
theorem mncf_ok {W : Int32} {o : Ob} (h : Sh W o) (x : Int32) : okP (F27 o x) (fun p => Sh W p) := by
 have z4 : (4 : Int32).toInt = 4 := rfl
 unfold F27
 apply okP.bind
 refine okP.loop (fun w => 0 ≤ w.1.toInt ∧ w.1.toInt ≤ 4 ∧ Sh W w.2) (fun w => (4 - w.1.toInt).toNat) ⟨by show (0 : Int) ≤ 0; decide, by show (0 : Int) ≤ 4; decide, h⟩ (by show (4 - (0 : Int)).toNat < 4000; decide) ?_
 rintro ⟨w, p⟩ ⟨a1, a2, a3⟩
 simp only at a1 a2 a3
 unfold B27_2
 simp only
 refine okP.ite (fun c => ?_) (fun _ => okP.some (okP.some a3))
 rw [i_lt, z4] at c
 have e2 : (w + 1).toInt = w.toInt + 1 := inc1 (by omega)
 apply okP.bind
 refine okP.mono (copy_ok a3 a1 c _ _ _ _ _) (fun q hq => ?_)
 exact okP.some ⟨⟨by simp only; omega, by simp only; omega, hq⟩, by simp only; omega⟩
theorem nak_ok {W : Int32} {o : Ob} (h : Sh W o) (x : Int32) : okP (F26 o x) (fun p => Sh W p) := by
 have z64 : (64 : Int32).toInt = 64 := rfl
 have j78 : ∀ p, Sh W p → okP (J26_78 p x) (fun p => Sh W p) := by
  intro p hp
  unfold J26_78
  apply okP.bind
  refine okP.mono (mncf_ok hp x) (fun q hq => ?_)
  exact st_ok hq (by decide) (by decide) (fun l hl => okP.some hl)
 have j68 : ∀ p, Sh W p → okP (J26_68 p x) (fun p => Sh W p) := by
  intro p hp
  unfold J26_68
  exact st_ok hp (by decide) (by decide) (fun l hl => j78 _ hl)
 unfold F26
 apply okP.bind
 refine okP.mono (vseq x) ?_
 rintro r (rfl | ⟨r0, x0, x1⟩)
 ·rw [if_pos rfl]; exact okP.some h
 rw [if_neg r0]
 have l1 := Sh_l_pend h
 have l2 := Sh_l_queue h
 have n0 := q_ql h
 apply okP.bind
 refine okP.aget x0 (by omega) (fun y _ => ?_)
 refine okP.ite (fun _ => ?_) (fun _ => st_ok h (by decide) (by decide) (fun l hl => j78 _ hl))
 apply okP.bind
 refine okP.aset x0 (by omega) ?_
 have g : Sh W (s_pend o ((f_pend o).set x.toInt.toNat 1)) := Sh_pend h (by rw [List.length_set]; exact l1)
 refine okP.ite (fun c => ?_) (fun _ => j68 _ g)
 rw [i_lt, z64] at c
 have e2 : (f_qLen o + 1).toInt = (f_qLen o).toInt + 1 := inc1 (by omega)
 obtain ⟨m, hm⟩ : ∃ m, m = f_qLen o + 1 := ⟨_, rfl⟩
 rw [← hm] at e2 ⊢
 apply okP.bind
 refine okP.aset n0 (by omega) ?_
 exact j68 _ (Sh_ql (Sh_queue g (by rw [List.length_set]; exact l2)) (by omega))
theorem naks_ok {W : Int32} {o : Ob} (h : Sh W o) : okP (F12 o) (fun p => Sh W p) := by
 have z128 : (128 : Int32).toInt = 128 := rfl
 unfold F12
 apply okP.bind
 refine okP.loop (fun w => 0 ≤ w.1.toInt ∧ w.1.toInt ≤ 128 ∧ Sh W w.2) (fun w => (128 - w.1.toInt).toNat) ⟨by show (0 : Int) ≤ 0; decide, by show (0 : Int) ≤ 128; decide, h⟩ (by show (128 - (0 : Int)).toNat < 4000; decide) ?_
 rintro ⟨w, p⟩ ⟨a1, a2, a3⟩
 simp only at a1 a2 a3
 unfold B12_2 J12_38
 simp only
 have done : Sh W (s_nakLen p 0) := Sh_nl a3 (by decide)
 refine okP.ite (fun _ => ?_) (fun _ => okP.some (okP.some done))
 refine okP.ite (fun c => ?_) (fun _ => okP.some (okP.some done))
 rw [i_lt, z128] at c
 have e2 : (w + 1).toInt = w.toInt + 1 := inc1 (by omega)
 have l1 := Sh_l_nakBuf a3
 apply okP.bind
 refine okP.aget a1 (by omega) (fun y _ => ?_)
 apply okP.bind
 refine okP.mono (nak_ok a3 _) (fun q hq => ?_)
 exact okP.some ⟨⟨by simp only; omega, by simp only; omega, hq⟩, by simp only; omega⟩
theorem tick_ok {W : Int32} {o : Ob} (h : Sh W o) : okP (F6 o) (fun p => Sh W p) := by
 have z0 : (0 : Int32).toInt = 0 := rfl
 have j : ∀ p, Sh W p → okP (J6_52 p) (fun p => Sh W p) := by
  intro p hp
  unfold J6_52
  apply okP.bind
  refine okP.mono (timers_ok hp) (fun p hp => ?_)
  apply okP.bind
  exact okP.mono (naks_ok hp) (fun p hp => okP.some hp)
 unfold F6
 refine st_ok h (by decide) (by decide) (fun l hl => ?_)
 apply okP.bind
 refine okP.mono (serve_ok hl) (fun p hp => ?_)
 refine okP.ite (fun c => ?_) (fun _ => j p hp)
 have l1 := Sh_l_stats hp
 apply okP.bind
 refine okP.aget (by decide) (by rw [l1]; decide) (fun y _ => ?_)
 have qr : qrem y (f_period p) = some (y % f_period p) := by
  unfold qrem
  rw [if_neg (by intro e; rw [e] at c; revert c; decide)]
 rw [qr]
 simp only [Option.bind_some]
 refine okP.ite (fun _ => ?_) (fun _ => j p hp)
 refine st_ok hp (by decide) (by decide) (fun l hl => ?_)
 apply okP.bind
 exact okP.mono (multi_ok hl _ _ _) j

theorem cmp_loop {E : Type} {N : Int32} {B : Int32 → Option (E ⊕ Int32)} {P : E → Prop} (hN : 0 ≤ N.toInt ∧ N.toInt ≤ 100) (h1 : ∀ w : Int32, 0 ≤ w.toInt → w.toInt < N.toInt → B w = some (.inr (w + 1))) (h2 : ∀ w : Int32, ¬ w.toInt < N.toInt → ∃ e, B w = some (.inl e) ∧ P e) : okP (loopN B qN 0) P := by
 refine okP.loop (fun w => 0 ≤ w.toInt ∧ w.toInt ≤ N.toInt) (fun w => (N.toInt - w.toInt).toNat) ⟨by decide, hN.1⟩ (by show (N.toInt - 0).toNat < 4000; omega) ?_
 intro w ⟨a1, a2⟩
 by_cases c : w.toInt < N.toInt
 ·rw [h1 w a1 c]
  have e2 : (w + 1).toInt = w.toInt + 1 := inc1 (by omega)
  exact okP.some ⟨⟨by omega, by omega⟩, by omega⟩
 ·obtain ⟨e, he, hp⟩ := h2 w c
  rw [he]
  exact okP.some hp
theorem stat_ok {W : Int32} {o : Ob} (h : Sh W o) (x : Int32) : okP (F32 o x) (fun _ => True) := by
 have l := Sh_l_stats h
 unfold F32
 refine okP.ite (fun _ => okP.some trivial) (fun _ => ?_)
 refine okP.ite (fun _ => okP.some trivial) (fun a => ?_)
 refine okP.ite (fun _ => okP.some trivial) (fun b => ?_)
 rw [i_lt] at a b
 have z0 : (0 : Int32).toInt = 0 := rfl
 have z9 : (9 : Int32).toInt = 9 := rfl
 exact okP.bind (okP.aget (by omega) (by omega) (fun _ _ => okP.some trivial))
theorem pendq_ok {W : Int32} {o : Ob} (h : Sh W o) {x : Int32} (x0 : 0 ≤ x.toInt) (x1 : x.toInt < 32) : okP (F33 o x) (fun _ => True) ∧ okP (F34 o x) (fun _ => True) := by
 have l := Sh_l_pend h
 have l2 := Sh_l_queue h
 unfold F33 F34
 constructor
 ·apply okP.bind
  refine okP.mono (vseq x) (fun r _ => ?_)
  refine okP.ite (fun _ => okP.some trivial) (fun _ => ?_)
  exact okP.bind (okP.aget x0 (by omega) (fun _ _ => okP.some trivial))
 ·refine okP.ite (fun _ => okP.some trivial) (fun _ => ?_)
  refine okP.ite (fun _ => ?_) (fun _ => okP.some trivial)
  exact okP.bind (okP.aget x0 (by omega) (fun _ _ => okP.some trivial))
theorem info_ok {W : Int32} {o : Ob} (h : Sh W o) (x k : Int32) : okP (F35 o x k) (fun _ => True) := by
 have l1 := Sh_l_rxNext h
 have l2 := Sh_l_rxLead h
 have l3 := Sh_l_rxTrail h
 have l4 := (q_dl h).1
 have l5 := (q_ll h).1
 have l6 := Sh_l_lossLeft h
 have l7 := Sh_l_dups h
 have l8 := Sh_l_drops h
 unfold F35
 apply okP.bind
 refine okP.mono (vrx x) ?_
 rintro r (⟨rfl, _⟩ | ⟨r0, x0, x4⟩)
 ·rw [if_pos rfl]; exact okP.some trivial
 rw [if_neg r0]
 refine okP.ite (fun _ => okP.bind (okP.aget x0 (by omega) (fun _ _ => okP.some trivial))) (fun _ => ?_)
 refine okP.ite (fun _ => okP.bind (okP.aget x0 (by omega) (fun _ _ => okP.some trivial))) (fun _ => ?_)
 refine okP.ite (fun _ => okP.bind (okP.aget x0 (by omega) (fun _ _ => okP.some trivial))) (fun _ => ?_)
 refine okP.ite (fun _ => okP.bind (okP.aget x0 (by omega) (fun _ _ => okP.some trivial))) (fun _ => ?_)
 refine okP.ite (fun _ => okP.bind (okP.aget x0 (by omega) (fun _ _ => okP.some trivial))) (fun _ => ?_)
 refine okP.ite (fun _ => okP.bind (okP.aget x0 (by omega) (fun _ _ => okP.some trivial))) (fun _ => ?_)
 refine okP.ite (fun _ => okP.bind (okP.aget x0 (by omega) (fun _ _ => okP.some trivial))) (fun _ => ?_)
 exact okP.ite (fun _ => okP.bind (okP.aget x0 (by omega) (fun _ _ => okP.some trivial))) (fun _ => okP.some trivial)
theorem five_ok {W : Int32} {o : Ob} (h : Sh W o) (x : Int32) {k : Int32} (k0 : 0 ≤ k.toInt) (k1 : k.toInt < 32) : okP (F36 o x k) (fun _ => True) ∧ okP (F37 o x k) (fun _ => True) ∧ okP (F38 o x k) (fun _ => True) ∧ okP (F39 o x k) (fun _ => True) ∧ okP (F40 o x k) (fun _ => True) := by
 have l1 := Sh_l_state h
 have l2 := Sh_l_timer h
 have l3 := Sh_l_delSeq h
 have l4 := (q_dl h).1
 have l5 := (q_ll h).1
 have l6 := Sh_l_delVal h
 have l7 := Sh_l_lostLog h
 unfold F36 F37 F38 F39 F40
 obtain ⟨r, hr, q⟩ := vrx x
 rw [hr]
 simp only [Option.bind_some]
 rcases q with ⟨rfl, _⟩ | ⟨r0, x0, x4⟩
 ·simp only [if_true]
  exact ⟨okP.some trivial, okP.some trivial, okP.some trivial, okP.some trivial, okP.some trivial⟩
 ·simp only [if_neg r0]
  have ei := r32 x0 x4 k0 k1
  refine ⟨?_, ?_, ?_, ?_, ?_⟩
  ·apply okP.bind
   refine okP.mono (vseq k) (fun r _ => ?_)
   exact okP.ite (fun _ => okP.some trivial) (fun _ => okP.bind (okP.aget (by omega) (by omega) (fun _ _ => okP.some trivial)))
  ·apply okP.bind
   refine okP.mono (vseq k) (fun r _ => ?_)
   exact okP.ite (fun _ => okP.some trivial) (fun _ => okP.bind (okP.aget (by omega) (by omega) (fun _ _ => okP.some trivial)))
  ·refine okP.ite (fun _ => okP.some trivial) (fun _ => okP.bind (okP.aget x0 (by omega) (fun _ _ => ?_)))
   exact okP.ite (fun _ => okP.bind (okP.aget (by omega) (by omega) (fun _ _ => okP.some trivial))) (fun _ => okP.some trivial)
  ·refine okP.ite (fun _ => okP.some trivial) (fun _ => okP.bind (okP.aget x0 (by omega) (fun _ _ => ?_)))
   exact okP.ite (fun _ => okP.bind (okP.aget (by omega) (by omega) (fun _ _ => okP.some trivial))) (fun _ => okP.some trivial)
  ·refine okP.ite (fun _ => okP.some trivial) (fun _ => okP.bind (okP.aget x0 (by omega) (fun _ _ => ?_)))
   exact okP.ite (fun _ => okP.bind (okP.aget (by omega) (by omega) (fun _ _ => okP.some trivial))) (fun _ => okP.some trivial)
theorem same_ok {W : Int32} {o : Ob} (h : Sh W o) : F29 o o = some 1 := by
 have z4 : (4 : Int32).toInt = 4 := rfl
 have z8 : (8 : Int32).toInt = 8 := rfl
 have z10 : (10 : Int32).toInt = 10 := rfl
 have z32 : (32 : Int32).toInt = 32 := rfl
 obtain ⟨_, q1, rfl⟩ : okP (loopN (B29_28 o o) qN 0) (fun r => r = Sum.inl ()) := by
  refine cmp_loop (N := 10) (by decide) (fun w w0 w1 => ?_) (fun w w1 => ⟨_, ?_, rfl⟩)
  ·unfold B29_28
   obtain ⟨a, ha, _⟩ := stat_ok h w
   rw [if_pos (by rw [i_lt]; exact w1), ha]
   simp only [Option.bind_some, if_true]
  ·unfold B29_28
   rw [if_neg (by rw [i_lt]; exact w1)]
 obtain ⟨_, q2, rfl⟩ : okP (loopN (B29_57 o o) qN 0) (fun r => r = Sum.inl ()) := by
  refine cmp_loop (N := 32) (by decide) (fun w w0 w1 => ?_) (fun w w1 => ⟨_, ?_, rfl⟩)
  ·unfold B29_57
   obtain ⟨⟨a, ha, _⟩, ⟨b, hb, _⟩⟩ := pendq_ok h w0 (by rw [z32] at w1; exact w1)
   rw [if_pos (by rw [i_lt]; exact w1), ha, hb]
   simp only [Option.bind_some, if_true]
  ·unfold B29_57
   rw [if_neg (by rw [i_lt]; exact w1)]
 have q3 : ∀ x : Int32, okP (loopN (B29_108 o o x) qN 0) (fun r => r = Sum.inl ()) := by
  intro x
  refine cmp_loop (N := 8) (by decide) (fun w w0 w1 => ?_) (fun w w1 => ⟨_, ?_, rfl⟩)
  ·unfold B29_108
   obtain ⟨a, ha, _⟩ := info_ok h x w
   rw [if_pos (by rw [i_lt]; exact w1), ha]
   simp only [Option.bind_some, if_true]
  ·unfold B29_108
   rw [if_neg (by rw [i_lt]; exact w1)]
 have q4 : ∀ x : Int32, okP (loopN (B29_139 o o x) qN 0) (fun r => r = Sum.inl ()) := by
  intro x
  refine cmp_loop (N := 32) (by decide) (fun w w0 w1 => ?_) (fun w w1 => ⟨_, ?_, rfl⟩)
  ·unfold B29_139
   obtain ⟨⟨a, ha, _⟩, ⟨b, hb, _⟩, ⟨c, hc, _⟩, ⟨d, hd, _⟩, ⟨e, he, _⟩⟩ := five_ok h x w0 (by rw [z32] at w1; exact w1)
   rw [if_pos (by rw [i_lt]; exact w1), ha, hb, hc, hd, he]
   simp only [Option.bind_some, if_true]
  ·unfold B29_139
   rw [if_neg (by rw [i_lt]; exact w1)]
 obtain ⟨_, q5, rfl⟩ : okP (loopN (B29_101 o o) qN 0) (fun r => r = 1) := by
  refine cmp_loop (N := 4) (by decide) (fun w w0 w1 => ?_) (fun w w1 => ⟨_, ?_, rfl⟩)
  ·unfold B29_101
   obtain ⟨_, a, rfl⟩ := q3 w
   obtain ⟨_, b, rfl⟩ := q4 w
   rw [if_pos (by rw [i_lt]; exact w1), a]
   simp only [Option.bind_some, b]
  ·unfold B29_101
   rw [if_neg (by rw [i_lt]; exact w1)]
 obtain ⟨t, ht, _⟩ := trl_ok h
 unfold F29 F30 F31 F14
 rw [ht]
 simp only [Option.bind_some, if_true, q1, q2, q5]
theorem or4 (a : Int32) : ¬ (0 ≤ (a ||| 4).toInt ∧ (a ||| 4).toInt < 4) := by
 intro ⟨h0, h1⟩
 have t : (a ||| 4).toBitVec.getLsbD 2 = false := small_cases (P := fun x => x.toBitVec.getLsbD 2 = false) h0 (n := 4) h1 (by decide)
 have e : (a ||| 4).toBitVec = a.toBitVec ||| 4#32 := rfl
 rw [e, BitVec.getLsbD_or] at t
 have : (4#32).getLsbD 2 = true := by decide
 rw [this, Bool.or_true] at t
 cases t
theorem init_ok : okP (F1 3 2 2 4) (fun o => Sh 3 o) := by
 have z4 : (4 : Int32).toInt = 4 := rfl
 have c1 : F2 3 2 16 = some 3 := rfl
 have c2 : F2 2 1 8 = some 2 := rfl
 have c4 : F2 4 0 16 = some 4 := rfl
 unfold F1
 rw [c1, c2, c4]
 simp only [Option.bind_some]
 apply okP.bind
 refine okP.loop (fun w => 0 ≤ w.1.toInt ∧ w.1.toInt ≤ 4 ∧ Sh 3 w.2) (fun w => (4 - w.1.toInt).toNat) ⟨by show (0 : Int) ≤ 0; decide, by show (0 : Int) ≤ 4; decide, ?_⟩ (by show (4 - (0 : Int)).toNat < 4000; decide) ?_
 ·dsimp only [Sh, f_srcPayload, f_pend, f_queue, f_stats, f_state, f_timer, f_rxVal, f_rxNext, f_rxLead, f_rxTrail, f_lossLeft, f_dups, f_drops, f_delSeq, f_delVal, f_delLen, f_lostLog, f_lostLen, f_nakBuf, f_win, f_back, f_repair, f_period, f_nextSeq, f_qLen, f_nakLen, s_srcPayload, s_pend, s_queue, s_stats, s_state, s_timer, s_rxVal, s_rxNext, s_rxLead, s_rxTrail, s_lossLeft, s_dups, s_drops, s_delSeq, s_delVal, s_delLen, s_lostLog, s_lostLen, s_nakBuf, s_win, s_back, s_repair, s_period, s_nextSeq, s_qLen, s_nakLen, ob0]
  refine ⟨?_, ?_, ?_, ?_, ?_, ?_, ?_, ?_, ?_, ?_, ?_, ?_, ?_, ?_, ?_, ?_, ?_, ?_, ?_, ?_, ?_, ?_, ?_⟩
  all_goals first | exact List.length_replicate | rfl | trivial | decide | exact ⟨rfl, by decide⟩
 rintro ⟨w, p⟩ ⟨a1, a2, a3⟩
 simp only at a1 a2 a3
 unfold B1_207
 simp only
 have l := Sh_l_rxLead a3
 refine okP.ite (fun c => ?_) (fun _ => okP.some (okP.some a3))
 rw [i_lt, z4] at c
 have e2 : (w + 1).toInt = w.toInt + 1 := inc1 (by omega)
 apply okP.bind
 refine okP.aset a1 (by omega) ?_
 exact okP.some ⟨⟨by simp only; omega, by simp only; omega, Sh_rxLead a3 (by rw [List.length_set]; exact l)⟩, by simp only; omega⟩
theorem law_ok (s : List Int32) (hs : s.length ≤ 260) : ∃ τ, F0 s = some (1, τ) ∧ τ.length - List.length ([Sum.inr (Sum.inl (FieldType.int, s))] : QHeap) ≤ room_1.cells ∧ qhs τ - qhs [Sum.inr (Sum.inl (FieldType.int, s))] ≤ room_1.slots := by
 have hl := len_i (n := s.length) (by omega)
 have z0 : (0 : Int32).toInt = 0 := rfl
 obtain ⟨o, ho, hS⟩ := init_ok
 have key : okP (loopN (B0_26 s) qN (0, o, o)) (fun e => ∃ p, e = Sum.inl (p, p) ∧ Sh 3 p) := by
  refine okP.loop (fun v => 0 ≤ v.1.toInt ∧ v.1.toInt ≤ 260 ∧ v.2.1 = v.2.2 ∧ Sh 3 v.2.1) (fun v => (263 - v.1.toInt).toNat) ⟨by show (0 : Int) ≤ 0; decide, by show (0 : Int) ≤ 260; decide, rfl, hS⟩ (by show (263 - (0 : Int)).toNat < 4000; decide) ?_
  rintro ⟨i, o, o'⟩ ⟨a1, a2, a3, S⟩
  simp only at a1 a2 a3 S
  subst a3
  unfold B0_26
  have e1 : (1 : Int32).toInt = 1 := rfl
  have e2 : (2 : Int32).toInt = 2 := rfl
  have e3 : (3 : Int32).toInt = 3 := rfl
  have i1 : (i + 1).toInt = i.toInt + 1 := by rw [i_add (by omega) (by omega), e1]
  have i2 : (i + 2).toInt = i.toInt + 2 := by rw [i_add (by omega) (by omega), e2]
  have i3 : (i + 3).toInt = i.toInt + 3 := by rw [i_add (by omega) (by omega), e3]
  simp only
  apply okP.ite
  ·intro c
   exact okP.some ⟨o, rfl, S⟩
  ·intro c
   rw [i_lt, hl, i3] at c
   apply okP.bind
   refine okP.aget (by omega) (by omega) (fun y0 _ => ?_)
   apply okP.bind
   refine okP.aget (by omega) (by omega) (fun y1 _ => ?_)
   apply okP.bind
   refine okP.aget (by omega) (by omega) (fun y2 _ => ?_)
   have m := and_rng (x := y2) (m := 255) (by decide)
   have z255 : (255 : Int32).toInt = 255 := rfl
   have zm : (-1 : Int32).toInt = -1 := rfl
   have sn : F3 o (-1 - (y2 &&& 255)) = some (-1, o) := by
    unfold F3
    rw [if_pos (by rw [i_lt, i_sub (by omega) (by omega), zm, z0]; omega)]
   have ls : F4 o (y1 ||| 4) y2 = some (0, o) := by
    unfold F4
    obtain ⟨r, hr, ⟨rfl, _⟩ | ⟨_, q⟩⟩ := vrx (y1 ||| 4)
    ·rw [hr]; rfl
    ·exact absurd q (or4 y1)
   simp only [sn, ls, Option.bind_some, if_true]
   have fin : ∀ p, Sh 3 p → okP (J0_162 s p p i) (fun r => Sum.elim (fun e => ∃ p, e = Sum.inl (p, p) ∧ Sh 3 p) (fun v' => (0 ≤ v'.1.toInt ∧ v'.1.toInt ≤ 260 ∧ v'.2.1 = v'.2.2 ∧ Sh 3 v'.2.1) ∧ (263 - v'.1.toInt).toNat < (263 - i.toInt).toNat) r) := by
    intro p hp
    unfold J0_162
    exact okP.some ⟨⟨by simp only; omega, by simp only; omega, rfl, hp⟩, by simp only; omega⟩
   refine okP.ite (fun _ => ?_) (fun _ => ?_)
   ·obtain ⟨r, hr, q⟩ := send_ok S y1
    rw [hr]
    simp only [Option.bind_some, if_true]
    exact fin _ q
   refine okP.ite (fun _ => ?_) (fun _ => ?_)
   ·obtain ⟨r, hr, q⟩ := spm_ok S
    rw [hr]
    simp only [Option.bind_some]
    exact fin _ q
   refine okP.ite (fun _ => ?_) (fun _ => ?_)
   ·obtain ⟨r, hr, q⟩ := loss_ok S y1 y2
    rw [hr]
    simp only [Option.bind_some, if_true]
    exact fin _ q
   ·obtain ⟨r, hr, q⟩ := tick_ok S
    rw [hr]
    simp only [Option.bind_some]
    exact fin _ q
 obtain ⟨_, q1, p, rfl, S⟩ := key
 unfold F0
 rw [ho]
 simp only [Option.bind_some]
 rw [q1]
 simp only [Option.bind_some]
 rw [same_ok S]
 refine ⟨H1 s p p, rfl, by show 41 - 1 ≤ _; decide, ?_⟩
 have n1 := (q_dl S).1
 have n2 := (q_ll S).1
 obtain ⟨y1, y2, y3, y4, y5, y6, y7, y8, y9, y10, y11, y12, y13, y14, y15, y16, y17, _⟩ := S
 simp only [H1, qhs, qsz, y1, y2, y3, y4, y5, y6, y7, y8, y9, y10, y11, y12, y13, y14, y15, y16, y17, n1, n2]
 simp only [cN, room_1]
 omega
set_option maxRecDepth 65536 in
theorem comes_1 {Post : Tables → Env → Array Value → State → Outcome → State → Prop} (hpost : ∀ tb e args s v u, (limb_1_1.after args s (.returned v) u = true ∧ limb_1_2.after args s (.returned v) u = true ∧ True) → FrameEnd s (.returned v) u (Jvm.fieldLocs frame_1_writes args s ++ Jvm.arrayLocs frame_1_arrays args s ++ Jvm.staticLocs frame_1_statics s) 88 4480 → Post tb e args s (.returned v) u) :
    ArmFor flags0 classFile x code maxLocals ret World_1 tables_1 room_1 Calls_1 rest_1 Pre_1 Post := by
  intro l hfl _ _ p e ha hc hk s m args below hf hA hF happ hP
  obtain ⟨hcalls, hrest, hpre⟩ := hP
  obtain ⟨-, -, -, hnamed, -, -, -, hat⟩ := (Spec.applies_iff hf).mp happ
  obtain ⟨hg, hn⟩ := and_e (Cond.before_iff.mp (show (Jvm.Cond.and given_1 narrow_1).before args s = true from hpre))
  obtain ⟨g0, g1⟩ := and_e hg
  obtain ⟨w0, rfl⟩ : ∃ w0 : Value, args = #[w0] := by
    have hs : args.size = 1 := by simpa [Cond.value, given_1] using g0
    obtain ⟨L⟩ := args
    match L, hs with
    | [w0], _ => exact ⟨w0, rfl⟩
  have hw := fun d (hd : d ∈ tables_1) => atoms_spec (ws := Jvm.Cond.code x code maxLocals ret :: tables_1) hat d (List.mem_cons_of_mem _ hd)
  have hfit : Fit s := fun {y c} hc i hi => by
    obtain ⟨ha, rfl⟩ := Array.getElem?_eq_some_iff.mp hc
    have q := List.all_eq_true.mp ((Array.all_eq_true_iff_forall_mem.mp hF) _ (Array.getElem_mem ha)) i (List.mem_range.mpr hi)
    simpa [Array.getElem?_eq_getElem hi] using q
  obtain ⟨n1, n2⟩ := and_e hn
  obtain ⟨a, cl, xs, rfl, hA1, hA2, hlen⟩ := script_ok hfit n1 n2
  obtain ⟨τ, hF0, hc1, hs1⟩ := law_ok xs hlen
  have hlt := hA1.lt
  have Ad : QAd s.heap.size (fun k => match k with | 0 => a | k + 1 => s.heap.size + k) := ⟨fun k hk => by cases k with | zero => exact absurd hk (by decide) | succ k => rfl, fun i j h => by
    cases i with
    | zero => cases j with
      | zero => rfl
      | succ j => have h' : a = s.heap.size + j := h; exact absurd hA1.lt (by rw [h']; exact Nat.not_lt.mpr (Nat.le_add_right _ _))
    | succ i => cases j with
      | zero => have h' : s.heap.size + i = a := h; exact absurd hA1.lt (by rw [← h']; exact Nat.not_lt.mpr (Nat.le_add_right _ _))
      | succ j => have h' : s.heap.size + i = s.heap.size + j := h; omega⟩
  have hR : QRep s s.heap.size (fun k => match k with | 0 => a | k + 1 => s.heap.size + k) s.heap [.inr (.inl (.int, xs))] := ⟨Nat.le_refl _, rfl, fun k c h => by
    cases k with
    | zero => cases h; exact ⟨cl, hA1, hA2⟩
    | succ k => cases h⟩
  have T := tF0 (l := l) (Z := s) Ad (QW_ok hw) xs hF0
  have M := QTri.met (k := 0) (as := [.ref 0]) (by decide) T hR (Nat.le_of_ble_eq_true rfl) (fun q => by cases q) tables_1 (rm := room_1) (by decide) (by decide) hc1 hs1
  obtain ⟨n, o, h1, h2, h3, _, L, rfl, ⟨rfl, R', N⟩, hq⟩ := M p e ha hc hk s m _ below hf ((Spec.applies_iff_loose hf).mp happ).1 ⟨rfl, State.Warmed39.refl s, rfl⟩ trivial
  refine ⟨n, _, h1, h2, h3, hpost _ _ _ _ _ _ ⟨Cond.after_iff.mpr rfl, Cond.after_iff.mpr (eq_i res_at (Term.int_eval (1)) rfl), trivial⟩ ⟨hq.1, hq.2.1, (hq.2.2.sift fun y hy => Or.inr (N y hy)).mono hc1 hs1⟩⟩
theorem main_1_1 : Claimed_1_1 := comes_1 fun _ _ _ _ _ _ h hF => ⟨h.1, hF⟩
theorem main_1_2 : Claimed_1_2 := comes_1 fun _ _ _ _ _ _ h hF => ⟨h.2.1, hF⟩
end Jvm.Pilot.@@N@@
namespace Jvm.Pilot.@@N@@
open Jvm Jvm.ClassFile Sem Op Lib Jvm.Free Jvm.Stand Jvm.Pilot.@@N@@.Jvm.D
/-! MADE BY PROGRAM (witnessworld.py) out of the Statement's table words and the real class files: 11 classes; the members and pool entries that the words name. The judged class is class 1, her method 1. -/
namespace start1
open Jvm.ClassFile
def u (s : String) : CpInfo := .utf8 (stringToUtf16 s)
/-- a pool by its gaps: so many unusable entries, then the entry; so many at the end -/
def gap : Nat → List CpInfo → List CpInfo
  | 0, r => r
  | n + 1, r => .unusable :: gap n r
def poolList (es : List (Nat × CpInfo)) (last : Nat) : List CpInfo := es.foldr (fun e r => gap e.1 (e.2 :: r)) (gap last [])
def pool (es : List (Nat × CpInfo)) (last : Nat) : Array CpInfo := ⟨poolList es last⟩
def fileOf (pool : Array CpInfo) (this : Nat) (attrs : Array Attribute := #[]) (ms : Array MethodInfo := #[]) (fl : Nat := 33) (sup : Nat := 0) (ifs : Array Nat := #[]) (fds : Array FieldInfo := #[]) : ClassFile where
  minorVersion := 0
  majorVersion := 65
  constantPool := pool
  accessFlags := fl
  thisClass := this
  superClass := sup
  interfaces := ifs
  fields := fds
  methods := ms
  attributes := attrs
def plain (name : String) (sup : Option ClassId) : Class where
  name := name
  kind := .ordinary
  loader := none
  accessFlags := 33
  super := sup
  interfaces := #[]
  cf := none
  fields := #[]
  methods := #[]
  instanceTypes := #[]
  staticTypes := #[]
  resolved := #[]
  callSites := []
  init := .initialized
  statics := none
  mirror := none

def pool0 : Array CpInfo := pool [(5, u "<init>"), (0, u "()V"), (1, .class_ 10), (1, u "java/lang/Object")] 113

def k0c0 : Code := { maxStack := 0, maxLocals := 1, code := object_method_1_code, exceptionTable := #[], attributes := #[] }
def k0m0 : Method := { name := "<init>", desc := "()V", sig := { parameters := [], returnType := none }, accessFlags := 1, code := some k0c0 }
/-- java/lang/Object -/
def k0 : Class := { plain "java/lang/Object" none with
  accessFlags := 33
  interfaces := #[]
  cf := some (fileOf pool0 8 #[] #[{ accessFlags := 1, nameIndex := 5, descriptorIndex := 6, attributes := #[] }] 33 0 #[] #[])
  fields := #[]
  methods := #[k0m0]
  instanceTypes := #[]
  staticTypes := #[]
  resolved := Array.replicate 124 none
  statics := none }

def pool1 : Array CpInfo := pool [(2, .class_ 4), (1, u "java/lang/Object"), (0, u "<init>"), (0, u "()V"), (0, .class_ 8), (0, u "NakMulticast"), (0, .methodref 7 10), (0, .nameAndType 5 11), (0, u "(IIII)V"), (0, .methodref 7 13), (0, .nameAndType 14 15), (0, u "send"), (0, u "(I)I"), (0, .methodref 7 17), (0, .nameAndType 18 19), (0, u "setLoss"), (0, u "(II)Z"), (0, .methodref 7 21), (0, .nameAndType 22 6), (0, u "spm"), (0, .methodref 7 24), (0, .nameAndType 25 6), (0, u "tick"), (0, .methodref 27 28), (0, .class_ 29), (0, .nameAndType 30 31), (0, u "NakMulticastL5"), (0, u "same"), (0, u "(LNakMulticast;LNakMulticast;)Z"), (0, .methodref 7 33), (0, .nameAndType 34 35), (0, u "sourceLead"), (0, u "()I"), (0, .methodref 7 37), (0, .nameAndType 38 35), (0, u "sourceTrail"), (0, .methodref 7 40), (0, .nameAndType 41 15), (0, u "stat"), (0, .methodref 7 43), (0, .nameAndType 44 45), (0, u "pending"), (0, u "(I)Z"), (0, .methodref 7 47), (0, .nameAndType 48 15), (0, u "queued"), (0, .methodref 7 50), (0, .nameAndType 51 52), (0, u "rxInfo"), (0, u "(II)I"), (0, .methodref 7 54), (0, .nameAndType 55 52), (0, u "rxState"), (0, .methodref 7 57), (0, .nameAndType 58 52), (0, u "rxTimer"), (0, .methodref 7 60), (0, .nameAndType 61 52), (0, u "deliveredSeq"), (0, .methodref 7 63), (0, .nameAndType 64 52), (0, u "deliveredValue"), (0, .methodref 7 66), (0, .nameAndType 67 52), (0, u "lostSeq"), (2, u "law"), (0, u "([I)Z")] 3

def k1m0 : Method := { name := "<init>", desc := "()V", sig := { parameters := [], returnType := none }, accessFlags := 1, code := none }
def k1c1 : Code := { maxStack := 6, maxLocals := 7, code := code, exceptionTable := #[], attributes := #[] }
def k1m1 : Method := { name := "law", desc := "([I)Z", sig := { parameters := [(.array .int)], returnType := some .boolean }, accessFlags := 9, code := some k1c1 }
def k1c2 : Code := { maxStack := 4, maxLocals := 4, code := method_3_code, exceptionTable := #[], attributes := #[] }
def k1m2 : Method := { name := "same", desc := "(LNakMulticast;LNakMulticast;)Z", sig := { parameters := [(.object "NakMulticast"), (.object "NakMulticast")], returnType := some .boolean }, accessFlags := 10, code := some k1c2 }
/-- NakMulticastL5 -/
def k1 : Class := { plain "NakMulticastL5" (some 0) with
  accessFlags := 33
  interfaces := #[]
  cf := some (fileOf pool1 27 #[] #[{ accessFlags := 1, nameIndex := 5, descriptorIndex := 6, attributes := #[] }, { accessFlags := 9, nameIndex := 70, descriptorIndex := 71, attributes := #[] }, { accessFlags := 10, nameIndex := 30, descriptorIndex := 31, attributes := #[] }] 33 2 #[] #[])
  fields := #[]
  methods := #[k1m0, k1m1, k1m2]
  instanceTypes := #[]
  staticTypes := #[]
  resolved := Array.replicate 75 none
  statics := none }

def pool2 : Array CpInfo := pool [(1, .methodref 2 3), (0, .class_ 4), (0, .nameAndType 5 6), (0, u "java/lang/Object"), (0, u "<init>"), (0, u "()V"), (0, .fieldref 8 9), (0, .class_ 10), (0, .nameAndType 11 12), (0, u "NakMulticast"), (0, u "srcPayload"), (0, u "[I"), (0, .fieldref 8 14), (0, .nameAndType 15 16), (0, u "pend"), (0, u "[Z"), (0, .fieldref 8 18), (0, .nameAndType 19 12), (0, u "queue"), (0, .fieldref 8 21), (0, .nameAndType 22 12), (0, u "stats"), (0, .fieldref 8 24), (0, .nameAndType 25 12), (0, u "state"), (0, .fieldref 8 27), (0, .nameAndType 28 12), (0, u "timer"), (0, .fieldref 8 30), (0, .nameAndType 31 12), (0, u "rxVal"), (0, .fieldref 8 33), (0, .nameAndType 34 12), (0, u "rxNext"), (0, .fieldref 8 36), (0, .nameAndType 37 12), (0, u "rxLead"), (0, .fieldref 8 39), (0, .nameAndType 40 12), (0, u "rxTrail"), (0, .fieldref 8 42), (0, .nameAndType 43 12), (0, u "lossLeft"), (0, .fieldref 8 45), (0, .nameAndType 46 12), (0, u "dups"), (0, .fieldref 8 48), (0, .nameAndType 49 12), (0, u "drops"), (0, .fieldref 8 51), (0, .nameAndType 52 12), (0, u "delSeq"), (0, .fieldref 8 54), (0, .nameAndType 55 12), (0, u "delVal"), (0, .fieldref 8 57), (0, .nameAndType 58 12), (0, u "delLen"), (0, .fieldref 8 60), (0, .nameAndType 61 12), (0, u "lostLog"), (0, .fieldref 8 63), (0, .nameAndType 64 12), (0, u "lostLen"), (0, .fieldref 8 66), (0, .nameAndType 67 12), (0, u "nakBuf"), (0, .methodref 8 69), (0, .nameAndType 70 71), (0, u "clamp"), (0, u "(III)I"), (0, .fieldref 8 73), (0, .nameAndType 74 75), (0, u "win"), (0, u "I"), (0, .fieldref 8 77), (0, .nameAndType 78 75), (0, u "back"), (0, .fieldref 8 80), (0, .nameAndType 81 75), (0, u "repair"), (0, .fieldref 8 83), (0, .nameAndType 84 75), (0, u "period"), (0, .fieldref 8 86), (0, .nameAndType 87 75), (0, u "nextSeq"), (0, .methodref 8 89), (0, .nameAndType 90 91), (0, u "multicastSource"), (0, u "(III)V"), (0, .methodref 8 93), (0, .nameAndType 94 95), (0, u "validRx"), (0, u "(I)Z"), (0, .methodref 8 97), (0, .nameAndType 98 6), (0, u "serveQueue"), (0, .methodref 8 100), (0, .nameAndType 101 6), (0, u "runTimers"), (0, .methodref 8 103), (0, .nameAndType 104 6), (0, u "handleNaks"), (0, .methodref 8 106), (0, .nameAndType 107 108), (0, u "lead"), (0, u "()I"), (0, .methodref 8 110), (0, .nameAndType 111 108), (0, u "trail"), (0, .fieldref 8 113), (0, .nameAndType 114 75), (0, u "qLen"), (0, .methodref 8 116), (0, .nameAndType 117 95), (0, u "validSeq"), (0, .methodref 8 119), (0, .nameAndType 120 91), (0, u "aggregatorApply"), (0, .methodref 8 122), (0, .nameAndType 123 124), (0, u "copyTo"), (0, u "(IIIIII)V"), (0, .methodref 8 126), (0, .nameAndType 127 128), (0, u "applyData"), (0, u "(IIIII)V"), (0, .methodref 8 130), (0, .nameAndType 131 132), (0, u "applyLead"), (0, u "(II)V"), (0, .methodref 8 134), (0, .nameAndType 135 132), (0, u "applyTrail"), (0, .methodref 8 137), (0, .nameAndType 138 139), (0, u "deliver"), (0, u "(I)V"), (0, .methodref 8 141), (0, .nameAndType 142 132), (0, u "applyNcf"), (0, .methodref 8 144), (0, .nameAndType 145 95), (0, u "isWaiting"), (0, .methodref 8 147), (0, .nameAndType 148 149), (0, u "backoffOf"), (0, u "(I)I"), (0, .methodref 8 151), (0, .nameAndType 152 132), (0, u "appendLost"), (0, .methodref 8 154), (0, .nameAndType 155 91), (0, u "appendDelivered"), (0, .fieldref 8 157), (0, .nameAndType 158 75), (0, u "nakLen"), (0, .methodref 8 160), (0, .nameAndType 161 132), (0, u "stepTimer"), (0, .methodref 8 163), (0, .nameAndType 164 139), (0, u "handleNak"), (0, .methodref 8 166), (0, .nameAndType 167 139), (0, u "multicastNcf"), (0, u "MAX_SEQ"), (2, u "RECEIVERS"), (1, u "BAD"), (1, u "RX_UNKNOWN"), (1, u "RX_BACKOFF"), (1, u "RX_WAIT_NCF"), (1, u "RX_WAIT_DATA"), (1, u "RX_HAVE"), (0, u "RX_DELIVERED"), (1, u "RX_LOST"), (1, u "INFO_NEXT"), (0, u "INFO_LEAD"), (0, u "INFO_TRAIL"), (0, u "INFO_DELIVERED"), (0, u "INFO_LOST"), (0, u "INFO_LOSS_LEFT"), (0, u "INFO_DUPLICATES"), (0, u "INFO_DROPPED"), (1, u "STAT_TIME"), (0, u "STAT_ODATA"), (0, u "STAT_RDATA"), (0, u "STAT_SPM"), (0, u "STAT_NAK"), (0, u "STAT_FORWARDED"), (0, u "STAT_SUPPRESSED"), (0, u "STAT_NCF"), (0, u "STAT_QUEUE"), (1, u "STAT_DROPPED"), (1, u "(IIII)V"), (3, u "send"), (0, u "spm"), (0, u "setLoss"), (0, u "(II)Z"), (0, u "tick"), (0, u "sourceLead"), (0, u "sourceTrail"), (0, u "stat"), (0, u "pending"), (0, u "queued"), (0, u "rxInfo"), (0, u "(II)I"), (0, u "rxState"), (0, u "rxTimer"), (0, u "deliveredSeq"), (0, u "deliveredValue"), (0, u "lostSeq")] 2

def k2c0 : Code := { maxStack := 5, maxLocals := 6, code := prog_1_method_1_code, exceptionTable := #[], attributes := #[] }
def k2m0 : Method := { name := "<init>", desc := "(IIII)V", sig := { parameters := [.int, .int, .int, .int], returnType := none }, accessFlags := 1, code := some k2c0 }
def k2c1 : Code := { maxStack := 4, maxLocals := 3, code := prog_1_method_2_code, exceptionTable := #[], attributes := #[] }
def k2m1 : Method := { name := "send", desc := "(I)I", sig := { parameters := [.int], returnType := some .int }, accessFlags := 1, code := some k2c1 }
def k2c2 : Code := { maxStack := 4, maxLocals := 1, code := prog_1_method_3_code, exceptionTable := #[], attributes := #[] }
def k2m2 : Method := { name := "spm", desc := "()V", sig := { parameters := [], returnType := none }, accessFlags := 1, code := some k2c2 }
def k2c3 : Code := { maxStack := 6, maxLocals := 3, code := prog_1_method_4_code, exceptionTable := #[], attributes := #[] }
def k2m3 : Method := { name := "setLoss", desc := "(II)Z", sig := { parameters := [.int, .int], returnType := some .boolean }, accessFlags := 1, code := some k2c3 }
def k2c4 : Code := { maxStack := 4, maxLocals := 1, code := prog_1_method_5_code, exceptionTable := #[], attributes := #[] }
def k2m4 : Method := { name := "tick", desc := "()V", sig := { parameters := [], returnType := none }, accessFlags := 1, code := some k2c4 }
def k2c5 : Code := { maxStack := 1, maxLocals := 1, code := prog_1_method_6_code, exceptionTable := #[], attributes := #[] }
def k2m5 : Method := { name := "sourceLead", desc := "()I", sig := { parameters := [], returnType := some .int }, accessFlags := 1, code := some k2c5 }
def k2c6 : Code := { maxStack := 1, maxLocals := 1, code := prog_1_method_7_code, exceptionTable := #[], attributes := #[] }
def k2m6 : Method := { name := "sourceTrail", desc := "()I", sig := { parameters := [], returnType := some .int }, accessFlags := 1, code := some k2c6 }
def k2c7 : Code := { maxStack := 2, maxLocals := 2, code := prog_1_method_8_code, exceptionTable := #[], attributes := #[] }
def k2m7 : Method := { name := "stat", desc := "(I)I", sig := { parameters := [.int], returnType := some .int }, accessFlags := 1, code := some k2c7 }
def k2c8 : Code := { maxStack := 2, maxLocals := 2, code := prog_1_method_9_code, exceptionTable := #[], attributes := #[] }
def k2m8 : Method := { name := "pending", desc := "(I)Z", sig := { parameters := [.int], returnType := some .boolean }, accessFlags := 1, code := some k2c8 }
def k2c9 : Code := { maxStack := 2, maxLocals := 2, code := prog_1_method_10_code, exceptionTable := #[], attributes := #[] }
def k2m9 : Method := { name := "queued", desc := "(I)I", sig := { parameters := [.int], returnType := some .int }, accessFlags := 1, code := some k2c9 }
def k2c10 : Code := { maxStack := 2, maxLocals := 3, code := prog_1_method_11_code, exceptionTable := #[], attributes := #[] }
def k2m10 : Method := { name := "rxInfo", desc := "(II)I", sig := { parameters := [.int, .int], returnType := some .int }, accessFlags := 1, code := some k2c10 }
def k2c11 : Code := { maxStack := 3, maxLocals := 3, code := prog_1_method_12_code, exceptionTable := #[], attributes := #[] }
def k2m11 : Method := { name := "rxState", desc := "(II)I", sig := { parameters := [.int, .int], returnType := some .int }, accessFlags := 1, code := some k2c11 }
def k2c12 : Code := { maxStack := 3, maxLocals := 3, code := prog_1_method_13_code, exceptionTable := #[], attributes := #[] }
def k2m12 : Method := { name := "rxTimer", desc := "(II)I", sig := { parameters := [.int, .int], returnType := some .int }, accessFlags := 1, code := some k2c12 }
def k2c13 : Code := { maxStack := 3, maxLocals := 3, code := prog_1_method_14_code, exceptionTable := #[], attributes := #[] }
def k2m13 : Method := { name := "deliveredSeq", desc := "(II)I", sig := { parameters := [.int, .int], returnType := some .int }, accessFlags := 1, code := some k2c13 }
def k2c14 : Code := { maxStack := 3, maxLocals := 3, code := prog_1_method_15_code, exceptionTable := #[], attributes := #[] }
def k2m14 : Method := { name := "deliveredValue", desc := "(II)I", sig := { parameters := [.int, .int], returnType := some .int }, accessFlags := 1, code := some k2c14 }
def k2c15 : Code := { maxStack := 3, maxLocals := 3, code := prog_1_method_16_code, exceptionTable := #[], attributes := #[] }
def k2m15 : Method := { name := "lostSeq", desc := "(II)I", sig := { parameters := [.int, .int], returnType := some .int }, accessFlags := 1, code := some k2c15 }
def k2c16 : Code := { maxStack := 2, maxLocals := 4, code := prog_1_method_17_code, exceptionTable := #[], attributes := #[] }
def k2m16 : Method := { name := "clamp", desc := "(III)I", sig := { parameters := [.int, .int, .int], returnType := some .int }, accessFlags := 2, code := some k2c16 }
def k2c17 : Code := { maxStack := 2, maxLocals := 2, code := prog_1_method_18_code, exceptionTable := #[], attributes := #[] }
def k2m17 : Method := { name := "validRx", desc := "(I)Z", sig := { parameters := [.int], returnType := some .boolean }, accessFlags := 2, code := some k2c17 }
def k2c18 : Code := { maxStack := 2, maxLocals := 2, code := prog_1_method_19_code, exceptionTable := #[], attributes := #[] }
def k2m18 : Method := { name := "validSeq", desc := "(I)Z", sig := { parameters := [.int], returnType := some .boolean }, accessFlags := 2, code := some k2c18 }
def k2c19 : Code := { maxStack := 2, maxLocals := 1, code := prog_1_method_20_code, exceptionTable := #[], attributes := #[] }
def k2m19 : Method := { name := "lead", desc := "()I", sig := { parameters := [], returnType := some .int }, accessFlags := 2, code := some k2c19 }
def k2c20 : Code := { maxStack := 2, maxLocals := 2, code := prog_1_method_21_code, exceptionTable := #[], attributes := #[] }
def k2m20 : Method := { name := "trail", desc := "()I", sig := { parameters := [], returnType := some .int }, accessFlags := 2, code := some k2c20 }
def k2c21 : Code := { maxStack := 2, maxLocals := 2, code := prog_1_method_22_code, exceptionTable := #[], attributes := #[] }
def k2m21 : Method := { name := "isWaiting", desc := "(I)Z", sig := { parameters := [.int], returnType := some .boolean }, accessFlags := 2, code := some k2c21 }
def k2c22 : Code := { maxStack := 2, maxLocals := 2, code := prog_1_method_23_code, exceptionTable := #[], attributes := #[] }
def k2m22 : Method := { name := "backoffOf", desc := "(I)I", sig := { parameters := [.int], returnType := some .int }, accessFlags := 2, code := some k2c22 }
def k2c23 : Code := { maxStack := 7, maxLocals := 7, code := prog_1_method_24_code, exceptionTable := #[], attributes := #[] }
def k2m23 : Method := { name := "multicastSource", desc := "(III)V", sig := { parameters := [.int, .int, .int], returnType := none }, accessFlags := 2, code := some k2c23 }
def k2c24 : Code := { maxStack := 3, maxLocals := 5, code := prog_1_method_25_code, exceptionTable := #[], attributes := #[] }
def k2m24 : Method := { name := "aggregatorApply", desc := "(III)V", sig := { parameters := [.int, .int, .int], returnType := none }, accessFlags := 2, code := some k2c24 }
def k2c25 : Code := { maxStack := 7, maxLocals := 3, code := prog_1_method_26_code, exceptionTable := #[], attributes := #[] }
def k2m25 : Method := { name := "multicastNcf", desc := "(I)V", sig := { parameters := [.int], returnType := none }, accessFlags := 2, code := some k2c25 }
def k2c26 : Code := { maxStack := 6, maxLocals := 7, code := prog_1_method_27_code, exceptionTable := #[], attributes := #[] }
def k2m26 : Method := { name := "copyTo", desc := "(IIIIII)V", sig := { parameters := [.int, .int, .int, .int, .int, .int], returnType := none }, accessFlags := 2, code := some k2c26 }
def k2c27 : Code := { maxStack := 4, maxLocals := 8, code := prog_1_method_28_code, exceptionTable := #[], attributes := #[] }
def k2m27 : Method := { name := "applyData", desc := "(IIIII)V", sig := { parameters := [.int, .int, .int, .int, .int], returnType := none }, accessFlags := 2, code := some k2c27 }
def k2c28 : Code := { maxStack := 3, maxLocals := 5, code := prog_1_method_29_code, exceptionTable := #[], attributes := #[] }
def k2m28 : Method := { name := "applyNcf", desc := "(II)V", sig := { parameters := [.int, .int], returnType := none }, accessFlags := 2, code := some k2c28 }
def k2c29 : Code := { maxStack := 4, maxLocals := 6, code := prog_1_method_30_code, exceptionTable := #[], attributes := #[] }
def k2m29 : Method := { name := "applyLead", desc := "(II)V", sig := { parameters := [.int, .int], returnType := none }, accessFlags := 2, code := some k2c29 }
def k2c30 : Code := { maxStack := 3, maxLocals := 7, code := prog_1_method_31_code, exceptionTable := #[], attributes := #[] }
def k2m30 : Method := { name := "applyTrail", desc := "(II)V", sig := { parameters := [.int, .int], returnType := none }, accessFlags := 2, code := some k2c30 }
def k2c31 : Code := { maxStack := 4, maxLocals := 3, code := prog_1_method_32_code, exceptionTable := #[], attributes := #[] }
def k2m31 : Method := { name := "appendLost", desc := "(II)V", sig := { parameters := [.int, .int], returnType := none }, accessFlags := 2, code := some k2c31 }
def k2c32 : Code := { maxStack := 5, maxLocals := 5, code := prog_1_method_33_code, exceptionTable := #[], attributes := #[] }
def k2m32 : Method := { name := "deliver", desc := "(I)V", sig := { parameters := [.int], returnType := none }, accessFlags := 2, code := some k2c32 }
def k2c33 : Code := { maxStack := 4, maxLocals := 5, code := prog_1_method_34_code, exceptionTable := #[], attributes := #[] }
def k2m33 : Method := { name := "appendDelivered", desc := "(III)V", sig := { parameters := [.int, .int, .int], returnType := none }, accessFlags := 2, code := some k2c33 }
def k2c34 : Code := { maxStack := 4, maxLocals := 5, code := prog_1_method_35_code, exceptionTable := #[], attributes := #[] }
def k2m34 : Method := { name := "serveQueue", desc := "()V", sig := { parameters := [], returnType := none }, accessFlags := 2, code := some k2c34 }
def k2c35 : Code := { maxStack := 3, maxLocals := 3, code := prog_1_method_36_code, exceptionTable := #[], attributes := #[] }
def k2m35 : Method := { name := "runTimers", desc := "()V", sig := { parameters := [], returnType := none }, accessFlags := 2, code := some k2c35 }
def k2c36 : Code := { maxStack := 4, maxLocals := 5, code := prog_1_method_37_code, exceptionTable := #[], attributes := #[] }
def k2m36 : Method := { name := "stepTimer", desc := "(II)V", sig := { parameters := [.int, .int], returnType := none }, accessFlags := 2, code := some k2c36 }
def k2c37 : Code := { maxStack := 2, maxLocals := 3, code := prog_1_method_38_code, exceptionTable := #[], attributes := #[] }
def k2m37 : Method := { name := "handleNaks", desc := "()V", sig := { parameters := [], returnType := none }, accessFlags := 2, code := some k2c37 }
def k2c38 : Code := { maxStack := 4, maxLocals := 2, code := prog_1_method_39_code, exceptionTable := #[], attributes := #[] }
def k2m38 : Method := { name := "handleNak", desc := "(I)V", sig := { parameters := [.int], returnType := none }, accessFlags := 2, code := some k2c38 }
/-- NakMulticast -/
def k2 : Class := { plain "NakMulticast" (some 0) with
  accessFlags := 49
  interfaces := #[]
  cf := some (fileOf pool2 8 #[] #[{ accessFlags := 1, nameIndex := 5, descriptorIndex := 209, attributes := #[] }, { accessFlags := 1, nameIndex := 213, descriptorIndex := 149, attributes := #[] }, { accessFlags := 1, nameIndex := 214, descriptorIndex := 6, attributes := #[] }, { accessFlags := 1, nameIndex := 215, descriptorIndex := 216, attributes := #[] }, { accessFlags := 1, nameIndex := 217, descriptorIndex := 6, attributes := #[] }, { accessFlags := 1, nameIndex := 218, descriptorIndex := 108, attributes := #[] }, { accessFlags := 1, nameIndex := 219, descriptorIndex := 108, attributes := #[] }, { accessFlags := 1, nameIndex := 220, descriptorIndex := 149, attributes := #[] }, { accessFlags := 1, nameIndex := 221, descriptorIndex := 95, attributes := #[] }, { accessFlags := 1, nameIndex := 222, descriptorIndex := 149, attributes := #[] }, { accessFlags := 1, nameIndex := 223, descriptorIndex := 224, attributes := #[] }, { accessFlags := 1, nameIndex := 225, descriptorIndex := 224, attributes := #[] }, { accessFlags := 1, nameIndex := 226, descriptorIndex := 224, attributes := #[] }, { accessFlags := 1, nameIndex := 227, descriptorIndex := 224, attributes := #[] }, { accessFlags := 1, nameIndex := 228, descriptorIndex := 224, attributes := #[] }, { accessFlags := 1, nameIndex := 229, descriptorIndex := 224, attributes := #[] }, { accessFlags := 2, nameIndex := 70, descriptorIndex := 71, attributes := #[] }, { accessFlags := 2, nameIndex := 94, descriptorIndex := 95, attributes := #[] }, { accessFlags := 2, nameIndex := 117, descriptorIndex := 95, attributes := #[] }, { accessFlags := 2, nameIndex := 107, descriptorIndex := 108, attributes := #[] }, { accessFlags := 2, nameIndex := 111, descriptorIndex := 108, attributes := #[] }, { accessFlags := 2, nameIndex := 145, descriptorIndex := 95, attributes := #[] }, { accessFlags := 2, nameIndex := 148, descriptorIndex := 149, attributes := #[] }, { accessFlags := 2, nameIndex := 90, descriptorIndex := 91, attributes := #[] }, { accessFlags := 2, nameIndex := 120, descriptorIndex := 91, attributes := #[] }, { accessFlags := 2, nameIndex := 167, descriptorIndex := 139, attributes := #[] }, { accessFlags := 2, nameIndex := 123, descriptorIndex := 124, attributes := #[] }, { accessFlags := 2, nameIndex := 127, descriptorIndex := 128, attributes := #[] }, { accessFlags := 2, nameIndex := 142, descriptorIndex := 132, attributes := #[] }, { accessFlags := 2, nameIndex := 131, descriptorIndex := 132, attributes := #[] }, { accessFlags := 2, nameIndex := 135, descriptorIndex := 132, attributes := #[] }, { accessFlags := 2, nameIndex := 152, descriptorIndex := 132, attributes := #[] }, { accessFlags := 2, nameIndex := 138, descriptorIndex := 139, attributes := #[] }, { accessFlags := 2, nameIndex := 155, descriptorIndex := 91, attributes := #[] }, { accessFlags := 2, nameIndex := 98, descriptorIndex := 6, attributes := #[] }, { accessFlags := 2, nameIndex := 101, descriptorIndex := 6, attributes := #[] }, { accessFlags := 2, nameIndex := 161, descriptorIndex := 132, attributes := #[] }, { accessFlags := 2, nameIndex := 104, descriptorIndex := 6, attributes := #[] }, { accessFlags := 2, nameIndex := 164, descriptorIndex := 139, attributes := #[] }] 49 2 #[] #[{ accessFlags := 25, nameIndex := 168, descriptorIndex := 75, attributes := #[] }, { accessFlags := 25, nameIndex := 171, descriptorIndex := 75, attributes := #[] }, { accessFlags := 25, nameIndex := 173, descriptorIndex := 75, attributes := #[] }, { accessFlags := 25, nameIndex := 175, descriptorIndex := 75, attributes := #[] }, { accessFlags := 25, nameIndex := 177, descriptorIndex := 75, attributes := #[] }, { accessFlags := 25, nameIndex := 179, descriptorIndex := 75, attributes := #[] }, { accessFlags := 25, nameIndex := 181, descriptorIndex := 75, attributes := #[] }, { accessFlags := 25, nameIndex := 183, descriptorIndex := 75, attributes := #[] }, { accessFlags := 25, nameIndex := 184, descriptorIndex := 75, attributes := #[] }, { accessFlags := 25, nameIndex := 186, descriptorIndex := 75, attributes := #[] }, { accessFlags := 25, nameIndex := 188, descriptorIndex := 75, attributes := #[] }, { accessFlags := 25, nameIndex := 189, descriptorIndex := 75, attributes := #[] }, { accessFlags := 25, nameIndex := 190, descriptorIndex := 75, attributes := #[] }, { accessFlags := 25, nameIndex := 191, descriptorIndex := 75, attributes := #[] }, { accessFlags := 25, nameIndex := 192, descriptorIndex := 75, attributes := #[] }, { accessFlags := 25, nameIndex := 193, descriptorIndex := 75, attributes := #[] }, { accessFlags := 25, nameIndex := 194, descriptorIndex := 75, attributes := #[] }, { accessFlags := 25, nameIndex := 195, descriptorIndex := 75, attributes := #[] }, { accessFlags := 25, nameIndex := 197, descriptorIndex := 75, attributes := #[] }, { accessFlags := 25, nameIndex := 198, descriptorIndex := 75, attributes := #[] }, { accessFlags := 25, nameIndex := 199, descriptorIndex := 75, attributes := #[] }, { accessFlags := 25, nameIndex := 200, descriptorIndex := 75, attributes := #[] }, { accessFlags := 25, nameIndex := 201, descriptorIndex := 75, attributes := #[] }, { accessFlags := 25, nameIndex := 202, descriptorIndex := 75, attributes := #[] }, { accessFlags := 25, nameIndex := 203, descriptorIndex := 75, attributes := #[] }, { accessFlags := 25, nameIndex := 204, descriptorIndex := 75, attributes := #[] }, { accessFlags := 25, nameIndex := 205, descriptorIndex := 75, attributes := #[] }, { accessFlags := 25, nameIndex := 207, descriptorIndex := 75, attributes := #[] }, { accessFlags := 2, nameIndex := 74, descriptorIndex := 75, attributes := #[] }, { accessFlags := 2, nameIndex := 78, descriptorIndex := 75, attributes := #[] }, { accessFlags := 2, nameIndex := 81, descriptorIndex := 75, attributes := #[] }, { accessFlags := 2, nameIndex := 84, descriptorIndex := 75, attributes := #[] }, { accessFlags := 2, nameIndex := 87, descriptorIndex := 75, attributes := #[] }, { accessFlags := 18, nameIndex := 11, descriptorIndex := 12, attributes := #[] }, { accessFlags := 18, nameIndex := 15, descriptorIndex := 16, attributes := #[] }, { accessFlags := 18, nameIndex := 19, descriptorIndex := 12, attributes := #[] }, { accessFlags := 2, nameIndex := 114, descriptorIndex := 75, attributes := #[] }, { accessFlags := 18, nameIndex := 22, descriptorIndex := 12, attributes := #[] }, { accessFlags := 18, nameIndex := 25, descriptorIndex := 12, attributes := #[] }, { accessFlags := 18, nameIndex := 28, descriptorIndex := 12, attributes := #[] }, { accessFlags := 18, nameIndex := 31, descriptorIndex := 12, attributes := #[] }, { accessFlags := 18, nameIndex := 34, descriptorIndex := 12, attributes := #[] }, { accessFlags := 18, nameIndex := 37, descriptorIndex := 12, attributes := #[] }, { accessFlags := 18, nameIndex := 40, descriptorIndex := 12, attributes := #[] }, { accessFlags := 18, nameIndex := 43, descriptorIndex := 12, attributes := #[] }, { accessFlags := 18, nameIndex := 46, descriptorIndex := 12, attributes := #[] }, { accessFlags := 18, nameIndex := 49, descriptorIndex := 12, attributes := #[] }, { accessFlags := 18, nameIndex := 52, descriptorIndex := 12, attributes := #[] }, { accessFlags := 18, nameIndex := 55, descriptorIndex := 12, attributes := #[] }, { accessFlags := 18, nameIndex := 58, descriptorIndex := 12, attributes := #[] }, { accessFlags := 18, nameIndex := 61, descriptorIndex := 12, attributes := #[] }, { accessFlags := 18, nameIndex := 64, descriptorIndex := 12, attributes := #[] }, { accessFlags := 18, nameIndex := 67, descriptorIndex := 12, attributes := #[] }, { accessFlags := 2, nameIndex := 158, descriptorIndex := 75, attributes := #[] }])
  fields := #[{ name := "MAX_SEQ", type := .int, accessFlags := 25, slot := 0, constantValue := 0 }, { name := "RECEIVERS", type := .int, accessFlags := 25, slot := 1, constantValue := 0 }, { name := "BAD", type := .int, accessFlags := 25, slot := 2, constantValue := 0 }, { name := "RX_UNKNOWN", type := .int, accessFlags := 25, slot := 3, constantValue := 0 }, { name := "RX_BACKOFF", type := .int, accessFlags := 25, slot := 4, constantValue := 0 }, { name := "RX_WAIT_NCF", type := .int, accessFlags := 25, slot := 5, constantValue := 0 }, { name := "RX_WAIT_DATA", type := .int, accessFlags := 25, slot := 6, constantValue := 0 }, { name := "RX_HAVE", type := .int, accessFlags := 25, slot := 7, constantValue := 0 }, { name := "RX_DELIVERED", type := .int, accessFlags := 25, slot := 8, constantValue := 0 }, { name := "RX_LOST", type := .int, accessFlags := 25, slot := 9, constantValue := 0 }, { name := "INFO_NEXT", type := .int, accessFlags := 25, slot := 10, constantValue := 0 }, { name := "INFO_LEAD", type := .int, accessFlags := 25, slot := 11, constantValue := 0 }, { name := "INFO_TRAIL", type := .int, accessFlags := 25, slot := 12, constantValue := 0 }, { name := "INFO_DELIVERED", type := .int, accessFlags := 25, slot := 13, constantValue := 0 }, { name := "INFO_LOST", type := .int, accessFlags := 25, slot := 14, constantValue := 0 }, { name := "INFO_LOSS_LEFT", type := .int, accessFlags := 25, slot := 15, constantValue := 0 }, { name := "INFO_DUPLICATES", type := .int, accessFlags := 25, slot := 16, constantValue := 0 }, { name := "INFO_DROPPED", type := .int, accessFlags := 25, slot := 17, constantValue := 0 }, { name := "STAT_TIME", type := .int, accessFlags := 25, slot := 18, constantValue := 0 }, { name := "STAT_ODATA", type := .int, accessFlags := 25, slot := 19, constantValue := 0 }, { name := "STAT_RDATA", type := .int, accessFlags := 25, slot := 20, constantValue := 0 }, { name := "STAT_SPM", type := .int, accessFlags := 25, slot := 21, constantValue := 0 }, { name := "STAT_NAK", type := .int, accessFlags := 25, slot := 22, constantValue := 0 }, { name := "STAT_FORWARDED", type := .int, accessFlags := 25, slot := 23, constantValue := 0 }, { name := "STAT_SUPPRESSED", type := .int, accessFlags := 25, slot := 24, constantValue := 0 }, { name := "STAT_NCF", type := .int, accessFlags := 25, slot := 25, constantValue := 0 }, { name := "STAT_QUEUE", type := .int, accessFlags := 25, slot := 26, constantValue := 0 }, { name := "STAT_DROPPED", type := .int, accessFlags := 25, slot := 27, constantValue := 0 }, { name := "win", type := .int, accessFlags := 2, slot := 0, constantValue := 0 }, { name := "back", type := .int, accessFlags := 2, slot := 1, constantValue := 0 }, { name := "repair", type := .int, accessFlags := 2, slot := 2, constantValue := 0 }, { name := "period", type := .int, accessFlags := 2, slot := 3, constantValue := 0 }, { name := "nextSeq", type := .int, accessFlags := 2, slot := 4, constantValue := 0 }, { name := "srcPayload", type := (.array .int), accessFlags := 18, slot := 5, constantValue := 0 }, { name := "pend", type := (.array .boolean), accessFlags := 18, slot := 6, constantValue := 0 }, { name := "queue", type := (.array .int), accessFlags := 18, slot := 7, constantValue := 0 }, { name := "qLen", type := .int, accessFlags := 2, slot := 8, constantValue := 0 }, { name := "stats", type := (.array .int), accessFlags := 18, slot := 9, constantValue := 0 }, { name := "state", type := (.array .int), accessFlags := 18, slot := 10, constantValue := 0 }, { name := "timer", type := (.array .int), accessFlags := 18, slot := 11, constantValue := 0 }, { name := "rxVal", type := (.array .int), accessFlags := 18, slot := 12, constantValue := 0 }, { name := "rxNext", type := (.array .int), accessFlags := 18, slot := 13, constantValue := 0 }, { name := "rxLead", type := (.array .int), accessFlags := 18, slot := 14, constantValue := 0 }, { name := "rxTrail", type := (.array .int), accessFlags := 18, slot := 15, constantValue := 0 }, { name := "lossLeft", type := (.array .int), accessFlags := 18, slot := 16, constantValue := 0 }, { name := "dups", type := (.array .int), accessFlags := 18, slot := 17, constantValue := 0 }, { name := "drops", type := (.array .int), accessFlags := 18, slot := 18, constantValue := 0 }, { name := "delSeq", type := (.array .int), accessFlags := 18, slot := 19, constantValue := 0 }, { name := "delVal", type := (.array .int), accessFlags := 18, slot := 20, constantValue := 0 }, { name := "delLen", type := (.array .int), accessFlags := 18, slot := 21, constantValue := 0 }, { name := "lostLog", type := (.array .int), accessFlags := 18, slot := 22, constantValue := 0 }, { name := "lostLen", type := (.array .int), accessFlags := 18, slot := 23, constantValue := 0 }, { name := "nakBuf", type := (.array .int), accessFlags := 18, slot := 24, constantValue := 0 }, { name := "nakLen", type := .int, accessFlags := 2, slot := 25, constantValue := 0 }]
  methods := #[k2m0, k2m1, k2m2, k2m3, k2m4, k2m5, k2m6, k2m7, k2m8, k2m9, k2m10, k2m11, k2m12, k2m13, k2m14, k2m15, k2m16, k2m17, k2m18, k2m19, k2m20, k2m21, k2m22, k2m23, k2m24, k2m25, k2m26, k2m27, k2m28, k2m29, k2m30, k2m31, k2m32, k2m33, k2m34, k2m35, k2m36, k2m37, k2m38]
  instanceTypes := #[.int, .int, .int, .int, .int, (.array .int), (.array .boolean), (.array .int), .int, (.array .int), (.array .int), (.array .int), (.array .int), (.array .int), (.array .int), (.array .int), (.array .int), (.array .int), (.array .int), (.array .int), (.array .int), (.array .int), (.array .int), (.array .int), (.array .int), .int]
  staticTypes := #[.int, .int, .int, .int, .int, .int, .int, .int, .int, .int, .int, .int, .int, .int, .int, .int, .int, .int, .int, .int, .int, .int, .int, .int, .int, .int, .int, .int]
  resolved := Array.replicate 232 none
  statics := none }

def pool3 : Array CpInfo := pool [(1, u "java/lang/Cloneable"), (0, .class_ 1), (0, u "java/lang/Object"), (0, .class_ 3)] 3

/-- java/lang/Cloneable -/
def k3 : Class := { plain "java/lang/Cloneable" (some 0) with
  accessFlags := 1537
  interfaces := #[]
  cf := some (fileOf pool3 2 #[] #[] 1537 4 #[] #[])
  fields := #[]
  methods := #[]
  instanceTypes := #[]
  staticTypes := #[]
  resolved := Array.replicate 8 none
  statics := none }

def pool4 : Array CpInfo := pool [(1, u "java/io/Serializable"), (0, .class_ 1), (0, u "java/lang/Object"), (0, .class_ 3)] 3

/-- java/io/Serializable -/
def k4 : Class := { plain "java/io/Serializable" (some 0) with
  accessFlags := 1537
  interfaces := #[]
  cf := some (fileOf pool4 2 #[] #[] 1537 4 #[] #[])
  fields := #[]
  methods := #[]
  instanceTypes := #[]
  staticTypes := #[]
  resolved := Array.replicate 8 none
  statics := none }

/-- the primitive boolean -/
def k5 : Class := { plain "boolean" none with kind := .primitive 'Z', accessFlags := 0x411 }
/-- [Z -/
def k6 : Class := { plain "[Z" (some 0) with kind := .array 5 .boolean, interfaces := #[3, 4], accessFlags := 1041 }

/-- the primitive byte -/
def k7 : Class := { plain "byte" none with kind := .primitive 'B', accessFlags := 0x411 }
/-- [B -/
def k8 : Class := { plain "[B" (some 0) with kind := .array 7 .byte, interfaces := #[3, 4], accessFlags := 1041 }

/-- the primitive int -/
def k9 : Class := { plain "int" none with kind := .primitive 'I', accessFlags := 0x411 }
/-- [I -/
def k10 : Class := { plain "[I" (some 0) with kind := .array 9 .int, interfaces := #[3, 4], accessFlags := 1041 }

def heap : Heap := #[{ cls := 10, slots := #[.int 1, .int 2, .int 3], vm := .none }]
def classes : Array Class := #[k0, k1, k2, k3, k4, k5, k6, k7, k8, k9, k10]
def interned : List (Array UInt16 × Addr) := []
def slotsUsed : Nat := 3
def theMethod : MethodId := ⟨1, 1⟩
def args0 : Array Value := #[.ref 0]
def aboutOver (below : List Frame) : State where
  vm := { classes := classes, interned := interned.toArray }
  heap := heap
  slotsUsed := slotsUsed
  threads := #[{ frames := .invoking theMethod args0 :: below }]
def below0 : List Frame := [.native { method := ⟨0, 0⟩, args := #[] }]
def about1 : State := aboutOver below0
def p0 : Program := .bare "" "" ""
def e0 : Env := launch0.env 0 0 0
theorem w_frames : about1.frames = Frame.invoking theMethod args0 :: below0 := rfl
set_option maxRecDepth 65536 in
theorem w_args : argsFit about1.vm theMethod args0 = true := by decide +kernel
set_option maxRecDepth 65536 in
theorem w_heap : heapFits about1 = true := by decide +kernel
set_option maxRecDepth 65536 in
theorem w_runnable : about1.curStatus? = some .runnable := by decide +kernel
set_option maxRecDepth 65536 in
theorem w_alone : about1.alone = true := by decide +kernel
set_option maxRecDepth 65536 in
theorem w_named : about1.methodNamed? x = some theMethod := by decide +kernel
set_option maxRecDepth 65536 in
theorem w_hears : about1.hears theMethod below0 = true := by decide +kernel
set_option maxRecDepth 65536 in
theorem w_ripe : about1.ripe theMethod args0 below0 = true := by decide +kernel
theorem w_running : about1.status = .running := rfl
set_option maxRecDepth 65536 in
theorem w_room : about1.hasRoom e0.platform room_1 = true :=
  launch0.hasRoom_least _ room_1 (by decide +kernel) (by decide +kernel) (by decide +kernel) (by decide +kernel) (by decide +kernel) (by decide +kernel)
theorem allAtoms_all (ts : List Jvm.Cond) (a : Array Jvm.Value) (st : Jvm.State) : (allAtoms ts).before a st = ts.all (fun c => c.before a st) := by
  induction ts with
  | nil => rfl
  | cons c t ih =>
    show (Jvm.Cond.and c (allAtoms t)).before a st = _
    rw [Jvm.Cond.before_and, ih, List.all_cons]
def words1 : List Jvm.Cond := Jvm.Cond.code x code maxLocals ret :: tables_1
/-- a 'code' word, met by the world's own term for the bytes: nothing is compared byte by byte -/
theorem code_word {y : MethodName} {bytes : ByteArray} {mx : Nat} {rt : Option FieldType} {a : Array Value} {s : State} {m : MethodId} {meth : Method} {c : Code} (h1 : s.methodNamed? y = some m) (h2 : s.vm.method? m = some meth) (h3 : meth.code = some c) (h4 : c.code = bytes)
    (h5 : (c.maxLocals == mx && c.exceptionTable.isEmpty && decide (c.maxStack ≤ mostOperands) && decide (meth.sig.returnType = rt) && !meth.locks && decide (parseMethodDescriptor y.desc = some meth.sig)) = true) : (Jvm.Cond.code y bytes mx rt).before a s = true := by
  simp only [Bool.and_eq_true, beq_iff_eq, Bool.not_eq_true', decide_eq_true_eq] at h5
  obtain ⟨⟨⟨⟨⟨g1, g2⟩, g3⟩, g4⟩, g5⟩, g6⟩ := h5
  simp [Cond.before, Cond.holds, Cond.value, h1, h2, h3, h4, g1, g2, g3, g4, g5, g6]
def isCode : Jvm.Cond → Bool
  | .code _ _ _ _ => true
  | _ => false
theorem all_split {L : List Jvm.Cond} {P : Jvm.Cond → Bool} (h1 : L.all (fun c => isCode c || P c) = true) (h2 : ∀ c ∈ L.filter isCode, P c = true) : L.all P = true := by
  refine List.all_eq_true.mpr fun c hc => ?_
  have h := List.all_eq_true.mp h1 c hc
  rcases Bool.eq_false_or_eq_true (isCode c) with hi | hi
  · exact h2 c (List.mem_filter.mpr ⟨hc, hi⟩)
  · simpa [hi] using h
set_option maxRecDepth 65536 in
theorem w_c0 : (Jvm.Cond.code x code maxLocals ret).before args0 about1 = true := code_word (m := ⟨1, 1⟩) (meth := k1m1) (c := k1c1) (by decide +kernel) rfl rfl rfl (by decide +kernel)
set_option maxRecDepth 65536 in
theorem w_c1 : (Jvm.Cond.code ({ cls := "NakMulticast", name := "<init>", desc := "(IIII)V" } : Jvm.MethodName) prog_1_method_1_code (6 : Nat) (Option.none : Option Jvm.ClassFile.FieldType)).before args0 about1 = true := code_word (m := ⟨2, 0⟩) (meth := k2m0) (c := k2c0) (by decide +kernel) rfl rfl rfl (by decide +kernel)
set_option maxRecDepth 65536 in
theorem w_c2 : (Jvm.Cond.code ({ cls := "java/lang/Object", name := "<init>", desc := "()V" } : Jvm.MethodName) object_method_1_code (1 : Nat) (Option.none : Option Jvm.ClassFile.FieldType)).before args0 about1 = true := code_word (m := ⟨0, 0⟩) (meth := k0m0) (c := k0c0) (by decide +kernel) rfl rfl rfl (by decide +kernel)
set_option maxRecDepth 65536 in
theorem w_c3 : (Jvm.Cond.code ({ cls := "NakMulticast", name := "clamp", desc := "(III)I" } : Jvm.MethodName) prog_1_method_17_code (4 : Nat) (Option.some Jvm.ClassFile.FieldType.int)).before args0 about1 = true := code_word (m := ⟨2, 16⟩) (meth := k2m16) (c := k2c16) (by decide +kernel) rfl rfl rfl (by decide +kernel)
set_option maxRecDepth 65536 in
theorem w_c4 : (Jvm.Cond.code ({ cls := "NakMulticast", name := "send", desc := "(I)I" } : Jvm.MethodName) prog_1_method_2_code (3 : Nat) (Option.some Jvm.ClassFile.FieldType.int)).before args0 about1 = true := code_word (m := ⟨2, 1⟩) (meth := k2m1) (c := k2c1) (by decide +kernel) rfl rfl rfl (by decide +kernel)
set_option maxRecDepth 65536 in
theorem w_c5 : (Jvm.Cond.code ({ cls := "NakMulticast", name := "setLoss", desc := "(II)Z" } : Jvm.MethodName) prog_1_method_4_code (3 : Nat) (Option.some Jvm.ClassFile.FieldType.boolean)).before args0 about1 = true := code_word (m := ⟨2, 3⟩) (meth := k2m3) (c := k2c3) (by decide +kernel) rfl rfl rfl (by decide +kernel)
set_option maxRecDepth 65536 in
theorem w_c6 : (Jvm.Cond.code ({ cls := "NakMulticast", name := "validRx", desc := "(I)Z" } : Jvm.MethodName) prog_1_method_18_code (2 : Nat) (Option.some Jvm.ClassFile.FieldType.boolean)).before args0 about1 = true := code_word (m := ⟨2, 17⟩) (meth := k2m17) (c := k2c17) (by decide +kernel) rfl rfl rfl (by decide +kernel)
set_option maxRecDepth 65536 in
theorem w_c7 : (Jvm.Cond.code ({ cls := "NakMulticast", name := "tick", desc := "()V" } : Jvm.MethodName) prog_1_method_5_code (1 : Nat) (Option.none : Option Jvm.ClassFile.FieldType)).before args0 about1 = true := code_word (m := ⟨2, 4⟩) (meth := k2m4) (c := k2c4) (by decide +kernel) rfl rfl rfl (by decide +kernel)
set_option maxRecDepth 65536 in
theorem w_c8 : (Jvm.Cond.code ({ cls := "NakMulticast", name := "serveQueue", desc := "()V" } : Jvm.MethodName) prog_1_method_35_code (5 : Nat) (Option.none : Option Jvm.ClassFile.FieldType)).before args0 about1 = true := code_word (m := ⟨2, 34⟩) (meth := k2m34) (c := k2c34) (by decide +kernel) rfl rfl rfl (by decide +kernel)
set_option maxRecDepth 65536 in
theorem w_c9 : (Jvm.Cond.code ({ cls := "NakMulticast", name := "trail", desc := "()I" } : Jvm.MethodName) prog_1_method_21_code (2 : Nat) (Option.some Jvm.ClassFile.FieldType.int)).before args0 about1 = true := code_word (m := ⟨2, 20⟩) (meth := k2m20) (c := k2c20) (by decide +kernel) rfl rfl rfl (by decide +kernel)
set_option maxRecDepth 65536 in
theorem w_c10 : (Jvm.Cond.code ({ cls := "NakMulticast", name := "runTimers", desc := "()V" } : Jvm.MethodName) prog_1_method_36_code (3 : Nat) (Option.none : Option Jvm.ClassFile.FieldType)).before args0 about1 = true := code_word (m := ⟨2, 35⟩) (meth := k2m35) (c := k2c35) (by decide +kernel) rfl rfl rfl (by decide +kernel)
set_option maxRecDepth 65536 in
theorem w_c11 : (Jvm.Cond.code ({ cls := "NakMulticast", name := "stepTimer", desc := "(II)V" } : Jvm.MethodName) prog_1_method_37_code (5 : Nat) (Option.none : Option Jvm.ClassFile.FieldType)).before args0 about1 = true := code_word (m := ⟨2, 36⟩) (meth := k2m36) (c := k2c36) (by decide +kernel) rfl rfl rfl (by decide +kernel)
set_option maxRecDepth 65536 in
theorem w_c12 : (Jvm.Cond.code ({ cls := "NakMulticast", name := "isWaiting", desc := "(I)Z" } : Jvm.MethodName) prog_1_method_22_code (2 : Nat) (Option.some Jvm.ClassFile.FieldType.boolean)).before args0 about1 = true := code_word (m := ⟨2, 21⟩) (meth := k2m21) (c := k2c21) (by decide +kernel) rfl rfl rfl (by decide +kernel)
set_option maxRecDepth 65536 in
theorem w_c13 : (Jvm.Cond.code ({ cls := "NakMulticast", name := "handleNaks", desc := "()V" } : Jvm.MethodName) prog_1_method_38_code (3 : Nat) (Option.none : Option Jvm.ClassFile.FieldType)).before args0 about1 = true := code_word (m := ⟨2, 37⟩) (meth := k2m37) (c := k2c37) (by decide +kernel) rfl rfl rfl (by decide +kernel)
set_option maxRecDepth 65536 in
theorem w_c14 : (Jvm.Cond.code ({ cls := "NakMulticast", name := "multicastSource", desc := "(III)V" } : Jvm.MethodName) prog_1_method_24_code (7 : Nat) (Option.none : Option Jvm.ClassFile.FieldType)).before args0 about1 = true := code_word (m := ⟨2, 23⟩) (meth := k2m23) (c := k2c23) (by decide +kernel) rfl rfl rfl (by decide +kernel)
set_option maxRecDepth 65536 in
theorem w_c15 : (Jvm.Cond.code ({ cls := "NakMulticast", name := "lead", desc := "()I" } : Jvm.MethodName) prog_1_method_20_code (1 : Nat) (Option.some Jvm.ClassFile.FieldType.int)).before args0 about1 = true := code_word (m := ⟨2, 19⟩) (meth := k2m19) (c := k2c19) (by decide +kernel) rfl rfl rfl (by decide +kernel)
set_option maxRecDepth 65536 in
theorem w_c16 : (Jvm.Cond.code ({ cls := "NakMulticast", name := "aggregatorApply", desc := "(III)V" } : Jvm.MethodName) prog_1_method_25_code (5 : Nat) (Option.none : Option Jvm.ClassFile.FieldType)).before args0 about1 = true := code_word (m := ⟨2, 24⟩) (meth := k2m24) (c := k2c24) (by decide +kernel) rfl rfl rfl (by decide +kernel)
set_option maxRecDepth 65536 in
theorem w_c17 : (Jvm.Cond.code ({ cls := "NakMulticast", name := "copyTo", desc := "(IIIIII)V" } : Jvm.MethodName) prog_1_method_27_code (7 : Nat) (Option.none : Option Jvm.ClassFile.FieldType)).before args0 about1 = true := code_word (m := ⟨2, 26⟩) (meth := k2m26) (c := k2c26) (by decide +kernel) rfl rfl rfl (by decide +kernel)
set_option maxRecDepth 65536 in
theorem w_c18 : (Jvm.Cond.code ({ cls := "NakMulticast", name := "applyData", desc := "(IIIII)V" } : Jvm.MethodName) prog_1_method_28_code (8 : Nat) (Option.none : Option Jvm.ClassFile.FieldType)).before args0 about1 = true := code_word (m := ⟨2, 27⟩) (meth := k2m27) (c := k2c27) (by decide +kernel) rfl rfl rfl (by decide +kernel)
set_option maxRecDepth 65536 in
theorem w_c19 : (Jvm.Cond.code ({ cls := "NakMulticast", name := "validSeq", desc := "(I)Z" } : Jvm.MethodName) prog_1_method_19_code (2 : Nat) (Option.some Jvm.ClassFile.FieldType.boolean)).before args0 about1 = true := code_word (m := ⟨2, 18⟩) (meth := k2m18) (c := k2c18) (by decide +kernel) rfl rfl rfl (by decide +kernel)
set_option maxRecDepth 65536 in
theorem w_c20 : (Jvm.Cond.code ({ cls := "NakMulticast", name := "applyLead", desc := "(II)V" } : Jvm.MethodName) prog_1_method_30_code (6 : Nat) (Option.none : Option Jvm.ClassFile.FieldType)).before args0 about1 = true := code_word (m := ⟨2, 29⟩) (meth := k2m29) (c := k2c29) (by decide +kernel) rfl rfl rfl (by decide +kernel)
set_option maxRecDepth 65536 in
theorem w_c21 : (Jvm.Cond.code ({ cls := "NakMulticast", name := "applyTrail", desc := "(II)V" } : Jvm.MethodName) prog_1_method_31_code (7 : Nat) (Option.none : Option Jvm.ClassFile.FieldType)).before args0 about1 = true := code_word (m := ⟨2, 30⟩) (meth := k2m30) (c := k2c30) (by decide +kernel) rfl rfl rfl (by decide +kernel)
set_option maxRecDepth 65536 in
theorem w_c22 : (Jvm.Cond.code ({ cls := "NakMulticast", name := "deliver", desc := "(I)V" } : Jvm.MethodName) prog_1_method_33_code (5 : Nat) (Option.none : Option Jvm.ClassFile.FieldType)).before args0 about1 = true := code_word (m := ⟨2, 32⟩) (meth := k2m32) (c := k2c32) (by decide +kernel) rfl rfl rfl (by decide +kernel)
set_option maxRecDepth 65536 in
theorem w_c23 : (Jvm.Cond.code ({ cls := "NakMulticast", name := "appendDelivered", desc := "(III)V" } : Jvm.MethodName) prog_1_method_34_code (5 : Nat) (Option.none : Option Jvm.ClassFile.FieldType)).before args0 about1 = true := code_word (m := ⟨2, 33⟩) (meth := k2m33) (c := k2c33) (by decide +kernel) rfl rfl rfl (by decide +kernel)
set_option maxRecDepth 65536 in
theorem w_c24 : (Jvm.Cond.code ({ cls := "NakMulticast", name := "spm", desc := "()V" } : Jvm.MethodName) prog_1_method_3_code (1 : Nat) (Option.none : Option Jvm.ClassFile.FieldType)).before args0 about1 = true := code_word (m := ⟨2, 2⟩) (meth := k2m2) (c := k2c2) (by decide +kernel) rfl rfl rfl (by decide +kernel)
set_option maxRecDepth 65536 in
theorem w_c25 : (Jvm.Cond.code ({ cls := "NakMulticast", name := "backoffOf", desc := "(I)I" } : Jvm.MethodName) prog_1_method_23_code (2 : Nat) (Option.some Jvm.ClassFile.FieldType.int)).before args0 about1 = true := code_word (m := ⟨2, 22⟩) (meth := k2m22) (c := k2c22) (by decide +kernel) rfl rfl rfl (by decide +kernel)
set_option maxRecDepth 65536 in
theorem w_c26 : (Jvm.Cond.code ({ cls := "NakMulticast", name := "appendLost", desc := "(II)V" } : Jvm.MethodName) prog_1_method_32_code (3 : Nat) (Option.none : Option Jvm.ClassFile.FieldType)).before args0 about1 = true := code_word (m := ⟨2, 31⟩) (meth := k2m31) (c := k2c31) (by decide +kernel) rfl rfl rfl (by decide +kernel)
set_option maxRecDepth 65536 in
theorem w_c27 : (Jvm.Cond.code ({ cls := "NakMulticast", name := "handleNak", desc := "(I)V" } : Jvm.MethodName) prog_1_method_39_code (2 : Nat) (Option.none : Option Jvm.ClassFile.FieldType)).before args0 about1 = true := code_word (m := ⟨2, 38⟩) (meth := k2m38) (c := k2c38) (by decide +kernel) rfl rfl rfl (by decide +kernel)
set_option maxRecDepth 65536 in
theorem w_c28 : (Jvm.Cond.code ({ cls := "NakMulticast", name := "multicastNcf", desc := "(I)V" } : Jvm.MethodName) prog_1_method_26_code (3 : Nat) (Option.none : Option Jvm.ClassFile.FieldType)).before args0 about1 = true := code_word (m := ⟨2, 25⟩) (meth := k2m25) (c := k2c25) (by decide +kernel) rfl rfl rfl (by decide +kernel)
set_option maxRecDepth 65536 in
theorem w_c29 : (Jvm.Cond.code ({ cls := "NakMulticast", name := "applyNcf", desc := "(II)V" } : Jvm.MethodName) prog_1_method_29_code (5 : Nat) (Option.none : Option Jvm.ClassFile.FieldType)).before args0 about1 = true := code_word (m := ⟨2, 28⟩) (meth := k2m28) (c := k2c28) (by decide +kernel) rfl rfl rfl (by decide +kernel)
set_option maxRecDepth 65536 in
theorem w_c30 : (Jvm.Cond.code ({ cls := "NakMulticastL5", name := "same", desc := "(LNakMulticast;LNakMulticast;)Z" } : Jvm.MethodName) method_3_code (4 : Nat) (Option.some Jvm.ClassFile.FieldType.boolean)).before args0 about1 = true := code_word (m := ⟨1, 2⟩) (meth := k1m2) (c := k1c2) (by decide +kernel) rfl rfl rfl (by decide +kernel)
set_option maxRecDepth 65536 in
theorem w_c31 : (Jvm.Cond.code ({ cls := "NakMulticast", name := "sourceLead", desc := "()I" } : Jvm.MethodName) prog_1_method_6_code (1 : Nat) (Option.some Jvm.ClassFile.FieldType.int)).before args0 about1 = true := code_word (m := ⟨2, 5⟩) (meth := k2m5) (c := k2c5) (by decide +kernel) rfl rfl rfl (by decide +kernel)
set_option maxRecDepth 65536 in
theorem w_c32 : (Jvm.Cond.code ({ cls := "NakMulticast", name := "sourceTrail", desc := "()I" } : Jvm.MethodName) prog_1_method_7_code (1 : Nat) (Option.some Jvm.ClassFile.FieldType.int)).before args0 about1 = true := code_word (m := ⟨2, 6⟩) (meth := k2m6) (c := k2c6) (by decide +kernel) rfl rfl rfl (by decide +kernel)
set_option maxRecDepth 65536 in
theorem w_c33 : (Jvm.Cond.code ({ cls := "NakMulticast", name := "stat", desc := "(I)I" } : Jvm.MethodName) prog_1_method_8_code (2 : Nat) (Option.some Jvm.ClassFile.FieldType.int)).before args0 about1 = true := code_word (m := ⟨2, 7⟩) (meth := k2m7) (c := k2c7) (by decide +kernel) rfl rfl rfl (by decide +kernel)
set_option maxRecDepth 65536 in
theorem w_c34 : (Jvm.Cond.code ({ cls := "NakMulticast", name := "pending", desc := "(I)Z" } : Jvm.MethodName) prog_1_method_9_code (2 : Nat) (Option.some Jvm.ClassFile.FieldType.boolean)).before args0 about1 = true := code_word (m := ⟨2, 8⟩) (meth := k2m8) (c := k2c8) (by decide +kernel) rfl rfl rfl (by decide +kernel)
set_option maxRecDepth 65536 in
theorem w_c35 : (Jvm.Cond.code ({ cls := "NakMulticast", name := "queued", desc := "(I)I" } : Jvm.MethodName) prog_1_method_10_code (2 : Nat) (Option.some Jvm.ClassFile.FieldType.int)).before args0 about1 = true := code_word (m := ⟨2, 9⟩) (meth := k2m9) (c := k2c9) (by decide +kernel) rfl rfl rfl (by decide +kernel)
set_option maxRecDepth 65536 in
theorem w_c36 : (Jvm.Cond.code ({ cls := "NakMulticast", name := "rxInfo", desc := "(II)I" } : Jvm.MethodName) prog_1_method_11_code (3 : Nat) (Option.some Jvm.ClassFile.FieldType.int)).before args0 about1 = true := code_word (m := ⟨2, 10⟩) (meth := k2m10) (c := k2c10) (by decide +kernel) rfl rfl rfl (by decide +kernel)
set_option maxRecDepth 65536 in
theorem w_c37 : (Jvm.Cond.code ({ cls := "NakMulticast", name := "rxState", desc := "(II)I" } : Jvm.MethodName) prog_1_method_12_code (3 : Nat) (Option.some Jvm.ClassFile.FieldType.int)).before args0 about1 = true := code_word (m := ⟨2, 11⟩) (meth := k2m11) (c := k2c11) (by decide +kernel) rfl rfl rfl (by decide +kernel)
set_option maxRecDepth 65536 in
theorem w_c38 : (Jvm.Cond.code ({ cls := "NakMulticast", name := "rxTimer", desc := "(II)I" } : Jvm.MethodName) prog_1_method_13_code (3 : Nat) (Option.some Jvm.ClassFile.FieldType.int)).before args0 about1 = true := code_word (m := ⟨2, 12⟩) (meth := k2m12) (c := k2c12) (by decide +kernel) rfl rfl rfl (by decide +kernel)
set_option maxRecDepth 65536 in
theorem w_c39 : (Jvm.Cond.code ({ cls := "NakMulticast", name := "deliveredSeq", desc := "(II)I" } : Jvm.MethodName) prog_1_method_14_code (3 : Nat) (Option.some Jvm.ClassFile.FieldType.int)).before args0 about1 = true := code_word (m := ⟨2, 13⟩) (meth := k2m13) (c := k2c13) (by decide +kernel) rfl rfl rfl (by decide +kernel)
set_option maxRecDepth 65536 in
theorem w_c40 : (Jvm.Cond.code ({ cls := "NakMulticast", name := "deliveredValue", desc := "(II)I" } : Jvm.MethodName) prog_1_method_15_code (3 : Nat) (Option.some Jvm.ClassFile.FieldType.int)).before args0 about1 = true := code_word (m := ⟨2, 14⟩) (meth := k2m14) (c := k2c14) (by decide +kernel) rfl rfl rfl (by decide +kernel)
set_option maxRecDepth 65536 in
theorem w_c41 : (Jvm.Cond.code ({ cls := "NakMulticast", name := "lostSeq", desc := "(II)I" } : Jvm.MethodName) prog_1_method_16_code (3 : Nat) (Option.some Jvm.ClassFile.FieldType.int)).before args0 about1 = true := code_word (m := ⟨2, 15⟩) (meth := k2m15) (c := k2c15) (by decide +kernel) rfl rfl rfl (by decide +kernel)
def codes1 : List Jvm.Cond := [Jvm.Cond.code x code maxLocals ret, Jvm.Cond.code ({ cls := "NakMulticast", name := "<init>", desc := "(IIII)V" } : Jvm.MethodName) prog_1_method_1_code (6 : Nat) (Option.none : Option Jvm.ClassFile.FieldType), Jvm.Cond.code ({ cls := "java/lang/Object", name := "<init>", desc := "()V" } : Jvm.MethodName) object_method_1_code (1 : Nat) (Option.none : Option Jvm.ClassFile.FieldType), Jvm.Cond.code ({ cls := "NakMulticast", name := "clamp", desc := "(III)I" } : Jvm.MethodName) prog_1_method_17_code (4 : Nat) (Option.some Jvm.ClassFile.FieldType.int), Jvm.Cond.code ({ cls := "NakMulticast", name := "send", desc := "(I)I" } : Jvm.MethodName) prog_1_method_2_code (3 : Nat) (Option.some Jvm.ClassFile.FieldType.int), Jvm.Cond.code ({ cls := "NakMulticast", name := "setLoss", desc := "(II)Z" } : Jvm.MethodName) prog_1_method_4_code (3 : Nat) (Option.some Jvm.ClassFile.FieldType.boolean), Jvm.Cond.code ({ cls := "NakMulticast", name := "validRx", desc := "(I)Z" } : Jvm.MethodName) prog_1_method_18_code (2 : Nat) (Option.some Jvm.ClassFile.FieldType.boolean), Jvm.Cond.code ({ cls := "NakMulticast", name := "tick", desc := "()V" } : Jvm.MethodName) prog_1_method_5_code (1 : Nat) (Option.none : Option Jvm.ClassFile.FieldType), Jvm.Cond.code ({ cls := "NakMulticast", name := "serveQueue", desc := "()V" } : Jvm.MethodName) prog_1_method_35_code (5 : Nat) (Option.none : Option Jvm.ClassFile.FieldType), Jvm.Cond.code ({ cls := "NakMulticast", name := "trail", desc := "()I" } : Jvm.MethodName) prog_1_method_21_code (2 : Nat) (Option.some Jvm.ClassFile.FieldType.int), Jvm.Cond.code ({ cls := "NakMulticast", name := "runTimers", desc := "()V" } : Jvm.MethodName) prog_1_method_36_code (3 : Nat) (Option.none : Option Jvm.ClassFile.FieldType), Jvm.Cond.code ({ cls := "NakMulticast", name := "stepTimer", desc := "(II)V" } : Jvm.MethodName) prog_1_method_37_code (5 : Nat) (Option.none : Option Jvm.ClassFile.FieldType), Jvm.Cond.code ({ cls := "NakMulticast", name := "isWaiting", desc := "(I)Z" } : Jvm.MethodName) prog_1_method_22_code (2 : Nat) (Option.some Jvm.ClassFile.FieldType.boolean), Jvm.Cond.code ({ cls := "NakMulticast", name := "handleNaks", desc := "()V" } : Jvm.MethodName) prog_1_method_38_code (3 : Nat) (Option.none : Option Jvm.ClassFile.FieldType), Jvm.Cond.code ({ cls := "NakMulticast", name := "multicastSource", desc := "(III)V" } : Jvm.MethodName) prog_1_method_24_code (7 : Nat) (Option.none : Option Jvm.ClassFile.FieldType), Jvm.Cond.code ({ cls := "NakMulticast", name := "lead", desc := "()I" } : Jvm.MethodName) prog_1_method_20_code (1 : Nat) (Option.some Jvm.ClassFile.FieldType.int), Jvm.Cond.code ({ cls := "NakMulticast", name := "aggregatorApply", desc := "(III)V" } : Jvm.MethodName) prog_1_method_25_code (5 : Nat) (Option.none : Option Jvm.ClassFile.FieldType), Jvm.Cond.code ({ cls := "NakMulticast", name := "copyTo", desc := "(IIIIII)V" } : Jvm.MethodName) prog_1_method_27_code (7 : Nat) (Option.none : Option Jvm.ClassFile.FieldType), Jvm.Cond.code ({ cls := "NakMulticast", name := "applyData", desc := "(IIIII)V" } : Jvm.MethodName) prog_1_method_28_code (8 : Nat) (Option.none : Option Jvm.ClassFile.FieldType), Jvm.Cond.code ({ cls := "NakMulticast", name := "validSeq", desc := "(I)Z" } : Jvm.MethodName) prog_1_method_19_code (2 : Nat) (Option.some Jvm.ClassFile.FieldType.boolean), Jvm.Cond.code ({ cls := "NakMulticast", name := "applyLead", desc := "(II)V" } : Jvm.MethodName) prog_1_method_30_code (6 : Nat) (Option.none : Option Jvm.ClassFile.FieldType), Jvm.Cond.code ({ cls := "NakMulticast", name := "applyTrail", desc := "(II)V" } : Jvm.MethodName) prog_1_method_31_code (7 : Nat) (Option.none : Option Jvm.ClassFile.FieldType), Jvm.Cond.code ({ cls := "NakMulticast", name := "deliver", desc := "(I)V" } : Jvm.MethodName) prog_1_method_33_code (5 : Nat) (Option.none : Option Jvm.ClassFile.FieldType), Jvm.Cond.code ({ cls := "NakMulticast", name := "appendDelivered", desc := "(III)V" } : Jvm.MethodName) prog_1_method_34_code (5 : Nat) (Option.none : Option Jvm.ClassFile.FieldType), Jvm.Cond.code ({ cls := "NakMulticast", name := "spm", desc := "()V" } : Jvm.MethodName) prog_1_method_3_code (1 : Nat) (Option.none : Option Jvm.ClassFile.FieldType), Jvm.Cond.code ({ cls := "NakMulticast", name := "backoffOf", desc := "(I)I" } : Jvm.MethodName) prog_1_method_23_code (2 : Nat) (Option.some Jvm.ClassFile.FieldType.int), Jvm.Cond.code ({ cls := "NakMulticast", name := "appendLost", desc := "(II)V" } : Jvm.MethodName) prog_1_method_32_code (3 : Nat) (Option.none : Option Jvm.ClassFile.FieldType), Jvm.Cond.code ({ cls := "NakMulticast", name := "handleNak", desc := "(I)V" } : Jvm.MethodName) prog_1_method_39_code (2 : Nat) (Option.none : Option Jvm.ClassFile.FieldType), Jvm.Cond.code ({ cls := "NakMulticast", name := "multicastNcf", desc := "(I)V" } : Jvm.MethodName) prog_1_method_26_code (3 : Nat) (Option.none : Option Jvm.ClassFile.FieldType), Jvm.Cond.code ({ cls := "NakMulticast", name := "applyNcf", desc := "(II)V" } : Jvm.MethodName) prog_1_method_29_code (5 : Nat) (Option.none : Option Jvm.ClassFile.FieldType), Jvm.Cond.code ({ cls := "NakMulticastL5", name := "same", desc := "(LNakMulticast;LNakMulticast;)Z" } : Jvm.MethodName) method_3_code (4 : Nat) (Option.some Jvm.ClassFile.FieldType.boolean), Jvm.Cond.code ({ cls := "NakMulticast", name := "sourceLead", desc := "()I" } : Jvm.MethodName) prog_1_method_6_code (1 : Nat) (Option.some Jvm.ClassFile.FieldType.int), Jvm.Cond.code ({ cls := "NakMulticast", name := "sourceTrail", desc := "()I" } : Jvm.MethodName) prog_1_method_7_code (1 : Nat) (Option.some Jvm.ClassFile.FieldType.int), Jvm.Cond.code ({ cls := "NakMulticast", name := "stat", desc := "(I)I" } : Jvm.MethodName) prog_1_method_8_code (2 : Nat) (Option.some Jvm.ClassFile.FieldType.int), Jvm.Cond.code ({ cls := "NakMulticast", name := "pending", desc := "(I)Z" } : Jvm.MethodName) prog_1_method_9_code (2 : Nat) (Option.some Jvm.ClassFile.FieldType.boolean), Jvm.Cond.code ({ cls := "NakMulticast", name := "queued", desc := "(I)I" } : Jvm.MethodName) prog_1_method_10_code (2 : Nat) (Option.some Jvm.ClassFile.FieldType.int), Jvm.Cond.code ({ cls := "NakMulticast", name := "rxInfo", desc := "(II)I" } : Jvm.MethodName) prog_1_method_11_code (3 : Nat) (Option.some Jvm.ClassFile.FieldType.int), Jvm.Cond.code ({ cls := "NakMulticast", name := "rxState", desc := "(II)I" } : Jvm.MethodName) prog_1_method_12_code (3 : Nat) (Option.some Jvm.ClassFile.FieldType.int), Jvm.Cond.code ({ cls := "NakMulticast", name := "rxTimer", desc := "(II)I" } : Jvm.MethodName) prog_1_method_13_code (3 : Nat) (Option.some Jvm.ClassFile.FieldType.int), Jvm.Cond.code ({ cls := "NakMulticast", name := "deliveredSeq", desc := "(II)I" } : Jvm.MethodName) prog_1_method_14_code (3 : Nat) (Option.some Jvm.ClassFile.FieldType.int), Jvm.Cond.code ({ cls := "NakMulticast", name := "deliveredValue", desc := "(II)I" } : Jvm.MethodName) prog_1_method_15_code (3 : Nat) (Option.some Jvm.ClassFile.FieldType.int), Jvm.Cond.code ({ cls := "NakMulticast", name := "lostSeq", desc := "(II)I" } : Jvm.MethodName) prog_1_method_16_code (3 : Nat) (Option.some Jvm.ClassFile.FieldType.int)]
set_option maxRecDepth 65536 in
theorem codes_eq : words1.filter isCode = codes1 := rfl
theorem w_codes : ∀ c ∈ words1.filter isCode, c.before args0 about1 = true := by
  rw [codes_eq]
  intro c hc
  simp only [codes1, List.mem_cons, List.not_mem_nil, or_false] at hc
  rcases hc with rfl | rfl | rfl | rfl | rfl | rfl | rfl | rfl | rfl | rfl | rfl | rfl | rfl | rfl | rfl | rfl | rfl | rfl | rfl | rfl | rfl | rfl | rfl | rfl | rfl | rfl | rfl | rfl | rfl | rfl | rfl | rfl | rfl | rfl | rfl | rfl | rfl | rfl | rfl | rfl | rfl | rfl
  · exact w_c0
  · exact w_c1
  · exact w_c2
  · exact w_c3
  · exact w_c4
  · exact w_c5
  · exact w_c6
  · exact w_c7
  · exact w_c8
  · exact w_c9
  · exact w_c10
  · exact w_c11
  · exact w_c12
  · exact w_c13
  · exact w_c14
  · exact w_c15
  · exact w_c16
  · exact w_c17
  · exact w_c18
  · exact w_c19
  · exact w_c20
  · exact w_c21
  · exact w_c22
  · exact w_c23
  · exact w_c24
  · exact w_c25
  · exact w_c26
  · exact w_c27
  · exact w_c28
  · exact w_c29
  · exact w_c30
  · exact w_c31
  · exact w_c32
  · exact w_c33
  · exact w_c34
  · exact w_c35
  · exact w_c36
  · exact w_c37
  · exact w_c38
  · exact w_c39
  · exact w_c40
  · exact w_c41
set_option maxRecDepth 65536 in
theorem w_t1 : (words1.take 24).all (fun c => isCode c || c.before args0 about1) = true := by decide +kernel
set_option maxRecDepth 65536 in
theorem w_t2 : ((words1.drop 24).take 24).all (fun c => isCode c || c.before args0 about1) = true := by decide +kernel
set_option maxRecDepth 65536 in
theorem w_t3 : (((words1.drop 24).drop 24).take 24).all (fun c => isCode c || c.before args0 about1) = true := by decide +kernel
set_option maxRecDepth 65536 in
theorem w_t4 : ((((words1.drop 24).drop 24).drop 24).take 24).all (fun c => isCode c || c.before args0 about1) = true := by decide +kernel
set_option maxRecDepth 65536 in
theorem w_t5 : (((((words1.drop 24).drop 24).drop 24).drop 24).take 24).all (fun c => isCode c || c.before args0 about1) = true := by decide +kernel
set_option maxRecDepth 65536 in
theorem w_t6 : ((((((words1.drop 24).drop 24).drop 24).drop 24).drop 24).take 24).all (fun c => isCode c || c.before args0 about1) = true := by decide +kernel
set_option maxRecDepth 65536 in
theorem w_t7 : (((((((words1.drop 24).drop 24).drop 24).drop 24).drop 24).drop 24).take 24).all (fun c => isCode c || c.before args0 about1) = true := by decide +kernel
set_option maxRecDepth 65536 in
theorem w_t8 : ((((((((words1.drop 24).drop 24).drop 24).drop 24).drop 24).drop 24).drop 24).take 24).all (fun c => isCode c || c.before args0 about1) = true := by decide +kernel
set_option maxRecDepth 65536 in
theorem w_t9 : (((((((((words1.drop 24).drop 24).drop 24).drop 24).drop 24).drop 24).drop 24).drop 24).take 24).all (fun c => isCode c || c.before args0 about1) = true := by decide +kernel
set_option maxRecDepth 65536 in
theorem w_t10 : (((((((((words1.drop 24).drop 24).drop 24).drop 24).drop 24).drop 24).drop 24).drop 24).drop 24).all (fun c => isCode c || c.before args0 about1) = true := by decide +kernel
theorem w_tables : (allAtoms (Jvm.Cond.code x code maxLocals ret :: tables_1)).before args0 about1 = true := by
  rw [allAtoms_all]
  show words1.all (fun c => c.before args0 about1) = true
  refine all_split ?_ w_codes
  rw [← List.take_append_drop 24 words1, List.all_append, w_t1, ← List.take_append_drop 24 (words1.drop 24), List.all_append, w_t2, ← List.take_append_drop 24 ((words1.drop 24).drop 24), List.all_append, w_t3, ← List.take_append_drop 24 (((words1.drop 24).drop 24).drop 24), List.all_append, w_t4, ← List.take_append_drop 24 ((((words1.drop 24).drop 24).drop 24).drop 24), List.all_append, w_t5, ← List.take_append_drop 24 (((((words1.drop 24).drop 24).drop 24).drop 24).drop 24), List.all_append, w_t6, ← List.take_append_drop 24 ((((((words1.drop 24).drop 24).drop 24).drop 24).drop 24).drop 24), List.all_append, w_t7, ← List.take_append_drop 24 (((((((words1.drop 24).drop 24).drop 24).drop 24).drop 24).drop 24).drop 24), List.all_append, w_t8, ← List.take_append_drop 24 ((((((((words1.drop 24).drop 24).drop 24).drop 24).drop 24).drop 24).drop 24).drop 24), List.all_append, w_t9, w_t10]
  rfl
set_option maxRecDepth 65536 in
theorem w_rest : rest_1_c.before args0 about1 = true := by decide +kernel
set_option maxRecDepth 65536 in
theorem w_case : (Jvm.Cond.and given_1 narrow_1).before args0 about1 = true := by decide +kernel
theorem w_applies : (headSpec (Jvm.Cond.code x code maxLocals ret :: tables_1) room_1).applies x e0.platform about1 = true :=
  (Spec.applies_iff w_frames).mpr ⟨w_running, w_runnable, w_alone, w_named, w_hears, w_ripe, w_room, w_tables⟩
theorem atStart : AtStart classFile x code maxLocals ret World_1 tables_1 room_1 Calls_1 rest_1 Pre_1 launch0 p0 e0 about1 theMethod args0 below0 :=
  ⟨lists_1, trivial, launch0.admits_env _ _ _, launch0.least_env, fairChoices_fair.cas, fairChoices_fair.clock, w_frames, w_args, w_heap, w_applies, trivial, w_rest, w_case⟩
end start1
theorem witness_1 : WitnessClaimed_1 := ⟨start1.p0, start1.e0, start1.about1, start1.theMethod, start1.args0, start1.below0, start1.atStart⟩
end Jvm.Pilot.@@N@@
