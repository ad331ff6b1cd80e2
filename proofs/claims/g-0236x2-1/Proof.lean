import JvmDerived
import JvmDerived.Pilot.@@N@@Statement
import JvmDerived.Pilot.@@N@@Code
set_option linter.unusedVariables false
set_option linter.unusedSimpArgs false
namespace Jvm.RoadKit
open Sem ClassFile Op Lib Jvm.Stand Jvm.Free Jvm.LawKit
section New
variable {p : Program} {l : Launch} {e : Env} {R : Room} {s : State} {m : MethodId} {args : Array Value} {below : List Frame} {meth : Method} {c : Code} {T : State} {locs : List Loc} {cells slots : Nat}
theorem retI (X : Stand p l e R s m args below meth c T locs cells slots) (hx : p.tables.exec = Jvm.exec) {pc : Nat} {Ls : Array Slot} {z : Int32} {rest : List Value} (hret : meth.sig.returnType = some .int) (hd : decode c.code pc = .ok (.ireturn, 1)) {fs : List Frame}
    (hl : ∀ (f : JFrame) (acts : List Action), f.method = m → f.locked = none → f.entered = [] → (doReturn e (T.setTop f) acts (some (.int z))).1 = T.setFrames fs) : Steps p.tables e below (T.setTop (mkF m pc Ls (.int z :: rest))) (T.setFrames fs) := by
  have hm' : T.vm.method? m = some meth := X.method'
  have hn : narrow .int (.int z) = .int z := rfl
  show Steps p.tables e below (T.setTop { method := m, pc := pc, locals := Ls, stack := _ :: rest, locked := none }) _
  jvm_step X.here [X.here.top, hx, hd, hm', hret, hn]
  first | (intro acts; rw [hl _ acts rfl rfl rfl]) | rw [hl _ _ rfl rfl rfl]
  exact Steps.refl _
end New
end Jvm.RoadKit
namespace Jvm.Pilot.@@N@@
open Jvm Jvm.ClassFile Sem Op Lib Jvm.Free Jvm.Stand Jvm.LawKit Jvm.RoadKit Bundle Jvm.Pilot.@@N@@.Jvm.D
/-! TABLES of this claim: printed by claim.py -/
def k0 : Nat := 1
def cName : String := "NakMulticast"
def cN : Nat := 26
def nF : Nat := 26
def kName (k : Nat) : String := bif Nat.beq k 0 then "NakMulticastOwnLaw" else "NakMulticast"
def fNm (k : Nat) : String := (bif Nat.ble 13 k then (bif Nat.ble 19 k then (bif Nat.ble 22 k then (bif Nat.ble 24 k then (bif Nat.ble 25 k then "nakLen" else "qLen") else (bif Nat.ble 23 k then "nextSeq" else "period")) else (bif Nat.ble 20 k then (bif Nat.ble 21 k then "repair" else "back") else "win")) else (bif Nat.ble 16 k then (bif Nat.ble 17 k then (bif Nat.ble 18 k then "nakBuf" else "lostLen") else "lostLog") else (bif Nat.ble 14 k then (bif Nat.ble 15 k then "delLen" else "delVal") else "delSeq"))) else (bif Nat.ble 6 k then (bif Nat.ble 9 k then (bif Nat.ble 11 k then (bif Nat.ble 12 k then "drops" else "dups") else (bif Nat.ble 10 k then "lossLeft" else "rxTrail")) else (bif Nat.ble 7 k then (bif Nat.ble 8 k then "rxLead" else "rxNext") else "rxVal")) else (bif Nat.ble 3 k then (bif Nat.ble 4 k then (bif Nat.ble 5 k then "timer" else "state") else "stats") else (bif Nat.ble 1 k then (bif Nat.ble 2 k then "queue" else "pend") else "srcPayload"))))
def fDs (k : Nat) : String := (bif Nat.ble 13 k then (bif Nat.ble 19 k then (bif Nat.ble 22 k then (bif Nat.ble 24 k then (bif Nat.ble 25 k then "I" else "I") else (bif Nat.ble 23 k then "I" else "I")) else (bif Nat.ble 20 k then (bif Nat.ble 21 k then "I" else "I") else "I")) else (bif Nat.ble 16 k then (bif Nat.ble 17 k then (bif Nat.ble 18 k then "[I" else "[I") else "[I") else (bif Nat.ble 14 k then (bif Nat.ble 15 k then "[I" else "[I") else "[I"))) else (bif Nat.ble 6 k then (bif Nat.ble 9 k then (bif Nat.ble 11 k then (bif Nat.ble 12 k then "[I" else "[I") else (bif Nat.ble 10 k then "[I" else "[I")) else (bif Nat.ble 7 k then (bif Nat.ble 8 k then "[I" else "[I") else "[I")) else (bif Nat.ble 3 k then (bif Nat.ble 4 k then (bif Nat.ble 5 k then "[I" else "[I") else "[I") else (bif Nat.ble 1 k then (bif Nat.ble 2 k then "[I" else "[Z") else "[I"))))
def fTy (k : Nat) : FieldType := (bif Nat.ble 13 k then (bif Nat.ble 19 k then (bif Nat.ble 22 k then (bif Nat.ble 24 k then (bif Nat.ble 25 k then .int else .int) else (bif Nat.ble 23 k then .int else .int)) else (bif Nat.ble 20 k then (bif Nat.ble 21 k then .int else .int) else .int)) else (bif Nat.ble 16 k then (bif Nat.ble 17 k then (bif Nat.ble 18 k then (.array .int) else (.array .int)) else (.array .int)) else (bif Nat.ble 14 k then (bif Nat.ble 15 k then (.array .int) else (.array .int)) else (.array .int)))) else (bif Nat.ble 6 k then (bif Nat.ble 9 k then (bif Nat.ble 11 k then (bif Nat.ble 12 k then (.array .int) else (.array .int)) else (bif Nat.ble 10 k then (.array .int) else (.array .int))) else (bif Nat.ble 7 k then (bif Nat.ble 8 k then (.array .int) else (.array .int)) else (.array .int))) else (bif Nat.ble 3 k then (bif Nat.ble 4 k then (bif Nat.ble 5 k then (.array .int) else (.array .int)) else (.array .int)) else (bif Nat.ble 1 k then (bif Nat.ble 2 k then (.array .int) else (.array .boolean)) else (.array .int)))))
def fFin (k : Nat) : Bool := (bif Nat.ble 13 k then (bif Nat.ble 19 k then (bif Nat.ble 22 k then (bif Nat.ble 24 k then (bif Nat.ble 25 k then false else false) else (bif Nat.ble 23 k then false else false)) else (bif Nat.ble 20 k then (bif Nat.ble 21 k then false else false) else false)) else (bif Nat.ble 16 k then (bif Nat.ble 17 k then (bif Nat.ble 18 k then true else true) else true) else (bif Nat.ble 14 k then (bif Nat.ble 15 k then true else true) else true))) else (bif Nat.ble 6 k then (bif Nat.ble 9 k then (bif Nat.ble 11 k then (bif Nat.ble 12 k then true else true) else (bif Nat.ble 10 k then true else true)) else (bif Nat.ble 7 k then (bif Nat.ble 8 k then true else true) else true)) else (bif Nat.ble 3 k then (bif Nat.ble 4 k then (bif Nat.ble 5 k then true else true) else true) else (bif Nat.ble 1 k then (bif Nat.ble 2 k then true else true) else true))))
def cDef : List Value := [.null, .null, .null, .null, .null, .null, .null, .null, .null, .null, .null, .null, .null, .null, .null, .null, .null, .null, .null, .int 0, .int 0, .int 0, .int 0, .int 0, .int 0, .int 0]
def cK : List Value := [.long (255), .long (-1)]
def pN : Nat := 38
def pTop (m : Nat) : Nat := (bif Nat.ble 19 m then (bif Nat.ble 28 m then (bif Nat.ble 33 m then (bif Nat.ble 35 m then (bif Nat.ble 36 m then (bif Nat.ble 37 m then 36 else 39) else 54) else (bif Nat.ble 34 m then 24 else 95)) else (bif Nat.ble 30 m then (bif Nat.ble 31 m then (bif Nat.ble 32 m then 7 else 27) else 44) else (bif Nat.ble 29 m then 21 else 134))) else (bif Nat.ble 23 m then (bif Nat.ble 25 m then (bif Nat.ble 26 m then (bif Nat.ble 27 m then 39 else 102) else 61) else (bif Nat.ble 24 m then 17 else 36)) else (bif Nat.ble 21 m then (bif Nat.ble 22 m then 36 else 32) else (bif Nat.ble 20 m then 51 else 16)))) else (bif Nat.ble 9 m then (bif Nat.ble 14 m then (bif Nat.ble 16 m then (bif Nat.ble 17 m then (bif Nat.ble 18 m then 96 else 65) else 89) else (bif Nat.ble 15 m then 115 else 94)) else (bif Nat.ble 11 m then (bif Nat.ble 12 m then (bif Nat.ble 13 m then 99 else 51) else 49) else (bif Nat.ble 10 m then 18 else 15))) else (bif Nat.ble 4 m then (bif Nat.ble 6 m then (bif Nat.ble 7 m then (bif Nat.ble 8 m then 111 else 18) else 5) else (bif Nat.ble 5 m then 7 else 5)) else (bif Nat.ble 2 m then (bif Nat.ble 3 m then 16 else 228) else (bif Nat.ble 1 m then 14 else 633)))))
def pK (m : Nat) : Nat := (bif Nat.ble 19 m then (bif Nat.ble 28 m then (bif Nat.ble 33 m then (bif Nat.ble 35 m then (bif Nat.ble 36 m then (bif Nat.ble 37 m then 1 else 1) else 1) else (bif Nat.ble 34 m then 1 else 1)) else (bif Nat.ble 30 m then (bif Nat.ble 31 m then (bif Nat.ble 32 m then 1 else 1) else 1) else (bif Nat.ble 29 m then 1 else 1))) else (bif Nat.ble 23 m then (bif Nat.ble 25 m then (bif Nat.ble 26 m then (bif Nat.ble 27 m then 1 else 1) else 1) else (bif Nat.ble 24 m then 0 else 1)) else (bif Nat.ble 21 m then (bif Nat.ble 22 m then 1 else 0) else (bif Nat.ble 20 m then 1 else 1)))) else (bif Nat.ble 9 m then (bif Nat.ble 14 m then (bif Nat.ble 16 m then (bif Nat.ble 17 m then (bif Nat.ble 18 m then 1 else 1) else 1) else (bif Nat.ble 15 m then 1 else 1)) else (bif Nat.ble 11 m then (bif Nat.ble 12 m then (bif Nat.ble 13 m then 1 else 1) else 1) else (bif Nat.ble 10 m then 1 else 1))) else (bif Nat.ble 4 m then (bif Nat.ble 6 m then (bif Nat.ble 7 m then (bif Nat.ble 8 m then 1 else 1) else 1) else (bif Nat.ble 5 m then 1 else 1)) else (bif Nat.ble 2 m then (bif Nat.ble 3 m then 1 else 1) else (bif Nat.ble 1 m then 0 else 0)))))
def pNm (m : Nat) : String := (bif Nat.ble 19 m then (bif Nat.ble 28 m then (bif Nat.ble 33 m then (bif Nat.ble 35 m then (bif Nat.ble 36 m then (bif Nat.ble 37 m then "lostSeq" else "appendLost") else "applyNcf") else (bif Nat.ble 34 m then "multicastNcf" else "handleNak")) else (bif Nat.ble 30 m then (bif Nat.ble 31 m then (bif Nat.ble 32 m then "backoffOf" else "setLoss") else "handleNaks") else (bif Nat.ble 29 m then "isWaiting" else "stepTimer"))) else (bif Nat.ble 23 m then (bif Nat.ble 25 m then (bif Nat.ble 26 m then (bif Nat.ble 27 m then "runTimers" else "serveQueue") else "tick") else (bif Nat.ble 24 m then "get" else "deliveredValue")) else (bif Nat.ble 21 m then (bif Nat.ble 22 m then "deliveredSeq" else "put") else (bif Nat.ble 20 m then "appendDelivered" else "validSeq")))) else (bif Nat.ble 9 m then (bif Nat.ble 14 m then (bif Nat.ble 16 m then (bif Nat.ble 17 m then (bif Nat.ble 18 m then "applyData" else "send") else "deliver") else (bif Nat.ble 15 m then "applyTrail" else "applyLead")) else (bif Nat.ble 11 m then (bif Nat.ble 12 m then (bif Nat.ble 13 m then "copyTo" else "aggregatorApply") else "multicastSource") else (bif Nat.ble 10 m then "spm" else "validRx"))) else (bif Nat.ble 4 m then (bif Nat.ble 6 m then (bif Nat.ble 7 m then (bif Nat.ble 8 m then "rxInfo" else "trail") else "sourceTrail") else (bif Nat.ble 5 m then "lead" else "sourceLead")) else (bif Nat.ble 2 m then (bif Nat.ble 3 m then "clamp" else "<init>") else (bif Nat.ble 1 m then "cell" else "law")))))
def pDs (m : Nat) : String := (bif Nat.ble 19 m then (bif Nat.ble 28 m then (bif Nat.ble 33 m then (bif Nat.ble 35 m then (bif Nat.ble 36 m then (bif Nat.ble 37 m then "(II)I" else "(II)V") else "(II)V") else (bif Nat.ble 34 m then "(I)V" else "(I)V")) else (bif Nat.ble 30 m then (bif Nat.ble 31 m then (bif Nat.ble 32 m then "(I)I" else "(II)Z") else "()V") else (bif Nat.ble 29 m then "(I)Z" else "(II)V"))) else (bif Nat.ble 23 m then (bif Nat.ble 25 m then (bif Nat.ble 26 m then (bif Nat.ble 27 m then "()V" else "()V") else "()V") else (bif Nat.ble 24 m then "(JI)I" else "(II)I")) else (bif Nat.ble 21 m then (bif Nat.ble 22 m then "(II)I" else "(JII)J") else (bif Nat.ble 20 m then "(III)V" else "(I)Z")))) else (bif Nat.ble 9 m then (bif Nat.ble 14 m then (bif Nat.ble 16 m then (bif Nat.ble 17 m then (bif Nat.ble 18 m then "(IIIII)V" else "(I)I") else "(I)V") else (bif Nat.ble 15 m then "(II)V" else "(II)V")) else (bif Nat.ble 11 m then (bif Nat.ble 12 m then (bif Nat.ble 13 m then "(IIIIII)V" else "(III)V") else "(III)V") else (bif Nat.ble 10 m then "()V" else "(I)Z"))) else (bif Nat.ble 4 m then (bif Nat.ble 6 m then (bif Nat.ble 7 m then (bif Nat.ble 8 m then "(II)I" else "()I") else "()I") else (bif Nat.ble 5 m then "()I" else "()I")) else (bif Nat.ble 2 m then (bif Nat.ble 3 m then "(III)I" else "(IIII)V") else (bif Nat.ble 1 m then "([II)I" else "([I)Z")))))
def pName (m : Nat) : MethodName := ⟨kName (pK m), pNm m, pDs m⟩
def pBytes (m : Nat) : ByteArray := (bif Nat.ble 19 m then (bif Nat.ble 28 m then (bif Nat.ble 33 m then (bif Nat.ble 35 m then (bif Nat.ble 36 m then (bif Nat.ble 37 m then prog_1_method_16_code else prog_1_method_32_code) else prog_1_method_29_code) else (bif Nat.ble 34 m then prog_1_method_26_code else prog_1_method_39_code)) else (bif Nat.ble 30 m then (bif Nat.ble 31 m then (bif Nat.ble 32 m then prog_1_method_23_code else prog_1_method_4_code) else prog_1_method_38_code) else (bif Nat.ble 29 m then prog_1_method_22_code else prog_1_method_37_code))) else (bif Nat.ble 23 m then (bif Nat.ble 25 m then (bif Nat.ble 26 m then (bif Nat.ble 27 m then prog_1_method_36_code else prog_1_method_35_code) else prog_1_method_5_code) else (bif Nat.ble 24 m then method_4_code else prog_1_method_15_code)) else (bif Nat.ble 21 m then (bif Nat.ble 22 m then prog_1_method_14_code else method_3_code) else (bif Nat.ble 20 m then prog_1_method_34_code else prog_1_method_19_code)))) else (bif Nat.ble 9 m then (bif Nat.ble 14 m then (bif Nat.ble 16 m then (bif Nat.ble 17 m then (bif Nat.ble 18 m then prog_1_method_28_code else prog_1_method_2_code) else prog_1_method_33_code) else (bif Nat.ble 15 m then prog_1_method_31_code else prog_1_method_30_code)) else (bif Nat.ble 11 m then (bif Nat.ble 12 m then (bif Nat.ble 13 m then prog_1_method_27_code else prog_1_method_25_code) else prog_1_method_24_code) else (bif Nat.ble 10 m then prog_1_method_3_code else prog_1_method_18_code))) else (bif Nat.ble 4 m then (bif Nat.ble 6 m then (bif Nat.ble 7 m then (bif Nat.ble 8 m then prog_1_method_11_code else prog_1_method_21_code) else prog_1_method_7_code) else (bif Nat.ble 5 m then prog_1_method_20_code else prog_1_method_6_code)) else (bif Nat.ble 2 m then (bif Nat.ble 3 m then prog_1_method_17_code else prog_1_method_1_code) else (bif Nat.ble 1 m then method_2_code else code)))))
def pMaxL (m : Nat) : Nat := (bif Nat.ble 19 m then (bif Nat.ble 28 m then (bif Nat.ble 33 m then (bif Nat.ble 35 m then (bif Nat.ble 36 m then (bif Nat.ble 37 m then 3 else 3) else 5) else (bif Nat.ble 34 m then 3 else 2)) else (bif Nat.ble 30 m then (bif Nat.ble 31 m then (bif Nat.ble 32 m then 2 else 3) else 3) else (bif Nat.ble 29 m then 2 else 5))) else (bif Nat.ble 23 m then (bif Nat.ble 25 m then (bif Nat.ble 26 m then (bif Nat.ble 27 m then 3 else 5) else 1) else (bif Nat.ble 24 m then 4 else 3)) else (bif Nat.ble 21 m then (bif Nat.ble 22 m then 3 else 5) else (bif Nat.ble 20 m then 5 else 2)))) else (bif Nat.ble 9 m then (bif Nat.ble 14 m then (bif Nat.ble 16 m then (bif Nat.ble 17 m then (bif Nat.ble 18 m then 8 else 3) else 5) else (bif Nat.ble 15 m then 7 else 6)) else (bif Nat.ble 11 m then (bif Nat.ble 12 m then (bif Nat.ble 13 m then 7 else 5) else 7) else (bif Nat.ble 10 m then 1 else 2))) else (bif Nat.ble 4 m then (bif Nat.ble 6 m then (bif Nat.ble 7 m then (bif Nat.ble 8 m then 3 else 2) else 1) else (bif Nat.ble 5 m then 1 else 1)) else (bif Nat.ble 2 m then (bif Nat.ble 3 m then 4 else 6) else (bif Nat.ble 1 m then 2 else 29)))))
def pRet (m : Nat) : Option FieldType := (bif Nat.ble 19 m then (bif Nat.ble 28 m then (bif Nat.ble 33 m then (bif Nat.ble 35 m then (bif Nat.ble 36 m then (bif Nat.ble 37 m then (some .int) else none) else none) else (bif Nat.ble 34 m then none else none)) else (bif Nat.ble 30 m then (bif Nat.ble 31 m then (bif Nat.ble 32 m then (some .int) else (some .boolean)) else none) else (bif Nat.ble 29 m then (some .boolean) else none))) else (bif Nat.ble 23 m then (bif Nat.ble 25 m then (bif Nat.ble 26 m then (bif Nat.ble 27 m then none else none) else none) else (bif Nat.ble 24 m then (some .int) else (some .int))) else (bif Nat.ble 21 m then (bif Nat.ble 22 m then (some .int) else (some .long)) else (bif Nat.ble 20 m then none else (some .boolean))))) else (bif Nat.ble 9 m then (bif Nat.ble 14 m then (bif Nat.ble 16 m then (bif Nat.ble 17 m then (bif Nat.ble 18 m then none else (some .int)) else none) else (bif Nat.ble 15 m then none else none)) else (bif Nat.ble 11 m then (bif Nat.ble 12 m then (bif Nat.ble 13 m then none else none) else none) else (bif Nat.ble 10 m then none else (some .boolean)))) else (bif Nat.ble 4 m then (bif Nat.ble 6 m then (bif Nat.ble 7 m then (bif Nat.ble 8 m then (some .int) else (some .int)) else (some .int)) else (bif Nat.ble 5 m then (some .int) else (some .int))) else (bif Nat.ble 2 m then (bif Nat.ble 3 m then (some .int) else none) else (bif Nat.ble 1 m then (some .int) else (some .boolean))))))
def pNA (m : Nat) : Nat := (bif Nat.ble 19 m then (bif Nat.ble 28 m then (bif Nat.ble 33 m then (bif Nat.ble 35 m then (bif Nat.ble 36 m then (bif Nat.ble 37 m then 2 else 2) else 2) else (bif Nat.ble 34 m then 1 else 1)) else (bif Nat.ble 30 m then (bif Nat.ble 31 m then (bif Nat.ble 32 m then 1 else 2) else 0) else (bif Nat.ble 29 m then 1 else 2))) else (bif Nat.ble 23 m then (bif Nat.ble 25 m then (bif Nat.ble 26 m then (bif Nat.ble 27 m then 0 else 0) else 0) else (bif Nat.ble 24 m then 2 else 2)) else (bif Nat.ble 21 m then (bif Nat.ble 22 m then 2 else 3) else (bif Nat.ble 20 m then 3 else 1)))) else (bif Nat.ble 9 m then (bif Nat.ble 14 m then (bif Nat.ble 16 m then (bif Nat.ble 17 m then (bif Nat.ble 18 m then 5 else 1) else 1) else (bif Nat.ble 15 m then 2 else 2)) else (bif Nat.ble 11 m then (bif Nat.ble 12 m then (bif Nat.ble 13 m then 6 else 3) else 3) else (bif Nat.ble 10 m then 0 else 1))) else (bif Nat.ble 4 m then (bif Nat.ble 6 m then (bif Nat.ble 7 m then (bif Nat.ble 8 m then 2 else 0) else 0) else (bif Nat.ble 5 m then 0 else 0)) else (bif Nat.ble 2 m then (bif Nat.ble 3 m then 3 else 4) else (bif Nat.ble 1 m then 2 else 1)))))
def pFr (m : Nat) : Nat := (bif Nat.ble 19 m then (bif Nat.ble 28 m then (bif Nat.ble 33 m then (bif Nat.ble 35 m then (bif Nat.ble 36 m then (bif Nat.ble 37 m then 1 else 0) else 1) else (bif Nat.ble 34 m then 4 else 5)) else (bif Nat.ble 30 m then (bif Nat.ble 31 m then (bif Nat.ble 32 m then 0 else 1) else 6) else (bif Nat.ble 29 m then 0 else 1))) else (bif Nat.ble 23 m then (bif Nat.ble 25 m then (bif Nat.ble 26 m then (bif Nat.ble 27 m then 2 else 5) else 7) else (bif Nat.ble 24 m then 0 else 1)) else (bif Nat.ble 21 m then (bif Nat.ble 22 m then 1 else 0) else (bif Nat.ble 20 m then 0 else 0)))) else (bif Nat.ble 9 m then (bif Nat.ble 14 m then (bif Nat.ble 16 m then (bif Nat.ble 17 m then (bif Nat.ble 18 m then 2 else 5) else 1) else (bif Nat.ble 15 m then 1 else 1)) else (bif Nat.ble 11 m then (bif Nat.ble 12 m then (bif Nat.ble 13 m then 3 else 1) else 4) else (bif Nat.ble 10 m then 5 else 0))) else (bif Nat.ble 4 m then (bif Nat.ble 6 m then (bif Nat.ble 7 m then (bif Nat.ble 8 m then 1 else 0) else 1) else (bif Nat.ble 5 m then 0 else 1)) else (bif Nat.ble 2 m then (bif Nat.ble 3 m then 0 else 1) else (bif Nat.ble 1 m then 0 else 8)))))
def pLo (m : Nat) : Nat := (bif Nat.ble 19 m then (bif Nat.ble 28 m then (bif Nat.ble 33 m then (bif Nat.ble 35 m then (bif Nat.ble 36 m then (bif Nat.ble 37 m then 13 else 0) else 13) else (bif Nat.ble 34 m then 69 else 83)) else (bif Nat.ble 30 m then (bif Nat.ble 31 m then (bif Nat.ble 32 m then 0 else 17) else 96) else (bif Nat.ble 29 m then 0 else 15))) else (bif Nat.ble 23 m then (bif Nat.ble 25 m then (bif Nat.ble 26 m then (bif Nat.ble 27 m then 31 else 87) else 110) else (bif Nat.ble 24 m then 0 else 13)) else (bif Nat.ble 21 m then (bif Nat.ble 22 m then 13 else 0) else (bif Nat.ble 20 m then 0 else 0)))) else (bif Nat.ble 9 m then (bif Nat.ble 14 m then (bif Nat.ble 16 m then (bif Nat.ble 17 m then (bif Nat.ble 18 m then 32 else 87) else 16) else (bif Nat.ble 15 m then 14 else 15)) else (bif Nat.ble 11 m then (bif Nat.ble 12 m then (bif Nat.ble 13 m then 51 else 13) else 69) else (bif Nat.ble 10 m then 87 else 0))) else (bif Nat.ble 4 m then (bif Nat.ble 6 m then (bif Nat.ble 7 m then (bif Nat.ble 8 m then 13 else 0) else 13) else (bif Nat.ble 5 m then 0 else 12)) else (bif Nat.ble 2 m then (bif Nat.ble 3 m then 0 else 16) else (bif Nat.ble 1 m then 0 else 122)))))
def tB (k p : Nat) (a b : Option (Instr × Nat)) : Option (Instr × Nat) := bif Nat.ble k p then a else b
def tL (k p : Nat) (i : Instr) (x : Nat) : Option (Instr × Nat) := bif Nat.beq p k then some (i, x) else none
set_option maxHeartbeats 4000000 in
def cd0 (p : Nat) : Option (Instr × Nat) := (tB 294 p (tB 461 p (tB 542 p (tB 588 p (tB 610 p (tB 619 p (tB 628 p (tB 631 p (tB 632 p (tL 632 p .ireturn 0) (tL 631 p (.iconst 1) 0)) (tL 628 p (.goto (-538)) 90)) (tB 622 p (tB 625 p (tL 625 p (.iinc 14 1) 0) (tL 622 p (.goto (-292)) 330)) (tL 619 p (.iinc 17 1) 0))) (tB 614 p (tB 617 p (tB 618 p (tL 618 p .ireturn 0) (tL 617 p (.iconst 0) 0)) (tL 614 p (.if_icmp .eq 5) 619)) (tB 612 p (tL 612 p (.iload 20) 0) (tL 610 p (.iload 23) 0)))) (tB 597 p (tB 603 p (tB 605 p (tB 607 p (tL 607 p (.if_icmp .ne 10) 617) (tL 605 p (.iload 19) 0)) (tL 603 p (.iload 22) 0)) (tB 600 p (tL 600 p (.goto (-181)) 419) (tL 597 p (.iinc 24 1) 0))) (tB 592 p (tB 595 p (tB 596 p (tL 596 p .ireturn 0) (tL 595 p (.iconst 0) 0)) (tL 592 p (.goto 5) 597)) (tB 589 p (tL 589 p (.iinc 23 1) 0) (tL 588 p .ireturn 0))))) (tB 564 p (tB 575 p (tB 582 p (tB 584 p (tB 587 p (tL 587 p (.iconst 0) 0) (tL 584 p (.if_icmp .lt 5) 589)) (tL 582 p (.iload 21) 0)) (tB 577 p (tB 580 p (tL 580 p (.iload 24) 0) (tL 577 p (.if_icmp .ge 10) 587)) (tL 575 p (.iload 16) 0))) (tB 568 p (tB 570 p (tB 573 p (tL 573 p (.iload 24) 0) (tL 570 p (.if_icmp .ne 25) 595)) (tL 568 p (.iload 24) 0)) (tB 566 p (tL 566 p (.iload 26) 0) (tL 564 p (.istore 26) 0)))) (tB 553 p (tB 557 p (tB 560 p (tB 563 p (tL 563 p (.iconst (-1)) 0) (tL 560 p (.goto 4) 564)) (tL 557 p (.invokevirtual 61) 37)) (tB 555 p (tL 555 p (.iload 23) 0) (tL 553 p (.iload 17) 0))) (tB 547 p (tB 549 p (tB 552 p (tL 552 p (.aload_n 1) 0) (tL 549 p (.if_icmp .ge 14) 563)) (tL 547 p (.iload 20) 0)) (tB 545 p (tL 545 p (.iload 23) 0) (tL 542 p (.goto 55) 597)))))) (tB 496 p (tB 519 p (tB 529 p (tB 537 p (tB 538 p (tB 539 p (tL 539 p (.iinc 22 1) 0) (tL 538 p .ireturn 0)) (tL 537 p (.iconst 0) 0)) (tB 531 p (tB 534 p (tL 534 p (.if_icmp .eq 5) 539) (tL 531 p (.invokestatic 57) 24)) (tL 529 p (.iload 24) 0))) (tB 522 p (tB 524 p (tB 527 p (tL 527 p (.lload 27) 0) (tL 524 p (.invokevirtual 54) 23)) (tL 522 p (.iload 22) 0)) (tB 520 p (tL 520 p (.iload 17) 0) (tL 519 p (.aload_n 1) 0)))) (tB 507 p (tB 512 p (tB 515 p (tB 517 p (tL 517 p (.lstore 27) 0) (tL 515 p (.lload 8) 0)) (tL 512 p (.goto 5) 517)) (tB 510 p (tL 510 p (.lload 6) 0) (tL 507 p (.if_icmp .ne 8) 515))) (tB 501 p (tB 504 p (tB 506 p (tL 506 p (.iconst 2) 0) (tL 504 p (.iload 26) 0)) (tL 501 p (.goto 16) 517)) (tB 499 p (tL 499 p (.lload 4) 0) (tL 496 p (.if_icmp .ne 8) 504))))) (tB 477 p (tB 484 p (tB 490 p (tB 493 p (tB 495 p (tL 495 p (.iconst 1) 0) (tL 493 p (.iload 26) 0)) (tL 490 p (.goto 27) 517)) (tB 486 p (tB 489 p (tL 489 p (.lload_n 2) 0) (tL 486 p (.ifCond .ne 7) 493)) (tL 484 p (.iload 26) 0))) (tB 480 p (tB 481 p (tB 482 p (tL 482 p (.istore 26) 0) (tL 481 p .ishr 0)) (tL 480 p (.iconst 3) 0)) (tB 478 p (tL 478 p (.iload 24) 0) (tL 477 p .ireturn 0)))) (tB 470 p (tB 472 p (tB 473 p (tB 476 p (tL 476 p (.iconst 0) 0) (tL 473 p (.ifCond .ne 5) 478)) (tL 472 p .lcmp 0)) (tB 471 p (tL 471 p (.lconst 0) 0) (tL 470 p .land 0))) (tB 466 p (tB 468 p (tB 469 p (tL 469 p (.lconst 1) 0) (tL 468 p .lushr 0)) (tL 466 p (.iload 24) 0)) (tB 464 p (tL 464 p (.lload 10) 0) (tL 461 p (.if_icmp .ne 84) 545))))))) (tB 378 p (tB 416 p (tB 438 p (tB 448 p (tB 455 p (tB 457 p (tB 459 p (tL 459 p (.iload 24) 0) (tL 457 p (.iload 25) 0)) (tL 455 p (.istore 25) 0)) (tB 451 p (tB 454 p (tL 454 p (.iconst (-1)) 0) (tL 451 p (.goto 4) 455)) (tL 448 p (.invokevirtual 51) 22))) (tB 443 p (tB 444 p (tB 446 p (tL 446 p (.iload 22) 0) (tL 444 p (.iload 17) 0)) (tL 443 p (.aload_n 1) 0)) (tB 440 p (tL 440 p (.if_icmp .ge 14) 454) (tL 438 p (.iload 19) 0)))) (tB 426 p (tB 430 p (tB 433 p (tB 436 p (tL 436 p (.iload 22) 0) (tL 433 p (.goto 170) 603)) (tL 430 p (.if_icmp .lt 6) 436)) (tB 428 p (tL 428 p (.iload 18) 0) (tL 426 p (.iload 24) 0))) (tB 419 p (tB 421 p (tB 423 p (tL 423 p (.if_icmp .ge 180) 603) (tL 421 p (.bipush 32) 0)) (tL 419 p (.iload 24) 0)) (tB 417 p (tL 417 p (.istore 24) 0) (tL 416 p (.iconst 0) 0))))) (tB 399 p (tB 405 p (tB 411 p (tB 413 p (tB 414 p (tL 414 p (.istore 23) 0) (tL 413 p (.iconst 0) 0)) (tL 411 p (.istore 22) 0)) (tB 408 p (tB 410 p (tL 410 p (.iconst 0) 0) (tL 408 p (.istore 21) 0)) (tL 405 p (.invokevirtual 47) 8))) (tB 401 p (tB 402 p (tB 404 p (tL 404 p (.iconst 2) 0) (tL 402 p (.iload 17) 0)) (tL 401 p (.aload_n 1) 0)) (tB 400 p (tL 400 p .ireturn 0) (tL 399 p (.iconst 0) 0)))) (tB 388 p (tB 392 p (tB 394 p (tB 396 p (tL 396 p (.if_icmp .le 5) 401) (tL 394 p (.bipush 32) 0)) (tL 392 p (.iload 18) 0)) (tB 389 p (tL 389 p (.if_icmp .gt 10) 399) (tL 388 p .iadd 0))) (tB 383 p (tB 385 p (tB 387 p (tL 387 p (.iconst 1) 0) (tL 385 p (.iload 15) 0)) (tL 383 p (.iload 18) 0)) (tB 380 p (tL 380 p (.if_icmp .ne 19) 399) (tL 378 p (.iload 18) 0)))))) (tB 337 p (tB 355 p (tB 365 p (tB 373 p (tB 375 p (tB 377 p (tL 377 p .iadd 0) (tL 375 p (.iload 20) 0)) (tL 373 p (.iload 19) 0)) (tB 368 p (tB 370 p (tL 370 p (.ifCond .lt 29) 399) (tL 368 p (.iload 20) 0)) (tL 365 p (.ifCond .lt 34) 399))) (tB 358 p (tB 361 p (tB 363 p (tL 363 p (.iload 19) 0) (tL 361 p (.istore 20) 0)) (tL 358 p (.invokevirtual 47) 8)) (tB 357 p (tL 357 p (.iconst 4) 0) (tL 355 p (.iload 17) 0)))) (tB 346 p (tB 349 p (tB 352 p (tB 354 p (tL 354 p (.aload_n 1) 0) (tL 352 p (.istore 19) 0)) (tL 349 p (.invokevirtual 47) 8)) (tB 348 p (tL 348 p (.iconst 3) 0) (tL 346 p (.iload 17) 0))) (tB 340 p (tB 343 p (tB 345 p (tL 345 p (.aload_n 1) 0) (tL 343 p (.istore 18) 0)) (tL 340 p (.invokevirtual 47) 8)) (tB 339 p (tL 339 p (.iconst 0) 0) (tL 337 p (.iload 17) 0))))) (tB 316 p (tB 327 p (tB 332 p (tB 333 p (tB 336 p (tL 336 p (.aload_n 1) 0) (tL 333 p (.if_icmp .ge 292) 625)) (tL 332 p (.iconst 4) 0)) (tB 328 p (tB 330 p (tL 330 p (.iload 17) 0) (tL 328 p (.istore 17) 0)) (tL 327 p (.iconst 0) 0))) (tB 321 p (tB 322 p (tB 325 p (tL 325 p (.istore 16) 0) (tL 322 p (.invokevirtual 44) 6)) (tL 321 p (.aload_n 1) 0)) (tB 319 p (tL 319 p (.istore 15) 0) (tL 316 p (.invokevirtual 40) 4)))) (tB 306 p (tB 311 p (tB 312 p (tB 315 p (tL 315 p (.aload_n 1) 0) (tL 312 p (.invokevirtual 37) 25)) (tL 311 p (.aload_n 1) 0)) (tB 308 p (tL 308 p (.if_icmp .lt 7) 315) (tL 306 p (.iload 12) 0))) (tB 298 p (tB 301 p (tB 304 p (tL 304 p (.iload 14) 0) (tL 301 p (.goto 14) 315)) (tL 298 p (.invokevirtual 37) 25)) (tB 297 p (tL 297 p (.aload_n 1) 0) (tL 294 p (.goto 7) 301)))))))) (tB 129 p (tB 210 p (tB 258 p (tB 278 p (tB 285 p (tB 289 p (tB 290 p (tB 293 p (tL 293 p .pop 0) (tL 290 p (.invokevirtual 33) 31)) (tL 289 p .iand 0)) (tB 286 p (tB 287 p (tL 287 p (.bipush 7) 0) (tL 286 p .iushr 0)) (tL 285 p (.iconst 3) 0))) (tB 281 p (tB 282 p (tB 283 p (tL 283 p (.iload 16) 0) (tL 282 p .isub 0)) (tL 281 p (.iconst 2) 0)) (tB 280 p (tL 280 p .iand 0) (tL 278 p (.bipush 7) 0)))) (tB 269 p (tB 272 p (tB 275 p (tB 276 p (tL 276 p (.iload 16) 0) (tL 275 p (.aload_n 1) 0)) (tL 272 p (.if_icmp .ne 25) 297)) (tB 271 p (tL 271 p (.iconst 4) 0) (tL 269 p (.iload 15) 0))) (tB 262 p (tB 263 p (tB 266 p (tL 266 p (.goto 35) 301) (tL 263 p (.invokevirtual 30) 10)) (tL 262 p (.aload_n 1) 0)) (tB 259 p (tL 259 p (.if_icmp .ne 10) 269) (tL 258 p (.iconst 3) 0))))) (tB 232 p (tB 244 p (tB 251 p (tB 253 p (tB 256 p (tL 256 p (.iload 15) 0) (tL 253 p (.goto 48) 301)) (tL 251 p (.lstore 8) 0)) (tB 246 p (tB 248 p (tL 248 p (.invokestatic 26) 21) (tL 246 p (.iload 17) 0)) (tL 244 p (.iload 18) 0))) (tB 237 p (tB 239 p (tB 242 p (tL 242 p (.lload 8) 0) (tL 239 p (.goto 14) 253)) (tL 237 p (.lstore 6) 0)) (tB 234 p (tL 234 p (.invokestatic 26) 21) (tL 232 p (.iload 17) 0)))) (tB 222 p (tB 225 p (tB 228 p (tB 230 p (tL 230 p (.iload 18) 0) (tL 228 p (.lload 6) 0)) (tL 225 p (.if_icmp .ne 17) 242)) (tB 224 p (tL 224 p (.iconst 2) 0) (tL 222 p (.iload 19) 0))) (tB 214 p (tB 217 p (tB 219 p (tL 219 p (.goto 34) 253) (tL 217 p (.lstore 4) 0)) (tL 214 p (.invokestatic 26) 21)) (tB 212 p (tL 212 p (.iload 17) 0) (tL 210 p (.iload 18) 0)))))) (tB 172 p (tB 187 p (tB 198 p (tB 204 p (tB 205 p (tB 208 p (tL 208 p (.lload 4) 0) (tL 205 p (.if_icmp .ne 17) 222)) (tL 204 p (.iconst 1) 0)) (tB 199 p (tB 202 p (tL 202 p (.iload 19) 0) (tL 199 p (.goto 54) 253)) (tL 198 p (.lstore_n 2) 0))) (tB 191 p (tB 193 p (tB 195 p (tL 195 p (.invokestatic 26) 21) (tL 193 p (.iload 17) 0)) (tL 191 p (.iload 18) 0)) (tB 190 p (tL 190 p (.lload_n 2) 0) (tL 187 p (.ifCond .ne 15) 202)))) (tB 179 p (tB 182 p (tB 183 p (tB 185 p (tL 185 p (.iload 19) 0) (tL 183 p (.istore 19) 0)) (tL 182 p .ishr 0)) (tB 181 p (tL 181 p (.iconst 3) 0) (tL 179 p (.iload 18) 0))) (tB 175 p (tB 176 p (tB 177 p (tL 177 p (.lstore 10) 0) (tL 176 p .lor 0)) (tL 175 p .lshl 0)) (tB 173 p (tL 173 p (.iload 18) 0) (tL 172 p (.lconst 1) 0))))) (tB 148 p (tB 158 p (tB 165 p (tB 167 p (tB 170 p (tL 170 p (.lload 10) 0) (tL 167 p (.if_icmp .ge 86) 253)) (tL 165 p (.bipush 32) 0)) (tB 160 p (tB 163 p (tL 163 p (.iload 18) 0) (tL 160 p (.ifCond .lt 93) 253)) (tL 158 p (.iload 18) 0))) (tB 151 p (tB 153 p (tB 156 p (tL 156 p (.istore 18) 0) (tL 153 p (.invokevirtual 22) 17)) (tL 151 p (.iload 17) 0)) (tB 150 p (tL 150 p (.aload_n 1) 0) (tL 148 p (.istore 17) 0)))) (tB 138 p (tB 142 p (tB 144 p (tB 147 p (tL 147 p .iand 0) (tL 144 p (.sipush 255) 0)) (tL 142 p (.iload 16) 0)) (tB 139 p (tL 139 p (.if_icmp .gt 117) 256) (tL 138 p (.iconst 2) 0))) (tB 131 p (tB 134 p (tB 136 p (tL 136 p (.iload 15) 0) (tL 134 p (.istore 16) 0)) (tL 131 p (.invokestatic 13) 1)) (tB 130 p (tL 130 p .iadd 0) (tL 129 p .imul 0))))))) (tB 60 p (tB 92 p (tB 112 p (tB 121 p (tB 125 p (tB 126 p (tB 127 p (tL 127 p (.iload 14) 0) (tL 126 p (.iconst 2) 0)) (tL 125 p (.iconst 5) 0)) (tB 122 p (tB 124 p (tL 124 p (.aload_n 0) 0) (tL 122 p (.istore 15) 0)) (tL 121 p .iand 0))) (tB 115 p (tB 116 p (tB 119 p (tL 119 p (.bipush 7) 0) (tL 116 p (.invokestatic 13) 1)) (tL 115 p .iadd 0)) (tB 114 p (tL 114 p .imul 0) (tL 112 p (.iload 14) 0)))) (tB 104 p (tB 109 p (tB 110 p (tB 111 p (tL 111 p (.iconst 2) 0) (tL 110 p (.iconst 4) 0)) (tL 109 p (.aload_n 0) 0)) (tB 106 p (tL 106 p (.if_icmp .ge 198) 304) (tL 104 p (.iload 12) 0))) (tB 97 p (tB 99 p (tB 102 p (tL 102 p (.iload 14) 0) (tL 99 p (.ifCond .lt 205) 304)) (tL 97 p (.iload 14) 0)) (tB 94 p (tL 94 p (.if_icmp .ge 537) 631) (tL 92 p (.iload 13) 0))))) (tB 73 p (tB 82 p (tB 87 p (tB 88 p (tB 90 p (tL 90 p (.iload 14) 0) (tL 88 p (.istore 14) 0)) (tL 87 p (.iconst (-1)) 0)) (tB 84 p (tB 85 p (tL 85 p (.istore 13) 0) (tL 84 p .iadd 0)) (tL 82 p (.bipush 40) 0))) (tB 77 p (tB 78 p (tB 80 p (tL 80 p (.iload 12) 0) (tL 78 p (.istore 12) 0)) (tL 77 p (.iconst 0) 0)) (tB 74 p (tL 74 p (.goto 4) 78) (tL 73 p .idiv 0)))) (tB 68 p (tB 70 p (tB 71 p (tB 72 p (tL 72 p (.iconst 2) 0) (tL 71 p .isub 0)) (tL 70 p (.iconst 3) 0)) (tB 69 p (tL 69 p .arraylength 0) (tL 68 p (.aload_n 0) 0))) (tB 63 p (tB 64 p (tB 65 p (tL 65 p (.if_icmp .le 12) 77) (tL 64 p (.iconst 4) 0)) (tL 63 p .arraylength 0)) (tB 62 p (tL 62 p (.aload_n 0) 0) (tL 60 p (.lstore 10) 0)))))) (tB 31 p (tB 44 p (tB 51 p (tB 56 p (tB 57 p (tB 59 p (tL 59 p (.lconst 0) 0) (tL 57 p (.lstore 8) 0)) (tL 56 p (.lconst 0) 0)) (tB 53 p (tB 54 p (tL 54 p (.lstore 6) 0) (tL 53 p (.lconst 0) 0)) (tL 51 p (.lstore 4) 0))) (tB 48 p (tB 49 p (tB 50 p (tL 50 p (.lconst 0) 0) (tL 49 p (.lstore_n 2) 0)) (tL 48 p (.lconst 0) 0)) (tB 47 p (tL 47 p (.astore_n 1) 0) (tL 44 p (.invokespecial 19) 2)))) (tB 36 p (tB 41 p (tB 42 p (tB 43 p (tL 43 p .isub 0) (tL 42 p (.iconst 4) 0)) (tL 41 p .iand 0)) (tB 39 p (tL 39 p (.bipush 31) 0) (tL 36 p (.invokestatic 13) 1))) (tB 33 p (tB 34 p (tB 35 p (tL 35 p (.iconst 3) 0) (tL 34 p (.aload_n 0) 0)) (tL 33 p .isub 0)) (tB 32 p (tL 32 p (.iconst 2) 0) (tL 31 p .iand 0))))) (tB 15 p (tB 23 p (tB 25 p (tB 26 p (tB 29 p (tL 29 p (.bipush 15) 0) (tL 26 p (.invokestatic 13) 1)) (tL 25 p (.iconst 2) 0)) (tB 24 p (tL 24 p (.aload_n 0) 0) (tL 23 p .isub 0))) (tB 19 p (tB 21 p (tB 22 p (tL 22 p (.iconst 2) 0) (tL 21 p .iand 0)) (tL 19 p (.bipush 15) 0)) (tB 16 p (tL 16 p (.invokestatic 13) 1) (tL 15 p (.iconst 1) 0)))) (tB 9 p (tB 12 p (tB 13 p (tB 14 p (tL 14 p (.aload_n 0) 0) (tL 13 p .isub 0)) (tL 12 p (.iconst 4) 0)) (tB 11 p (tL 11 p .iand 0) (tL 9 p (.bipush 31) 0))) (tB 4 p (tB 5 p (tB 6 p (tL 6 p (.invokestatic 13) 1) (tL 5 p (.iconst 0) 0)) (tL 4 p (.aload_n 0) 0)) (tB 3 p (tL 3 p .dup 0) (tL 0 p (.new 11) 0)))))))))
set_option maxHeartbeats 4000000 in
def cd1 (p : Nat) : Option (Instr × Nat) := (tB 7 p (tB 9 p (tB 12 p (tB 13 p (tL 13 p .ireturn 0) (tL 12 p (.iconst 0) 0)) (tL 9 p (.goto 4) 13)) (tB 8 p (tL 8 p .iaload 0) (tL 7 p (.iload_n 1) 0))) (tB 2 p (tB 3 p (tB 6 p (tL 6 p (.aload_n 0) 0) (tL 3 p (.if_icmp .ge 9) 12)) (tL 2 p .arraylength 0)) (tB 1 p (tL 1 p (.aload_n 0) 0) (tL 0 p (.iload_n 1) 0))))
set_option maxHeartbeats 4000000 in
def cd2 (p : Nat) : Option (Instr × Nat) := (tB 115 p (tB 171 p (tB 198 p (tB 213 p (tB 220 p (tB 224 p (tB 227 p (tL 227 p .return_ 0) (tL 224 p (.goto (-17)) 207)) (tB 221 p (tL 221 p (.iinc 5 1) 0) (tL 220 p .iastore 0))) (tB 217 p (tB 219 p (tL 219 p (.iconst (-1)) 0) (tL 217 p (.iload 5) 0)) (tB 214 p (tL 214 p (.getfield 35) 8) (tL 213 p (.aload_n 0) 0)))) (tB 205 p (tB 209 p (tB 210 p (tL 210 p (.if_icmp .ge 17) 227) (tL 209 p (.iconst 4) 0)) (tB 207 p (tL 207 p (.iload 5) 0) (tL 205 p (.istore 5) 0))) (tB 201 p (tB 204 p (tL 204 p (.iconst 0) 0) (tL 201 p (.putfield 82) 22)) (tL 198 p (.invokevirtual 68) 3)))) (tB 183 p (tB 192 p (tB 195 p (tB 196 p (tL 196 p (.bipush 16) 0) (tL 195 p (.iconst 0) 0)) (tB 193 p (tL 193 p (.iload 4) 0) (tL 192 p (.aload_n 0) 0))) (tB 188 p (tB 191 p (tL 191 p (.aload_n 0) 0) (tL 188 p (.putfield 79) 21)) (tB 185 p (tL 185 p (.invokevirtual 68) 3) (tL 183 p (.bipush 8) 0)))) (tB 179 p (tB 181 p (tB 182 p (tL 182 p (.iconst 1) 0) (tL 181 p (.iload_n 3) 0)) (tB 180 p (tL 180 p (.aload_n 0) 0) (tL 179 p (.aload_n 0) 0))) (tB 173 p (tB 176 p (tL 176 p (.putfield 76) 20) (tL 173 p (.invokevirtual 68) 3)) (tL 171 p (.bipush 8) 0))))) (tB 146 p (tB 158 p (tB 167 p (tB 169 p (tB 170 p (tL 170 p (.iconst 1) 0) (tL 169 p (.iload_n 2) 0)) (tB 168 p (tL 168 p (.aload_n 0) 0) (tL 167 p (.aload_n 0) 0))) (tB 161 p (tB 164 p (tL 164 p (.putfield 72) 19) (tL 161 p (.invokevirtual 68) 3)) (tB 159 p (tL 159 p (.bipush 16) 0) (tL 158 p (.iconst 2) 0)))) (tB 152 p (tB 156 p (tB 157 p (tL 157 p (.iload_n 1) 0) (tL 156 p (.aload_n 0) 0)) (tB 155 p (tL 155 p (.aload_n 0) 0) (tL 152 p (.putfield 65) 18))) (tB 147 p (tB 150 p (tL 150 p (.newarray .int) 0) (tL 147 p (.sipush 128) 0)) (tL 146 p (.aload_n 0) 0)))) (tB 130 p (tB 139 p (tB 141 p (tB 143 p (tL 143 p (.putfield 62) 17) (tL 141 p (.newarray .int) 0)) (tB 140 p (tL 140 p (.iconst 4) 0) (tL 139 p (.aload_n 0) 0))) (tB 134 p (tB 136 p (tL 136 p (.putfield 59) 16) (tL 134 p (.newarray .int) 0)) (tB 131 p (tL 131 p (.sipush 128) 0) (tL 130 p (.aload_n 0) 0)))) (tB 123 p (tB 125 p (tB 127 p (tL 127 p (.putfield 56) 15) (tL 125 p (.newarray .int) 0)) (tB 124 p (tL 124 p (.iconst 4) 0) (tL 123 p (.aload_n 0) 0))) (tB 118 p (tB 120 p (tL 120 p (.putfield 53) 14) (tL 118 p (.newarray .int) 0)) (tL 115 p (.sipush 128) 0)))))) (tB 60 p (tB 86 p (tB 99 p (tB 106 p (tB 111 p (tB 114 p (tL 114 p (.aload_n 0) 0) (tL 111 p (.putfield 50) 13)) (tB 109 p (tL 109 p (.newarray .int) 0) (tL 106 p (.sipush 128) 0))) (tB 102 p (tB 105 p (tL 105 p (.aload_n 0) 0) (tL 102 p (.putfield 47) 12)) (tB 100 p (tL 100 p (.newarray .int) 0) (tL 99 p (.iconst 4) 0)))) (tB 92 p (tB 95 p (tB 98 p (tL 98 p (.aload_n 0) 0) (tL 95 p (.putfield 44) 11)) (tB 93 p (tL 93 p (.newarray .int) 0) (tL 92 p (.iconst 4) 0))) (tB 88 p (tB 91 p (tL 91 p (.aload_n 0) 0) (tL 88 p (.putfield 41) 10)) (tL 86 p (.newarray .int) 0)))) (tB 72 p (tB 79 p (tB 84 p (tB 85 p (tL 85 p (.iconst 4) 0) (tL 84 p (.aload_n 0) 0)) (tB 81 p (tL 81 p (.putfield 38) 9) (tL 79 p (.newarray .int) 0))) (tB 77 p (tB 78 p (tL 78 p (.iconst 4) 0) (tL 77 p (.aload_n 0) 0)) (tB 74 p (tL 74 p (.putfield 35) 8) (tL 72 p (.newarray .int) 0)))) (tB 65 p (tB 70 p (tB 71 p (tL 71 p (.iconst 4) 0) (tL 70 p (.aload_n 0) 0)) (tB 67 p (tL 67 p (.putfield 32) 7) (tL 65 p (.newarray .int) 0))) (tB 63 p (tB 64 p (tL 64 p (.iconst 4) 0) (tL 63 p (.aload_n 0) 0)) (tL 60 p (.putfield 29) 6))))) (tB 28 p (tB 42 p (tB 51 p (tB 55 p (tB 58 p (tL 58 p (.newarray .int) 0) (tL 55 p (.sipush 128) 0)) (tB 54 p (tL 54 p (.aload_n 0) 0) (tL 51 p (.putfield 26) 5))) (tB 46 p (tB 49 p (tL 49 p (.newarray .int) 0) (tL 46 p (.sipush 128) 0)) (tB 45 p (tL 45 p (.aload_n 0) 0) (tL 42 p (.putfield 23) 4)))) (tB 33 p (tB 37 p (tB 40 p (tL 40 p (.newarray .int) 0) (tL 37 p (.sipush 128) 0)) (tB 36 p (tL 36 p (.aload_n 0) 0) (tL 33 p (.putfield 20) 3))) (tB 29 p (tB 31 p (tL 31 p (.newarray .int) 0) (tL 29 p (.bipush 10) 0)) (tL 28 p (.aload_n 0) 0)))) (tB 13 p (tB 20 p (tB 23 p (tB 25 p (tL 25 p (.putfield 17) 2) (tL 23 p (.newarray .int) 0)) (tB 21 p (tL 21 p (.bipush 64) 0) (tL 20 p (.aload_n 0) 0))) (tB 15 p (tB 17 p (tL 17 p (.putfield 13) 1) (tL 15 p (.newarray .boolean) 0)) (tL 13 p (.bipush 32) 0))) (tB 5 p (tB 9 p (tB 12 p (tL 12 p (.aload_n 0) 0) (tL 9 p (.putfield 7) 0)) (tB 7 p (tL 7 p (.newarray .int) 0) (tL 5 p (.bipush 32) 0))) (tB 1 p (tB 4 p (tL 4 p (.aload_n 0) 0) (tL 1 p (.invokespecial 1) 0)) (tL 0 p (.aload_n 0) 0)))))))
set_option maxHeartbeats 4000000 in
def cd3 (p : Nat) : Option (Instr × Nat) := (tB 8 p (tB 13 p (tB 14 p (tB 15 p (tL 15 p .ireturn 0) (tL 14 p (.iload_n 1) 0)) (tL 13 p .ireturn 0)) (tB 9 p (tB 12 p (tL 12 p (.iload_n 3) 0) (tL 9 p (.if_icmp .le 5) 14)) (tL 8 p (.iload_n 3) 0))) (tB 5 p (tB 6 p (tB 7 p (tL 7 p (.iload_n 1) 0) (tL 6 p .ireturn 0)) (tL 5 p (.iload_n 2) 0)) (tB 1 p (tB 2 p (tL 2 p (.if_icmp .ge 5) 7) (tL 1 p (.iload_n 2) 0)) (tL 0 p (.iload_n 1) 0))))
set_option maxHeartbeats 4000000 in
def cd4 (p : Nat) : Option (Instr × Nat) := (tB 1 p (tB 4 p (tL 4 p .ireturn 0) (tL 1 p (.invokevirtual 105) 5)) (tL 0 p (.aload_n 0) 0))
set_option maxHeartbeats 4000000 in
def cd5 (p : Nat) : Option (Instr × Nat) := (tB 4 p (tB 5 p (tB 6 p (tL 6 p .ireturn 0) (tL 5 p .isub 0)) (tL 4 p (.iconst 1) 0)) (tB 1 p (tL 1 p (.getfield 85) 23) (tL 0 p (.aload_n 0) 0)))
set_option maxHeartbeats 4000000 in
def cd6 (p : Nat) : Option (Instr × Nat) := (tB 1 p (tB 4 p (tL 4 p .ireturn 0) (tL 1 p (.invokevirtual 109) 7)) (tL 0 p (.aload_n 0) 0))
set_option maxHeartbeats 4000000 in
def cd7 (p : Nat) : Option (Instr × Nat) := (tB 10 p (tB 15 p (tB 16 p (tB 17 p (tL 17 p .ireturn 0) (tL 16 p (.iload_n 1) 0)) (tL 15 p .ireturn 0)) (tB 11 p (tB 14 p (tL 14 p (.iconst 0) 0) (tL 11 p (.ifCond .ge 5) 16)) (tL 10 p (.iload_n 1) 0))) (tB 5 p (tB 8 p (tB 9 p (tL 9 p (.istore_n 1) 0) (tL 8 p .isub 0)) (tL 5 p (.getfield 72) 19)) (tB 1 p (tB 4 p (tL 4 p (.aload_n 0) 0) (tL 1 p (.getfield 85) 23)) (tL 0 p (.aload_n 0) 0))))
set_option maxHeartbeats 4000000 in
def cd8 (p : Nat) : Option (Instr × Nat) := (tB 56 p (tB 82 p (tB 96 p (tB 105 p (tB 107 p (tB 108 p (tB 110 p (tL 110 p .ireturn 0) (tL 108 p (.bipush (-2)) 0)) (tL 107 p .ireturn 0)) (tB 106 p (tL 106 p .iaload 0) (tL 105 p (.iload_n 1) 0))) (tB 101 p (tB 102 p (tL 102 p (.getfield 47) 12) (tL 101 p (.aload_n 0) 0)) (tB 98 p (tL 98 p (.if_icmp .ne 10) 108) (tL 96 p (.bipush 7) 0)))) (tB 89 p (tB 93 p (tB 94 p (tB 95 p (tL 95 p (.iload_n 2) 0) (tL 94 p .ireturn 0)) (tL 93 p .iaload 0)) (tB 92 p (tL 92 p (.iload_n 1) 0) (tL 89 p (.getfield 44) 11))) (tB 85 p (tB 88 p (tL 88 p (.aload_n 0) 0) (tL 85 p (.if_icmp .ne 10) 95)) (tB 83 p (tL 83 p (.bipush 6) 0) (tL 82 p (.iload_n 2) 0))))) (tB 69 p (tB 75 p (tB 79 p (tB 80 p (tB 81 p (tL 81 p .ireturn 0) (tL 80 p .iaload 0)) (tL 79 p (.iload_n 1) 0)) (tB 76 p (tL 76 p (.getfield 41) 10) (tL 75 p (.aload_n 0) 0))) (tB 71 p (tB 72 p (tL 72 p (.if_icmp .ne 10) 82) (tL 71 p (.iconst 5) 0)) (tB 70 p (tL 70 p (.iload_n 2) 0) (tL 69 p .ireturn 0)))) (tB 60 p (tB 64 p (tB 67 p (tB 68 p (tL 68 p .iaload 0) (tL 67 p (.iload_n 1) 0)) (tL 64 p (.getfield 62) 17)) (tB 63 p (tL 63 p (.aload_n 0) 0) (tL 60 p (.if_icmp .ne 10) 70))) (tB 58 p (tB 59 p (tL 59 p (.iconst 4) 0) (tL 58 p (.iload_n 2) 0)) (tB 57 p (tL 57 p .ireturn 0) (tL 56 p .iaload 0)))))) (tB 28 p (tB 43 p (tB 47 p (tB 51 p (tB 52 p (tB 55 p (tL 55 p (.iload_n 1) 0) (tL 52 p (.getfield 56) 15)) (tL 51 p (.aload_n 0) 0)) (tB 48 p (tL 48 p (.if_icmp .ne 10) 58) (tL 47 p (.iconst 3) 0))) (tB 45 p (tB 46 p (tL 46 p (.iload_n 2) 0) (tL 45 p .ireturn 0)) (tB 44 p (tL 44 p .iaload 0) (tL 43 p (.iload_n 1) 0)))) (tB 34 p (tB 36 p (tB 39 p (tB 40 p (tL 40 p (.getfield 38) 9) (tL 39 p (.aload_n 0) 0)) (tL 36 p (.if_icmp .ne 10) 46)) (tB 35 p (tL 35 p (.iconst 2) 0) (tL 34 p (.iload_n 2) 0))) (tB 32 p (tB 33 p (tL 33 p .ireturn 0) (tL 32 p .iaload 0)) (tB 31 p (tL 31 p (.iload_n 1) 0) (tL 28 p (.getfield 35) 8))))) (tB 15 p (tB 21 p (tB 23 p (tB 24 p (tB 27 p (tL 27 p (.aload_n 0) 0) (tL 24 p (.if_icmp .ne 10) 34)) (tL 23 p (.iconst 1) 0)) (tB 22 p (tL 22 p (.iload_n 2) 0) (tL 21 p .ireturn 0))) (tB 19 p (tB 20 p (tL 20 p .iaload 0) (tL 19 p (.iload_n 1) 0)) (tB 16 p (tL 16 p (.getfield 32) 7) (tL 15 p (.aload_n 0) 0)))) (tB 8 p (tB 11 p (tB 12 p (tL 12 p (.ifCond .ne 10) 22) (tL 11 p (.iload_n 2) 0)) (tB 10 p (tL 10 p .ireturn 0) (tL 8 p (.bipush (-2)) 0))) (tB 2 p (tB 5 p (tL 5 p (.ifCond .ne 6) 11) (tL 2 p (.invokevirtual 92) 9)) (tB 1 p (tL 1 p (.iload_n 1) 0) (tL 0 p (.aload_n 0) 0)))))))
set_option maxHeartbeats 4000000 in
def cd9 (p : Nat) : Option (Instr × Nat) := (tB 6 p (tB 10 p (tB 13 p (tB 14 p (tL 14 p .ireturn 0) (tL 13 p (.iconst 0) 0)) (tL 10 p (.goto 4) 14)) (tB 9 p (tL 9 p (.iconst 1) 0) (tL 6 p (.if_icmp .ge 7) 13))) (tB 4 p (tB 5 p (tL 5 p (.iconst 4) 0) (tL 4 p (.iload_n 1) 0)) (tB 1 p (tL 1 p (.ifCond .lt 12) 13) (tL 0 p (.iload_n 1) 0))))
set_option maxHeartbeats 4000000 in
def cd10 (p : Nat) : Option (Instr × Nat) := (tB 9 p (tB 12 p (tB 14 p (tB 17 p (tL 17 p .return_ 0) (tL 14 p (.invokevirtual 88) 11)) (tB 13 p (tL 13 p (.iconst 0) 0) (tL 12 p (.iconst 0) 0))) (tB 10 p (tB 11 p (tL 11 p (.iconst 2) 0) (tL 10 p (.aload_n 0) 0)) (tL 9 p .iastore 0))) (tB 5 p (tB 7 p (tB 8 p (tL 8 p .iadd 0) (tL 7 p (.iconst 1) 0)) (tB 6 p (tL 6 p .iaload 0) (tL 5 p .dup2 0))) (tB 1 p (tB 4 p (tL 4 p (.iconst 3) 0) (tL 1 p (.getfield 20) 3)) (tL 0 p (.aload_n 0) 0))))
set_option maxHeartbeats 4000000 in
def cd11 (p : Nat) : Option (Instr × Nat) := (tB 23 p (tB 34 p (tB 39 p (tB 45 p (tB 48 p (tL 48 p .return_ 0) (tL 45 p (.goto (-22)) 23)) (tB 42 p (tL 42 p (.iinc 6 1) 0) (tL 39 p (.invokevirtual 121) 13))) (tB 35 p (tB 37 p (tL 37 p (.iload 5) 0) (tL 35 p (.iload 4) 0)) (tL 34 p (.iload_n 3) 0))) (tB 29 p (tB 32 p (tB 33 p (tL 33 p (.iload_n 2) 0) (tL 32 p (.iload_n 1) 0)) (tB 30 p (tL 30 p (.iload 6) 0) (tL 29 p (.aload_n 0) 0))) (tB 25 p (tB 26 p (tL 26 p (.if_icmp .ge 22) 48) (tL 25 p (.iconst 4) 0)) (tL 23 p (.iload 6) 0)))) (tB 12 p (tB 15 p (tB 20 p (tB 21 p (tL 21 p (.istore 6) 0) (tL 20 p (.iconst 0) 0)) (tB 17 p (tL 17 p (.invokevirtual 118) 12) (tL 15 p (.iload 5) 0))) (tB 13 p (tB 14 p (tL 14 p (.iload_n 2) 0) (tL 13 p (.iload_n 1) 0)) (tL 12 p (.aload_n 0) 0))) (tB 6 p (tB 7 p (tB 10 p (tL 10 p (.istore 5) 0) (tL 7 p (.invokevirtual 109) 7)) (tL 6 p (.aload_n 0) 0)) (tB 1 p (tB 4 p (tL 4 p (.istore 4) 0) (tL 1 p (.invokevirtual 105) 5)) (tL 0 p (.aload_n 0) 0)))))
set_option maxHeartbeats 4000000 in
def cd12 (p : Nat) : Option (Instr × Nat) := (tB 23 p (tB 37 p (tB 43 p (tB 47 p (tB 50 p (tL 50 p .return_ 0) (tL 47 p (.goto (-24)) 23)) (tB 44 p (tL 44 p (.iinc 4 1) 0) (tL 43 p .bastore 0))) (tB 40 p (tB 42 p (tL 42 p (.iconst 0) 0) (tL 40 p (.iload 4) 0)) (tL 37 p (.getfield 13) 1))) (tB 29 p (tB 33 p (tB 36 p (tL 36 p (.aload_n 0) 0) (tL 33 p (.if_icmp .ge 17) 50)) (tB 31 p (tL 31 p (.bipush 32) 0) (tL 29 p (.iload 4) 0))) (tB 25 p (tB 26 p (tL 26 p (.if_icmp .ge 24) 50) (tL 25 p (.iload_n 3) 0)) (tL 23 p (.iload 4) 0)))) (tB 13 p (tB 18 p (tB 20 p (tB 21 p (tL 21 p (.istore 4) 0) (tL 20 p (.iconst 0) 0)) (tB 19 p (tL 19 p .bastore 0) (tL 18 p (.iconst 0) 0))) (tB 14 p (tB 17 p (tL 17 p (.iload_n 2) 0) (tL 14 p (.getfield 13) 1)) (tL 13 p (.aload_n 0) 0))) (tB 5 p (tB 7 p (tB 10 p (tL 10 p (.ifCond .eq 10) 20) (tL 7 p (.invokevirtual 115) 19)) (tB 6 p (tL 6 p (.iload_n 2) 0) (tL 5 p (.aload_n 0) 0))) (tB 1 p (tB 2 p (tL 2 p (.if_icmp .ne 18) 20) (tL 1 p (.iconst 1) 0)) (tL 0 p (.iload_n 1) 0)))))
set_option maxHeartbeats 4000000 in
def cd13 (p : Nat) : Option (Instr × Nat) := (tB 42 p (tB 71 p (tB 85 p (tB 93 p (tB 95 p (tB 98 p (tL 98 p .return_ 0) (tL 95 p (.invokevirtual 140) 35)) (tB 94 p (tL 94 p (.iload_n 3) 0) (tL 93 p (.iload_n 1) 0))) (tB 89 p (tB 92 p (tL 92 p (.aload_n 0) 0) (tL 89 p (.goto 9) 98)) (tB 86 p (tL 86 p (.invokevirtual 136) 16) (tL 85 p (.iload_n 1) 0)))) (tB 78 p (tB 81 p (tB 84 p (tL 84 p (.aload_n 0) 0) (tL 81 p (.invokevirtual 133) 15)) (tB 79 p (tL 79 p (.iload 6) 0) (tL 78 p (.iload_n 1) 0))) (tB 74 p (tB 77 p (tL 77 p (.aload_n 0) 0) (tL 74 p (.invokevirtual 129) 14)) (tB 72 p (tL 72 p (.iload 5) 0) (tL 71 p (.iload_n 1) 0))))) (tB 55 p (tB 65 p (tB 67 p (tB 70 p (tL 70 p (.aload_n 0) 0) (tL 67 p (.if_icmp .ne 25) 92)) (tB 66 p (tL 66 p (.iconst 2) 0) (tL 65 p (.iload_n 2) 0))) (tB 59 p (tB 62 p (tL 62 p (.goto 36) 98) (tL 59 p (.invokevirtual 125) 18)) (tB 57 p (tL 57 p (.iload 6) 0) (tL 55 p (.iload 5) 0)))) (tB 50 p (tB 52 p (tB 53 p (tL 53 p (.iload 4) 0) (tL 52 p (.iload_n 3) 0)) (tB 51 p (tL 51 p (.iload_n 1) 0) (tL 50 p (.aload_n 0) 0))) (tB 46 p (tB 47 p (tL 47 p (.if_icmp .ne 18) 65) (tL 46 p (.iconst 1) 0)) (tB 45 p (tL 45 p (.iload_n 2) 0) (tL 42 p (.ifCond .eq 8) 50)))))) (tB 23 p (tB 33 p (tB 38 p (tB 40 p (tB 41 p (tL 41 p (.iload_n 2) 0) (tL 40 p .return_ 0)) (tB 39 p (tL 39 p .iastore 0) (tL 38 p .iadd 0))) (tB 36 p (tB 37 p (tL 37 p (.iconst 1) 0) (tL 36 p .iaload 0)) (tB 35 p (tL 35 p .dup2 0) (tL 33 p (.bipush 9) 0)))) (tB 27 p (tB 29 p (tB 30 p (tL 30 p (.getfield 20) 3) (tL 29 p (.aload_n 0) 0)) (tB 28 p (tL 28 p .iastore 0) (tL 27 p .iadd 0))) (tB 25 p (tB 26 p (tL 26 p (.iconst 1) 0) (tL 25 p .iaload 0)) (tB 24 p (tL 24 p .dup2 0) (tL 23 p (.iload_n 1) 0))))) (tB 13 p (tB 17 p (tB 19 p (tB 20 p (tL 20 p (.getfield 47) 12) (tL 19 p (.aload_n 0) 0)) (tB 18 p (tL 18 p .iastore 0) (tL 17 p .isub 0))) (tB 15 p (tB 16 p (tL 16 p (.iconst 1) 0) (tL 15 p .iaload 0)) (tB 14 p (tL 14 p .dup2 0) (tL 13 p (.iload_n 1) 0)))) (tB 5 p (tB 9 p (tB 10 p (tL 10 p (.getfield 41) 10) (tL 9 p (.aload_n 0) 0)) (tB 6 p (tL 6 p (.ifCond .le 35) 41) (tL 5 p .iaload 0))) (tB 1 p (tB 4 p (tL 4 p (.iload_n 1) 0) (tL 1 p (.getfield 41) 10)) (tL 0 p (.aload_n 0) 0))))))
set_option maxHeartbeats 4000000 in
def cd14 (p : Nat) : Option (Instr × Nat) := (tB 46 p (tB 70 p (tB 83 p (tB 90 p (tB 92 p (tB 93 p (tL 93 p .return_ 0) (tL 92 p .iastore 0)) (tB 91 p (tL 91 p (.iload_n 2) 0) (tL 90 p (.iload_n 1) 0))) (tB 86 p (tB 87 p (tL 87 p (.getfield 35) 8) (tL 86 p (.aload_n 0) 0)) (tL 83 p (.if_icmp .le 10) 93))) (tB 77 p (tB 81 p (tB 82 p (tL 82 p .iaload 0) (tL 81 p (.iload_n 1) 0)) (tB 78 p (tL 78 p (.getfield 35) 8) (tL 77 p (.aload_n 0) 0))) (tB 73 p (tB 76 p (tL 76 p (.iload_n 2) 0) (tL 73 p (.goto (-55)) 18)) (tL 70 p (.iinc 4 1) 0)))) (tB 58 p (tB 64 p (tB 66 p (tB 69 p (tL 69 p .iastore 0) (tL 66 p (.invokevirtual 146) 32)) (tB 65 p (tL 65 p (.iload_n 1) 0) (tL 64 p (.aload_n 0) 0))) (tB 59 p (tB 62 p (tL 62 p (.iload 5) 0) (tL 59 p (.getfield 26) 5)) (tL 58 p (.aload_n 0) 0))) (tB 51 p (tB 56 p (tB 57 p (tL 57 p .iastore 0) (tL 56 p (.iconst 1) 0)) (tB 54 p (tL 54 p (.iload 5) 0) (tL 51 p (.getfield 23) 4))) (tB 47 p (tB 50 p (tL 50 p (.aload_n 0) 0) (tL 47 p (.ifCond .ne 23) 70)) (tL 46 p .iaload 0))))) (tB 20 p (tB 34 p (tB 38 p (tB 41 p (tB 44 p (tL 44 p (.iload 5) 0) (tL 41 p (.getfield 23) 4)) (tB 40 p (tL 40 p (.aload_n 0) 0) (tL 38 p (.istore 5) 0))) (tB 35 p (tB 37 p (tL 37 p .iadd 0) (tL 35 p (.iload 4) 0)) (tL 34 p .imul 0))) (tB 26 p (tB 31 p (tB 32 p (tL 32 p (.bipush 32) 0) (tL 31 p (.iload_n 1) 0)) (tB 28 p (tL 28 p (.if_icmp .ge 48) 76) (tL 26 p (.bipush 32) 0))) (tB 21 p (tB 24 p (tL 24 p (.iload 4) 0) (tL 21 p (.if_icmp .gt 55) 76)) (tL 20 p (.iload_n 2) 0)))) (tB 9 p (tB 14 p (tB 16 p (tB 18 p (tL 18 p (.iload 4) 0) (tL 16 p (.istore 4) 0)) (tB 15 p (tL 15 p (.iload_n 3) 0) (tL 14 p (.istore_n 3) 0))) (tB 10 p (tB 13 p (tL 13 p (.iconst 0) 0) (tL 10 p (.ifCond .ge 5) 15)) (tL 9 p (.iload_n 3) 0))) (tB 5 p (tB 7 p (tB 8 p (tL 8 p (.istore_n 3) 0) (tL 7 p .iadd 0)) (tB 6 p (tL 6 p (.iconst 1) 0) (tL 5 p .iaload 0))) (tB 1 p (tB 4 p (tL 4 p (.iload_n 1) 0) (tL 1 p (.getfield 35) 8)) (tL 0 p (.aload_n 0) 0))))))
set_option maxHeartbeats 4000000 in
def cd15 (p : Nat) : Option (Instr × Nat) := (tB 53 p (tB 84 p (tB 99 p (tB 103 p (tB 108 p (tB 111 p (tB 114 p (tL 114 p .return_ 0) (tL 111 p (.goto (-77)) 34)) (tL 108 p (.iinc 4 1) 0)) (tB 105 p (tL 105 p (.invokevirtual 150) 36) (tL 103 p (.iload 4) 0))) (tB 101 p (tB 102 p (tL 102 p (.iload_n 1) 0) (tL 101 p (.aload_n 0) 0)) (tB 100 p (tL 100 p .iastore 0) (tL 99 p (.iconst 0) 0)))) (tB 92 p (tB 94 p (tB 97 p (tL 97 p (.iload 5) 0) (tL 94 p (.getfield 26) 5)) (tB 93 p (tL 93 p (.aload_n 0) 0) (tL 92 p .iastore 0))) (tB 88 p (tB 90 p (tL 90 p (.bipush 6) 0) (tL 88 p (.iload 5) 0)) (tB 85 p (tL 85 p (.getfield 23) 4) (tL 84 p (.aload_n 0) 0))))) (tB 67 p (tB 74 p (tB 79 p (tB 81 p (tL 81 p (.if_icmp .eq 27) 108) (tL 79 p (.bipush 6) 0)) (tB 77 p (tL 77 p (.iload 6) 0) (tL 74 p (.if_icmp .eq 34) 108))) (tB 71 p (tB 73 p (tL 73 p (.iconst 5) 0) (tL 71 p (.iload 6) 0)) (tB 68 p (tL 68 p (.if_icmp .eq 40) 108) (tL 67 p (.iconst 4) 0)))) (tB 60 p (tB 63 p (tB 65 p (tL 65 p (.iload 6) 0) (tL 63 p (.istore 6) 0)) (tB 62 p (tL 62 p .iaload 0) (tL 60 p (.iload 5) 0))) (tB 56 p (tB 57 p (tL 57 p (.getfield 23) 4) (tL 56 p (.aload_n 0) 0)) (tB 54 p (tL 54 p (.istore 5) 0) (tL 53 p .iadd 0)))))) (tB 24 p (tB 36 p (tB 44 p (tB 48 p (tB 50 p (tB 51 p (tL 51 p (.iload 4) 0) (tL 50 p .imul 0)) (tL 48 p (.bipush 32) 0)) (tB 47 p (tL 47 p (.iload_n 1) 0) (tL 44 p (.if_icmp .ge 70) 114))) (tB 40 p (tB 42 p (tL 42 p (.bipush 32) 0) (tL 40 p (.iload 4) 0)) (tB 37 p (tL 37 p (.if_icmp .ge 77) 114) (tL 36 p (.iload_n 2) 0)))) (tB 30 p (tB 32 p (tB 34 p (tL 34 p (.iload 4) 0) (tL 32 p (.istore 4) 0)) (tB 31 p (tL 31 p (.iload_n 3) 0) (tL 30 p (.istore_n 3) 0))) (tB 26 p (tB 29 p (tL 29 p (.iconst 0) 0) (tL 26 p (.ifCond .ge 5) 31)) (tB 25 p (tL 25 p (.iload_n 3) 0) (tL 24 p (.istore_n 3) 0))))) (tB 12 p (tB 18 p (tB 22 p (tB 23 p (tL 23 p .iaload 0) (tL 22 p (.iload_n 1) 0)) (tB 19 p (tL 19 p (.getfield 32) 7) (tL 18 p (.aload_n 0) 0))) (tB 16 p (tB 17 p (tL 17 p .iastore 0) (tL 16 p (.iload_n 2) 0)) (tB 15 p (tL 15 p (.iload_n 1) 0) (tL 12 p (.getfield 38) 9)))) (tB 6 p (tB 10 p (tB 11 p (tL 11 p (.aload_n 0) 0) (tL 10 p .return_ 0)) (tB 7 p (tL 7 p (.if_icmp .gt 4) 11) (tL 6 p .iaload 0))) (tB 2 p (tB 5 p (tL 5 p (.iload_n 1) 0) (tL 2 p (.getfield 38) 9)) (tB 1 p (tL 1 p (.aload_n 0) 0) (tL 0 p (.iload_n 2) 0)))))))
set_option maxHeartbeats 4000000 in
def cd16 (p : Nat) : Option (Instr × Nat) := (tB 45 p (tB 67 p (tB 78 p (tB 81 p (tB 85 p (tB 88 p (tL 88 p .return_ 0) (tL 85 p (.goto (-78)) 7)) (tB 82 p (tL 82 p (.iinc 2 1) 0) (tL 81 p .iastore 0))) (tB 79 p (tB 80 p (tL 80 p .iadd 0) (tL 79 p (.iconst 1) 0)) (tL 78 p (.iload_n 2) 0))) (tB 72 p (tB 74 p (tB 77 p (tL 77 p (.iload_n 1) 0) (tL 74 p (.getfield 32) 7)) (tB 73 p (tL 73 p (.aload_n 0) 0) (tL 72 p .iastore 0))) (tB 70 p (tB 71 p (tL 71 p (.iconst 5) 0) (tL 70 p (.iload_n 3) 0)) (tL 67 p (.getfield 23) 4)))) (tB 56 p (tB 61 p (tB 63 p (tB 66 p (tL 66 p (.aload_n 0) 0) (tL 63 p (.invokevirtual 153) 20)) (tB 62 p (tL 62 p .iaload 0) (tL 61 p (.iload_n 3) 0))) (tB 57 p (tB 58 p (tL 58 p (.getfield 29) 6) (tL 57 p (.aload_n 0) 0)) (tL 56 p (.iload_n 2) 0))) (tB 51 p (tB 54 p (tB 55 p (tL 55 p (.iload_n 1) 0) (tL 54 p (.aload_n 0) 0)) (tL 51 p (.if_icmp .ne 22) 73)) (tB 48 p (tB 50 p (tL 50 p (.iconst 4) 0) (tL 48 p (.iload 4) 0)) (tL 45 p (.goto 43) 88))))) (tB 21 p (tB 30 p (tB 35 p (tB 40 p (tB 42 p (tL 42 p (.if_icmp .eq 6) 48) (tL 40 p (.bipush 6) 0)) (tB 38 p (tL 38 p (.iload 4) 0) (tL 35 p (.if_icmp .eq 13) 48))) (tB 32 p (tB 34 p (tL 34 p (.iconst 4) 0) (tL 32 p (.iload 4) 0)) (tL 30 p (.istore 4) 0))) (tB 24 p (tB 28 p (tB 29 p (tL 29 p .iaload 0) (tL 28 p (.iload_n 3) 0)) (tB 25 p (tL 25 p (.getfield 23) 4) (tL 24 p (.aload_n 0) 0))) (tB 22 p (tB 23 p (tL 23 p (.istore_n 3) 0) (tL 22 p .iadd 0)) (tL 21 p (.iload_n 2) 0)))) (tB 8 p (tB 14 p (tB 18 p (tB 20 p (tL 20 p .imul 0) (tL 18 p (.bipush 32) 0)) (tB 17 p (tL 17 p (.iload_n 1) 0) (tL 14 p (.if_icmp .ge 74) 88))) (tB 11 p (tB 12 p (tL 12 p (.bipush 32) 0) (tL 11 p (.iload_n 2) 0)) (tL 8 p (.ifCond .lt 80) 88))) (tB 5 p (tB 6 p (tB 7 p (tL 7 p (.iload_n 2) 0) (tL 6 p (.istore_n 2) 0)) (tL 5 p .iaload 0)) (tB 1 p (tB 4 p (tL 4 p (.iload_n 1) 0) (tL 1 p (.getfield 32) 7)) (tL 0 p (.aload_n 0) 0))))))
set_option maxHeartbeats 4000000 in
def cd17 (p : Nat) : Option (Instr × Nat) := (tB 36 p (tB 52 p (tB 57 p (tB 60 p (tB 63 p (tB 64 p (tL 64 p .ireturn 0) (tL 63 p (.iload_n 2) 0)) (tL 60 p (.invokevirtual 88) 11)) (tB 58 p (tB 59 p (tL 59 p (.iload_n 1) 0) (tL 58 p (.iload_n 2) 0)) (tL 57 p (.iconst 0) 0))) (tB 54 p (tB 55 p (tB 56 p (tL 56 p (.aload_n 0) 0) (tL 55 p .iastore 0)) (tL 54 p .iadd 0)) (tB 53 p (tL 53 p (.iconst 1) 0) (tL 52 p .iaload 0)))) (tB 43 p (tB 47 p (tB 50 p (tB 51 p (tL 51 p .dup2 0) (tL 50 p (.iconst 1) 0)) (tL 47 p (.getfield 20) 3)) (tB 46 p (tL 46 p (.aload_n 0) 0) (tL 43 p (.putfield 85) 23))) (tB 38 p (tB 41 p (tB 42 p (tL 42 p .iadd 0) (tL 41 p (.iconst 1) 0)) (tL 38 p (.getfield 85) 23)) (tB 37 p (tL 37 p (.aload_n 0) 0) (tL 36 p (.aload_n 0) 0))))) (tB 19 p (tB 28 p (tB 33 p (tB 34 p (tB 35 p (tL 35 p .iastore 0) (tL 34 p (.iload_n 1) 0)) (tL 33 p (.iload_n 2) 0)) (tB 29 p (tB 30 p (tL 30 p (.getfield 7) 0) (tL 29 p (.aload_n 0) 0)) (tL 28 p (.istore_n 2) 0))) (tB 23 p (tB 24 p (tB 25 p (tL 25 p (.getfield 85) 23) (tL 24 p (.aload_n 0) 0)) (tL 23 p .ireturn 0)) (tB 22 p (tL 22 p (.iconst (-1)) 0) (tL 19 p (.if_icmp .lt 5) 24)))) (tB 11 p (tB 13 p (tB 14 p (tB 17 p (tL 17 p (.bipush 32) 0) (tL 14 p (.getfield 85) 23)) (tL 13 p (.aload_n 0) 0)) (tB 12 p (tL 12 p .ireturn 0) (tL 11 p (.iconst (-1)) 0))) (tB 4 p (tB 5 p (tB 8 p (tL 8 p (.if_icmp .le 5) 13) (tL 5 p (.sipush 255) 0)) (tL 4 p (.iload_n 1) 0)) (tB 1 p (tL 1 p (.ifCond .lt 10) 11) (tL 0 p (.iload_n 1) 0))))))
set_option maxHeartbeats 4000000 in
def cd18 (p : Nat) : Option (Instr × Nat) := (tB 51 p (tB 73 p (tB 83 p (tB 90 p (tB 92 p (tB 95 p (tL 95 p .return_ 0) (tL 92 p (.invokevirtual 136) 16)) (tB 91 p (tL 91 p (.iload_n 1) 0) (tL 90 p (.aload_n 0) 0))) (tB 85 p (tB 87 p (tL 87 p (.invokevirtual 133) 15) (tL 85 p (.iload 5) 0)) (tB 84 p (tL 84 p (.iload_n 1) 0) (tL 83 p (.aload_n 0) 0)))) (tB 76 p (tB 78 p (tB 80 p (tL 80 p (.invokevirtual 129) 14) (tL 78 p (.iload 4) 0)) (tB 77 p (tL 77 p (.iload_n 1) 0) (tL 76 p (.aload_n 0) 0))) (tB 74 p (tB 75 p (tL 75 p .iastore 0) (tL 74 p .iadd 0)) (tL 73 p (.iconst 1) 0)))) (tB 62 p (tB 67 p (tB 71 p (tB 72 p (tL 72 p .iaload 0) (tL 71 p .dup2 0)) (tB 70 p (tL 70 p (.iload_n 1) 0) (tL 67 p (.getfield 44) 11))) (tB 63 p (tB 66 p (tL 66 p (.aload_n 0) 0) (tL 63 p (.goto 13) 76)) (tL 62 p .iastore 0))) (tB 55 p (tB 59 p (tB 61 p (tL 61 p (.iconst 0) 0) (tL 59 p (.iload 6) 0)) (tB 56 p (tL 56 p (.getfield 26) 5) (tL 55 p (.aload_n 0) 0))) (tB 53 p (tB 54 p (tL 54 p .iastore 0) (tL 53 p (.iload_n 3) 0)) (tL 51 p (.iload 6) 0))))) (tB 23 p (tB 39 p (tB 45 p (tB 47 p (tB 48 p (tL 48 p (.getfield 29) 6) (tL 47 p (.aload_n 0) 0)) (tB 46 p (tL 46 p .iastore 0) (tL 45 p (.iconst 4) 0))) (tB 40 p (tB 43 p (tL 43 p (.iload 6) 0) (tL 40 p (.getfield 23) 4)) (tL 39 p (.aload_n 0) 0))) (tB 30 p (tB 33 p (tB 36 p (tL 36 p (.ifCond .eq 30) 66) (tL 33 p (.invokevirtual 143) 29)) (tB 31 p (tL 31 p (.iload 7) 0) (tL 30 p (.aload_n 0) 0))) (tB 25 p (tB 27 p (tL 27 p (.ifCond .eq 12) 39) (tL 25 p (.iload 7) 0)) (tL 23 p (.istore 7) 0)))) (tB 12 p (tB 16 p (tB 20 p (tB 22 p (tL 22 p .iaload 0) (tL 20 p (.iload 6) 0)) (tB 17 p (tL 17 p (.getfield 23) 4) (tL 16 p (.aload_n 0) 0))) (tB 13 p (tB 14 p (tL 14 p (.istore 6) 0) (tL 13 p .iadd 0)) (tL 12 p (.iload_n 2) 0))) (tB 5 p (tB 9 p (tB 11 p (tL 11 p .imul 0) (tL 9 p (.bipush 32) 0)) (tB 8 p (tL 8 p (.iload_n 1) 0) (tL 5 p (.ifCond .eq 71) 76))) (tB 1 p (tB 2 p (tL 2 p (.invokevirtual 115) 19) (tL 1 p (.iload_n 2) 0)) (tL 0 p (.aload_n 0) 0))))))
set_option maxHeartbeats 4000000 in
def cd19 (p : Nat) : Option (Instr × Nat) := (tB 7 p (tB 11 p (tB 14 p (tB 15 p (tL 15 p .ireturn 0) (tL 14 p (.iconst 0) 0)) (tL 11 p (.goto 4) 15)) (tB 10 p (tL 10 p (.iconst 1) 0) (tL 7 p (.if_icmp .ge 7) 14))) (tB 4 p (tB 5 p (tL 5 p (.bipush 32) 0) (tL 4 p (.iload_n 1) 0)) (tB 1 p (tL 1 p (.ifCond .lt 13) 14) (tL 0 p (.iload_n 1) 0))))
set_option maxHeartbeats 4000000 in
def cd20 (p : Nat) : Option (Instr × Nat) := (tB 28 p (tB 40 p (tB 46 p (tB 48 p (tB 49 p (tB 50 p (tL 50 p .return_ 0) (tL 49 p .iastore 0)) (tL 48 p .iadd 0)) (tB 47 p (tL 47 p (.iconst 1) 0) (tL 46 p .iaload 0))) (tB 44 p (tB 45 p (tL 45 p .dup2 0) (tL 44 p (.iload_n 1) 0)) (tB 41 p (tL 41 p (.getfield 56) 15) (tL 40 p (.aload_n 0) 0)))) (tB 33 p (tB 38 p (tB 39 p (tL 39 p .iastore 0) (tL 38 p (.iload_n 3) 0)) (tB 36 p (tL 36 p (.iload 4) 0) (tL 33 p (.getfield 53) 14))) (tB 31 p (tB 32 p (tL 32 p (.aload_n 0) 0) (tL 31 p .iastore 0)) (tB 30 p (tL 30 p (.iload_n 2) 0) (tL 28 p (.iload 4) 0))))) (tB 14 p (tB 20 p (tB 22 p (tB 24 p (tB 25 p (tL 25 p (.getfield 50) 13) (tL 24 p (.aload_n 0) 0)) (tL 22 p (.istore 4) 0)) (tB 21 p (tL 21 p .iadd 0) (tL 20 p .iaload 0))) (tB 16 p (tB 19 p (tL 19 p (.iload_n 1) 0) (tL 16 p (.getfield 56) 15)) (tB 15 p (tL 15 p (.aload_n 0) 0) (tL 14 p .imul 0)))) (tB 6 p (tB 11 p (tB 12 p (tL 12 p (.bipush 32) 0) (tL 11 p (.iload_n 1) 0)) (tB 8 p (tL 8 p (.if_icmp .ge 42) 50) (tL 6 p (.bipush 32) 0))) (tB 4 p (tB 5 p (tL 5 p .iaload 0) (tL 4 p (.iload_n 1) 0)) (tB 1 p (tL 1 p (.getfield 56) 15) (tL 0 p (.aload_n 0) 0))))))
set_option maxHeartbeats 4000000 in
def cd21 (p : Nat) : Option (Instr × Nat) := (tB 16 p (tB 25 p (tB 29 p (tB 30 p (tB 31 p (tL 31 p .lreturn 0) (tL 30 p .lor 0)) (tL 29 p .lshl 0)) (tB 26 p (tB 27 p (tL 27 p (.iload 4) 0) (tL 26 p .i2l 0)) (tL 25 p .iand 0))) (tB 20 p (tB 21 p (tB 22 p (tL 22 p (.sipush 255) 0) (tL 21 p (.iload_n 3) 0)) (tL 20 p .land 0)) (tB 19 p (tL 19 p .lxor 0) (tL 16 p (.ldc2_w 9) 1)))) (tB 7 p (tB 10 p (tB 13 p (tB 15 p (tL 15 p .lshl 0) (tL 13 p (.iload 4) 0)) (tL 10 p (.ldc2_w 7) 0)) (tB 9 p (tL 9 p (.lload_n 0) 0) (tL 7 p (.istore 4) 0))) (tB 3 p (tB 4 p (tB 6 p (tL 6 p .imul 0) (tL 4 p (.bipush 8) 0)) (tL 3 p .iand 0)) (tB 1 p (tL 1 p (.bipush 7) 0) (tL 0 p (.iload_n 2) 0)))))
set_option maxHeartbeats 4000000 in
def cd22 (p : Nat) : Option (Instr × Nat) := (tB 19 p (tB 29 p (tB 33 p (tB 34 p (tB 35 p (tL 35 p .ireturn 0) (tL 34 p .iaload 0)) (tL 33 p .iadd 0)) (tB 31 p (tB 32 p (tL 32 p (.iload_n 2) 0) (tL 31 p .imul 0)) (tL 29 p (.bipush 32) 0))) (tB 24 p (tB 25 p (tB 28 p (tL 28 p (.iload_n 1) 0) (tL 25 p (.getfield 50) 13)) (tL 24 p (.aload_n 0) 0)) (tB 22 p (tB 23 p (tL 23 p .ireturn 0) (tL 22 p (.iconst (-1)) 0)) (tL 19 p (.if_icmp .lt 5) 24)))) (tB 9 p (tB 14 p (tB 17 p (tB 18 p (tL 18 p .iaload 0) (tL 17 p (.iload_n 1) 0)) (tL 14 p (.getfield 56) 15)) (tB 12 p (tB 13 p (tL 13 p (.aload_n 0) 0) (tL 12 p (.iload_n 2) 0)) (tL 9 p (.ifCond .lt 13) 22))) (tB 2 p (tB 5 p (tB 8 p (tL 8 p (.iload_n 2) 0) (tL 5 p (.ifCond .eq 17) 22)) (tL 2 p (.invokevirtual 92) 9)) (tB 1 p (tL 1 p (.iload_n 1) 0) (tL 0 p (.aload_n 0) 0)))))
set_option maxHeartbeats 4000000 in
def cd23 (p : Nat) : Option (Instr × Nat) := (tB 19 p (tB 29 p (tB 33 p (tB 34 p (tB 35 p (tL 35 p .ireturn 0) (tL 34 p .iaload 0)) (tL 33 p .iadd 0)) (tB 31 p (tB 32 p (tL 32 p (.iload_n 2) 0) (tL 31 p .imul 0)) (tL 29 p (.bipush 32) 0))) (tB 24 p (tB 25 p (tB 28 p (tL 28 p (.iload_n 1) 0) (tL 25 p (.getfield 53) 14)) (tL 24 p (.aload_n 0) 0)) (tB 22 p (tB 23 p (tL 23 p .ireturn 0) (tL 22 p (.iconst (-1)) 0)) (tL 19 p (.if_icmp .lt 5) 24)))) (tB 9 p (tB 14 p (tB 17 p (tB 18 p (tL 18 p .iaload 0) (tL 17 p (.iload_n 1) 0)) (tL 14 p (.getfield 56) 15)) (tB 12 p (tB 13 p (tL 13 p (.aload_n 0) 0) (tL 12 p (.iload_n 2) 0)) (tL 9 p (.ifCond .lt 13) 22))) (tB 2 p (tB 5 p (tB 8 p (tL 8 p (.iload_n 2) 0) (tL 5 p (.ifCond .eq 17) 22)) (tL 2 p (.invokevirtual 92) 9)) (tB 1 p (tL 1 p (.iload_n 1) 0) (tL 0 p (.aload_n 0) 0)))))
set_option maxHeartbeats 4000000 in
def cd24 (p : Nat) : Option (Instr × Nat) := (tB 8 p (tB 11 p (tB 15 p (tB 16 p (tL 16 p .ireturn 0) (tL 15 p .l2i 0)) (tB 14 p (tL 14 p .land 0) (tL 11 p (.ldc2_w 7) 0))) (tB 9 p (tB 10 p (tL 10 p .lushr 0) (tL 9 p (.iload_n 3) 0)) (tL 8 p (.lload_n 0) 0))) (tB 4 p (tB 6 p (tB 7 p (tL 7 p (.istore_n 3) 0) (tL 6 p .imul 0)) (tL 4 p (.bipush 8) 0)) (tB 1 p (tB 3 p (tL 3 p .iand 0) (tL 1 p (.bipush 7) 0)) (tL 0 p (.iload_n 2) 0))))
set_option maxHeartbeats 4000000 in
def cd25 (p : Nat) : Option (Instr × Nat) := (tB 31 p (tB 45 p (tB 52 p (tB 56 p (tB 57 p (tB 60 p (tL 60 p .return_ 0) (tL 57 p (.invokevirtual 102) 30)) (tL 56 p (.aload_n 0) 0)) (tB 53 p (tL 53 p (.invokevirtual 99) 27) (tL 52 p (.aload_n 0) 0))) (tB 47 p (tB 48 p (tB 49 p (tL 49 p (.invokevirtual 88) 11) (tL 48 p (.iconst 0) 0)) (tL 47 p (.iconst 0) 0)) (tB 46 p (tL 46 p (.iconst 2) 0) (tL 45 p (.aload_n 0) 0)))) (tB 40 p (tB 42 p (tB 43 p (tB 44 p (tL 44 p .iastore 0) (tL 43 p .iadd 0)) (tL 42 p (.iconst 1) 0)) (tB 41 p (tL 41 p .iaload 0) (tL 40 p .dup2 0))) (tB 35 p (tB 36 p (tB 39 p (tL 39 p (.iconst 3) 0) (tL 36 p (.getfield 20) 3)) (tL 35 p (.aload_n 0) 0)) (tB 32 p (tL 32 p (.ifCond .ne 20) 52) (tL 31 p .irem 0))))) (tB 11 p (tB 22 p (tB 26 p (tB 27 p (tB 28 p (tL 28 p (.getfield 82) 22) (tL 27 p (.aload_n 0) 0)) (tL 26 p .iaload 0)) (tB 25 p (tL 25 p (.iconst 0) 0) (tL 22 p (.getfield 20) 3))) (tB 15 p (tB 18 p (tB 21 p (tL 21 p (.aload_n 0) 0) (tL 18 p (.ifCond .le 34) 52)) (tL 15 p (.getfield 82) 22)) (tB 14 p (tL 14 p (.aload_n 0) 0) (tL 11 p (.invokevirtual 96) 26)))) (tB 6 p (tB 8 p (tB 9 p (tB 10 p (tL 10 p (.aload_n 0) 0) (tL 9 p .iastore 0)) (tL 8 p .iadd 0)) (tB 7 p (tL 7 p (.iconst 1) 0) (tL 6 p .iaload 0))) (tB 4 p (tB 5 p (tL 5 p .dup2 0) (tL 4 p (.iconst 0) 0)) (tB 1 p (tL 1 p (.getfield 20) 3) (tL 0 p (.aload_n 0) 0))))))
set_option maxHeartbeats 4000000 in
def cd26 (p : Nat) : Option (Instr × Nat) := (tB 53 p (tB 78 p (tB 86 p (tB 96 p (tB 98 p (tB 101 p (tL 101 p .return_ 0) (tL 98 p (.putfield 112) 24)) (tB 97 p (tL 97 p (.iconst 0) 0) (tL 96 p (.aload_n 0) 0))) (tB 90 p (tB 93 p (tL 93 p (.goto (-86)) 7) (tL 90 p (.iinc 2 1) 0)) (tB 87 p (tL 87 p (.invokevirtual 88) 11) (tL 86 p (.iconst 0) 0)))) (tB 82 p (tB 84 p (tB 85 p (tL 85 p (.iconst 0) 0) (tL 84 p (.iconst 2) 0)) (tB 83 p (tL 83 p (.aload_n 0) 0) (tL 82 p .iastore 0))) (tB 80 p (tB 81 p (tL 81 p .iadd 0) (tL 80 p (.iconst 1) 0)) (tB 79 p (tL 79 p .iaload 0) (tL 78 p .dup2 0))))) (tB 63 p (tB 70 p (tB 74 p (tB 77 p (tL 77 p (.iconst 3) 0) (tL 74 p (.getfield 20) 3)) (tB 73 p (tL 73 p (.aload_n 0) 0) (tL 70 p (.goto 20) 90))) (tB 65 p (tB 67 p (tL 67 p (.invokevirtual 88) 11) (tL 65 p (.iload 4) 0)) (tB 64 p (tL 64 p (.iload_n 3) 0) (tL 63 p (.iconst 1) 0)))) (tB 59 p (tB 61 p (tB 62 p (tL 62 p (.aload_n 0) 0) (tL 61 p .iastore 0)) (tB 60 p (tL 60 p .iadd 0) (tL 59 p (.iconst 1) 0))) (tB 57 p (tB 58 p (tL 58 p .iaload 0) (tL 57 p .dup2 0)) (tB 56 p (tL 56 p (.iconst 2) 0) (tL 53 p (.getfield 20) 3)))))) (tB 27 p (tB 38 p (tB 48 p (tB 50 p (tB 52 p (tL 52 p (.aload_n 0) 0) (tL 50 p (.istore 4) 0)) (tB 49 p (tL 49 p .iaload 0) (tL 48 p (.iload_n 3) 0))) (tB 44 p (tB 45 p (tL 45 p (.getfield 7) 0) (tL 44 p (.aload_n 0) 0)) (tB 41 p (tL 41 p (.ifCond .eq 11) 52) (tL 38 p (.invokevirtual 115) 19)))) (tB 33 p (tB 36 p (tB 37 p (tL 37 p (.iload_n 3) 0) (tL 36 p (.aload_n 0) 0)) (tB 34 p (tL 34 p (.istore 4) 0) (tL 33 p (.iconst 0) 0))) (tB 29 p (tB 30 p (tL 30 p (.if_icmp .lt 43) 73) (tL 29 p (.iload_n 1) 0)) (tB 28 p (tL 28 p (.iload_n 3) 0) (tL 27 p (.istore_n 3) 0))))) (tB 12 p (tB 21 p (tB 25 p (tB 26 p (tL 26 p .iaload 0) (tL 25 p (.iload_n 2) 0)) (tB 22 p (tL 22 p (.getfield 17) 2) (tL 21 p (.aload_n 0) 0))) (tB 16 p (tB 18 p (tL 18 p (.if_icmp .ge 78) 96) (tL 16 p (.bipush 64) 0)) (tB 15 p (tL 15 p (.iload_n 2) 0) (tL 12 p (.if_icmp .ge 84) 96)))) (tB 6 p (tB 8 p (tB 9 p (tL 9 p (.getfield 112) 24) (tL 8 p (.aload_n 0) 0)) (tB 7 p (tL 7 p (.iload_n 2) 0) (tL 6 p (.istore_n 2) 0))) (tB 4 p (tB 5 p (tL 5 p (.iconst 0) 0) (tL 4 p (.istore_n 1) 0)) (tB 1 p (tL 1 p (.invokevirtual 109) 7) (tL 0 p (.aload_n 0) 0)))))))
set_option maxHeartbeats 4000000 in
def cd27 (p : Nat) : Option (Instr × Nat) := (tB 15 p (tB 23 p (tB 32 p (tB 35 p (tB 38 p (tL 38 p .return_ 0) (tL 35 p (.goto (-28)) 7)) (tL 32 p (.iinc 1 1) 0)) (tB 26 p (tB 29 p (tL 29 p (.goto (-15)) 14) (tL 26 p (.iinc 2 1) 0)) (tL 23 p (.invokevirtual 159) 28))) (tB 20 p (tB 21 p (tB 22 p (tL 22 p (.iload_n 2) 0) (tL 21 p (.iload_n 1) 0)) (tL 20 p (.aload_n 0) 0)) (tB 17 p (tL 17 p (.if_icmp .ge 15) 32) (tL 15 p (.bipush 32) 0)))) (tB 7 p (tB 12 p (tB 13 p (tB 14 p (tL 14 p (.iload_n 2) 0) (tL 13 p (.istore_n 2) 0)) (tL 12 p (.iconst 0) 0)) (tB 8 p (tB 9 p (tL 9 p (.if_icmp .ge 29) 38) (tL 8 p (.iconst 4) 0)) (tL 7 p (.iload_n 1) 0))) (tB 2 p (tB 5 p (tB 6 p (tL 6 p (.istore_n 1) 0) (tL 5 p (.iconst 0) 0)) (tL 2 p (.putfield 156) 25)) (tB 1 p (tL 1 p (.iconst 0) 0) (tL 0 p (.aload_n 0) 0)))))
set_option maxHeartbeats 4000000 in
def cd28 (p : Nat) : Option (Instr × Nat) := (tB 66 p (tB 103 p (tB 119 p (tB 126 p (tB 129 p (tB 132 p (tB 133 p (tL 133 p .return_ 0) (tL 132 p .iastore 0)) (tL 129 p (.invokevirtual 146) 32)) (tB 127 p (tB 128 p (tL 128 p (.iload_n 1) 0) (tL 127 p (.aload_n 0) 0)) (tL 126 p (.iload_n 3) 0))) (tB 121 p (tB 122 p (tB 123 p (tL 123 p (.getfield 26) 5) (tL 122 p (.aload_n 0) 0)) (tL 121 p .iastore 0)) (tB 120 p (tL 120 p (.iconst 1) 0) (tL 119 p (.iload_n 3) 0)))) (tB 110 p (tB 112 p (tB 115 p (tB 116 p (tL 116 p (.getfield 23) 4) (tL 115 p (.aload_n 0) 0)) (tL 112 p (.goto 21) 133)) (tB 111 p (tL 111 p .iastore 0) (tL 110 p .iadd 0))) (tB 107 p (tB 108 p (tB 109 p (tL 109 p (.iconst 1) 0) (tL 108 p .iaload 0)) (tL 107 p .dup2 0)) (tB 106 p (tL 106 p (.iconst 4) 0) (tL 103 p (.getfield 20) 3))))) (tB 86 p (tB 93 p (tB 98 p (tB 99 p (tB 102 p (tL 102 p (.aload_n 0) 0) (tL 99 p (.putfield 156) 25)) (tL 98 p .iadd 0)) (tB 94 p (tB 97 p (tL 97 p (.iconst 1) 0) (tL 94 p (.getfield 156) 25)) (tL 93 p .dup 0))) (tB 90 p (tB 91 p (tB 92 p (tL 92 p (.aload_n 0) 0) (tL 91 p .iastore 0)) (tL 90 p (.iload_n 3) 0)) (tB 87 p (tL 87 p (.getfield 156) 25) (tL 86 p (.aload_n 0) 0)))) (tB 73 p (tB 79 p (tB 82 p (tB 83 p (tL 83 p (.getfield 65) 18) (tL 82 p (.aload_n 0) 0)) (tL 79 p (.if_icmp .ge 23) 102)) (tB 76 p (tL 76 p (.sipush 128) 0) (tL 73 p (.getfield 156) 25))) (tB 68 p (tB 71 p (tB 72 p (tL 72 p (.aload_n 0) 0) (tL 71 p .iastore 0)) (tL 68 p (.getfield 79) 21)) (tB 67 p (tL 67 p (.aload_n 0) 0) (tL 66 p (.iload_n 3) 0)))))) (tB 34 p (tB 48 p (tB 56 p (tB 61 p (tB 62 p (tB 63 p (tL 63 p (.getfield 26) 5) (tL 62 p (.aload_n 0) 0)) (tL 61 p .iastore 0)) (tB 59 p (tB 60 p (tL 60 p (.iconst 2) 0) (tL 59 p (.iload_n 3) 0)) (tL 56 p (.getfield 23) 4))) (tB 51 p (tB 52 p (tB 55 p (tL 55 p (.aload_n 0) 0) (tL 52 p (.if_icmp .ne 63) 115)) (tL 51 p (.iconst 1) 0)) (tB 49 p (tL 49 p (.iload 4) 0) (tL 48 p .return_ 0)))) (tB 39 p (tB 43 p (tB 44 p (tB 45 p (tL 45 p (.ifCond .eq 4) 49) (tL 44 p .iaload 0)) (tL 43 p (.iload_n 3) 0)) (tB 40 p (tL 40 p (.getfield 26) 5) (tL 39 p (.aload_n 0) 0))) (tB 36 p (tB 37 p (tB 38 p (tL 38 p .iastore 0) (tL 37 p .isub 0)) (tL 36 p (.iconst 1) 0)) (tB 35 p (tL 35 p .iaload 0) (tL 34 p (.iload_n 3) 0))))) (tB 13 p (tB 24 p (tB 29 p (tB 30 p (tB 31 p (tL 31 p (.getfield 26) 5) (tL 30 p (.aload_n 0) 0)) (tL 29 p (.iload_n 3) 0)) (tB 25 p (tB 26 p (tL 26 p (.getfield 26) 5) (tL 25 p (.aload_n 0) 0)) (tL 24 p .return_ 0))) (tB 16 p (tB 18 p (tB 21 p (tL 21 p (.ifCond .ne 4) 25) (tL 18 p (.invokevirtual 143) 29)) (tL 16 p (.iload 4) 0)) (tB 15 p (tL 15 p (.aload_n 0) 0) (tL 13 p (.istore 4) 0)))) (tB 6 p (tB 8 p (tB 11 p (tB 12 p (tL 12 p .iaload 0) (tL 11 p (.iload_n 3) 0)) (tL 8 p (.getfield 23) 4)) (tB 7 p (tL 7 p (.aload_n 0) 0) (tL 6 p (.istore_n 3) 0))) (tB 3 p (tB 4 p (tB 5 p (tL 5 p .iadd 0) (tL 4 p (.iload_n 2) 0)) (tL 3 p .imul 0)) (tB 1 p (tL 1 p (.bipush 32) 0) (tL 0 p (.iload_n 1) 0)))))))
set_option maxHeartbeats 4000000 in
def cd29 (p : Nat) : Option (Instr × Nat) := (tB 10 p (tB 15 p (tB 19 p (tB 20 p (tL 20 p .ireturn 0) (tL 19 p (.iconst 0) 0)) (tB 16 p (tL 16 p (.goto 4) 20) (tL 15 p (.iconst 1) 0))) (tB 11 p (tB 12 p (tL 12 p (.if_icmp .ne 7) 19) (tL 11 p (.iconst 3) 0)) (tL 10 p (.iload_n 1) 0))) (tB 5 p (tB 6 p (tB 7 p (tL 7 p (.if_icmp .eq 8) 15) (tL 6 p (.iconst 2) 0)) (tL 5 p (.iload_n 1) 0)) (tB 1 p (tB 2 p (tL 2 p (.if_icmp .eq 13) 15) (tL 1 p (.iconst 1) 0)) (tL 0 p (.iload_n 1) 0))))
set_option maxHeartbeats 4000000 in
def cd30 (p : Nat) : Option (Instr × Nat) := (tB 22 p (tB 29 p (tB 38 p (tB 40 p (tB 43 p (tL 43 p .return_ 0) (tL 40 p (.putfield 156) 25)) (tB 39 p (tL 39 p (.iconst 0) 0) (tL 38 p (.aload_n 0) 0))) (tB 32 p (tB 35 p (tL 35 p (.goto (-33)) 2) (tL 32 p (.iinc 1 1) 0)) (tL 29 p (.invokevirtual 162) 33))) (tB 26 p (tB 27 p (tB 28 p (tL 28 p (.iload_n 2) 0) (tL 27 p (.aload_n 0) 0)) (tL 26 p (.istore_n 2) 0)) (tB 23 p (tB 25 p (tL 25 p .irem 0) (tL 23 p (.bipush 32) 0)) (tL 22 p .iaload 0)))) (tB 10 p (tB 17 p (tB 18 p (tB 21 p (tL 21 p (.iload_n 1) 0) (tL 18 p (.getfield 65) 18)) (tL 17 p (.aload_n 0) 0)) (tB 11 p (tB 14 p (tL 14 p (.if_icmp .ge 24) 38) (tL 11 p (.sipush 128) 0)) (tL 10 p (.iload_n 1) 0))) (tB 3 p (tB 4 p (tB 7 p (tL 7 p (.if_icmp .ge 31) 38) (tL 4 p (.getfield 156) 25)) (tL 3 p (.aload_n 0) 0)) (tB 1 p (tB 2 p (tL 2 p (.iload_n 1) 0) (tL 1 p (.istore_n 1) 0)) (tL 0 p (.iconst 0) 0)))))
set_option maxHeartbeats 4000000 in
def cd31 (p : Nat) : Option (Instr × Nat) := (tB 14 p (tB 18 p (tB 24 p (tB 25 p (tB 26 p (tL 26 p .ireturn 0) (tL 25 p (.iconst 1) 0)) (tL 24 p .iastore 0)) (tB 21 p (tL 21 p (.invokevirtual 68) 3) (tL 18 p (.sipush 255) 0))) (tB 16 p (tB 17 p (tL 17 p (.iconst 0) 0) (tL 16 p (.iload_n 2) 0)) (tB 15 p (tL 15 p (.aload_n 0) 0) (tL 14 p (.iload_n 1) 0)))) (tB 8 p (tB 10 p (tB 11 p (tL 11 p (.getfield 41) 10) (tL 10 p (.aload_n 0) 0)) (tB 9 p (tL 9 p .ireturn 0) (tL 8 p (.iconst 0) 0))) (tB 2 p (tB 5 p (tL 5 p (.ifCond .ne 5) 10) (tL 2 p (.invokevirtual 92) 9)) (tB 1 p (tL 1 p (.iload_n 1) 0) (tL 0 p (.aload_n 0) 0)))))
set_option maxHeartbeats 4000000 in
def cd32 (p : Nat) : Option (Instr × Nat) := (tB 4 p (tB 5 p (tB 6 p (tL 6 p .ireturn 0) (tL 5 p .iadd 0)) (tL 4 p (.iload_n 1) 0)) (tB 1 p (tL 1 p (.getfield 76) 20) (tL 0 p (.aload_n 0) 0)))
set_option maxHeartbeats 4000000 in
def cd33 (p : Nat) : Option (Instr × Nat) := (tB 52 p (tB 75 p (tB 84 p (tB 91 p (tB 93 p (tB 94 p (tL 94 p .return_ 0) (tL 93 p .iastore 0)) (tB 92 p (tL 92 p .iadd 0) (tL 91 p (.iconst 1) 0))) (tB 89 p (tB 90 p (tL 90 p .iaload 0) (tL 89 p .dup2 0)) (tB 87 p (tL 87 p (.bipush 7) 0) (tL 84 p (.getfield 20) 3)))) (tB 78 p (tB 80 p (tB 83 p (tL 83 p (.aload_n 0) 0) (tL 80 p (.invokevirtual 165) 34)) (tB 79 p (tL 79 p (.iload_n 1) 0) (tL 78 p (.aload_n 0) 0))) (tB 76 p (tB 77 p (tL 77 p .iastore 0) (tL 76 p .iadd 0)) (tL 75 p (.iconst 1) 0)))) (tB 63 p (tB 69 p (tB 73 p (tB 74 p (tL 74 p .iaload 0) (tL 73 p .dup2 0)) (tB 72 p (tL 72 p (.iconst 5) 0) (tL 69 p (.getfield 20) 3))) (tB 65 p (tB 68 p (tL 68 p (.aload_n 0) 0) (tL 65 p (.putfield 112) 24)) (tB 64 p (tL 64 p .iadd 0) (tL 63 p (.iconst 1) 0)))) (tB 57 p (tB 59 p (tB 60 p (tL 60 p (.getfield 112) 24) (tL 59 p .dup 0)) (tB 58 p (tL 58 p (.aload_n 0) 0) (tL 57 p .iastore 0))) (tB 53 p (tB 56 p (tL 56 p (.iload_n 1) 0) (tL 53 p (.getfield 112) 24)) (tL 52 p (.aload_n 0) 0))))) (tB 26 p (tB 37 p (tB 43 p (tB 48 p (tB 49 p (tL 49 p (.getfield 17) 2) (tL 48 p (.aload_n 0) 0)) (tB 45 p (tL 45 p (.if_icmp .ge 23) 68) (tL 43 p (.bipush 64) 0))) (tB 39 p (tB 40 p (tL 40 p (.getfield 112) 24) (tL 39 p (.aload_n 0) 0)) (tB 38 p (tL 38 p .bastore 0) (tL 37 p (.iconst 1) 0)))) (tB 29 p (tB 33 p (tB 36 p (tL 36 p (.iload_n 1) 0) (tL 33 p (.getfield 13) 1)) (tB 32 p (tL 32 p (.aload_n 0) 0) (tL 29 p (.goto 49) 78))) (tB 27 p (tB 28 p (tL 28 p .iastore 0) (tL 27 p .iadd 0)) (tL 26 p (.iconst 1) 0)))) (tB 13 p (tB 19 p (tB 24 p (tB 25 p (tL 25 p .iaload 0) (tL 24 p .dup2 0)) (tB 22 p (tL 22 p (.bipush 6) 0) (tL 19 p (.getfield 20) 3))) (tB 15 p (tB 18 p (tL 18 p (.aload_n 0) 0) (tL 15 p (.ifCond .eq 17) 32)) (tB 14 p (tL 14 p .baload 0) (tL 13 p (.iload_n 1) 0)))) (tB 5 p (tB 9 p (tB 10 p (tL 10 p (.getfield 13) 1) (tL 9 p (.aload_n 0) 0)) (tB 8 p (tL 8 p .return_ 0) (tL 5 p (.ifCond .ne 4) 9))) (tB 1 p (tB 2 p (tL 2 p (.invokevirtual 115) 19) (tL 1 p (.iload_n 1) 0)) (tL 0 p (.aload_n 0) 0))))))
set_option maxHeartbeats 4000000 in
def cd34 (p : Nat) : Option (Instr × Nat) := (tB 10 p (tB 14 p (tB 20 p (tB 23 p (tL 23 p .return_ 0) (tL 20 p (.goto (-18)) 2)) (tB 17 p (tL 17 p (.iinc 2 1) 0) (tL 14 p (.invokevirtual 121) 13))) (tB 12 p (tB 13 p (tL 13 p (.iconst 0) 0) (tL 12 p (.iconst 0) 0)) (tB 11 p (tL 11 p (.iconst 0) 0) (tL 10 p (.iload_n 1) 0)))) (tB 4 p (tB 8 p (tB 9 p (tL 9 p (.iconst 3) 0) (tL 8 p (.iload_n 2) 0)) (tB 7 p (tL 7 p (.aload_n 0) 0) (tL 4 p (.if_icmp .ge 19) 23))) (tB 2 p (tB 3 p (tL 3 p (.iconst 4) 0) (tL 2 p (.iload_n 2) 0)) (tB 1 p (tL 1 p (.istore_n 2) 0) (tL 0 p (.iconst 0) 0)))))
set_option maxHeartbeats 4000000 in
def cd35 (p : Nat) : Option (Instr × Nat) := (tB 26 p (tB 41 p (tB 47 p (tB 49 p (tB 52 p (tB 53 p (tL 53 p .return_ 0) (tL 52 p .iastore 0)) (tL 49 p (.getfield 79) 21)) (tB 48 p (tL 48 p (.aload_n 0) 0) (tL 47 p (.iload_n 3) 0))) (tB 43 p (tB 44 p (tL 44 p (.getfield 26) 5) (tL 43 p (.aload_n 0) 0)) (tB 42 p (tL 42 p .iastore 0) (tL 41 p (.iconst 3) 0)))) (tB 33 p (tB 37 p (tB 40 p (tL 40 p (.iload_n 3) 0) (tL 37 p (.getfield 23) 4)) (tB 36 p (tL 36 p (.aload_n 0) 0) (tL 33 p (.if_icmp .ne 20) 53))) (tB 30 p (tB 32 p (tL 32 p (.iconst 2) 0) (tL 30 p (.iload 4) 0)) (tB 27 p (tL 27 p (.if_icmp .eq 9) 36) (tL 26 p (.iconst 1) 0))))) (tB 13 p (tB 17 p (tB 21 p (tB 22 p (tB 24 p (tL 24 p (.iload 4) 0) (tL 22 p (.istore 4) 0)) (tL 21 p .iaload 0)) (tB 20 p (tL 20 p (.iload_n 3) 0) (tL 17 p (.getfield 23) 4))) (tB 15 p (tB 16 p (tL 16 p (.aload_n 0) 0) (tL 15 p (.istore_n 3) 0)) (tB 14 p (tL 14 p .iadd 0) (tL 13 p (.iload_n 2) 0)))) (tB 8 p (tB 10 p (tB 12 p (tL 12 p .imul 0) (tL 10 p (.bipush 32) 0)) (tB 9 p (tL 9 p (.iload_n 1) 0) (tL 8 p .return_ 0))) (tB 2 p (tB 5 p (tL 5 p (.ifCond .ne 4) 9) (tL 2 p (.invokevirtual 115) 19)) (tB 1 p (tL 1 p (.iload_n 2) 0) (tL 0 p (.aload_n 0) 0))))))
set_option maxHeartbeats 4000000 in
def cd36 (p : Nat) : Option (Instr × Nat) := (tB 23 p (tB 32 p (tB 35 p (tB 37 p (tB 38 p (tL 38 p .return_ 0) (tL 37 p .iastore 0)) (tB 36 p (tL 36 p .iadd 0) (tL 35 p (.iconst 1) 0))) (tB 33 p (tB 34 p (tL 34 p .iaload 0) (tL 33 p .dup2 0)) (tL 32 p (.iload_n 1) 0))) (tB 26 p (tB 28 p (tB 29 p (tL 29 p (.getfield 62) 17) (tL 28 p (.aload_n 0) 0)) (tB 27 p (tL 27 p .iastore 0) (tL 26 p (.iload_n 2) 0))) (tB 24 p (tB 25 p (tL 25 p .iadd 0) (tL 24 p .iaload 0)) (tL 23 p (.iload_n 1) 0)))) (tB 11 p (tB 16 p (tB 19 p (tB 20 p (tL 20 p (.getfield 62) 17) (tL 19 p (.aload_n 0) 0)) (tB 18 p (tL 18 p .imul 0) (tL 16 p (.bipush 32) 0))) (tB 12 p (tB 15 p (tL 15 p (.iload_n 1) 0) (tL 12 p (.getfield 59) 16)) (tL 11 p (.aload_n 0) 0))) (tB 5 p (tB 6 p (tB 8 p (tL 8 p (.if_icmp .ge 30) 38) (tL 6 p (.bipush 32) 0)) (tL 5 p .iaload 0)) (tB 1 p (tB 4 p (tL 4 p (.iload_n 1) 0) (tL 1 p (.getfield 62) 17)) (tL 0 p (.aload_n 0) 0)))))
set_option maxHeartbeats 4000000 in
def cd37 (p : Nat) : Option (Instr × Nat) := (tB 19 p (tB 29 p (tB 33 p (tB 34 p (tB 35 p (tL 35 p .ireturn 0) (tL 34 p .iaload 0)) (tL 33 p .iadd 0)) (tB 31 p (tB 32 p (tL 32 p (.iload_n 2) 0) (tL 31 p .imul 0)) (tL 29 p (.bipush 32) 0))) (tB 24 p (tB 25 p (tB 28 p (tL 28 p (.iload_n 1) 0) (tL 25 p (.getfield 59) 16)) (tL 24 p (.aload_n 0) 0)) (tB 22 p (tB 23 p (tL 23 p .ireturn 0) (tL 22 p (.iconst (-1)) 0)) (tL 19 p (.if_icmp .lt 5) 24)))) (tB 9 p (tB 14 p (tB 17 p (tB 18 p (tL 18 p .iaload 0) (tL 17 p (.iload_n 1) 0)) (tL 14 p (.getfield 62) 17)) (tB 12 p (tB 13 p (tL 13 p (.aload_n 0) 0) (tL 12 p (.iload_n 2) 0)) (tL 9 p (.ifCond .lt 13) 22))) (tB 2 p (tB 5 p (tB 8 p (tL 8 p (.iload_n 2) 0) (tL 5 p (.ifCond .eq 17) 22)) (tL 2 p (.invokevirtual 92) 9)) (tB 1 p (tL 1 p (.iload_n 1) 0) (tL 0 p (.aload_n 0) 0)))))
def pCode (m pc : Nat) : Option (Instr × Nat) := bif Nat.ble pN m then none else bif Nat.ble (pTop m) pc then none else (bif Nat.ble 19 m then (bif Nat.ble 28 m then (bif Nat.ble 33 m then (bif Nat.ble 35 m then (bif Nat.ble 36 m then (bif Nat.ble 37 m then cd37 pc else cd36 pc) else cd35 pc) else (bif Nat.ble 34 m then cd34 pc else cd33 pc)) else (bif Nat.ble 30 m then (bif Nat.ble 31 m then (bif Nat.ble 32 m then cd32 pc else cd31 pc) else cd30 pc) else (bif Nat.ble 29 m then cd29 pc else cd28 pc))) else (bif Nat.ble 23 m then (bif Nat.ble 25 m then (bif Nat.ble 26 m then (bif Nat.ble 27 m then cd27 pc else cd26 pc) else cd25 pc) else (bif Nat.ble 24 m then cd24 pc else cd23 pc)) else (bif Nat.ble 21 m then (bif Nat.ble 22 m then cd22 pc else cd21 pc) else (bif Nat.ble 20 m then cd20 pc else cd19 pc)))) else (bif Nat.ble 9 m then (bif Nat.ble 14 m then (bif Nat.ble 16 m then (bif Nat.ble 17 m then (bif Nat.ble 18 m then cd18 pc else cd17 pc) else cd16 pc) else (bif Nat.ble 15 m then cd15 pc else cd14 pc)) else (bif Nat.ble 11 m then (bif Nat.ble 12 m then (bif Nat.ble 13 m then cd13 pc else cd12 pc) else cd11 pc) else (bif Nat.ble 10 m then cd10 pc else cd9 pc))) else (bif Nat.ble 4 m then (bif Nat.ble 6 m then (bif Nat.ble 7 m then (bif Nat.ble 8 m then cd8 pc else cd7 pc) else cd6 pc) else (bif Nat.ble 5 m then cd5 pc else cd4 pc)) else (bif Nat.ble 2 m then (bif Nat.ble 3 m then cd3 pc else cd2 pc) else (bif Nat.ble 1 m then cd1 pc else cd0 pc)))))
def lkF : List (Nat × Nat × Nat) := [(1, 7, 0), (1, 13, 1), (1, 17, 2), (1, 20, 3), (1, 23, 4), (1, 26, 5), (1, 29, 6), (1, 32, 7), (1, 35, 8), (1, 38, 9), (1, 41, 10), (1, 44, 11), (1, 47, 12), (1, 50, 13), (1, 53, 14), (1, 56, 15), (1, 59, 16), (1, 62, 17), (1, 65, 18), (1, 72, 19), (1, 76, 20), (1, 79, 21), (1, 82, 22), (1, 85, 23), (1, 112, 24), (1, 156, 25)]
def lkN : List (Nat × Nat) := [(0, 11)]
def lkC : List (Nat × Nat × Nat) := []
def lkD : List (Nat × Nat × Nat) := [(0, 7, 0), (0, 9, 1)]
def lkV : List (Nat × Nat × Nat) := [(0, 13, 1), (0, 19, 2), (1, 68, 3), (0, 40, 4), (1, 105, 5), (0, 44, 6), (1, 109, 7), (0, 47, 8), (1, 92, 9), (0, 30, 10), (1, 88, 11), (1, 118, 12), (1, 121, 13), (1, 129, 14), (1, 133, 15), (1, 136, 16), (0, 22, 17), (1, 125, 18), (1, 115, 19), (1, 153, 20), (0, 26, 21), (0, 51, 22), (0, 54, 23), (0, 57, 24), (0, 37, 25), (1, 96, 26), (1, 99, 27), (1, 159, 28), (1, 143, 29), (1, 102, 30), (0, 33, 31), (1, 146, 32), (1, 162, 33), (1, 165, 34), (1, 140, 35), (1, 150, 36), (0, 61, 37)]
def lkO : List (Nat × Nat) := [(1, 1)]
def mV : List Nat := [4, 6, 8, 10, 17, 22, 23, 25, 31, 37]
def mP : List Nat := [3, 5, 7, 9, 11, 12, 13, 14, 15, 16, 18, 19, 20, 26, 27, 28, 29, 30, 32, 33, 34, 35, 36]
def mS : List Nat := [1, 21, 24]
def mI : List Nat := [2]
def mA : List Nat := [1, 2, 3, 4, 5, 6, 7, 8, 9, 10, 11, 12, 13, 14, 15, 16, 17, 18, 19, 20, 21, 22, 23, 24, 25, 26, 27, 28, 29, 30, 31, 32, 33, 34, 35, 36, 37]
def aTys : List FieldType := [.int, .boolean]
abbrev QCell := List Value ⊕ ((FieldType × List Int32) ⊕ List Int64)
abbrev QHeap := List QCell
abbrev QLoc := List (Option Value)
abbrev vI (x : Int32) : Option Value := some (.int x)
abbrev vR (a : Addr) : Option Value := some (.ref a)
abbrev vL (x : Int64) : Option Value := some (.long x)
abbrev QSt := Nat × QLoc × List Value × QHeap
def qv (ad : Nat → Addr) : Value → Value
 | .ref k => .ref (ad k)
 | v => v
def qsz : QCell → Nat
 | .inl _ => cN
 | .inr (.inl x) => x.2.length
 | .inr (.inr x) => x.length
def qhs : QHeap → Nat
 | [] => 0
 | c :: t => qsz c + qhs t
def aget {α : Type} (xs : List α) (j : Int32) : Option α := if j < 0 then none else xs[j.toNatClampNeg]?
def aset {α : Type} (xs : List α) (j : Int32) (v : α) : Option (List α) := if j < 0 then none else if j.toNatClampNeg < xs.length then some (xs.set j.toNatClampNeg v) else none
def qnew (n : Int32) : Option Nat := if n < 0 then none else if n.toNatClampNeg ≤ 67108864 then some n.toNatClampNeg else none
def qdiv (x y : Int32) : Option Int32 := if y = 0 then none else some (x / y)
def qrem (x y : Int32) : Option Int32 := if y = 0 then none else some (x % y)
def qboo (x : Int32) : Option Int32 := if x = 0 then some x else if x = 1 then some x else none
def lget : QLoc → Nat → Option Value
 | [], _ => none
 | v :: _, 0 => v
 | _ :: t, k + 1 => lget t k
def hget : QHeap → Nat → Option QCell
 | [], _ => none
 | v :: _, 0 => some v
 | _ :: t, k + 1 => hget t k
def vget : List Value → Nat → Option Value
 | [], _ => none
 | v :: _, 0 => some v
 | _ :: t, k + 1 => vget t k
def lkill (L : QLoc) : Nat → QLoc
 | 0 => L
 | k + 1 => match lget L k with
  | some (.long _) => L.set k none
  | some (.double _) => L.set k none
  | _ => L
def lput (L : QLoc) (k : Nat) (v : Value) : Option QLoc :=
 match v with
 | .long x => bif Nat.ble (k + 2) L.length then some (((lkill L k).set k (some (.long x))).set (k + 1) none) else none
 | .double _ => none
 | v => bif Nat.ble (k + 1) L.length then some ((lkill L k).set k (some v)) else none
def qload (pc : Nat) (L : QLoc) (S : List Value) (σ : QHeap) (k : Nat) (ok : Value → Bool) : Option QSt :=
 match lget L k with
 | some v => bif ok v then some (pc, L, v :: S, σ) else none
 | none => none
def isI : Value → Bool | .int _ => true | _ => false
def isJ : Value → Bool | .long _ => true | _ => false
def isR : Value → Bool | .ref _ => true | _ => false
def qstore (pc : Nat) (L : QLoc) (S : List Value) (σ : QHeap) (k : Nat) (ok : Value → Bool) : Option QSt :=
 match S with
 | v :: S' => bif ok v then (match lput L k v with | some L' => some (pc, L', S', σ) | none => none) else none
 | [] => none
def qbin (pc : Nat) (L : QLoc) (S : List Value) (σ : QHeap) (f : Int32 → Int32 → Int32) : Option QSt :=
 match S with
 | .int y :: .int x :: S' => some (pc, L, .int (f x y) :: S', σ)
 | _ => none
def qbino (pc : Nat) (L : QLoc) (S : List Value) (σ : QHeap) (f : Int32 → Int32 → Option Int32) : Option QSt :=
 match S with
 | .int y :: .int x :: S' => (f x y).bind fun z => some (pc, L, .int z :: S', σ)
 | _ => none
def qbinJ (pc : Nat) (L : QLoc) (S : List Value) (σ : QHeap) (f : Int64 → Int64 → Int64) : Option QSt :=
 match S with
 | .long y :: .long x :: S' => some (pc, L, .long (f x y) :: S', σ)
 | _ => none
def qshJ (pc : Nat) (L : QLoc) (S : List Value) (σ : QHeap) (f : Int64 → Int32 → Int64) : Option QSt :=
 match S with
 | .int y :: .long x :: S' => some (pc, L, .long (f x y) :: S', σ)
 | _ => none
def quni (pc : Nat) (L : QLoc) (S : List Value) (σ : QHeap) (f : Int32 → Value) : Option QSt :=
 match S with
 | .int x :: S' => some (pc, L, f x :: S', σ)
 | _ => none
def quniJ (pc : Nat) (L : QLoc) (S : List Value) (σ : QHeap) (f : Int64 → Value) : Option QSt :=
 match S with
 | .long x :: S' => some (pc, L, f x :: S', σ)
 | _ => none
def qald (pc : Nat) (L : QLoc) (S : List Value) (σ : QHeap) (ok : FieldType → Bool) : Option QSt :=
 match S with
 | .int j :: .ref a :: S' => (match hget σ a with
  | some (.inr (.inl x)) => bif ok x.1 then (aget x.2 j).bind fun v => some (pc, L, .int v :: S', σ) else none
  | _ => none)
 | _ => none
def qaldJ (pc : Nat) (L : QLoc) (S : List Value) (σ : QHeap) : Option QSt :=
 match S with
 | .int j :: .ref a :: S' => (match hget σ a with
  | some (.inr (.inr x)) => (aget x j).bind fun v => some (pc, L, .long v :: S', σ)
  | _ => none)
 | _ => none
def qnar : FieldType → Int32 → Int32
 | .boolean, x => x &&& 1
 | .byte, x => x.toInt8.toInt32
 | _, x => x
def qast (pc : Nat) (L : QLoc) (S : List Value) (σ : QHeap) (ok : FieldType → Bool) : Option QSt :=
 match S with
 | .int v :: .int j :: .ref a :: S' => (match hget σ a with
  | some (.inr (.inl x)) => bif ok x.1 && Nat.ble k0 a then (aset x.2 j (qnar x.1 v)).bind fun y => some (pc, L, S', σ.set a (.inr (.inl (x.1, y)))) else none
  | _ => none)
 | _ => none
def qastJ (pc : Nat) (L : QLoc) (S : List Value) (σ : QHeap) : Option QSt :=
 match S with
 | .long v :: .int j :: .ref a :: S' => (match hget σ a with
  | some (.inr (.inr x)) => bif Nat.ble k0 a then (aset x j v).bind fun y => some (pc, L, S', σ.set a (.inr (.inr y))) else none
  | _ => none)
 | _ => none
def tyI : FieldType → Bool | .int => true | _ => false
def tyB : FieldType → Bool | .boolean => true | .byte => true | _ => false
def qfit : FieldType → Value → Option Value
 | .int, .int x => some (.int x)
 | .boolean, .int x => (qboo x).bind fun y => some (.int y)
 | .long, .long x => some (.long x)
 | .array t, .ref a => some (.ref a)
 | _, _ => none
def qget (pc : Nat) (L : QLoc) (S : List Value) (σ : QHeap) (k : Nat) : Option QSt :=
 match S with
 | .ref a :: S' => (match hget σ a with
  | some (.inl vs) => (match vget vs k with | some v => some (pc, L, v :: S', σ) | none => none)
  | _ => none)
 | _ => none
def qput (pc : Nat) (L : QLoc) (S : List Value) (σ : QHeap) (k : Nat) : Option QSt :=
 match S with
 | v :: .ref a :: S' => (match hget σ a with
  | some (.inl vs) => bif Nat.ble k0 a && Nat.ble (k + 1) vs.length then (qfit (fTy k) v).bind fun w => some (pc, L, S', σ.set a (.inl (vs.set k w))) else none
  | _ => none)
 | _ => none
def qnewA (pc : Nat) (L : QLoc) (S : List Value) (σ : QHeap) (t : ArrayType) : Option QSt :=
 match S with
 | .int n :: S' => (match t with
  | .int => (qnew n).bind fun k => some (pc, L, .ref σ.length :: S', σ ++ [.inr (.inl (.int, List.replicate k 0))])
  | .boolean => (qnew n).bind fun k => some (pc, L, .ref σ.length :: S', σ ++ [.inr (.inl (.boolean, List.replicate k 0))])
  | .byte => (qnew n).bind fun k => some (pc, L, .ref σ.length :: S', σ ++ [.inr (.inl (.byte, List.replicate k 0))])
  | .long => (qnew n).bind fun k => some (pc, L, .ref σ.length :: S', σ ++ [.inr (.inr (List.replicate k 0))])
  | _ => none)
 | _ => none
def qlen (pc : Nat) (L : QLoc) (S : List Value) (σ : QHeap) : Option QSt :=
 match S with
 | .ref a :: S' => (match hget σ a with
  | some (.inr (.inl x)) => some (pc, L, .int x.2.length.toInt32 :: S', σ)
  | some (.inr (.inr x)) => some (pc, L, .int x.length.toInt32 :: S', σ)
  | _ => none)
 | _ => none
def qdup (pc : Nat) (L : QLoc) (S : List Value) (σ : QHeap) : Option QSt :=
 match S with
 | .int x :: S' => some (pc, L, .int x :: .int x :: S', σ)
 | .ref x :: S' => some (pc, L, .ref x :: .ref x :: S', σ)
 | _ => none
def qdup2 (pc : Nat) (L : QLoc) (S : List Value) (σ : QHeap) : Option QSt :=
 match S with
 | .int x :: .ref y :: S' => some (pc, L, .int x :: .ref y :: .int x :: .ref y :: S', σ)
 | .int x :: .int y :: S' => some (pc, L, .int x :: .int y :: .int x :: .int y :: S', σ)
 | .long x :: S' => some (pc, L, .long x :: .long x :: S', σ)
 | _ => none
def qpop (pc : Nat) (L : QLoc) (S : List Value) (σ : QHeap) : Option QSt :=
 match S with
 | .int _ :: S' => some (pc, L, S', σ)
 | .ref _ :: S' => some (pc, L, S', σ)
 | _ => none
def qif (pc : Nat) (L : QLoc) (S : List Value) (σ : QHeap) (cd : ClassFile.Cond) (tgt : Nat) : Option QSt :=
 match S with
 | .int x :: S' => some (bif ifCond.holds cd x then tgt else pc, L, S', σ)
 | _ => none
def qicmp (pc : Nat) (L : QLoc) (S : List Value) (σ : QHeap) (cd : ClassFile.Cond) (tgt : Nat) : Option QSt :=
 match S with
 | .int y :: .int x :: S' => some (bif if_icmp.holds cd x y then tgt else pc, L, S', σ)
 | _ => none
def qinc (pc : Nat) (L : QLoc) (S : List Value) (σ : QHeap) (k : Nat) (i : Int) : Option QSt :=
 match lget L k with
 | some (.int x) => (match lput L k (.int (x + Int32.ofInt i)) with | some L' => some (pc, L', S, σ) | none => none)
 | _ => none
def qldc (pc : Nat) (L : QLoc) (S : List Value) (σ : QHeap) (k : Nat) : Option QSt :=
 match vget cK k with
 | some v => some (pc, L, v :: S, σ)
 | none => none
def qexec (pc : Nat) (L : QLoc) (S : List Value) (σ : QHeap) (aux : Nat) : Instr → Option QSt
 | .aload_n k => qload (pc + 1) L S σ k.val isR
 | .aload k => qload (pc + 2) L S σ k isR
 | .iload_n k => qload (pc + 1) L S σ k.val isI
 | .iload k => qload (pc + 2) L S σ k isI
 | .lload_n k => qload (pc + 1) L S σ k.val isJ
 | .lload k => qload (pc + 2) L S σ k isJ
 | .iconst i => some (pc + 1, L, .int (Int32.ofInt i) :: S, σ)
 | .bipush i => some (pc + 2, L, .int (Int8.ofInt i).toInt32 :: S, σ)
 | .sipush i => some (pc + 3, L, .int (Int16.ofInt i).toInt32 :: S, σ)
 | .lconst k => some (pc + 1, L, .long (Int64.ofNat k.val) :: S, σ)
 | .ldc _ => qldc (pc + 2) L S σ aux
 | .ldc2_w _ => qldc (pc + 3) L S σ aux
 | .istore_n k => qstore (pc + 1) L S σ k.val isI
 | .istore k => qstore (pc + 2) L S σ k isI
 | .lstore_n k => qstore (pc + 1) L S σ k.val isJ
 | .lstore k => qstore (pc + 2) L S σ k isJ
 | .astore_n k => qstore (pc + 1) L S σ k.val isR
 | .astore k => qstore (pc + 2) L S σ k isR
 | .iinc k i => qinc (pc + 3) L S σ k i
 | .iadd => qbin (pc + 1) L S σ fun x y => x + y
 | .isub => qbin (pc + 1) L S σ fun x y => x - y
 | .imul => qbin (pc + 1) L S σ fun x y => x * y
 | .iand => qbin (pc + 1) L S σ fun x y => x &&& y
 | .ior => qbin (pc + 1) L S σ fun x y => x ||| y
 | .ixor => qbin (pc + 1) L S σ fun x y => x ^^^ y
 | .ishl => qbin (pc + 1) L S σ fun x y => x <<< (y &&& 31)
 | .ishr => qbin (pc + 1) L S σ fun x y => x >>> (y &&& 31)
 | .iushr => qbin (pc + 1) L S σ fun x y => XT.ushr x y
 | .idiv => qbino (pc + 1) L S σ qdiv
 | .irem => qbino (pc + 1) L S σ qrem
 | .ineg => quni (pc + 1) L S σ fun x => .int (-x)
 | .i2l => quni (pc + 1) L S σ fun x => .long x.toInt64
 | .i2b => quni (pc + 1) L S σ fun x => .int x.toInt8.toInt32
 | .l2i => quniJ (pc + 1) L S σ fun x => .int x.toInt32
 | .lneg => quniJ (pc + 1) L S σ fun x => .long (-x)
 | .ladd => qbinJ (pc + 1) L S σ fun x y => x + y
 | .lsub => qbinJ (pc + 1) L S σ fun x y => x - y
 | .lmul => qbinJ (pc + 1) L S σ fun x y => x * y
 | .land => qbinJ (pc + 1) L S σ fun x y => x &&& y
 | .lor => qbinJ (pc + 1) L S σ fun x y => x ||| y
 | .lxor => qbinJ (pc + 1) L S σ fun x y => x ^^^ y
 | .lshl => qshJ (pc + 1) L S σ fun x y => x <<< (y.toInt64 &&& 63)
 | .lshr => qshJ (pc + 1) L S σ fun x y => x >>> (y.toInt64 &&& 63)
 | .lushr => qshJ (pc + 1) L S σ fun x y => XT.ushrL x y
 | .lcmp => (match S with
  | .long y :: .long x :: S' => some (pc + 1, L, .int (XT.cmpL x y) :: S', σ)
  | _ => none)
 | .goto _ => some (aux, L, S, σ)
 | .ifCond cd _ => qif (pc + 3) L S σ cd aux
 | .if_icmp cd _ => qicmp (pc + 3) L S σ cd aux
 | .dup => qdup (pc + 1) L S σ
 | .dup2 => qdup2 (pc + 1) L S σ
 | .pop => qpop (pc + 1) L S σ
 | .getfield _ => qget (pc + 3) L S σ aux
 | .putfield _ => qput (pc + 3) L S σ aux
 | .iaload => qald (pc + 1) L S σ tyI
 | .baload => qald (pc + 1) L S σ tyB
 | .laload => qaldJ (pc + 1) L S σ
 | .iastore => qast (pc + 1) L S σ tyI
 | .bastore => qast (pc + 1) L S σ tyB
 | .lastore => qastJ (pc + 1) L S σ
 | .arraylength => qlen (pc + 1) L S σ
 | .newarray t => qnewA (pc + 2) L S σ t
 | .new _ => some (pc + 3, L, .ref σ.length :: S, σ ++ [.inl cDef])
 | _ => none
def qstep (m : Nat) (st : QSt) : Option QSt :=
 match pCode m st.1 with
 | some (i, aux) => qexec st.1 st.2.1 st.2.2.1 st.2.2.2 aux i
 | none => none
def qsteps (m : Nat) : Nat → QSt → Option QSt
 | 0, st => some st
 | n + 1, st => match qstep m st with | some st' => qsteps m n st' | none => none
def qentry (args : List Value) (mx : Nat) : QLoc := (args.flatMap fun v => match v with | .long x => [some (.long x), none] | .double x => [some (.double x), none] | v => [some v]) ++ List.replicate (mx - (args.map fun v => v.category).sum) none
def ilen : Instr → Nat
 | .aload _ | .iload _ | .lload _ | .istore _ | .lstore _ | .astore _ | .bipush _ | .ldc _ | .newarray _ => 2
 | .sipush _ | .ldc2_w _ | .iinc _ _ | .goto _ | .ifCond _ _ | .if_icmp _ _ | .getfield _ | .putfield _ | .new _ | .invokevirtual _ | .invokespecial _ | .invokestatic _ => 3
 | _ => 1
def qtgt (pc : Nat) (o : Int) (aux : Nat) : Bool := decide (0 ≤ (pc : Int) + o) && decide (((pc : Int) + o).toNat = aux)
def qlk (m pc : Nat) (i : Instr) (aux : Nat) : Bool :=
 match i with
 | .goto o => qtgt pc o aux
 | .ifCond _ o => qtgt pc o aux
 | .if_icmp _ o => qtgt pc o aux
 | .getfield idx => lkF.contains (pK m, idx, aux)
 | .putfield idx => lkF.contains (pK m, idx, aux) && (!fFin aux || (pK m == 1 && pNm m == "<init>"))
 | .new idx => lkN.contains (pK m, idx)
 | .newarray t => aTys.contains (newarray.typeOf t)
 | .ldc idx => lkC.contains (pK m, idx, aux)
 | .ldc2_w idx => lkD.contains (pK m, idx, aux)
 | _ => true
def qchk (m pc : Nat) (i : Instr) (aux : Nat) : Bool := decide (decode (pBytes m) pc = .ok (i, ilen i)) && qlk m pc i aux
def QCellOk (Z : State) (ad : Nat → Addr) (h : Heap) (a : Addr) : QCell → Prop
 | .inl vs => Exa Z h a cName ∧ vs.length = nF ∧ ∀ (k : Nat) (v : Value), k < nF → vget vs k = some v → Fld Z h a cName (fNm k) (fDs k) (qv ad v)
 | .inr (.inl x) => ∃ c : Cell, Arr Z h a c x.1 ∧ c.slots = (x.2.map Value.int).toArray
 | .inr (.inr x) => ∃ c : Cell, Arr Z h a c .long ∧ c.slots = (x.map Value.long).toArray
def QAd (n0 : Nat) (ad : Nat → Addr) : Prop := (∀ k, k0 ≤ k → ad k = n0 + (k - k0)) ∧ ∀ i j, ad i = ad j → i = j
def QRep (Z : State) (n0 : Nat) (ad : Nat → Addr) (h : Heap) (σ : QHeap) : Prop := k0 ≤ σ.length ∧ h.size = n0 + (σ.length - k0) ∧ ∀ k c, hget σ k = some c → QCellOk Z ad h (ad k) c
def QLocOk (ad : Nat → Addr) (L : QLoc) (C : Array Slot) : Prop :=
 L.length = C.size ∧ (∀ k v, lget L k = some v → C[k]? = some (.val (qv ad v))) ∧ (∀ k w, C[k]? = some (.val w) → w.category = 2 → C[k + 1]? = some .second) ∧ ∀ k, C[k]? = some .second → ∃ j w, k = j + 1 ∧ C[j]? = some (.val w) ∧ w.category = 2
def QW (Z : State) (a0 : Array Value) : Prop :=
 (∀ t ∈ lkF, (Cond.fieldLink (kName t.1) t.2.1 cName (fNm t.2.2) (fDs t.2.2)).before a0 Z = true) ∧
 (∀ t ∈ lkN, (Cond.classLink (kName t.1) t.2 cName).before a0 Z = true) ∧
 (∀ t ∈ lkC, ∃ v, vget cK t.2.2 = some (.int v) ∧ (Cond.constant (kName t.1) t.2.1 v).before a0 Z = true) ∧
 (∀ t ∈ lkD, ∃ v, vget cK t.2.2 = some (.long v) ∧ (Cond.constantLong (kName t.1) t.2.1 v).before a0 Z = true) ∧
 (∀ t ∈ lkV, (Cond.methodLink (kName t.1) t.2.1 (pName t.2.2)).before a0 Z = true) ∧
 (∀ t ∈ lkO, (Cond.methodLink (kName t.1) t.2 Lib.objectInit).before a0 Z = true) ∧
 (∀ m ∈ mV, (Cond.declares (pName m)).before a0 Z = true ∧ (Cond.selects cName (pName m) (pName m)).before a0 Z = true ∧ (Cond.instanceMethod (pName m)).before a0 Z = true) ∧
 (∀ m ∈ mP, (Cond.instanceMethod (pName m)).before a0 Z = true ∧ (Cond.privateMethod (pName m)).before a0 Z = true) ∧
 (∀ m ∈ mS, (Cond.static (pName m)).before a0 Z = true) ∧
 (∀ m ∈ mI, (Cond.instanceMethod (pName m)).before a0 Z = true) ∧
 (∀ m ∈ mA, (Cond.code (pName m) (pBytes m) (pMaxL m) (pRet m)).before a0 Z = true ∧ (Cond.initialized (kName (pK m))).before a0 Z = true) ∧
 (Cond.instanceMethod Lib.objectInit).before a0 Z = true ∧ (Cond.code Lib.objectInit ⟨#[0xb1]⟩ 1 none).before a0 Z = true ∧
 (∀ k, k < nF → bif fFin k then (Cond.laysFinal cName cName (fNm k) (fDs k)).before a0 Z = true else (Cond.lays cName cName (fNm k) (fDs k)).before a0 Z = true) ∧
 (Cond.instantiable cName cN).before a0 Z = true ∧ (Cond.initialized cName).before a0 Z = true ∧
 ∀ ty ∈ aTys, (Cond.arrayClass ty).before a0 Z = true
section Words
variable {Z : State} {a0 : Array Value}
theorem qw_fl (W : QW Z a0) : ∀ t ∈ lkF, (Cond.fieldLink (kName t.1) t.2.1 cName (fNm t.2.2) (fDs t.2.2)).before a0 Z = true := W.1
theorem qw_nw (W : QW Z a0) : ∀ t ∈ lkN, (Cond.classLink (kName t.1) t.2 cName).before a0 Z = true := W.2.1
theorem qw_cI (W : QW Z a0) : ∀ t ∈ lkC, ∃ v, vget cK t.2.2 = some (.int v) ∧ (Cond.constant (kName t.1) t.2.1 v).before a0 Z = true := W.2.2.1
theorem qw_cJ (W : QW Z a0) : ∀ t ∈ lkD, ∃ v, vget cK t.2.2 = some (.long v) ∧ (Cond.constantLong (kName t.1) t.2.1 v).before a0 Z = true := W.2.2.2.1
theorem qw_ml (W : QW Z a0) : ∀ t ∈ lkV, (Cond.methodLink (kName t.1) t.2.1 (pName t.2.2)).before a0 Z = true := W.2.2.2.2.1
theorem qw_mo (W : QW Z a0) : ∀ t ∈ lkO, (Cond.methodLink (kName t.1) t.2 Lib.objectInit).before a0 Z = true := W.2.2.2.2.2.1
theorem qw_vi (W : QW Z a0) : ∀ m ∈ mV, (Cond.declares (pName m)).before a0 Z = true ∧ (Cond.selects cName (pName m) (pName m)).before a0 Z = true ∧ (Cond.instanceMethod (pName m)).before a0 Z = true := W.2.2.2.2.2.2.1
theorem qw_pr (W : QW Z a0) : ∀ m ∈ mP, (Cond.instanceMethod (pName m)).before a0 Z = true ∧ (Cond.privateMethod (pName m)).before a0 Z = true := W.2.2.2.2.2.2.2.1
theorem qw_st (W : QW Z a0) : ∀ m ∈ mS, (Cond.static (pName m)).before a0 Z = true := W.2.2.2.2.2.2.2.2.1
theorem qw_ini (W : QW Z a0) : ∀ m ∈ mI, (Cond.instanceMethod (pName m)).before a0 Z = true := W.2.2.2.2.2.2.2.2.2.1
theorem qw_cod (W : QW Z a0) : ∀ m ∈ mA, (Cond.code (pName m) (pBytes m) (pMaxL m) (pRet m)).before a0 Z = true ∧ (Cond.initialized (kName (pK m))).before a0 Z = true := W.2.2.2.2.2.2.2.2.2.2.1
theorem qw_oi (W : QW Z a0) : (Cond.instanceMethod Lib.objectInit).before a0 Z = true := W.2.2.2.2.2.2.2.2.2.2.2.1
theorem qw_oc (W : QW Z a0) : (Cond.code Lib.objectInit ⟨#[0xb1]⟩ 1 none).before a0 Z = true := W.2.2.2.2.2.2.2.2.2.2.2.2.1
theorem qw_lay (W : QW Z a0) : ∀ k, k < nF → bif fFin k then (Cond.laysFinal cName cName (fNm k) (fDs k)).before a0 Z = true else (Cond.lays cName cName (fNm k) (fDs k)).before a0 Z = true := W.2.2.2.2.2.2.2.2.2.2.2.2.2.1
theorem qw_inst (W : QW Z a0) : (Cond.instantiable cName cN).before a0 Z = true := W.2.2.2.2.2.2.2.2.2.2.2.2.2.2.1
theorem qw_init (W : QW Z a0) : (Cond.initialized cName).before a0 Z = true := W.2.2.2.2.2.2.2.2.2.2.2.2.2.2.2.1
theorem qw_arr (W : QW Z a0) : ∀ ty ∈ aTys, (Cond.arrayClass ty).before a0 Z = true := W.2.2.2.2.2.2.2.2.2.2.2.2.2.2.2.2
end Words
theorem hget_eq : ∀ (σ : QHeap) k, hget σ k = σ[k]?
 | [], _ => by simp [hget]
 | _ :: _, 0 => by simp [hget]
 | _ :: t, k + 1 => by simp [hget, hget_eq t k]
theorem vget_eq : ∀ (σ : List Value) k, vget σ k = σ[k]?
 | [], _ => by simp [vget]
 | _ :: _, 0 => by simp [vget]
 | _ :: t, k + 1 => by simp [vget, vget_eq t k]
theorem lget_eq : ∀ (L : QLoc) k, lget L k = (L[k]?).getD none
 | [], _ => by simp [lget]
 | _ :: _, 0 => by simp [lget]
 | _ :: t, k + 1 => by simp [lget, lget_eq t k]
theorem lget_lt {L : QLoc} {k : Nat} {v : Value} (h : lget L k = some v) : k < L.length := by
 rw [lget_eq] at h
 rcases Nat.lt_or_ge k L.length with q | q
 ·exact q
 ·simp [List.getElem?_eq_none q] at h
theorem lget_set {L : QLoc} {k j : Nat} {o : Option Value} (hk : k < L.length) : lget (L.set k o) j = if j = k then o else lget L j := by
 simp only [lget_eq, List.getElem?_set]
 by_cases e : k = j
 ·subst e; simp [hk]
 ·simp [e, Ne.symm e]
theorem qhs_app (σ τ : QHeap) : qhs (σ ++ τ) = qhs σ + qhs τ := by
 induction σ with
 | nil => simp [qhs]
 | cons c t ih => simp [qhs, ih, Nat.add_assoc]
theorem qhs_set {σ : QHeap} {k : Nat} {c d : QCell} (h : hget σ k = some c) (hs : qsz d = qsz c) : qhs (σ.set k d) = qhs σ := by
 induction σ generalizing k with
 | nil => simp [hget] at h
 | cons x t ih =>
  cases k with
  | zero => simp only [hget, Option.some.injEq] at h; subst h; simp [qhs, hs]
  | succ k => simp only [hget] at h; simp [qhs, ih h]
theorem hget_set {σ : QHeap} {k j : Nat} {c d : QCell} (h : hget σ k = some c) : hget (σ.set k d) j = if j = k then some d else hget σ j := by
 rw [hget_eq] at h
 have hk := (List.getElem?_eq_some_iff.mp h).1
 simp only [hget_eq, List.getElem?_set]
 by_cases e : k = j
 ·subst e; simp [hk]
 ·simp [e, Ne.symm e]
theorem lkill_len (L : QLoc) (k : Nat) : (lkill L k).length = L.length := by
 cases k with
 | zero => rfl
 | succ k => simp only [lkill]; split <;> simp
theorem lget_kill {L : QLoc} {k j : Nat} {v : Value} (h : lget (lkill L k) j = some v) : lget L j = some v ∧ (k = j + 1 → v.category ≠ 2) := by
 cases k with
 | zero => exact ⟨h, fun e => by omega⟩
 | succ k =>
  simp only [lkill] at h
  split at h
  ·rename_i x q
   rw [lget_set (lget_lt q)] at h
   split at h
   ·cases h
   ·rename_i ne; exact ⟨h, fun e => absurd (by omega) ne⟩
  ·rename_i x q
   rw [lget_set (lget_lt q)] at h
   split at h
   ·cases h
   ·rename_i ne; exact ⟨h, fun e => absurd (by omega) ne⟩
  ·rename_i q1 q2
   refine ⟨h, fun e hc => ?_⟩
   obtain rfl : j = k := by omega
   cases v with
   | long x => exact q1 _ h
   | double x => exact q2 _ h
   | _ => simp [Value.category] at hc
theorem qv_cat (ad : Nat → Addr) (v : Value) : (qv ad v).category = v.category := by cases v <;> rfl
def kA (C : Array Slot) (k j : Nat) : Prop := k = j + 1 ∧ C[k]? = some .second
def kB (C : Array Slot) (k j : Nat) : Prop := j = k + 1 ∧ ∃ u, C[k]? = some (.val u) ∧ u.category = 2
def kD (C : Array Slot) (k j : Nat) : Prop := j = k + 2 ∧ ∃ u, C[k + 1]? = some (.val u) ∧ u.category = 2
theorem set1_at {C D : Array Slot} {k : Nat} {w : Value} (hk : k < C.size) (hw : w.category = 1) (h : storeLocals C k w = some D) :
  D.size = C.size ∧ D[k]? = some (.val w) ∧ ∀ j, j ≠ k → (D[j]? = C[j]? ∧ ¬ kA C k j ∧ ¬ kB C k j) ∨ D[j]? = some .unset ∧ (kA C k j ∨ kB C k j) := by
 have hck : C[k]? = some C[k] := Array.getElem?_eq_getElem hk
 unfold storeLocals at h
 simp only [hck, Option.bind_eq_bind, Option.bind_some] at h
 have self : ∀ {E : Array Slot}, k < E.size → storeSelf E k w = some D → D = E.setIfInBounds k (.val w) := by
  intro E hE q
  simp only [storeSelf, setAt, hE, if_true, Option.bind_eq_bind, Option.bind_some, hw] at q
  simpa using q.symm
 split at h
 ·rename_i q
  have hk1 : k - 1 < C.size := by omega
  simp only [setAt, hk1, if_true, Option.bind_some] at h
  have e := self (by simpa using hk) h
  subst e
  refine ⟨by simp, by simp [hk], fun j hj => ?_⟩
  by_cases ej : k = j + 1
  ·refine Or.inr ⟨?_, Or.inl ⟨ej, by rw [hck, q]⟩⟩
   rw [Array.getElem?_setIfInBounds_ne (Ne.symm hj), show j = k - 1 by omega]
   simp [hk1]
  ·refine Or.inl ⟨?_, fun x => ej x.1, fun x => ?_⟩
   ·rw [Array.getElem?_setIfInBounds_ne (Ne.symm hj), Array.getElem?_setIfInBounds_ne (by omega)]
   ·obtain ⟨-, u, x1, -⟩ := x
    rw [hck, q] at x1; cases x1
 ·rename_i u q
  split at h
  ·rename_i hu
   by_cases hk1 : k + 1 < C.size
   ·simp only [setAt, hk1, if_true, Option.bind_some] at h
    have e := self (by simpa using hk) h
    subst e
    refine ⟨by simp, by simp [hk], fun j hj => ?_⟩
    by_cases ej : j = k + 1
    ·refine Or.inr ⟨?_, Or.inr ⟨ej, u, by rw [hck, q], hu⟩⟩
     rw [Array.getElem?_setIfInBounds_ne (Ne.symm hj), ej]
     simp [hk1]
    ·refine Or.inl ⟨?_, fun x => ?_, fun x => ej x.1⟩
     ·rw [Array.getElem?_setIfInBounds_ne (Ne.symm hj), Array.getElem?_setIfInBounds_ne (by omega)]
     ·obtain ⟨-, x1⟩ := x
      rw [hck, q] at x1; cases x1
   ·simp [setAt, hk1] at h
  ·rename_i hu
   have e := self hk h
   subst e
   refine ⟨by simp, by simp [hk], fun j hj => Or.inl ⟨Array.getElem?_setIfInBounds_ne (Ne.symm hj), fun x => ?_, fun x => ?_⟩⟩
   ·obtain ⟨-, x1⟩ := x
    rw [hck, q] at x1; cases x1
   ·obtain ⟨-, u', x1, x2⟩ := x
    rw [hck, q] at x1; cases x1; exact hu x2
 ·rename_i q
  have e := self hk h
  subst e
  refine ⟨by simp, by simp [hk], fun j hj => Or.inl ⟨Array.getElem?_setIfInBounds_ne (Ne.symm hj), fun x => ?_, fun x => ?_⟩⟩
  ·obtain ⟨-, x1⟩ := x
   rw [hck, q] at x1; cases x1
  ·obtain ⟨-, u', x1, x2⟩ := x
   rw [hck, q] at x1; cases x1
theorem set2_at {C D : Array Slot} {k : Nat} {w : Value} (hk : k + 1 < C.size) (hw : w.category = 2) (wf : ∀ k w, C[k]? = some (.val w) → w.category = 2 → C[k + 1]? = some .second) (h : storeLocals C k w = some D) :
  D.size = C.size ∧ D[k]? = some (.val w) ∧ D[k + 1]? = some .second ∧ ∀ j, j ≠ k → j ≠ k + 1 → (D[j]? = C[j]? ∧ ¬ kA C k j ∧ ¬ kD C k j) ∨ D[j]? = some .unset ∧ (kA C k j ∨ kD C k j) := by
 have hk0 : k < C.size := by omega
 have hck : C[k]? = some C[k] := Array.getElem?_eq_getElem hk0
 unfold storeLocals at h
 simp only [hck, Option.bind_eq_bind, Option.bind_some] at h
 have self : ∀ {E : Array Slot}, E.size = C.size → storeSelf E k w = some D → D.size = C.size ∧ D[k]? = some (.val w) ∧ D[k + 1]? = some .second ∧ ∀ j, j ≠ k → j ≠ k + 1 → (D[j]? = E[j]? ∧ ¬ kD E k j) ∨ D[j]? = some .unset ∧ kD E k j := by
  intro E hs q
  have h1 : k < E.size := by omega
  have h2 : k + 1 < E.size := by omega
  have h3 : (E.setIfInBounds k (.val w))[k + 1]? = some E[k + 1] := by rw [Array.getElem?_setIfInBounds_ne (by omega)]; exact Array.getElem?_eq_getElem h2
  simp only [storeSelf, setAt, h1, if_true, Option.bind_eq_bind, Option.bind_some, hw, h3] at q
  have plain : (¬ ∃ u, E[k + 1]? = some (.val u) ∧ u.category = 2) → some ((E.setIfInBounds k (.val w)).setIfInBounds (k + 1) .second) = some D → D.size = C.size ∧ D[k]? = some (.val w) ∧ D[k + 1]? = some .second ∧ ∀ j, j ≠ k → j ≠ k + 1 → (D[j]? = E[j]? ∧ ¬ kD E k j) ∨ D[j]? = some .unset ∧ kD E k j := by
   intro no q
   cases q
   refine ⟨by simp [hs], ?_, ?_, fun j hj hj1 => Or.inl ⟨?_, fun x => no x.2⟩⟩
   ·rw [Array.getElem?_setIfInBounds_ne (by omega)]; simp [h1]
   ·simp [h2]
   ·rw [Array.getElem?_setIfInBounds_ne (by omega), Array.getElem?_setIfInBounds_ne (by omega)]
  split at q
  ·rename_i u hu
   split at q
   ·rename_i hu2
    by_cases h5 : k + 2 < E.size
    ·simp [h5, h2] at q
     cases q
     refine ⟨by simp [hs], ?_, ?_, fun j hj hj1 => ?_⟩
     ·rw [Array.getElem?_setIfInBounds_ne (by omega), Array.getElem?_setIfInBounds_ne (by omega)]; simp [h1]
     ·simp [h2]
     ·by_cases e : j = k + 2
      ·refine Or.inr ⟨?_, e, u, by rw [Array.getElem?_eq_getElem h2, hu], hu2⟩
       rw [Array.getElem?_setIfInBounds_ne (by omega), e]
       simp [h5]
      ·refine Or.inl ⟨?_, fun x => e x.1⟩
       rw [Array.getElem?_setIfInBounds_ne (by omega), Array.getElem?_setIfInBounds_ne (by omega), Array.getElem?_setIfInBounds_ne (by omega)]
    ·simp [h5] at q
   ·rename_i hu2
    refine plain ?_ (by simpa [h2] using q)
    rintro ⟨u', x1, x2⟩
    rw [Array.getElem?_eq_getElem h2, hu] at x1; cases x1; exact hu2 x2
  ·rename_i hu
   refine plain ?_ (by simpa [h2] using q)
   rintro ⟨u', x1, x2⟩
   rw [Array.getElem?_eq_getElem h2] at x1; exact hu _ (Option.some.inj x1)
 split at h
 ·rename_i q
  have hk1 : k - 1 < C.size := by omega
  simp only [setAt, hk1, if_true, Option.bind_some] at h
  obtain ⟨e1, e2, e3, e4⟩ := self (by simp) h
  refine ⟨e1, e2, e3, fun j hj hj1 => ?_⟩
  have h6 : ∀ i, i + 1 ≠ k ∨ k = 0 → i ≠ k ∨ k ≠ 0 → (C.setIfInBounds (k - 1) Slot.unset)[i]? = C[i]? := fun i hi hi2 => Array.getElem?_setIfInBounds_ne (by omega)
  have h7 : (C.setIfInBounds (k - 1) Slot.unset)[k + 1]? = C[k + 1]? := Array.getElem?_setIfInBounds_ne (by omega)
  rcases e4 j hj hj1 with ⟨r, r'⟩ | ⟨r, r1, u, r2, r3⟩
  ·by_cases ej : k = j + 1
   ·refine Or.inr ⟨?_, Or.inl ⟨ej, by rw [hck, q]⟩⟩
    rw [r, show j = k - 1 by omega]; simp [hk1]
   ·refine Or.inl ⟨by rw [r]; exact h6 _ (by omega) (by omega), fun x => ej x.1, fun x => r' ⟨x.1, ?_⟩⟩
    rw [h7]; exact x.2
  ·exact Or.inr ⟨r, Or.inr ⟨r1, u, by rw [← h7]; exact r2, r3⟩⟩
 ·rename_i u q
  split at h
  ·rename_i hu
   simp only [setAt, hk, if_true, Option.bind_some] at h
   obtain ⟨e1, e2, e3, e4⟩ := self (by simp) h
   have hsec := wf k u (by rw [hck, q]) hu
   refine ⟨e1, e2, e3, fun j hj hj1 => ?_⟩
   rcases e4 j hj hj1 with ⟨r, r'⟩ | ⟨r, r1, u', r2, r3⟩
   ·refine Or.inl ⟨by rw [r]; exact Array.getElem?_setIfInBounds_ne (by omega), fun x => ?_, fun x => ?_⟩
    ·obtain ⟨-, x1⟩ := x
     rw [hck, q] at x1; cases x1
    ·obtain ⟨-, u', x1, x2⟩ := x
     rw [hsec] at x1; cases x1
   ·simp [hk] at r2
  ·rename_i hu
   obtain ⟨e1, e2, e3, e4⟩ := self rfl h
   refine ⟨e1, e2, e3, fun j hj hj1 => ?_⟩
   rcases e4 j hj hj1 with ⟨r, r'⟩ | ⟨r, r'⟩
   ·refine Or.inl ⟨r, fun x => ?_, r'⟩
    obtain ⟨-, x1⟩ := x
    rw [hck, q] at x1; cases x1
   ·exact Or.inr ⟨r, Or.inr r'⟩
 ·rename_i q
  obtain ⟨e1, e2, e3, e4⟩ := self rfl h
  refine ⟨e1, e2, e3, fun j hj hj1 => ?_⟩
  rcases e4 j hj hj1 with ⟨r, r'⟩ | ⟨r, r'⟩
  ·refine Or.inl ⟨r, fun x => ?_, r'⟩
   obtain ⟨-, x1⟩ := x
   rw [hck, q] at x1; cases x1
  ·exact Or.inr ⟨r, Or.inr r'⟩
theorem store_some {C : Array Slot} {k : Nat} {w : Value} (hk : k + (w.category - 1) < C.size) (hc : w.category = 1 ∨ w.category = 2) (wf : ∀ k w, C[k]? = some (.val w) → w.category = 2 → C[k + 1]? = some .second) :
  ∃ D, storeLocals C k w = some D := by
 have hk0 : k < C.size := by omega
 have hck : C[k]? = some C[k] := Array.getElem?_eq_getElem hk0
 have self : ∀ {E : Array Slot}, E.size = C.size → (∀ u, E[k + 1]? = some (.val u) → u.category = 2 → k + 2 < E.size) → ∃ D, storeSelf E k w = some D := by
  intro E hs hn
  have h1 : k < E.size := by omega
  simp only [storeSelf, setAt, h1, if_true, Option.bind_eq_bind, Option.bind_some]
  rcases hc with hc | hc
  ·exact ⟨E.setIfInBounds k (.val w), by simp [hc]⟩
  ·have h2 : k + 1 < E.size := by omega
   have h3 : (E.setIfInBounds k (.val w))[k + 1]? = some E[k + 1] := by rw [Array.getElem?_setIfInBounds_ne (by omega)]; exact Array.getElem?_eq_getElem h2
   simp only [hc, if_true, h3, Option.bind_some]
   split
   ·rename_i u hu
    split
    ·rename_i hu2
     have h5 := hn u (by rw [Array.getElem?_eq_getElem h2, hu]) hu2
     exact ⟨_, by simp [h5, h2]; rfl⟩
    ·exact ⟨_, by simp [h2]; rfl⟩
   ·exact ⟨_, by simp [h2]; rfl⟩
 have next : ∀ u, C[k + 1]? = some (.val u) → u.category = 2 → k + 2 < C.size := fun u h1 h2 => (Array.getElem?_eq_some_iff.mp (wf _ _ h1 h2)).1
 unfold storeLocals
 simp only [hck, Option.bind_eq_bind, Option.bind_some]
 split
 ·have hk1 : k - 1 < C.size := by omega
  simp only [setAt, hk1, if_true, Option.bind_some]
  refine self (by simp) fun u h1 h2 => ?_
  rw [Array.getElem?_setIfInBounds_ne (by omega)] at h1
  simpa using next u h1 h2
 ·rename_i u q
  split
  ·rename_i hu
   have h5 := (Array.getElem?_eq_some_iff.mp (wf k u (by rw [hck, q]) hu)).1
   simp only [setAt, h5, if_true, Option.bind_some]
   refine self (by simp) fun u h1 h2 => ?_
   simp [h5] at h1
  ·exact self rfl next
 ·exact self rfl next
theorem store_ok1 {ad : Nat → Addr} {L : QLoc} {C : Array Slot} {k : Nat} {v : Value} (H : QLocOk ad L C) (hv : v.category = 1) (hk : k < L.length) :
  ∃ D, storeLocals C k (qv ad v) = some D ∧ QLocOk ad ((lkill L k).set k (some v)) D ∧ D.size = C.size := by
 obtain ⟨H1, H2, H3, H4⟩ := H
 have hc : (qv ad v).category = 1 := by rw [qv_cat, hv]
 obtain ⟨D, hD⟩ := store_some (C := C) (k := k) (w := qv ad v) (by rw [hc]; omega) (Or.inl hc) H3
 obtain ⟨d1, d2, d3⟩ := set1_at (by omega) hc hD
 refine ⟨D, hD, ⟨by simp [lkill_len, H1, d1], fun j u hj => ?_, fun j w hj hw => ?_, fun j hj => ?_⟩, d1⟩
 ·rw [lget_set (by rw [lkill_len]; exact hk)] at hj
  split at hj
  ·rename_i e; cases hj; rw [e]; exact d2
  ·rename_i ne
   obtain ⟨g1, g2⟩ := lget_kill hj
   have g3 := H2 j u g1
   rcases d3 j ne with ⟨r, -, -⟩ | ⟨-, ⟨r1, r2⟩ | ⟨r1, w, r2, r3⟩⟩
   ·rw [r]; exact g3
   ·obtain ⟨i, w, z1, z2, z3⟩ := H4 k r2
    obtain rfl : i = j := by omega
    rw [g3] at z2
    cases z2
    rw [qv_cat] at z3
    exact absurd z3 (g2 r1)
   ·have := H3 k w r2 r3
    rw [← r1, g3] at this
    cases this
 ·by_cases e : j = k
  ·subst e; rw [d2] at hj; cases hj; rw [hc] at hw; cases hw
  ·rcases d3 j e with ⟨r, nA, nB⟩ | ⟨r, -⟩
   ·rw [r] at hj
    have g := H3 j w hj hw
    have e2 : j + 1 ≠ k := fun q => nA ⟨q.symm, by rw [← q]; exact g⟩
    rcases d3 (j + 1) e2 with ⟨z, -, -⟩ | ⟨-, ⟨z1, z2⟩ | ⟨z1, -⟩⟩
    ·rw [z]; exact g
    ·obtain ⟨i, u, y1, y2, y3⟩ := H4 k z2
     obtain rfl : i = j + 1 := by omega
     rw [g] at y2; cases y2
    ·omega
   ·rw [r] at hj; cases hj
 ·by_cases e : j = k
  ·subst e; rw [d2] at hj; cases hj
  ·rcases d3 j e with ⟨r, nA, nB⟩ | ⟨r, -⟩
   ·rw [r] at hj
    obtain ⟨i, w, y1, y2, y3⟩ := H4 j hj
    refine ⟨i, w, y1, ?_, y3⟩
    have ei : i ≠ k := fun q => nB ⟨by omega, w, by rw [← q]; exact y2, y3⟩
    rcases d3 i ei with ⟨z, -, -⟩ | ⟨-, ⟨z1, z2⟩ | ⟨z1, u, z2, z3⟩⟩
    ·rw [z]; exact y2
    ·omega
    ·have := H3 k u z2 z3
     rw [← z1, y2] at this; cases this
   ·rw [r] at hj; cases hj
theorem store_ok2 {ad : Nat → Addr} {L : QLoc} {C : Array Slot} {k : Nat} {x : Int64} (H : QLocOk ad L C) (hk : k + 1 < L.length) :
  ∃ D, storeLocals C k (.long x) = some D ∧ QLocOk ad (((lkill L k).set k (some (.long x))).set (k + 1) none) D ∧ D.size = C.size := by
 obtain ⟨H1, H2, H3, H4⟩ := H
 have hc : (Value.long x).category = 2 := rfl
 obtain ⟨D, hD⟩ := store_some (C := C) (k := k) (w := .long x) (by rw [hc]; omega) (Or.inr hc) H3
 obtain ⟨d1, d2, d2', d3⟩ := set2_at (by omega) hc H3 hD
 refine ⟨D, hD, ⟨by simp [lkill_len, H1, d1], fun j u hj => ?_, fun j w hj hw => ?_, fun j hj => ?_⟩, d1⟩
 ·rw [lget_set (by simp [lkill_len]; exact hk)] at hj
  split at hj
  ·cases hj
  ·rename_i ne1
   rw [lget_set (by rw [lkill_len]; omega)] at hj
   split at hj
   ·rename_i e; cases hj; rw [e]; exact d2
   ·rename_i ne
    obtain ⟨g1, g2⟩ := lget_kill hj
    have g3 := H2 j u g1
    rcases d3 j ne ne1 with ⟨r, -, -⟩ | ⟨-, ⟨r1, r2⟩ | ⟨r1, w, r2, r3⟩⟩
    ·rw [r]; exact g3
    ·obtain ⟨i, w, z1, z2, z3⟩ := H4 k r2
     obtain rfl : i = j := by omega
     rw [g3] at z2
     cases z2
     rw [qv_cat] at z3
     exact absurd z3 (g2 r1)
    ·have := H3 (k + 1) w r2 r3
     rw [show k + 1 + 1 = j by omega, g3] at this
     cases this
 ·by_cases e : j = k
  ·rw [e]; exact d2'
  ·by_cases e1 : j = k + 1
   ·rw [e1, d2'] at hj; cases hj
   ·rcases d3 j e e1 with ⟨r, nA, nB⟩ | ⟨r, -⟩
    ·rw [r] at hj
     have g := H3 j w hj hw
     have e2 : j + 1 ≠ k := fun q => nA ⟨q.symm, by rw [← q]; exact g⟩
     rcases d3 (j + 1) e2 (by omega) with ⟨z, -, -⟩ | ⟨-, ⟨z1, z2⟩ | ⟨z1, -⟩⟩
     ·rw [z]; exact g
     ·obtain ⟨i, u, y1, y2, y3⟩ := H4 k z2
      obtain rfl : i = j + 1 := by omega
      rw [g] at y2; cases y2
     ·omega
    ·rw [r] at hj; cases hj
 ·by_cases e : j = k
  ·rw [e, d2] at hj; cases hj
  ·by_cases e1 : j = k + 1
   ·exact ⟨k, _, e1, d2, hc⟩
   ·rcases d3 j e e1 with ⟨r, nA, nB⟩ | ⟨r, -⟩
    ·rw [r] at hj
     obtain ⟨i, w, y1, y2, y3⟩ := H4 j hj
     refine ⟨i, w, y1, ?_, y3⟩
     have ei : i ≠ k := fun q => e1 (by omega)
     have ei1 : i ≠ k + 1 := fun q => nB ⟨by omega, w, by rw [← q]; exact y2, y3⟩
     rcases d3 i ei ei1 with ⟨z, -, -⟩ | ⟨-, ⟨z1, z2⟩ | ⟨z1, u, z2, z3⟩⟩
     ·rw [z]; exact y2
     ·omega
     ·have := H3 (k + 1) u z2 z3
      rw [show k + 1 + 1 = i by omega, y2] at this; cases this
    ·rw [r] at hj; cases hj
theorem store_ok {ad : Nat → Addr} {L L' : QLoc} {C : Array Slot} {k : Nat} {v : Value} (H : QLocOk ad L C) (h : lput L k v = some L') :
  ∃ D, storeLocals C k (qv ad v) = some D ∧ QLocOk ad L' D ∧ D.size = C.size := by
 have one : v.category = 1 → (bif Nat.ble (k + 1) L.length then some ((lkill L k).set k (some v)) else none) = some L' → ∃ D, storeLocals C k (qv ad v) = some D ∧ QLocOk ad L' D ∧ D.size = C.size := by
  intro hv h
  cases hb : Nat.ble (k + 1) L.length with
  | false => rw [hb] at h; cases h
  | true => rw [hb] at h; cases h; exact store_ok1 H hv (Nat.le_of_ble_eq_true hb)
 cases v with
 | long x =>
  simp only [lput] at h
  cases hb : Nat.ble (k + 2) L.length with
  | false => rw [hb] at h; cases h
  | true => rw [hb] at h; cases h; exact store_ok2 H (Nat.le_of_ble_eq_true hb)
 | double x => simp [lput] at h
 | int x => exact one rfl h
 | float x => exact one rfl h
 | null => exact one rfl h
 | ref x => exact one rfl h
 | retAddr x => exact one rfl h
theorem fInj : ∀ i, i < nF → ∀ j, j < nF → fNm i = fNm j → i = j := by decide +kernel
theorem fPrs : ∀ i, i < nF → parseFieldDescriptor (fDs i) = some (fTy i) := by decide +kernel
theorem cDefs : ∀ i, i < nF → vget cDef i = some (defaultValue (fTy i)) := by decide +kernel
theorem cDefL : cDef.length = nF := by decide +kernel
theorem fDef : ∀ i, i < nF → ∀ a, defaultValue (fTy i) ≠ .ref a := by
 intro i _ a
 cases fTy i <;> simp [defaultValue]
theorem kPlain : ∀ k, k < 2 → plainName (kName k) = true := by
 intro k hk
 rcases k with _ | _ | k
 ·first | decide +kernel | (simp [kName, plainName, overriddenIn]; done)
 ·first | decide +kernel | (simp [kName, plainName, overriddenIn]; done)
 ·omega
theorem pKlt : ∀ m, m < pN → pK m < 2 := by decide +kernel
theorem pSig : ∀ m, m < pN → (parseMethodDescriptor (pDs m)).map (fun sg => sg.parameters.length) = some (pNA m) := by decide +kernel
theorem pOwn : ∀ k, k < 2 → kName k ≠ "java/lang/invoke/MethodHandle" ∧ kName k ≠ "java/lang/invoke/VarHandle" := by decide +kernel
theorem mAlt : ∀ m ∈ mA, m < pN := by decide +kernel
theorem mVlt : ∀ m ∈ mV, m ∈ mA ∧ pK m = 1 := by decide +kernel
theorem mPlt : ∀ m ∈ mP, m ∈ mA ∧ pK m = 1 := by decide +kernel
theorem mSlt : ∀ m ∈ mS, m ∈ mA := by decide +kernel
theorem mIlt : ∀ m ∈ mI, m ∈ mA ∧ pK m = 1 ∧ pNm m = "<init>" ∧ pRet m = none := by decide +kernel
theorem kOne : kName 1 = cName := rfl
def pX (m pc : Nat) : Bool := match pCode m pc with | some t => qchk m pc t.1 t.2 | none => true
set_option maxRecDepth 100000 in
set_option maxHeartbeats 4000000 in
theorem pC0_0 : ∀ q, q < 128 → pX 0 (0 + q) = true := by decide +kernel
set_option maxRecDepth 100000 in
set_option maxHeartbeats 4000000 in
theorem pC0_128 : ∀ q, q < 128 → pX 0 (128 + q) = true := by decide +kernel
set_option maxRecDepth 100000 in
set_option maxHeartbeats 4000000 in
theorem pC0_256 : ∀ q, q < 128 → pX 0 (256 + q) = true := by decide +kernel
set_option maxRecDepth 100000 in
set_option maxHeartbeats 4000000 in
theorem pC0_384 : ∀ q, q < 128 → pX 0 (384 + q) = true := by decide +kernel
set_option maxRecDepth 100000 in
set_option maxHeartbeats 4000000 in
theorem pC0_512 : ∀ q, q < 121 → pX 0 (512 + q) = true := by decide +kernel
theorem pCm0 (pc : Nat) (h : pc < pTop 0) : pX 0 pc = true := by
 replace h : pc < 633 := h
 by_cases h0 : pc < 128
 ·have q := pC0_0 (pc - 0) (by omega)
  rwa [show 0 + (pc - 0) = pc from by omega] at q
 by_cases h128 : pc < 256
 ·have q := pC0_128 (pc - 128) (by omega)
  rwa [show 128 + (pc - 128) = pc from by omega] at q
 by_cases h256 : pc < 384
 ·have q := pC0_256 (pc - 256) (by omega)
  rwa [show 256 + (pc - 256) = pc from by omega] at q
 by_cases h384 : pc < 512
 ·have q := pC0_384 (pc - 384) (by omega)
  rwa [show 384 + (pc - 384) = pc from by omega] at q
 have q := pC0_512 (pc - 512) (by omega)
 rwa [show 512 + (pc - 512) = pc from by omega] at q
set_option maxRecDepth 100000 in
set_option maxHeartbeats 4000000 in
theorem pC1_0 : ∀ q, q < 14 → pX 1 (0 + q) = true := by decide +kernel
theorem pCm1 (pc : Nat) (h : pc < pTop 1) : pX 1 pc = true := by
 replace h : pc < 14 := h
 have q := pC1_0 (pc - 0) (by omega)
 rwa [show 0 + (pc - 0) = pc from by omega] at q
set_option maxRecDepth 100000 in
set_option maxHeartbeats 4000000 in
theorem pC2_0 : ∀ q, q < 128 → pX 2 (0 + q) = true := by decide +kernel
set_option maxRecDepth 100000 in
set_option maxHeartbeats 4000000 in
theorem pC2_128 : ∀ q, q < 100 → pX 2 (128 + q) = true := by decide +kernel
theorem pCm2 (pc : Nat) (h : pc < pTop 2) : pX 2 pc = true := by
 replace h : pc < 228 := h
 by_cases h0 : pc < 128
 ·have q := pC2_0 (pc - 0) (by omega)
  rwa [show 0 + (pc - 0) = pc from by omega] at q
 have q := pC2_128 (pc - 128) (by omega)
 rwa [show 128 + (pc - 128) = pc from by omega] at q
set_option maxRecDepth 100000 in
set_option maxHeartbeats 4000000 in
theorem pC3_0 : ∀ q, q < 16 → pX 3 (0 + q) = true := by decide +kernel
theorem pCm3 (pc : Nat) (h : pc < pTop 3) : pX 3 pc = true := by
 replace h : pc < 16 := h
 have q := pC3_0 (pc - 0) (by omega)
 rwa [show 0 + (pc - 0) = pc from by omega] at q
set_option maxRecDepth 100000 in
set_option maxHeartbeats 4000000 in
theorem pC4_0 : ∀ q, q < 5 → pX 4 (0 + q) = true := by decide +kernel
theorem pCm4 (pc : Nat) (h : pc < pTop 4) : pX 4 pc = true := by
 replace h : pc < 5 := h
 have q := pC4_0 (pc - 0) (by omega)
 rwa [show 0 + (pc - 0) = pc from by omega] at q
set_option maxRecDepth 100000 in
set_option maxHeartbeats 4000000 in
theorem pC5_0 : ∀ q, q < 7 → pX 5 (0 + q) = true := by decide +kernel
theorem pCm5 (pc : Nat) (h : pc < pTop 5) : pX 5 pc = true := by
 replace h : pc < 7 := h
 have q := pC5_0 (pc - 0) (by omega)
 rwa [show 0 + (pc - 0) = pc from by omega] at q
set_option maxRecDepth 100000 in
set_option maxHeartbeats 4000000 in
theorem pC6_0 : ∀ q, q < 5 → pX 6 (0 + q) = true := by decide +kernel
theorem pCm6 (pc : Nat) (h : pc < pTop 6) : pX 6 pc = true := by
 replace h : pc < 5 := h
 have q := pC6_0 (pc - 0) (by omega)
 rwa [show 0 + (pc - 0) = pc from by omega] at q
set_option maxRecDepth 100000 in
set_option maxHeartbeats 4000000 in
theorem pC7_0 : ∀ q, q < 18 → pX 7 (0 + q) = true := by decide +kernel
theorem pCm7 (pc : Nat) (h : pc < pTop 7) : pX 7 pc = true := by
 replace h : pc < 18 := h
 have q := pC7_0 (pc - 0) (by omega)
 rwa [show 0 + (pc - 0) = pc from by omega] at q
set_option maxRecDepth 100000 in
set_option maxHeartbeats 4000000 in
theorem pC8_0 : ∀ q, q < 111 → pX 8 (0 + q) = true := by decide +kernel
theorem pCm8 (pc : Nat) (h : pc < pTop 8) : pX 8 pc = true := by
 replace h : pc < 111 := h
 have q := pC8_0 (pc - 0) (by omega)
 rwa [show 0 + (pc - 0) = pc from by omega] at q
set_option maxRecDepth 100000 in
set_option maxHeartbeats 4000000 in
theorem pC9_0 : ∀ q, q < 15 → pX 9 (0 + q) = true := by decide +kernel
theorem pCm9 (pc : Nat) (h : pc < pTop 9) : pX 9 pc = true := by
 replace h : pc < 15 := h
 have q := pC9_0 (pc - 0) (by omega)
 rwa [show 0 + (pc - 0) = pc from by omega] at q
set_option maxRecDepth 100000 in
set_option maxHeartbeats 4000000 in
theorem pC10_0 : ∀ q, q < 18 → pX 10 (0 + q) = true := by decide +kernel
theorem pCm10 (pc : Nat) (h : pc < pTop 10) : pX 10 pc = true := by
 replace h : pc < 18 := h
 have q := pC10_0 (pc - 0) (by omega)
 rwa [show 0 + (pc - 0) = pc from by omega] at q
set_option maxRecDepth 100000 in
set_option maxHeartbeats 4000000 in
theorem pC11_0 : ∀ q, q < 49 → pX 11 (0 + q) = true := by decide +kernel
theorem pCm11 (pc : Nat) (h : pc < pTop 11) : pX 11 pc = true := by
 replace h : pc < 49 := h
 have q := pC11_0 (pc - 0) (by omega)
 rwa [show 0 + (pc - 0) = pc from by omega] at q
set_option maxRecDepth 100000 in
set_option maxHeartbeats 4000000 in
theorem pC12_0 : ∀ q, q < 51 → pX 12 (0 + q) = true := by decide +kernel
theorem pCm12 (pc : Nat) (h : pc < pTop 12) : pX 12 pc = true := by
 replace h : pc < 51 := h
 have q := pC12_0 (pc - 0) (by omega)
 rwa [show 0 + (pc - 0) = pc from by omega] at q
set_option maxRecDepth 100000 in
set_option maxHeartbeats 4000000 in
theorem pC13_0 : ∀ q, q < 99 → pX 13 (0 + q) = true := by decide +kernel
theorem pCm13 (pc : Nat) (h : pc < pTop 13) : pX 13 pc = true := by
 replace h : pc < 99 := h
 have q := pC13_0 (pc - 0) (by omega)
 rwa [show 0 + (pc - 0) = pc from by omega] at q
set_option maxRecDepth 100000 in
set_option maxHeartbeats 4000000 in
theorem pC14_0 : ∀ q, q < 94 → pX 14 (0 + q) = true := by decide +kernel
theorem pCm14 (pc : Nat) (h : pc < pTop 14) : pX 14 pc = true := by
 replace h : pc < 94 := h
 have q := pC14_0 (pc - 0) (by omega)
 rwa [show 0 + (pc - 0) = pc from by omega] at q
set_option maxRecDepth 100000 in
set_option maxHeartbeats 4000000 in
theorem pC15_0 : ∀ q, q < 115 → pX 15 (0 + q) = true := by decide +kernel
theorem pCm15 (pc : Nat) (h : pc < pTop 15) : pX 15 pc = true := by
 replace h : pc < 115 := h
 have q := pC15_0 (pc - 0) (by omega)
 rwa [show 0 + (pc - 0) = pc from by omega] at q
set_option maxRecDepth 100000 in
set_option maxHeartbeats 4000000 in
theorem pC16_0 : ∀ q, q < 89 → pX 16 (0 + q) = true := by decide +kernel
theorem pCm16 (pc : Nat) (h : pc < pTop 16) : pX 16 pc = true := by
 replace h : pc < 89 := h
 have q := pC16_0 (pc - 0) (by omega)
 rwa [show 0 + (pc - 0) = pc from by omega] at q
set_option maxRecDepth 100000 in
set_option maxHeartbeats 4000000 in
theorem pC17_0 : ∀ q, q < 65 → pX 17 (0 + q) = true := by decide +kernel
theorem pCm17 (pc : Nat) (h : pc < pTop 17) : pX 17 pc = true := by
 replace h : pc < 65 := h
 have q := pC17_0 (pc - 0) (by omega)
 rwa [show 0 + (pc - 0) = pc from by omega] at q
set_option maxRecDepth 100000 in
set_option maxHeartbeats 4000000 in
theorem pC18_0 : ∀ q, q < 96 → pX 18 (0 + q) = true := by decide +kernel
theorem pCm18 (pc : Nat) (h : pc < pTop 18) : pX 18 pc = true := by
 replace h : pc < 96 := h
 have q := pC18_0 (pc - 0) (by omega)
 rwa [show 0 + (pc - 0) = pc from by omega] at q
set_option maxRecDepth 100000 in
set_option maxHeartbeats 4000000 in
theorem pC19_0 : ∀ q, q < 16 → pX 19 (0 + q) = true := by decide +kernel
theorem pCm19 (pc : Nat) (h : pc < pTop 19) : pX 19 pc = true := by
 replace h : pc < 16 := h
 have q := pC19_0 (pc - 0) (by omega)
 rwa [show 0 + (pc - 0) = pc from by omega] at q
set_option maxRecDepth 100000 in
set_option maxHeartbeats 4000000 in
theorem pC20_0 : ∀ q, q < 51 → pX 20 (0 + q) = true := by decide +kernel
theorem pCm20 (pc : Nat) (h : pc < pTop 20) : pX 20 pc = true := by
 replace h : pc < 51 := h
 have q := pC20_0 (pc - 0) (by omega)
 rwa [show 0 + (pc - 0) = pc from by omega] at q
set_option maxRecDepth 100000 in
set_option maxHeartbeats 4000000 in
theorem pC21_0 : ∀ q, q < 32 → pX 21 (0 + q) = true := by decide +kernel
theorem pCm21 (pc : Nat) (h : pc < pTop 21) : pX 21 pc = true := by
 replace h : pc < 32 := h
 have q := pC21_0 (pc - 0) (by omega)
 rwa [show 0 + (pc - 0) = pc from by omega] at q
set_option maxRecDepth 100000 in
set_option maxHeartbeats 4000000 in
theorem pC22_0 : ∀ q, q < 36 → pX 22 (0 + q) = true := by decide +kernel
theorem pCm22 (pc : Nat) (h : pc < pTop 22) : pX 22 pc = true := by
 replace h : pc < 36 := h
 have q := pC22_0 (pc - 0) (by omega)
 rwa [show 0 + (pc - 0) = pc from by omega] at q
set_option maxRecDepth 100000 in
set_option maxHeartbeats 4000000 in
theorem pC23_0 : ∀ q, q < 36 → pX 23 (0 + q) = true := by decide +kernel
theorem pCm23 (pc : Nat) (h : pc < pTop 23) : pX 23 pc = true := by
 replace h : pc < 36 := h
 have q := pC23_0 (pc - 0) (by omega)
 rwa [show 0 + (pc - 0) = pc from by omega] at q
set_option maxRecDepth 100000 in
set_option maxHeartbeats 4000000 in
theorem pC24_0 : ∀ q, q < 17 → pX 24 (0 + q) = true := by decide +kernel
theorem pCm24 (pc : Nat) (h : pc < pTop 24) : pX 24 pc = true := by
 replace h : pc < 17 := h
 have q := pC24_0 (pc - 0) (by omega)
 rwa [show 0 + (pc - 0) = pc from by omega] at q
set_option maxRecDepth 100000 in
set_option maxHeartbeats 4000000 in
theorem pC25_0 : ∀ q, q < 61 → pX 25 (0 + q) = true := by decide +kernel
theorem pCm25 (pc : Nat) (h : pc < pTop 25) : pX 25 pc = true := by
 replace h : pc < 61 := h
 have q := pC25_0 (pc - 0) (by omega)
 rwa [show 0 + (pc - 0) = pc from by omega] at q
set_option maxRecDepth 100000 in
set_option maxHeartbeats 4000000 in
theorem pC26_0 : ∀ q, q < 102 → pX 26 (0 + q) = true := by decide +kernel
theorem pCm26 (pc : Nat) (h : pc < pTop 26) : pX 26 pc = true := by
 replace h : pc < 102 := h
 have q := pC26_0 (pc - 0) (by omega)
 rwa [show 0 + (pc - 0) = pc from by omega] at q
set_option maxRecDepth 100000 in
set_option maxHeartbeats 4000000 in
theorem pC27_0 : ∀ q, q < 39 → pX 27 (0 + q) = true := by decide +kernel
theorem pCm27 (pc : Nat) (h : pc < pTop 27) : pX 27 pc = true := by
 replace h : pc < 39 := h
 have q := pC27_0 (pc - 0) (by omega)
 rwa [show 0 + (pc - 0) = pc from by omega] at q
set_option maxRecDepth 100000 in
set_option maxHeartbeats 4000000 in
theorem pC28_0 : ∀ q, q < 128 → pX 28 (0 + q) = true := by decide +kernel
set_option maxRecDepth 100000 in
set_option maxHeartbeats 4000000 in
theorem pC28_128 : ∀ q, q < 6 → pX 28 (128 + q) = true := by decide +kernel
theorem pCm28 (pc : Nat) (h : pc < pTop 28) : pX 28 pc = true := by
 replace h : pc < 134 := h
 by_cases h0 : pc < 128
 ·have q := pC28_0 (pc - 0) (by omega)
  rwa [show 0 + (pc - 0) = pc from by omega] at q
 have q := pC28_128 (pc - 128) (by omega)
 rwa [show 128 + (pc - 128) = pc from by omega] at q
set_option maxRecDepth 100000 in
set_option maxHeartbeats 4000000 in
theorem pC29_0 : ∀ q, q < 21 → pX 29 (0 + q) = true := by decide +kernel
theorem pCm29 (pc : Nat) (h : pc < pTop 29) : pX 29 pc = true := by
 replace h : pc < 21 := h
 have q := pC29_0 (pc - 0) (by omega)
 rwa [show 0 + (pc - 0) = pc from by omega] at q
set_option maxRecDepth 100000 in
set_option maxHeartbeats 4000000 in
theorem pC30_0 : ∀ q, q < 44 → pX 30 (0 + q) = true := by decide +kernel
theorem pCm30 (pc : Nat) (h : pc < pTop 30) : pX 30 pc = true := by
 replace h : pc < 44 := h
 have q := pC30_0 (pc - 0) (by omega)
 rwa [show 0 + (pc - 0) = pc from by omega] at q
set_option maxRecDepth 100000 in
set_option maxHeartbeats 4000000 in
theorem pC31_0 : ∀ q, q < 27 → pX 31 (0 + q) = true := by decide +kernel
theorem pCm31 (pc : Nat) (h : pc < pTop 31) : pX 31 pc = true := by
 replace h : pc < 27 := h
 have q := pC31_0 (pc - 0) (by omega)
 rwa [show 0 + (pc - 0) = pc from by omega] at q
set_option maxRecDepth 100000 in
set_option maxHeartbeats 4000000 in
theorem pC32_0 : ∀ q, q < 7 → pX 32 (0 + q) = true := by decide +kernel
theorem pCm32 (pc : Nat) (h : pc < pTop 32) : pX 32 pc = true := by
 replace h : pc < 7 := h
 have q := pC32_0 (pc - 0) (by omega)
 rwa [show 0 + (pc - 0) = pc from by omega] at q
set_option maxRecDepth 100000 in
set_option maxHeartbeats 4000000 in
theorem pC33_0 : ∀ q, q < 95 → pX 33 (0 + q) = true := by decide +kernel
theorem pCm33 (pc : Nat) (h : pc < pTop 33) : pX 33 pc = true := by
 replace h : pc < 95 := h
 have q := pC33_0 (pc - 0) (by omega)
 rwa [show 0 + (pc - 0) = pc from by omega] at q
set_option maxRecDepth 100000 in
set_option maxHeartbeats 4000000 in
theorem pC34_0 : ∀ q, q < 24 → pX 34 (0 + q) = true := by decide +kernel
theorem pCm34 (pc : Nat) (h : pc < pTop 34) : pX 34 pc = true := by
 replace h : pc < 24 := h
 have q := pC34_0 (pc - 0) (by omega)
 rwa [show 0 + (pc - 0) = pc from by omega] at q
set_option maxRecDepth 100000 in
set_option maxHeartbeats 4000000 in
theorem pC35_0 : ∀ q, q < 54 → pX 35 (0 + q) = true := by decide +kernel
theorem pCm35 (pc : Nat) (h : pc < pTop 35) : pX 35 pc = true := by
 replace h : pc < 54 := h
 have q := pC35_0 (pc - 0) (by omega)
 rwa [show 0 + (pc - 0) = pc from by omega] at q
set_option maxRecDepth 100000 in
set_option maxHeartbeats 4000000 in
theorem pC36_0 : ∀ q, q < 39 → pX 36 (0 + q) = true := by decide +kernel
theorem pCm36 (pc : Nat) (h : pc < pTop 36) : pX 36 pc = true := by
 replace h : pc < 39 := h
 have q := pC36_0 (pc - 0) (by omega)
 rwa [show 0 + (pc - 0) = pc from by omega] at q
set_option maxRecDepth 100000 in
set_option maxHeartbeats 4000000 in
theorem pC37_0 : ∀ q, q < 36 → pX 37 (0 + q) = true := by decide +kernel
theorem pCm37 (pc : Nat) (h : pc < pTop 37) : pX 37 pc = true := by
 replace h : pc < 36 := h
 have q := pC37_0 (pc - 0) (by omega)
 rwa [show 0 + (pc - 0) = pc from by omega] at q
theorem pChk0 : ∀ m, m < pN → ∀ pc, pc < pTop m → (match pCode m pc with | some t => qchk m pc t.1 t.2 | none => true) = true := by
 intro m hm pc hp
 change pX m pc = true
 match m, hm, hp with
 | 0, _, hp => exact pCm0 pc hp
 | 1, _, hp => exact pCm1 pc hp
 | 2, _, hp => exact pCm2 pc hp
 | 3, _, hp => exact pCm3 pc hp
 | 4, _, hp => exact pCm4 pc hp
 | 5, _, hp => exact pCm5 pc hp
 | 6, _, hp => exact pCm6 pc hp
 | 7, _, hp => exact pCm7 pc hp
 | 8, _, hp => exact pCm8 pc hp
 | 9, _, hp => exact pCm9 pc hp
 | 10, _, hp => exact pCm10 pc hp
 | 11, _, hp => exact pCm11 pc hp
 | 12, _, hp => exact pCm12 pc hp
 | 13, _, hp => exact pCm13 pc hp
 | 14, _, hp => exact pCm14 pc hp
 | 15, _, hp => exact pCm15 pc hp
 | 16, _, hp => exact pCm16 pc hp
 | 17, _, hp => exact pCm17 pc hp
 | 18, _, hp => exact pCm18 pc hp
 | 19, _, hp => exact pCm19 pc hp
 | 20, _, hp => exact pCm20 pc hp
 | 21, _, hp => exact pCm21 pc hp
 | 22, _, hp => exact pCm22 pc hp
 | 23, _, hp => exact pCm23 pc hp
 | 24, _, hp => exact pCm24 pc hp
 | 25, _, hp => exact pCm25 pc hp
 | 26, _, hp => exact pCm26 pc hp
 | 27, _, hp => exact pCm27 pc hp
 | 28, _, hp => exact pCm28 pc hp
 | 29, _, hp => exact pCm29 pc hp
 | 30, _, hp => exact pCm30 pc hp
 | 31, _, hp => exact pCm31 pc hp
 | 32, _, hp => exact pCm32 pc hp
 | 33, _, hp => exact pCm33 pc hp
 | 34, _, hp => exact pCm34 pc hp
 | 35, _, hp => exact pCm35 pc hp
 | 36, _, hp => exact pCm36 pc hp
 | 37, _, hp => exact pCm37 pc hp
 | m + 38, hm, _ => exact absurd hm (by unfold pN; omega)
theorem pIn {m pc : Nat} {t : Instr × Nat} (h : pCode m pc = some t) : m < pN ∧ pc < pTop m := by
 unfold pCode at h
 cases h1 : Nat.ble pN m with
 | true => rw [h1] at h; cases h
 | false =>
  cases h2 : Nat.ble (pTop m) pc with
  | true => rw [h1, h2] at h; cases h
  | false => exact ⟨Nat.lt_of_not_le (fun q => by rw [Nat.ble_eq_true_of_le q] at h1; cases h1), Nat.lt_of_not_le (fun q => by rw [Nat.ble_eq_true_of_le q] at h2; cases h2)⟩
theorem pChk {m pc : Nat} {i : Instr} {aux : Nat} (h : pCode m pc = some (i, aux)) : qchk m pc i aux = true := by
 have q := pChk0 m (pIn h).1 pc (pIn h).2
 rw [h] at q
 exact q
theorem pDec {m pc : Nat} {i : Instr} {aux : Nat} (h : pCode m pc = some (i, aux)) : decode (pBytes m) pc = .ok (i, ilen i) := by
 have q := pChk h
 unfold qchk at q
 exact of_decide_eq_true (Bool.and_eq_true_iff.mp q).1
theorem pDecN {m pc n : Nat} {i : Instr} {aux : Nat} (h : pCode m pc = some (i, aux)) (hn : ilen i = n) : decode (pBytes m) pc = .ok (i, n) := by
 rw [← hn]; exact pDec h
theorem pRest {m pc : Nat} {i : Instr} {aux : Nat} (h : pCode m pc = some (i, aux)) : qlk m pc i aux = true := by
 have q := pChk h
 unfold qchk at q
 exact (Bool.and_eq_true_iff.mp q).2
theorem qtgt_spec {pc : Nat} {o : Int} {aux : Nat} (h : qtgt pc o aux = true) : 0 ≤ (pc : Int) + o ∧ ((pc : Int) + o).toNat = aux := by
 unfold qtgt at h
 have h2 := Bool.and_eq_true_iff.mp h
 exact ⟨of_decide_eq_true h2.1, of_decide_eq_true h2.2⟩
def QCx (Z : State) (p : Program) (R : Room) (s : State) (mid : MethodId) (meth : Method) (c : Code) (m : Nat) : Prop :=
 p.tables.exec = Jvm.exec ∧ Z.Warmed39 s.vm ∧ c.code = pBytes m ∧ c.maxLocals = pMaxL m ∧ meth.sig.returnType = pRet m ∧ s.vm.findClass (kName (pK m)) = some mid.cls ∧ meth.name = pNm m ∧ pFr m ≤ R.frames ∧ pLo m ≤ R.locals
def QTri (l : Launch) (Z : State) (n0 : Nat) (ad : Nat → Addr) (m : Nat) (st : QSt) (v : Option Value) (σ' : QHeap) : Prop :=
 st.2.2.2.length ≤ σ'.length ∧ qhs st.2.2.2 ≤ qhs σ' ∧
 ∀ (p : Program) (e : Env) (R : Room) (s : State) (mid : MethodId) (args : Array Value) (below : List Frame) (meth : Method) (c : Code) (T : State) (locs : List Loc) (cells slots : Nat) (C : Array Slot),
  QCx Z p R s mid meth c m → Stand p l e R s mid args below meth c T locs cells slots → QRep Z n0 ad T.heap st.2.2.2 → Fr n0 locs → QLocOk ad st.2.1 C → C.size = c.maxLocals →
  n0 + (st.2.2.2.length - k0) = s.heap.size + cells → cells + (σ'.length - st.2.2.2.length) ≤ R.cells → slots + (qhs σ' - qhs st.2.2.2) ≤ R.slots →
  ∃ T' locs', Stand p l e R s mid args below meth c T' locs' (cells + (σ'.length - st.2.2.2.length)) (slots + (qhs σ' - qhs st.2.2.2)) ∧ QRep Z n0 ad T'.heap σ' ∧ Fr n0 locs' ∧
   ∀ fs, (∀ (f : JFrame) (acts : List Action), f.method = mid → f.locked = none → f.entered = [] → (doReturn e (T'.setTop f) acts (v.map (qv ad))).1 = T'.setFrames fs) →
    Steps p.tables e below (T.setTop (mkF mid st.1 C (st.2.2.1.map (qv ad)))) (T'.setFrames fs)
section Triples
variable {l : Launch} {Z : State} {n0 : Nat} {ad : Nat → Addr} {a0 : Array Value} {m : Nat} {v : Option Value} {σ' : QHeap}
theorem QTri.gen {st st' : QSt} (h : QTri l Z n0 ad m st' v σ') (g1 : st.2.2.2.length ≤ st'.2.2.2.length) (g2 : qhs st.2.2.2 ≤ qhs st'.2.2.2)
  (hs : ∀ (p : Program) (e : Env) (R : Room) (s : State) (mid : MethodId) (args : Array Value) (below : List Frame) (meth : Method) (c : Code) (T : State) (locs : List Loc) (cells slots : Nat) (C : Array Slot),
   QCx Z p R s mid meth c m → Stand p l e R s mid args below meth c T locs cells slots → QRep Z n0 ad T.heap st.2.2.2 → Fr n0 locs → QLocOk ad st.2.1 C → C.size = c.maxLocals →
   n0 + (st.2.2.2.length - k0) = s.heap.size + cells → cells + (st'.2.2.2.length - st.2.2.2.length) ≤ R.cells → slots + (qhs st'.2.2.2 - qhs st.2.2.2) ≤ R.slots →
   ∃ T₁ locs₁ C₁, Stand p l e R s mid args below meth c T₁ locs₁ (cells + (st'.2.2.2.length - st.2.2.2.length)) (slots + (qhs st'.2.2.2 - qhs st.2.2.2)) ∧ QRep Z n0 ad T₁.heap st'.2.2.2 ∧ Fr n0 locs₁ ∧ QLocOk ad st'.2.1 C₁ ∧ C₁.size = c.maxLocals ∧
    ∀ target, Steps p.tables e below (T₁.setTop (mkF mid st'.1 C₁ (st'.2.2.1.map (qv ad)))) target → Steps p.tables e below (T.setTop (mkF mid st.1 C (st.2.2.1.map (qv ad)))) target) :
  QTri l Z n0 ad m st v σ' := by
 obtain ⟨h1, h2, h3⟩ := h
 refine ⟨Nat.le_trans g1 h1, Nat.le_trans g2 h2, fun p e R s mid args below meth c T locs cells slots C hcx X hR hF hL hC hn hc hsl => ?_⟩
 obtain ⟨T₁, locs₁, C₁, X₁, R₁, F₁, L₁, C1, S₁⟩ := hs p e R s mid args below meth c T locs cells slots C hcx X hR hF hL hC hn (by omega) (by omega)
 have hk := hR.1
 obtain ⟨T', locs', X', R', F', S'⟩ := h3 p e R s mid args below meth c T₁ locs₁ _ _ C₁ hcx X₁ R₁ F₁ L₁ C1 (by omega) (by omega) (by omega)
 have e1 : cells + (st'.2.2.2.length - st.2.2.2.length) + (σ'.length - st'.2.2.2.length) = cells + (σ'.length - st.2.2.2.length) := by omega
 have e2 : slots + (qhs st'.2.2.2 - qhs st.2.2.2) + (qhs σ' - qhs st'.2.2.2) = slots + (qhs σ' - qhs st.2.2.2) := by omega
 rw [e1, e2] at X'
 exact ⟨T', locs', X', R', F', fun fs hf => S₁ _ (S' fs hf)⟩
theorem QTri.pure {st st' : QSt} (h : QTri l Z n0 ad m st' v σ') (hσ : st'.2.2.2 = st.2.2.2)
  (hs : ∀ (p : Program) (e : Env) (R : Room) (s : State) (mid : MethodId) (args : Array Value) (below : List Frame) (meth : Method) (c : Code) (T : State) (locs : List Loc) (cells slots : Nat) (C : Array Slot),
   QCx Z p R s mid meth c m → Stand p l e R s mid args below meth c T locs cells slots → QRep Z n0 ad T.heap st.2.2.2 → QLocOk ad st.2.1 C → C.size = c.maxLocals →
   ∃ T₁ C₁, Stand p l e R s mid args below meth c T₁ locs cells slots ∧ T₁.heap = T.heap ∧ QLocOk ad st'.2.1 C₁ ∧ C₁.size = c.maxLocals ∧
    ∀ target, Steps p.tables e below (T₁.setTop (mkF mid st'.1 C₁ (st'.2.2.1.map (qv ad)))) target → Steps p.tables e below (T.setTop (mkF mid st.1 C (st.2.2.1.map (qv ad)))) target) :
  QTri l Z n0 ad m st v σ' := by
 refine QTri.gen h (by rw [hσ]; exact Nat.le_refl _) (by rw [hσ]; exact Nat.le_refl _) fun p e R s mid args below meth c T locs cells slots C hcx X hR hF hL hC hn hc hsl => ?_
 obtain ⟨T₁, C₁, X₁, hh, L₁, C1, S₁⟩ := hs p e R s mid args below meth c T locs cells slots C hcx X hR hL hC
 refine ⟨T₁, locs, C₁, ?_, by rw [hσ, hh]; exact hR, hF, L₁, C1, S₁⟩
 rw [hσ, Nat.sub_self, Nat.sub_self]
 exact X₁
theorem QTri.frame {pc pc' : Nat} {L L' : QLoc} {S S' : List Value} {σ : QHeap} (h : QTri l Z n0 ad m (pc', L', S', σ) v σ')
  (hs : ∀ (p : Program) (e : Env) (R : Room) (s : State) (mid : MethodId) (args : Array Value) (below : List Frame) (meth : Method) (c : Code) (T : State) (locs : List Loc) (cells slots : Nat) (C : Array Slot),
   QCx Z p R s mid meth c m → Stand p l e R s mid args below meth c T locs cells slots → QRep Z n0 ad T.heap σ → QLocOk ad L C → C.size = c.maxLocals →
   ∃ C₁, QLocOk ad L' C₁ ∧ C₁.size = c.maxLocals ∧ ∀ target, Steps p.tables e below (T.setTop (mkF mid pc' C₁ (S'.map (qv ad)))) target → Steps p.tables e below (T.setTop (mkF mid pc C (S.map (qv ad)))) target) :
  QTri l Z n0 ad m (pc, L, S, σ) v σ' :=
 QTri.pure h rfl fun p e R s mid args below meth c T locs cells slots C hcx X hR hL hC => by
  obtain ⟨C₁, h1, h2, h3⟩ := hs p e R s mid args below meth c T locs cells slots C hcx X hR hL hC
  exact ⟨T, C₁, X, rfl, h1, h2, h3⟩
theorem QTri.stack {pc pc' : Nat} {L : QLoc} {S S' : List Value} {σ : QHeap} (h : QTri l Z n0 ad m (pc', L, S', σ) v σ')
  (hs : ∀ (p : Program) (e : Env) (R : Room) (s : State) (mid : MethodId) (args : Array Value) (below : List Frame) (meth : Method) (c : Code) (T : State) (locs : List Loc) (cells slots : Nat) (C : Array Slot) (target : State),
   p.tables.exec = Jvm.exec → Z.Warmed39 s.vm → c.code = pBytes m → s.vm.findClass (kName (pK m)) = some mid.cls → Stand p l e R s mid args below meth c T locs cells slots → QRep Z n0 ad T.heap σ → QLocOk ad L C →
   Steps p.tables e below (T.setTop (mkF mid pc' C (S'.map (qv ad)))) target → Steps p.tables e below (T.setTop (mkF mid pc C (S.map (qv ad)))) target) :
  QTri l Z n0 ad m (pc, L, S, σ) v σ' :=
 QTri.frame h fun p e R s mid args below meth c T locs cells slots C hcx X hR hL hC => ⟨C, hL, hC, fun target k => hs p e R s mid args below meth c T locs cells slots C target hcx.1 hcx.2.1 hcx.2.2.1 hcx.2.2.2.2.2.1 X hR hL k⟩
theorem qload_inv {pc : Nat} {L : QLoc} {S : List Value} {σ : QHeap} {k : Nat} {ok : Value → Bool} {st' : QSt} (h : qload pc L S σ k ok = some st') : ∃ v, lget L k = some v ∧ ok v = true ∧ st' = (pc, L, v :: S, σ) := by
 unfold qload at h
 split at h
 ·rename_i v hv
  cases ho : ok v with
  | true => rw [ho] at h; cases h; exact ⟨v, hv, ho, rfl⟩
  | false => rw [ho] at h; cases h
 ·cases h
theorem qstore_inv {pc : Nat} {L : QLoc} {S : List Value} {σ : QHeap} {k : Nat} {ok : Value → Bool} {st' : QSt} (h : qstore pc L S σ k ok = some st') : ∃ v S' L', S = v :: S' ∧ ok v = true ∧ lput L k v = some L' ∧ st' = (pc, L', S', σ) := by
 unfold qstore at h
 split at h
 ·rename_i v S'
  cases ho : ok v with
  | true =>
   rw [ho] at h
   simp only [cond_true] at h
   split at h
   ·rename_i L' hL'
    cases h; exact ⟨v, S', L', rfl, ho, hL', rfl⟩
   ·cases h
  | false => rw [ho] at h; cases h
 ·cases h
theorem qbin_inv {pc : Nat} {L : QLoc} {S : List Value} {σ : QHeap} {f : Int32 → Int32 → Int32} {st' : QSt} (h : qbin pc L S σ f = some st') : ∃ x y S', S = .int y :: .int x :: S' ∧ st' = (pc, L, .int (f x y) :: S', σ) := by
 unfold qbin at h
 split at h
 ·cases h; exact ⟨_, _, _, rfl, rfl⟩
 ·cases h
theorem qbino_inv {pc : Nat} {L : QLoc} {S : List Value} {σ : QHeap} {f : Int32 → Int32 → Option Int32} {st' : QSt} (h : qbino pc L S σ f = some st') : ∃ x y z S', S = .int y :: .int x :: S' ∧ f x y = some z ∧ st' = (pc, L, .int z :: S', σ) := by
 unfold qbino at h
 split at h
 ·obtain ⟨z, hz, h⟩ := Option.bind_eq_some_iff.mp h
  cases h; exact ⟨_, _, _, _, rfl, hz, rfl⟩
 ·cases h
theorem qbinJ_inv {pc : Nat} {L : QLoc} {S : List Value} {σ : QHeap} {f : Int64 → Int64 → Int64} {st' : QSt} (h : qbinJ pc L S σ f = some st') : ∃ x y S', S = .long y :: .long x :: S' ∧ st' = (pc, L, .long (f x y) :: S', σ) := by
 unfold qbinJ at h
 split at h
 ·cases h; exact ⟨_, _, _, rfl, rfl⟩
 ·cases h
theorem qshJ_inv {pc : Nat} {L : QLoc} {S : List Value} {σ : QHeap} {f : Int64 → Int32 → Int64} {st' : QSt} (h : qshJ pc L S σ f = some st') : ∃ x y S', S = .int y :: .long x :: S' ∧ st' = (pc, L, .long (f x y) :: S', σ) := by
 unfold qshJ at h
 split at h
 ·cases h; exact ⟨_, _, _, rfl, rfl⟩
 ·cases h
theorem quni_inv {pc : Nat} {L : QLoc} {S : List Value} {σ : QHeap} {f : Int32 → Value} {st' : QSt} (h : quni pc L S σ f = some st') : ∃ x S', S = .int x :: S' ∧ st' = (pc, L, f x :: S', σ) := by
 unfold quni at h
 split at h
 ·cases h; exact ⟨_, _, rfl, rfl⟩
 ·cases h
theorem quniJ_inv {pc : Nat} {L : QLoc} {S : List Value} {σ : QHeap} {f : Int64 → Value} {st' : QSt} (h : quniJ pc L S σ f = some st') : ∃ x S', S = .long x :: S' ∧ st' = (pc, L, f x :: S', σ) := by
 unfold quniJ at h
 split at h
 ·cases h; exact ⟨_, _, rfl, rfl⟩
 ·cases h
theorem qif_inv {pc : Nat} {L : QLoc} {S : List Value} {σ : QHeap} {cd : ClassFile.Cond} {t : Nat} {st' : QSt} (h : qif pc L S σ cd t = some st') : ∃ x S', S = .int x :: S' ∧ st' = (bif ifCond.holds cd x then t else pc, L, S', σ) := by
 unfold qif at h
 split at h
 ·cases h; exact ⟨_, _, rfl, rfl⟩
 ·cases h
theorem qicmp_inv {pc : Nat} {L : QLoc} {S : List Value} {σ : QHeap} {cd : ClassFile.Cond} {t : Nat} {st' : QSt} (h : qicmp pc L S σ cd t = some st') : ∃ x y S', S = .int y :: .int x :: S' ∧ st' = (bif if_icmp.holds cd x y then t else pc, L, S', σ) := by
 unfold qicmp at h
 split at h
 ·cases h; exact ⟨_, _, _, rfl, rfl⟩
 ·cases h
theorem qget_inv {pc : Nat} {L : QLoc} {S : List Value} {σ : QHeap} {k : Nat} {st' : QSt} (h : qget pc L S σ k = some st') : ∃ a S' vs v, S = .ref a :: S' ∧ hget σ a = some (.inl vs) ∧ vget vs k = some v ∧ st' = (pc, L, v :: S', σ) := by
 unfold qget at h
 split at h
 ·split at h
  ·split at h
   ·cases h; exact ⟨_, _, _, _, rfl, by assumption, by assumption, rfl⟩
   ·cases h
  ·cases h
 ·cases h
theorem qput_inv {pc : Nat} {L : QLoc} {S : List Value} {σ : QHeap} {k : Nat} {st' : QSt} (h : qput pc L S σ k = some st') : ∃ v a S' vs w, S = v :: .ref a :: S' ∧ hget σ a = some (.inl vs) ∧ k0 ≤ a ∧ k < vs.length ∧ qfit (fTy k) v = some w ∧ st' = (pc, L, S', σ.set a (.inl (vs.set k w))) := by
 unfold qput at h
 split at h
 ·rename_i v a S'
  split at h
  ·rename_i vs hvs
   cases hbb : (Nat.ble k0 a && Nat.ble (k + 1) vs.length) with
   | false => rw [hbb] at h; cases h
   | true =>
    rw [hbb] at h
    simp only [cond_true] at h
    obtain ⟨u, hu, h⟩ := Option.bind_eq_some_iff.mp h
    cases h
    obtain ⟨b1, b2⟩ := Bool.and_eq_true_iff.mp hbb
    exact ⟨v, a, S', vs, u, rfl, hvs, Nat.le_of_ble_eq_true b1, Nat.le_of_ble_eq_true b2, hu, rfl⟩
  ·cases h
 ·cases h
theorem qald_inv {pc : Nat} {L : QLoc} {S : List Value} {σ : QHeap} {ok : FieldType → Bool} {st' : QSt} (h : qald pc L S σ ok = some st') : ∃ j a S' ty xs v, S = .int j :: .ref a :: S' ∧ hget σ a = some (.inr (.inl (ty, xs))) ∧ ok ty = true ∧ aget xs j = some v ∧ st' = (pc, L, .int v :: S', σ) := by
 unfold qald at h
 split at h
 ·rename_i j a S'
  split at h
  ·rename_i x hx
   cases ht : ok x.1 with
   | false => rw [ht] at h; cases h
   | true =>
    rw [ht] at h
    simp only [cond_true] at h
    obtain ⟨u, hu, h⟩ := Option.bind_eq_some_iff.mp h
    cases h
    exact ⟨j, a, S', x.1, x.2, u, rfl, hx, ht, hu, rfl⟩
  ·cases h
 ·cases h
theorem qaldJ_inv {pc : Nat} {L : QLoc} {S : List Value} {σ : QHeap} {st' : QSt} (h : qaldJ pc L S σ = some st') : ∃ j a S' xs v, S = .int j :: .ref a :: S' ∧ hget σ a = some (.inr (.inr xs)) ∧ aget xs j = some v ∧ st' = (pc, L, .long v :: S', σ) := by
 unfold qaldJ at h
 split at h
 ·rename_i j a S'
  split at h
  ·rename_i x hx
   obtain ⟨u, hu, h⟩ := Option.bind_eq_some_iff.mp h
   cases h
   exact ⟨j, a, S', x, u, rfl, hx, hu, rfl⟩
  ·cases h
 ·cases h
theorem qast_inv {pc : Nat} {L : QLoc} {S : List Value} {σ : QHeap} {ok : FieldType → Bool} {st' : QSt} (h : qast pc L S σ ok = some st') : ∃ v j a S' ty xs ys, S = .int v :: .int j :: .ref a :: S' ∧ hget σ a = some (.inr (.inl (ty, xs))) ∧ ok ty = true ∧ k0 ≤ a ∧ aset xs j (qnar ty v) = some ys ∧ st' = (pc, L, S', σ.set a (.inr (.inl (ty, ys)))) := by
 unfold qast at h
 split at h
 ·rename_i v j a S'
  split at h
  ·rename_i x hx
   cases ht : (ok x.1 && Nat.ble k0 a) with
   | false => rw [ht] at h; cases h
   | true =>
    rw [ht] at h
    simp only [cond_true] at h
    obtain ⟨u, hu, h⟩ := Option.bind_eq_some_iff.mp h
    cases h
    obtain ⟨b1, b2⟩ := Bool.and_eq_true_iff.mp ht
    exact ⟨v, j, a, S', x.1, x.2, u, rfl, hx, b1, Nat.le_of_ble_eq_true b2, hu, rfl⟩
  ·cases h
 ·cases h
theorem qastJ_inv {pc : Nat} {L : QLoc} {S : List Value} {σ : QHeap} {st' : QSt} (h : qastJ pc L S σ = some st') : ∃ v j a S' xs ys, S = .long v :: .int j :: .ref a :: S' ∧ hget σ a = some (.inr (.inr xs)) ∧ k0 ≤ a ∧ aset xs j v = some ys ∧ st' = (pc, L, S', σ.set a (.inr (.inr ys))) := by
 unfold qastJ at h
 split at h
 ·rename_i v j a S'
  split at h
  ·rename_i x hx
   cases ht : (Nat.ble k0 a) with
   | false => rw [ht] at h; cases h
   | true =>
    rw [ht] at h
    simp only [cond_true] at h
    obtain ⟨u, hu, h⟩ := Option.bind_eq_some_iff.mp h
    cases h
    exact ⟨v, j, a, S', x, u, rfl, hx, Nat.le_of_ble_eq_true ht, hu, rfl⟩
  ·cases h
 ·cases h
theorem qlen_inv {pc : Nat} {L : QLoc} {S : List Value} {σ : QHeap} {st' : QSt} (h : qlen pc L S σ = some st') : ∃ a S' n, S = .ref a :: S' ∧ ((∃ ty xs, hget σ a = some (.inr (.inl (ty, xs))) ∧ n = xs.length) ∨ ∃ xs, hget σ a = some (.inr (.inr xs)) ∧ n = xs.length) ∧ st' = (pc, L, .int n.toInt32 :: S', σ) := by
 unfold qlen at h
 split at h
 ·rename_i a S'
  split at h
  ·rename_i x hx
   cases h; exact ⟨a, S', _, rfl, Or.inl ⟨x.1, x.2, hx, rfl⟩, rfl⟩
  ·rename_i x hx
   cases h; exact ⟨a, S', _, rfl, Or.inr ⟨x, hx, rfl⟩, rfl⟩
  ·cases h
 ·cases h
theorem isI_inv {v : Value} (h : isI v = true) : ∃ x, v = .int x := by cases v <;> simp [isI] at h; exact ⟨_, rfl⟩
theorem isJ_inv {v : Value} (h : isJ v = true) : ∃ x, v = .long x := by cases v <;> simp [isJ] at h; exact ⟨_, rfl⟩
theorem isR_inv {v : Value} (h : isR v = true) : ∃ x, v = .ref x := by cases v <;> simp [isR] at h; exact ⟨_, rfl⟩
theorem aget_inv {α : Type} {xs : List α} {j : Int32} {x : α} (h : aget xs j = some x) : ¬ j < 0 ∧ xs[j.toNatClampNeg]? = some x := by
 unfold aget at h
 split at h
 ·cases h
 ·rename_i q; exact ⟨q, h⟩
theorem aset_inv {α : Type} {xs ys : List α} {j : Int32} {x : α} (h : aset xs j x = some ys) : ¬ j < 0 ∧ j.toNatClampNeg < xs.length ∧ ys = xs.set j.toNatClampNeg x := by
 unfold aset at h
 split at h
 ·cases h
 ·rename_i q
  split at h
  ·rename_i q2; cases h; exact ⟨q, q2, rfl⟩
  ·cases h
theorem qnew_inv {n : Int32} {k : Nat} (h : qnew n = some k) : ¬ n < 0 ∧ n.toNatClampNeg = k ∧ k ≤ 67108864 := by
 unfold qnew at h
 split at h
 ·cases h
 ·rename_i q
  split at h
  ·rename_i q2; cases h; exact ⟨q, rfl, q2⟩
  ·cases h
theorem QCellOk.other {h h' : Heap} {a b : Addr} {sl : Nat} {w : Value} {c : QCell} (H : QCellOk Z ad h b c) (W : Wr h h' a sl w) (ne : b ≠ a) : QCellOk Z ad h' b c := by
 rcases c with vs | ⟨ty, xs⟩ | xs
 ·obtain ⟨h1, h2, h3⟩ := H
  exact ⟨h1.wr W, h2, fun k u hk hu => (h3 k u hk hu).other W (Or.inl ne)⟩
 ·obtain ⟨c, h1, h2⟩ := H
  exact ⟨c, h1.other W ne, h2⟩
 ·obtain ⟨c, h1, h2⟩ := H
  exact ⟨c, h1.other W ne, h2⟩
theorem QCellOk.ext {h h' : Heap} {b : Addr} {c : QCell} (H : QCellOk Z ad h b c) (E : Ext h h') : QCellOk Z ad h' b c := by
 rcases c with vs | ⟨ty, xs⟩ | xs
 ·obtain ⟨h1, h2, h3⟩ := H
  exact ⟨h1.ext E, h2, fun k u hk hu => (h3 k u hk hu).ext E⟩
 ·obtain ⟨c, h1, h2⟩ := H
  exact ⟨c, h1.ext E, h2⟩
 ·obtain ⟨c, h1, h2⟩ := H
  exact ⟨c, h1.ext E, h2⟩
theorem QRep.set {h h' : Heap} {σ : QHeap} {a : Nat} {sl : Nat} {w : Value} {c d : QCell} (H : QRep Z n0 ad h σ) (Ad : QAd n0 ad) (W : Wr h h' (ad a) sl w) (hc : hget σ a = some c) (hd : QCellOk Z ad h' (ad a) d) : QRep Z n0 ad h' (σ.set a d) := by
 obtain ⟨h1, h2, h3⟩ := H
 refine ⟨by simpa using h1, by rw [W.size, h2]; simp, fun k e he => ?_⟩
 rw [hget_set hc] at he
 split at he
 ·rename_i q; cases he; rw [q]; exact hd
 ·rename_i q; exact (h3 k e he).other W fun z => q (Ad.2 _ _ z)
theorem QRep.push {h h' : Heap} {σ : QHeap} {c : QCell} (H : QRep Z n0 ad h σ) (Ad : QAd n0 ad) (E : Ext h h') (hs : h'.size = h.size + 1) (hc : QCellOk Z ad h' h.size c) : QRep Z n0 ad h' (σ ++ [c]) := by
 obtain ⟨h1, h2, h3⟩ := H
 refine ⟨by simp; omega, by rw [hs, h2]; simp; omega, fun k e he => ?_⟩
 rw [hget_eq] at he
 rcases Nat.lt_or_ge k σ.length with q | q
 ·rw [List.getElem?_append_left q, ← hget_eq] at he
  exact (h3 k e he).ext E
 ·rw [List.getElem?_append_right q] at he
  obtain rfl : k = σ.length := by
   rcases Nat.lt_or_ge (k - σ.length) 1 with z | z
   ·omega
   ·rw [List.getElem?_eq_none (by simpa using z)] at he; cases he
  simp at he
  rw [← he, Ad.1 _ h1, ← h2]
  exact hc
theorem mem_of_contains {α : Type} [BEq α] [LawfulBEq α] {L : List α} {a : α} (h : L.contains a = true) : a ∈ L := by simpa using h
theorem lkF_lt : ∀ t ∈ lkF, t.2.2 < nF := by decide +kernel
theorem laid_of (W : QW Z a0) {k : Nat} (hk : k < nF) : Laid Z a0 cName cName (fNm k) (fDs k) := by
 have q := (qw_lay W) k hk
 cases hf : fFin k with
 | true => rw [hf] at q; exact Or.inr q
 | false => rw [hf] at q; exact Or.inl q
theorem qfit_inv {ty : FieldType} {v w : Value} (h : qfit ty v = some w) : v = w ∧ narrow ty (qv ad w) = qv ad w ∧ fits ty (qv ad w) = true := by
 unfold qfit at h
 split at h
 ·cases h; exact ⟨rfl, rfl, rfl⟩
 ·rename_i x
  obtain ⟨y, hy, h⟩ := Option.bind_eq_some_iff.mp h
  cases h
  unfold qboo at hy
  split at hy
  ·rename_i e; cases hy; subst e; exact ⟨rfl, rfl, rfl⟩
  ·split at hy
   ·rename_i e; cases hy; subst e; exact ⟨rfl, rfl, rfl⟩
   ·cases hy
 ·cases h; exact ⟨rfl, rfl, rfl⟩
 ·cases h; exact ⟨rfl, rfl, rfl⟩
 ·cases h
theorem vget_set {vs : List Value} {k j : Nat} {w : Value} (hk : k < vs.length) : vget (vs.set k w) j = if j = k then some w else vget vs j := by
 simp only [vget_eq, List.getElem?_set]
 by_cases e : k = j
 ·subst e; simp [hk]
 ·simp [e, Ne.symm e]
theorem ald_in {α : Type} {f : α → Value} {xs : List α} {c : Cell} {j : Int32} {x : α} (hc : c.slots = (xs.map f).toArray) (h : aget xs j = some x) : ¬ (j < 0 ∨ c.slots.size ≤ j.toNatClampNeg) ∧ c.slots[j.toNatClampNeg]? = some (f x) := by
 obtain ⟨h1, h2⟩ := aget_inv h
 have h3 := (List.getElem?_eq_some_iff.mp h2).1
 refine ⟨fun q => ?_, by rw [hc]; simp [h2]⟩
 rcases q with q | q
 ·exact h1 q
 ·rw [hc] at q; simp at q; omega
theorem ast_in {α : Type} {f : α → Value} {xs ys : List α} {c : Cell} {j : Int32} {x : α} (hc : c.slots = (xs.map f).toArray) (h : aset xs j x = some ys) : ¬ (j < 0 ∨ c.slots.size ≤ j.toNatClampNeg) ∧ (c.setSlot j.toNatClampNeg (f x)).slots = (ys.map f).toArray := by
 obtain ⟨h1, h2, rfl⟩ := aset_inv h
 refine ⟨fun q => ?_, by simp [Cell.setSlot, hc, List.map_set]⟩
 rcases q with q | q
 ·exact h1 q
 ·rw [hc] at q; simp at q; omega
theorem qgrow {σ : QHeap} {c : QCell} : qhs (σ ++ [c]) - qhs σ = qsz c := by rw [qhs_app]; simp [qhs]
set_option maxHeartbeats 4000000 in
theorem QTri.newArr (Ad : QAd n0 ad) (W : QW Z a0) {pc aux : Nat} {L : QLoc} {S : List Value} {σ : QHeap} {aty : ArrayType} {n : Int32} {k : Nat} {c : QCell} (hk : qnew n = some k) (hc : pCode m pc = some (.newarray aty, aux)) (hz : qsz c = k)
  (hq : ∀ (h' : Heap) (a : Addr) (cA : ClassId), Arr Z h' a (newA cA (newarray.typeOf aty) n) (newarray.typeOf aty) → QCellOk Z ad h' a c)
  (h : QTri l Z n0 ad m (pc + 2, L, .ref σ.length :: S, σ ++ [c]) v σ') : QTri l Z n0 ad m (pc, L, .int n :: S, σ) v σ' := by
 have hd : decode (pBytes m) pc = .ok (.newarray aty, 2) := pDecN hc rfl
 obtain ⟨n1, n2, n3⟩ := qnew_inv hk
 refine QTri.gen h (by simp) (by simp [qhs_app]) fun p e R s mid args below meth c' T locs cells slots C hcx X hR hF hL hC hn hc1 hsl => ?_
 obtain ⟨hx, hZ, hby, hml, hret, hown, hnm, hfr, hlo⟩ := hcx
 have hd2 : decode c'.code pc = .ok (.newarray aty, 2) := by rw [hby]; exact hd
 simp only [List.length_append, List.length_singleton, Nat.add_sub_cancel_left, qgrow, hz] at hc1 hsl ⊢
 obtain ⟨T₁, h₁, cA, X₁, e₁, E₁, A₁, st⟩ := newP X hx hZ (aty := aty) (qw_arr W (newarray.typeOf aty) (mem_of_contains (show aTys.contains (newarray.typeOf aty) = true from pRest hc))) rfl (g := mkF mid pc C (.int n :: S.map (qv ad))) rfl hd2 rfl n1 (cap := k) (by omega) (by omega) hc1 hsl
 have hsz : h₁.size = T.heap.size + 1 := by
  have q1 := X₁.heapSize
  have q2 : T.heap.size < h₁.size := A₁.lt
  have q3 := hR.2.1
  rw [e₁] at q1
  have : n0 + (σ.length - k0) = s.heap.size + cells := hn
  have q3' : T.heap.size = n0 + (σ.length - k0) := q3
  omega
 refine ⟨T₁, locs, C, X₁, ?_, hF, hL, hC, fun target q => ?_⟩
 ·rw [e₁]; exact QRep.push hR Ad E₁ hsz (hq _ _ _ A₁)
 ·refine st _ ?_
  have e2 : ad σ.length = T.heap.size := by rw [Ad.1 _ hR.1]; exact hR.2.1.symm
  simp only [List.map_cons, qv, e2] at q
  exact q
set_option maxHeartbeats 4000000 in
theorem QTri.getfield (W : QW Z a0) {pc idx aux : Nat} {L : QLoc} {S : List Value} {σ : QHeap} {st' : QSt} (h : QTri l Z n0 ad m st' v σ') (hc : pCode m pc = some (.getfield idx, aux)) (hs : qget (pc + 3) L S σ aux = some st') : QTri l Z n0 ad m (pc, L, S, σ) v σ' := by
 have hd : decode (pBytes m) pc = .ok (.getfield idx, 3) := pDecN hc rfl
 obtain ⟨a, S', vs, w, rfl, hvs, hw, rfl⟩ := qget_inv hs
 have hm := mem_of_contains (show lkF.contains (pK m, idx, aux) = true from pRest hc)
 have hlt := lkF_lt _ hm
 refine QTri.pure h rfl fun p e R s mid args below meth c T locs cells slots C hcx X hR hL hC => ?_
 obtain ⟨hx, hZ, hby, hml, hret, hown, hnm, hfr, hlo⟩ := hcx
 have hd2 : decode c.code pc = .ok (.getfield idx, 3) := by rw [hby]; exact hd
 have F := (hR.2.2 _ _ hvs).2.2 aux w hlt hw
 obtain ⟨T₁, X₁, e₁, st⟩ := getF X hx hZ hown (host := "") (index := idx) (Or.inl (qw_fl W (pK m, idx, aux) hm)) Via.refl rfl F (g := mkF mid pc C (List.map (qv ad) (.ref a :: S'))) rfl rfl hd2
 exact ⟨T₁, C, X₁, e₁, hL, hC, st⟩
set_option maxHeartbeats 4000000 in
theorem QTri.putfield (Ad : QAd n0 ad) (W : QW Z a0) {pc idx aux : Nat} {L : QLoc} {S : List Value} {σ : QHeap} {st' : QSt} (h : QTri l Z n0 ad m st' v σ') (hc : pCode m pc = some (.putfield idx, aux)) (hs : qput (pc + 3) L S σ aux = some st') : QTri l Z n0 ad m (pc, L, S, σ) v σ' := by
 have hd : decode (pBytes m) pc = .ok (.putfield idx, 3) := pDecN hc rfl
 obtain ⟨w, a, S', vs, u, rfl, hvs, b1, b2, hu, rfl⟩ := qput_inv hs
 obtain ⟨r1, r2⟩ := Bool.and_eq_true_iff.mp (show (lkF.contains (pK m, idx, aux) && (!fFin aux || (pK m == 1 && pNm m == "<init>"))) = true from pRest hc)
 have hm := mem_of_contains r1
 have hlt := lkF_lt _ hm
 obtain ⟨rfl, q2, q3⟩ := qfit_inv (ad := ad) hu
 have hsz : qhs (σ.set a (Sum.inl (vs.set aux w))) = qhs σ := qhs_set hvs rfl
 refine QTri.gen h (by simp) (by show qhs σ ≤ qhs (σ.set a (Sum.inl (vs.set aux w))); rw [hsz]; exact Nat.le_refl _) fun p e R s mid args below meth c T locs cells slots C hcx X hR hF hL hC hn hc1 hsl => ?_
 obtain ⟨hx, hZ, hby, hml, hret, hown, hnm, hfr, hlo⟩ := hcx
 have hd2 : decode c.code pc = .ok (.putfield idx, 3) := by rw [hby]; exact hd
 obtain ⟨E, l1, Fs⟩ := hR.2.2 _ _ hvs
 obtain ⟨old, hold⟩ : ∃ old, vget vs aux = some old := by rw [vget_eq]; exact ⟨_, List.getElem?_eq_getElem b2⟩
 have lay : (Cond.lays cName cName (fNm aux) (fDs aux)).before a0 Z = true ∨ ((Cond.laysFinal cName cName (fNm aux) (fDs aux)).before a0 Z = true ∧ kName (pK m) = cName ∧ meth.name = "<init>") := by
  have q := (qw_lay W) aux hlt
  cases hf : fFin aux with
  | false => rw [hf] at q; exact Or.inl q
  | true =>
   rw [hf] at q r2
   simp at r2
   exact Or.inr ⟨q, by rw [r2.1]; exact kOne, by rw [hnm]; exact r2.2⟩
 obtain ⟨T₁, h₁, X₁, e₁, W₁, st⟩ := putF X hx hZ hown (host := "") (index := idx) (Or.inl (qw_fl W (pK m, idx, aux) hm)) Via.refl rfl (Fs aux old hlt hold) E lay ((qw_inst W)) (fPrs aux hlt) q2 q3 (g := mkF mid pc C (List.map (qv ad) (w :: .ref a :: S'))) rfl rfl hd2
 refine ⟨T₁, _, C, ?_, ?_, Fr.snoc X₁ hF (by rw [Ad.1 a b1]; exact Nat.le_add_right _ _), hL, hC, st⟩
 ·show Stand _ _ _ _ _ _ _ _ _ _ _ _ (cells + ((σ.set a (Sum.inl (vs.set aux w))).length - σ.length)) (slots + (qhs (σ.set a (Sum.inl (vs.set aux w))) - qhs σ))
  rw [hsz, Nat.sub_self, List.length_set, Nat.sub_self]
  exact X₁
 ·rw [e₁]
  refine QRep.set hR Ad W₁ hvs ⟨E.wr W₁, by simpa using l1, fun k u hk hu => ?_⟩
  rw [vget_set b2] at hu
  split at hu
  ·rename_i e; cases hu; rw [e]; exact (Fs aux old hlt hold).same W₁
  ·rename_i ne
   exact (Fs k u hk hu).other W₁ (Or.inr (slot_ne (laid_of W hk) (laid_of W hlt) (fun z => ne (fInj _ hk _ hlt z)) (fPrs _ hk) (fPrs _ hlt)))
theorem tyI_inv {ty : FieldType} (h : tyI ty = true) : ty = .int := by cases ty <;> simp [tyI] at h; rfl
theorem tyB_inv {ty : FieldType} (h : tyB ty = true) : ty = .boolean ∨ ty = .byte := by cases ty <;> simp [tyB] at h <;> simp
set_option maxHeartbeats 4000000 in
theorem QTri.iaload {pc aux : Nat} {L : QLoc} {S : List Value} {σ : QHeap} {st' : QSt} (h : QTri l Z n0 ad m st' v σ') (hc : pCode m pc = some (.iaload, aux)) (hs : qald (pc + 1) L S σ tyI = some st') : QTri l Z n0 ad m (pc, L, S, σ) v σ' := by
 have hd : decode (pBytes m) pc = .ok (.iaload, 1) := pDecN hc rfl
 obtain ⟨j, a, S', ty, xs, w, rfl, hx1, ht, hw, rfl⟩ := qald_inv hs
 obtain rfl := tyI_inv ht
 refine QTri.stack h fun p e R s mid args below meth c T locs cells slots C target hx hZ hby hown X hR hL k => ?_
 have hd2 : decode c.code pc = .ok (.iaload, 1) := by rw [hby]; exact hd
 obtain ⟨cl, A, hsl⟩ := hR.2.2 _ _ hx1
 obtain ⟨i1, i2⟩ := ald_in hsl hw
 exact X.iaload hx A.1 (State.isArrayOf_alike hZ.alike A.2.1) A.2.2 i1 i2 (g := mkF mid pc C (List.map (qv ad) (.int j :: .ref a :: S'))) rfl rfl hd2 _ k
set_option maxHeartbeats 4000000 in
theorem QTri.baload {pc aux : Nat} {L : QLoc} {S : List Value} {σ : QHeap} {st' : QSt} (h : QTri l Z n0 ad m st' v σ') (hc : pCode m pc = some (.baload, aux)) (hs : qald (pc + 1) L S σ tyB = some st') : QTri l Z n0 ad m (pc, L, S, σ) v σ' := by
 have hd : decode (pBytes m) pc = .ok (.baload, 1) := pDecN hc rfl
 obtain ⟨j, a, S', ty, xs, w, rfl, hx1, ht, hw, rfl⟩ := qald_inv hs
 refine QTri.stack h fun p e R s mid args below meth c T locs cells slots C target hx hZ hby hown X hR hL k => ?_
 have hd2 : decode c.code pc = .ok (.baload, 1) := by rw [hby]; exact hd
 obtain ⟨cl, A, hsl⟩ := hR.2.2 _ _ hx1
 obtain ⟨i1, i2⟩ := ald_in hsl hw
 rcases tyB_inv ht with rfl | rfl
 ·exact X.baloadBooleans hx A.1 (State.isArrayOf_alike hZ.alike A.2.1) A.2.2 i1 i2 (g := mkF mid pc C (List.map (qv ad) (.int j :: .ref a :: S'))) rfl rfl hd2 _ k
 ·exact X.baloadBytes hx A.1 (State.isArrayOf_alike hZ.alike A.2.1) A.2.2 i1 i2 (g := mkF mid pc C (List.map (qv ad) (.int j :: .ref a :: S'))) rfl rfl hd2 _ k
set_option maxHeartbeats 4000000 in
theorem QTri.laload {pc aux : Nat} {L : QLoc} {S : List Value} {σ : QHeap} {st' : QSt} (h : QTri l Z n0 ad m st' v σ') (hc : pCode m pc = some (.laload, aux)) (hs : qaldJ (pc + 1) L S σ = some st') : QTri l Z n0 ad m (pc, L, S, σ) v σ' := by
 have hd : decode (pBytes m) pc = .ok (.laload, 1) := pDecN hc rfl
 obtain ⟨j, a, S', xs, w, rfl, hx1, hw, rfl⟩ := qaldJ_inv hs
 refine QTri.stack h fun p e R s mid args below meth c T locs cells slots C target hx hZ hby hown X hR hL k => ?_
 have hd2 : decode c.code pc = .ok (.laload, 1) := by rw [hby]; exact hd
 obtain ⟨cl, A, hsl⟩ := hR.2.2 _ _ hx1
 obtain ⟨i1, i2⟩ := ald_in hsl hw
 exact X.laload hx A.1 (State.isArrayOf_alike hZ.alike A.2.1) A.2.2 i1 i2 (g := mkF mid pc C (List.map (qv ad) (.int j :: .ref a :: S'))) rfl rfl hd2 _ k
theorem QTri.stored (Ad : QAd n0 ad) {pc : Nat} {L : QLoc} {S S' : List Value} {σ : QHeap} {a j : Nat} {w : Value} {c d : QCell} (hx1 : hget σ a = some c) (b1 : k0 ≤ a) (hz : qsz d = qsz c) (h : QTri l Z n0 ad m (pc + 1, L, S', σ.set a d) v σ')
  (hs : ∀ (p : Program) (e : Env) (R : Room) (s : State) (mid : MethodId) (args : Array Value) (below : List Frame) (meth : Method) (c : Code) (T : State) (locs : List Loc) (cells slots : Nat) (C : Array Slot),
   QCx Z p R s mid meth c m → Stand p l e R s mid args below meth c T locs cells slots → QRep Z n0 ad T.heap σ →
   ∃ T' h', Stand p l e R s mid args below meth c T' (locs ++ [⟨ad a, j⟩]) cells slots ∧ T'.heap = h' ∧ Wr T.heap h' (ad a) j w ∧ QCellOk Z ad h' (ad a) d ∧ ∀ target, Steps p.tables e below (T'.setTop (mkF mid (pc + 1) C (S'.map (qv ad)))) target → Steps p.tables e below (T.setTop (mkF mid pc C (S.map (qv ad)))) target) :
  QTri l Z n0 ad m (pc, L, S, σ) v σ' := by
 have hsz : qhs (σ.set a d) = qhs σ := qhs_set hx1 hz
 refine QTri.gen h (by simp) (by show qhs σ ≤ qhs (σ.set a d); rw [hsz]; exact Nat.le_refl _) fun p e R s mid args below meth c T locs cells slots C hcx X hR hF hL hC hn hc1 hsl => ?_
 obtain ⟨T₁, h₁, X₁, e₁, W₁, Q₁, st⟩ := hs p e R s mid args below meth c T locs cells slots C hcx X hR
 refine ⟨T₁, _, C, ?_, ?_, Fr.snoc X₁ hF (by rw [Ad.1 a b1]; exact Nat.le_add_right _ _), hL, hC, st⟩
 ·show Stand _ _ _ _ _ _ _ _ _ _ _ _ (cells + ((σ.set a d).length - σ.length)) (slots + (qhs (σ.set a d) - qhs σ))
  rw [hsz, Nat.sub_self, List.length_set, Nat.sub_self]
  exact X₁
 ·rw [e₁]
  exact QRep.set hR Ad W₁ hx1 Q₁
set_option maxHeartbeats 4000000 in
theorem QTri.iastore (Ad : QAd n0 ad) {pc aux : Nat} {L : QLoc} {S : List Value} {σ : QHeap} {st' : QSt} (h : QTri l Z n0 ad m st' v σ') (hc : pCode m pc = some (.iastore, aux)) (hs : qast (pc + 1) L S σ tyI = some st') : QTri l Z n0 ad m (pc, L, S, σ) v σ' := by
 have hd : decode (pBytes m) pc = .ok (.iastore, 1) := pDecN hc rfl
 obtain ⟨w, j, a, S', ty, xs, ys, rfl, hx1, ht, b1, hw, rfl⟩ := qast_inv hs
 obtain rfl := tyI_inv ht
 refine QTri.stored Ad (j := j.toNatClampNeg) (w := .int w) hx1 b1 (by rw [(aset_inv hw).2.2]; simp [qsz]) h fun p e R s mid args below meth c T locs cells slots C hcx X hR => ?_
 have hd2 : decode c.code pc = .ok (.iastore, 1) := by rw [hcx.2.2.1]; exact hd
 obtain ⟨cl, A, hsl⟩ := hR.2.2 _ _ hx1
 obtain ⟨i1, i2⟩ := ast_in hsl hw
 obtain ⟨T₁, h₁, X₁, e₁, W₁, st⟩ := stI X hcx.1 hcx.2.1 rfl A i1 (g := mkF mid pc C (List.map (qv ad) (.int w :: .int j :: .ref a :: S'))) rfl rfl hd2
 exact ⟨T₁, h₁, X₁, e₁, W₁, ⟨_, A.same W₁, i2⟩, st⟩
set_option maxHeartbeats 4000000 in
theorem QTri.bastore (Ad : QAd n0 ad) {pc aux : Nat} {L : QLoc} {S : List Value} {σ : QHeap} {st' : QSt} (h : QTri l Z n0 ad m st' v σ') (hc : pCode m pc = some (.bastore, aux)) (hs : qast (pc + 1) L S σ tyB = some st') : QTri l Z n0 ad m (pc, L, S, σ) v σ' := by
 have hd : decode (pBytes m) pc = .ok (.bastore, 1) := pDecN hc rfl
 obtain ⟨w, j, a, S', ty, xs, ys, rfl, hx1, ht, b1, hw, rfl⟩ := qast_inv hs
 refine QTri.stored Ad (j := j.toNatClampNeg) (w := .int (qnar ty w)) hx1 b1 (by rw [(aset_inv hw).2.2]; simp [qsz]) h fun p e R s mid args below meth c T locs cells slots C hcx X hR => ?_
 have hd2 : decode c.code pc = .ok (.bastore, 1) := by rw [hcx.2.2.1]; exact hd
 obtain ⟨cl, A, hsl⟩ := hR.2.2 _ _ hx1
 obtain ⟨i1, i2⟩ := ast_in hsl hw
 rcases tyB_inv ht with rfl | rfl
 ·obtain ⟨T₁, h₁, X₁, e₁, W₁, st⟩ := stZ X hcx.1 hcx.2.1 rfl A i1 (g := mkF mid pc C (List.map (qv ad) (.int w :: .int j :: .ref a :: S'))) rfl rfl hd2
  exact ⟨T₁, h₁, X₁, e₁, W₁, ⟨_, A.same W₁, i2⟩, st⟩
 ·obtain ⟨T₁, h₁, X₁, e₁, W₁, st⟩ := stB X hcx.1 hcx.2.1 rfl A i1 (g := mkF mid pc C (List.map (qv ad) (.int w :: .int j :: .ref a :: S'))) rfl rfl hd2
  exact ⟨T₁, h₁, X₁, e₁, W₁, ⟨_, A.same W₁, i2⟩, st⟩
set_option maxHeartbeats 4000000 in
theorem QTri.lastore (Ad : QAd n0 ad) {pc aux : Nat} {L : QLoc} {S : List Value} {σ : QHeap} {st' : QSt} (h : QTri l Z n0 ad m st' v σ') (hc : pCode m pc = some (.lastore, aux)) (hs : qastJ (pc + 1) L S σ = some st') : QTri l Z n0 ad m (pc, L, S, σ) v σ' := by
 have hd : decode (pBytes m) pc = .ok (.lastore, 1) := pDecN hc rfl
 obtain ⟨w, j, a, S', xs, ys, rfl, hx1, b1, hw, rfl⟩ := qastJ_inv hs
 refine QTri.stored Ad (j := j.toNatClampNeg) (w := .long w) hx1 b1 (by rw [(aset_inv hw).2.2]; simp [qsz]) h fun p e R s mid args below meth c T locs cells slots C hcx X hR => ?_
 have hd2 : decode c.code pc = .ok (.lastore, 1) := by rw [hcx.2.2.1]; exact hd
 obtain ⟨cl, A, hsl⟩ := hR.2.2 _ _ hx1
 obtain ⟨i1, i2⟩ := ast_in hsl hw
 obtain ⟨T₁, h₁, X₁, e₁, W₁, st⟩ := stJ X hcx.1 hcx.2.1 rfl A i1 (g := mkF mid pc C (List.map (qv ad) (.long w :: .int j :: .ref a :: S'))) rfl rfl hd2
 exact ⟨T₁, h₁, X₁, e₁, W₁, ⟨_, A.same W₁, i2⟩, st⟩
set_option maxHeartbeats 4000000 in
theorem QTri.alen {pc aux : Nat} {L : QLoc} {S : List Value} {σ : QHeap} {st' : QSt} (h : QTri l Z n0 ad m st' v σ') (hc : pCode m pc = some (.arraylength, aux)) (hs : qlen (pc + 1) L S σ = some st') : QTri l Z n0 ad m (pc, L, S, σ) v σ' := by
 have hd : decode (pBytes m) pc = .ok (.arraylength, 1) := pDecN hc rfl
 obtain ⟨a, S', n, rfl, hx1, rfl⟩ := qlen_inv hs
 refine QTri.stack h fun p e R s mid args below meth c T locs cells slots C target hx hZ hby hown X hR hL k => ?_
 have hd2 : decode c.code pc = .ok (.arraylength, 1) := by rw [hby]; exact hd
 rcases hx1 with ⟨ty, xs, hx1, rfl⟩ | ⟨xs, hx1, rfl⟩
 ·obtain ⟨cl, A, hsl⟩ := hR.2.2 _ _ hx1
  have e1 : cl.slots.size = xs.length := by rw [hsl]; simp
  rw [← e1] at k
  exact X.arraylength hx A.1 (State.isArrayOf_alike hZ.alike A.2.1) (g := mkF mid pc C (List.map (qv ad) (.ref a :: S'))) rfl rfl hd2 _ k
 ·obtain ⟨cl, A, hsl⟩ := hR.2.2 _ _ hx1
  have e1 : cl.slots.size = xs.length := by rw [hsl]; simp
  rw [← e1] at k
  exact X.arraylength hx A.1 (State.isArrayOf_alike hZ.alike A.2.1) (g := mkF mid pc C (List.map (qv ad) (.ref a :: S'))) rfl rfl hd2 _ k
set_option maxHeartbeats 4000000 in
theorem QTri.newObj (Ad : QAd n0 ad) (W : QW Z a0) {pc idx aux : Nat} {L : QLoc} {S : List Value} {σ : QHeap} (h : QTri l Z n0 ad m (pc + 3, L, .ref σ.length :: S, σ ++ [.inl cDef]) v σ') (hc : pCode m pc = some (.new idx, aux)) : QTri l Z n0 ad m (pc, L, S, σ) v σ' := by
 have hd : decode (pBytes m) pc = .ok (.new idx, 3) := pDecN hc rfl
 have hm := mem_of_contains (show lkN.contains (pK m, idx) = true from pRest hc)
 refine QTri.gen h (by simp) (by simp [qhs_app]) fun p e R s mid args below meth c T locs cells slots C hcx X hR hF hL hC hn hc1 hsl => ?_
 obtain ⟨hx, hZ, hby, hml, hret, hown, hnm, hfr, hlo⟩ := hcx
 have hd2 : decode c.code pc = .ok (.new idx, 3) := by rw [hby]; exact hd
 simp only [List.length_append, List.length_singleton, Nat.add_sub_cancel_left, qgrow, qsz] at hc1 hsl ⊢
 obtain ⟨T₁, h₁, X₁, e₁, E₁, A₁, D₁, -, st⟩ := newO X hx hZ hown (index := idx) (qw_nw W (pK m, idx) hm) ((qw_inst W)) ((qw_init W)) rfl (g := mkF mid pc C (S.map (qv ad))) rfl hd2 hc1 hsl
 have hsz : h₁.size = T.heap.size + 1 := by
  have q1 := X₁.heapSize
  have q2 : T.heap.size < h₁.size := A₁.lt
  have q3 : T.heap.size = n0 + (σ.length - k0) := hR.2.1
  rw [e₁] at q1
  have : n0 + (σ.length - k0) = s.heap.size + cells := hn
  omega
 refine ⟨T₁, locs, C, X₁, ?_, hF, hL, hC, fun target q => ?_⟩
 ·rw [e₁]
  refine QRep.push hR Ad E₁ hsz ⟨A₁, cDefL, fun k u hk hu => ?_⟩
  rw [cDefs k hk] at hu
  cases hu
  have e3 : qv ad (defaultValue (fTy k)) = defaultValue (fTy k) := by
   cases hq : defaultValue (fTy k) with
   | ref a => exact absurd hq (fDef k hk a)
   | _ => rfl
  rw [e3]
  exact D₁ (laid_of W hk) (fPrs k hk)
 ·refine st _ ?_
  have e2 : ad σ.length = T.heap.size := by rw [Ad.1 _ hR.1]; exact hR.2.1.symm
  simp only [List.map_cons, qv, e2] at q
  exact q
set_option maxHeartbeats 8000000 in
theorem QTri.step (Ad : QAd n0 ad) (W : QW Z a0) {st st' : QSt} (h : QTri l Z n0 ad m st' v σ') (hs : qstep m st = some st') : QTri l Z n0 ad m st v σ' := by
 obtain ⟨pc, L, S, σ⟩ := st
 unfold qstep at hs
 dsimp only at hs
 split at hs
 rotate_left
 ·cases hs
 rename_i i aux hc
 have hd := pDecN hc rfl
 have hr := pRest hc
 unfold qexec at hs
 split at hs
 ·-- aload_n
  obtain ⟨w, h1, h2, rfl⟩ := qload_inv hs
  obtain ⟨a, rfl⟩ := isR_inv h2
  exact QTri.stack h fun p e R s mid args below meth c T locs cells slots C target hx hZ hby hown X hR hL k => XS.aloadN X.here hx rfl (hb hby hd) (hL.2.1 _ _ h1) rfl k
 ·obtain ⟨w, h1, h2, rfl⟩ := qload_inv hs
  obtain ⟨a, rfl⟩ := isR_inv h2
  exact QTri.stack h fun p e R s mid args below meth c T locs cells slots C target hx hZ hby hown X hR hL k => XS.aload X.here hx rfl (hb hby hd) (hL.2.1 _ _ h1) rfl k
 ·obtain ⟨w, h1, h2, rfl⟩ := qload_inv hs
  obtain ⟨a, rfl⟩ := isI_inv h2
  exact QTri.stack h fun p e R s mid args below meth c T locs cells slots C target hx hZ hby hown X hR hL k => XS.iloadN X.here hx rfl (hb hby hd) (hL.2.1 _ _ h1) k
 ·obtain ⟨w, h1, h2, rfl⟩ := qload_inv hs
  obtain ⟨a, rfl⟩ := isI_inv h2
  exact QTri.stack h fun p e R s mid args below meth c T locs cells slots C target hx hZ hby hown X hR hL k => XS.iload X.here hx rfl (hb hby hd) (hL.2.1 _ _ h1) k
 ·obtain ⟨w, h1, h2, rfl⟩ := qload_inv hs
  obtain ⟨a, rfl⟩ := isJ_inv h2
  exact QTri.stack h fun p e R s mid args below meth c T locs cells slots C target hx hZ hby hown X hR hL k => XT.lloadN X.here hx rfl (hb hby hd) (hL.2.1 _ _ h1) k
 ·obtain ⟨w, h1, h2, rfl⟩ := qload_inv hs
  obtain ⟨a, rfl⟩ := isJ_inv h2
  exact QTri.stack h fun p e R s mid args below meth c T locs cells slots C target hx hZ hby hown X hR hL k => XT.lload X.here hx rfl (hb hby hd) (hL.2.1 _ _ h1) k
 ·cases hs -- iconst
  exact QTri.stack h fun p e R s mid args below meth c T locs cells slots C target hx hZ hby hown X hR hL k => XS.iconst X.here hx rfl (hb hby hd) k
 ·cases hs
  exact QTri.stack h fun p e R s mid args below meth c T locs cells slots C target hx hZ hby hown X hR hL k => XS.bipush X.here hx rfl (hb hby hd) k
 ·cases hs
  exact QTri.stack h fun p e R s mid args below meth c T locs cells slots C target hx hZ hby hown X hR hL k => XS.sipush X.here hx rfl (hb hby hd) k
 ·cases hs
  exact QTri.stack h fun p e R s mid args below meth c T locs cells slots C target hx hZ hby hown X hR hL k => XT.lconst X.here hx rfl (hb hby hd) k
 ·-- ldc
  unfold qldc at hs
  split at hs
  ·rename_i w hw
   cases hs
   obtain ⟨x, hx1, hx2⟩ := qw_cI W (pK m, _, aux) (mem_of_contains (show lkC.contains (pK m, _, aux) = true from hr))
   rw [show vget cK aux = some w from hw] at hx1
   cases hx1
   exact QTri.stack h fun p e R s mid args below meth c T locs cells slots C target hx hZ hby hown X hR hL k => X.ldcI hx hown (mv hZ hx2) rfl (hb hby hd) k
  ·cases hs
 ·unfold qldc at hs
  split at hs
  ·rename_i w hw
   cases hs
   obtain ⟨x, hx1, hx2⟩ := qw_cJ W (pK m, _, aux) (mem_of_contains (show lkD.contains (pK m, _, aux) = true from hr))
   rw [show vget cK aux = some w from hw] at hx1
   cases hx1
   exact QTri.stack h fun p e R s mid args below meth c T locs cells slots C target hx hZ hby hown X hR hL k => X.ldc2J hx hown (mv hZ hx2) rfl (hb hby hd) k
  ·cases hs
 ·-- istore_n
  obtain ⟨w, S', L', rfl, h2, h3, rfl⟩ := qstore_inv hs
  obtain ⟨a, rfl⟩ := isI_inv h2
  exact QTri.frame h fun p e R s mid args below meth c T locs cells slots C hcx X hR hL hC => by
   obtain ⟨D, d1, d2, d3⟩ := store_ok hL h3
   exact ⟨D, d2, d3.trans hC, fun target k => XS.istoreN X.here hcx.1 rfl (hb hcx.2.2.1 hd) rfl d1 k⟩
 ·obtain ⟨w, S', L', rfl, h2, h3, rfl⟩ := qstore_inv hs
  obtain ⟨a, rfl⟩ := isI_inv h2
  exact QTri.frame h fun p e R s mid args below meth c T locs cells slots C hcx X hR hL hC => by
   obtain ⟨D, d1, d2, d3⟩ := store_ok hL h3
   exact ⟨D, d2, d3.trans hC, fun target k => XS.istore X.here hcx.1 rfl (hb hcx.2.2.1 hd) rfl d1 k⟩
 ·obtain ⟨w, S', L', rfl, h2, h3, rfl⟩ := qstore_inv hs
  obtain ⟨a, rfl⟩ := isJ_inv h2
  exact QTri.frame h fun p e R s mid args below meth c T locs cells slots C hcx X hR hL hC => by
   obtain ⟨D, d1, d2, d3⟩ := store_ok hL h3
   exact ⟨D, d2, d3.trans hC, fun target k => XT.lstoreN X.here hcx.1 rfl (hb hcx.2.2.1 hd) rfl d1 k⟩
 ·obtain ⟨w, S', L', rfl, h2, h3, rfl⟩ := qstore_inv hs
  obtain ⟨a, rfl⟩ := isJ_inv h2
  exact QTri.frame h fun p e R s mid args below meth c T locs cells slots C hcx X hR hL hC => by
   obtain ⟨D, d1, d2, d3⟩ := store_ok hL h3
   exact ⟨D, d2, d3.trans hC, fun target k => XT.lstore X.here hcx.1 rfl (hb hcx.2.2.1 hd) rfl d1 k⟩
 ·obtain ⟨w, S', L', rfl, h2, h3, rfl⟩ := qstore_inv hs
  obtain ⟨a, rfl⟩ := isR_inv h2
  exact QTri.frame h fun p e R s mid args below meth c T locs cells slots C hcx X hR hL hC => by
   obtain ⟨D, d1, d2, d3⟩ := store_ok hL h3
   exact ⟨D, d2, d3.trans hC, fun target k => XS.astoreN X.here hcx.1 rfl (hb hcx.2.2.1 hd) rfl rfl d1 k⟩
 ·obtain ⟨w, S', L', rfl, h2, h3, rfl⟩ := qstore_inv hs
  obtain ⟨a, rfl⟩ := isR_inv h2
  exact QTri.frame h fun p e R s mid args below meth c T locs cells slots C hcx X hR hL hC => by
   obtain ⟨D, d1, d2, d3⟩ := store_ok hL h3
   exact ⟨D, d2, d3.trans hC, fun target k => XS.astore X.here hcx.1 rfl (hb hcx.2.2.1 hd) rfl rfl d1 k⟩
 ·-- iinc
  unfold qinc at hs
  split at hs
  ·rename_i x hx1
   split at hs
   ·rename_i L' hL'
    cases hs
    exact QTri.frame h fun p e R s mid args below meth c T locs cells slots C hcx X hR hL hC => by
     obtain ⟨D, d1, d2, d3⟩ := store_ok hL hL'
     exact ⟨D, d2, d3.trans hC, fun target k => XS.iinc X.here hcx.1 rfl (hb hcx.2.2.1 hd) (hL.2.1 _ _ hx1) d1 k⟩
   ·cases hs
  ·cases hs
 ·obtain ⟨x, y, S', rfl, rfl⟩ := qbin_inv hs -- iadd
  exact QTri.stack h fun p e R s mid args below meth c T locs cells slots C target hx hZ hby hown X hR hL k => XS.iadd X.here hx rfl (hb hby hd) rfl k
 ·obtain ⟨x, y, S', rfl, rfl⟩ := qbin_inv hs
  exact QTri.stack h fun p e R s mid args below meth c T locs cells slots C target hx hZ hby hown X hR hL k => XS.isub X.here hx rfl (hb hby hd) rfl k
 ·obtain ⟨x, y, S', rfl, rfl⟩ := qbin_inv hs
  exact QTri.stack h fun p e R s mid args below meth c T locs cells slots C target hx hZ hby hown X hR hL k => XS.imul X.here hx rfl (hb hby hd) rfl k
 ·obtain ⟨x, y, S', rfl, rfl⟩ := qbin_inv hs
  exact QTri.stack h fun p e R s mid args below meth c T locs cells slots C target hx hZ hby hown X hR hL k => XS.iand X.here hx rfl (hb hby hd) rfl k
 ·obtain ⟨x, y, S', rfl, rfl⟩ := qbin_inv hs
  exact QTri.stack h fun p e R s mid args below meth c T locs cells slots C target hx hZ hby hown X hR hL k => XT.ior X.here hx rfl (hb hby hd) rfl k
 ·obtain ⟨x, y, S', rfl, rfl⟩ := qbin_inv hs
  exact QTri.stack h fun p e R s mid args below meth c T locs cells slots C target hx hZ hby hown X hR hL k => XT.ixor X.here hx rfl (hb hby hd) rfl k
 ·obtain ⟨x, y, S', rfl, rfl⟩ := qbin_inv hs
  exact QTri.stack h fun p e R s mid args below meth c T locs cells slots C target hx hZ hby hown X hR hL k => XT.ishl X.here hx rfl (hb hby hd) rfl k
 ·obtain ⟨x, y, S', rfl, rfl⟩ := qbin_inv hs
  exact QTri.stack h fun p e R s mid args below meth c T locs cells slots C target hx hZ hby hown X hR hL k => XT.ishr X.here hx rfl (hb hby hd) rfl k
 ·obtain ⟨x, y, S', rfl, rfl⟩ := qbin_inv hs
  exact QTri.stack h fun p e R s mid args below meth c T locs cells slots C target hx hZ hby hown X hR hL k => XT.iushr X.here hx rfl (hb hby hd) rfl k
 ·obtain ⟨x, y, z, S', rfl, hz, rfl⟩ := qbino_inv hs -- idiv
  unfold qdiv at hz
  split at hz
  ·cases hz
  ·rename_i hy
   cases hz
   exact QTri.stack h fun p e R s mid args below meth c T locs cells slots C target hx hZ hby hown X hR hL k => XS.idiv X.here hx rfl (hb hby hd) rfl hy k
 ·obtain ⟨x, y, z, S', rfl, hz, rfl⟩ := qbino_inv hs
  unfold qrem at hz
  split at hz
  ·cases hz
  ·rename_i hy
   cases hz
   exact QTri.stack h fun p e R s mid args below meth c T locs cells slots C target hx hZ hby hown X hR hL k => iremM X hx rfl (hb hby hd) rfl hy k
 ·obtain ⟨x, S', rfl, rfl⟩ := quni_inv hs -- ineg
  exact QTri.stack h fun p e R s mid args below meth c T locs cells slots C target hx hZ hby hown X hR hL k => XS.ineg X.here hx rfl (hb hby hd) rfl k
 ·obtain ⟨x, S', rfl, rfl⟩ := quni_inv hs
  exact QTri.stack h fun p e R s mid args below meth c T locs cells slots C target hx hZ hby hown X hR hL k => XT.i2l X.here hx rfl (hb hby hd) rfl k
 ·obtain ⟨x, S', rfl, rfl⟩ := quni_inv hs
  exact QTri.stack h fun p e R s mid args below meth c T locs cells slots C target hx hZ hby hown X hR hL k => XT.i2b X.here hx rfl (hb hby hd) rfl k
 ·obtain ⟨x, S', rfl, rfl⟩ := quniJ_inv hs
  exact QTri.stack h fun p e R s mid args below meth c T locs cells slots C target hx hZ hby hown X hR hL k => XT.l2i X.here hx rfl (hb hby hd) rfl k
 ·obtain ⟨x, S', rfl, rfl⟩ := quniJ_inv hs
  exact QTri.stack h fun p e R s mid args below meth c T locs cells slots C target hx hZ hby hown X hR hL k => XT.lneg X.here hx rfl (hb hby hd) rfl k
 ·obtain ⟨x, y, S', rfl, rfl⟩ := qbinJ_inv hs
  exact QTri.stack h fun p e R s mid args below meth c T locs cells slots C target hx hZ hby hown X hR hL k => XT.ladd X.here hx rfl (hb hby hd) rfl k
 ·obtain ⟨x, y, S', rfl, rfl⟩ := qbinJ_inv hs
  exact QTri.stack h fun p e R s mid args below meth c T locs cells slots C target hx hZ hby hown X hR hL k => XT.lsub X.here hx rfl (hb hby hd) rfl k
 ·obtain ⟨x, y, S', rfl, rfl⟩ := qbinJ_inv hs
  exact QTri.stack h fun p e R s mid args below meth c T locs cells slots C target hx hZ hby hown X hR hL k => XT.lmul X.here hx rfl (hb hby hd) rfl k
 ·obtain ⟨x, y, S', rfl, rfl⟩ := qbinJ_inv hs
  exact QTri.stack h fun p e R s mid args below meth c T locs cells slots C target hx hZ hby hown X hR hL k => XT.land X.here hx rfl (hb hby hd) rfl k
 ·obtain ⟨x, y, S', rfl, rfl⟩ := qbinJ_inv hs
  exact QTri.stack h fun p e R s mid args below meth c T locs cells slots C target hx hZ hby hown X hR hL k => XT.lor X.here hx rfl (hb hby hd) rfl k
 ·obtain ⟨x, y, S', rfl, rfl⟩ := qbinJ_inv hs
  exact QTri.stack h fun p e R s mid args below meth c T locs cells slots C target hx hZ hby hown X hR hL k => XT.lxor X.here hx rfl (hb hby hd) rfl k
 ·obtain ⟨x, y, S', rfl, rfl⟩ := qshJ_inv hs
  exact QTri.stack h fun p e R s mid args below meth c T locs cells slots C target hx hZ hby hown X hR hL k => XT.lshl X.here hx rfl (hb hby hd) rfl k
 ·obtain ⟨x, y, S', rfl, rfl⟩ := qshJ_inv hs
  exact QTri.stack h fun p e R s mid args below meth c T locs cells slots C target hx hZ hby hown X hR hL k => XT.lshr X.here hx rfl (hb hby hd) rfl k
 ·obtain ⟨x, y, S', rfl, rfl⟩ := qshJ_inv hs
  exact QTri.stack h fun p e R s mid args below meth c T locs cells slots C target hx hZ hby hown X hR hL k => XT.lushr X.here hx rfl (hb hby hd) rfl k
 ·split at hs -- lcmp
  ·cases hs
   exact QTri.stack h fun p e R s mid args below meth c T locs cells slots C target hx hZ hby hown X hR hL k => XT.lcmp X.here hx rfl (hb hby hd) rfl k
  ·cases hs
 ·cases hs -- goto
  obtain ⟨t1, t2⟩ := qtgt_spec hr
  exact QTri.stack h fun p e R s mid args below meth c T locs cells slots C target hx hZ hby hown X hR hL k => XS.goto X.here hx rfl rfl (hb hby hd) t1 t2 k
 ·obtain ⟨x, S', rfl, rfl⟩ := qif_inv hs
  obtain ⟨t1, t2⟩ := qtgt_spec hr
  cases hh : ifCond.holds _ x with
  | true => rw [hh] at h; exact QTri.stack h fun p e R s mid args below meth c T locs cells slots C target hx hZ hby hown X hR hL k => XS.ifYes X.here hx rfl rfl (hb hby hd) rfl hh t1 t2 k
  | false => rw [hh] at h; exact QTri.stack h fun p e R s mid args below meth c T locs cells slots C target hx hZ hby hown X hR hL k => XS.ifNo X.here hx rfl (hb hby hd) rfl hh k
 ·obtain ⟨x, y, S', rfl, rfl⟩ := qicmp_inv hs
  obtain ⟨t1, t2⟩ := qtgt_spec hr
  cases hh : if_icmp.holds _ x y with
  | true => rw [hh] at h; exact QTri.stack h fun p e R s mid args below meth c T locs cells slots C target hx hZ hby hown X hR hL k => XS.icmpYes X.here hx rfl rfl (hb hby hd) rfl hh t1 t2 k
  | false => rw [hh] at h; exact QTri.stack h fun p e R s mid args below meth c T locs cells slots C target hx hZ hby hown X hR hL k => XS.icmpNo X.here hx rfl (hb hby hd) rfl hh k
 ·unfold qdup at hs
  split at hs
  ·cases hs
   exact QTri.stack h fun p e R s mid args below meth c T locs cells slots C target hx hZ hby hown X hR hL k => XS.dup X.here hx rfl (hb hby hd) rfl rfl k
  ·cases hs
   exact QTri.stack h fun p e R s mid args below meth c T locs cells slots C target hx hZ hby hown X hR hL k => XS.dup X.here hx rfl (hb hby hd) rfl rfl k
  ·cases hs
 ·unfold qdup2 at hs
  split at hs
  ·cases hs
   exact QTri.stack h fun p e R s mid args below meth c T locs cells slots C target hx hZ hby hown X hR hL k => XT.dup2 X.here hx rfl (hb hby hd) rfl rfl rfl k
  ·cases hs
   exact QTri.stack h fun p e R s mid args below meth c T locs cells slots C target hx hZ hby hown X hR hL k => XT.dup2 X.here hx rfl (hb hby hd) rfl rfl rfl k
  ·cases hs
   exact QTri.stack h fun p e R s mid args below meth c T locs cells slots C target hx hZ hby hown X hR hL k => XT.dup2L X.here hx rfl (hb hby hd) rfl k
  ·cases hs
 ·unfold qpop at hs
  split at hs
  ·cases hs
   exact QTri.stack h fun p e R s mid args below meth c T locs cells slots C target hx hZ hby hown X hR hL k => XT.pop X.here hx rfl (hb hby hd) rfl rfl k
  ·cases hs
   exact QTri.stack h fun p e R s mid args below meth c T locs cells slots C target hx hZ hby hown X hR hL k => XT.pop X.here hx rfl (hb hby hd) rfl rfl k
  ·cases hs
 ·exact QTri.getfield W h hc hs
 ·exact QTri.putfield Ad W h hc hs
 ·exact QTri.iaload h hc hs
 ·exact QTri.baload h hc hs
 ·exact QTri.laload h hc hs
 ·exact QTri.iastore Ad h hc hs
 ·exact QTri.bastore Ad h hc hs
 ·exact QTri.lastore Ad h hc hs
 ·exact QTri.alen h hc hs
 ·-- newarray
  unfold qnewA at hs
  split at hs
  ·split at hs
   ·obtain ⟨k, hk, hs⟩ := Option.bind_eq_some_iff.mp hs
    cases hs
    exact QTri.newArr (c := .inr (.inl (.int, List.replicate k 0))) Ad W hk hc (by simp [qsz]) (fun h' a cA A => ⟨_, A, by simp [newA, (qnew_inv hk).2.1]; exact Or.inr rfl⟩) h
   ·obtain ⟨k, hk, hs⟩ := Option.bind_eq_some_iff.mp hs
    cases hs
    exact QTri.newArr (c := .inr (.inl (.boolean, List.replicate k 0))) Ad W hk hc (by simp [qsz]) (fun h' a cA A => ⟨_, A, by simp [newA, (qnew_inv hk).2.1]; exact Or.inr rfl⟩) h
   ·obtain ⟨k, hk, hs⟩ := Option.bind_eq_some_iff.mp hs
    cases hs
    exact QTri.newArr (c := .inr (.inl (.byte, List.replicate k 0))) Ad W hk hc (by simp [qsz]) (fun h' a cA A => ⟨_, A, by simp [newA, (qnew_inv hk).2.1]; exact Or.inr rfl⟩) h
   ·obtain ⟨k, hk, hs⟩ := Option.bind_eq_some_iff.mp hs
    cases hs
    exact QTri.newArr (c := .inr (.inr (List.replicate k 0))) Ad W hk hc (by simp [qsz]) (fun h' a cA A => ⟨_, A, by simp [newA, (qnew_inv hk).2.1]; exact Or.inr rfl⟩) h
   ·cases hs
  ·cases hs
 ·cases hs; exact QTri.newObj Ad W h hc
 ·cases hs
theorem QTri.steps (Ad : QAd n0 ad) (W : QW Z a0) : ∀ (n : Nat) {st st' : QSt}, qsteps m n st = some st' → QTri l Z n0 ad m st' v σ' → QTri l Z n0 ad m st v σ'
 | 0, st, st', h, k => by cases h; exact k
 | n + 1, st, st', h, k => by
  simp only [qsteps] at h
  split at h
  ·rename_i st₁ h1
   exact QTri.step Ad W (QTri.steps Ad W n h k) h1
  ·cases h
def lmask : List Bool → QLoc → QLoc
 | b :: t, x :: u => (bif b then x else none) :: lmask t u
 | _, L => L.map fun _ => none
theorem lmask_len : ∀ (b : List Bool) (L : QLoc), (lmask b L).length = L.length
 | [], L => by simp [lmask]
 | _ :: _, [] => by simp [lmask]
 | _ :: t, _ :: u => by simp [lmask, lmask_len t u]
theorem lmask_get : ∀ (b : List Bool) (L : QLoc) (k : Nat) (v : Value), lget (lmask b L) k = some v → lget L k = some v
 | [], L, k, v, h => by
  simp only [lmask, lget_eq, List.getElem?_map] at h
  cases hq : L[k]? <;> simp [hq] at h
 | _ :: _, [], k, v, h => by simp [lmask, lget] at h
 | b :: t, x :: u, 0, v, h => by
  simp only [lmask, lget] at h ⊢
  cases b
  ·cases h
  ·exact h
 | b :: t, x :: u, k + 1, v, h => by
  simp only [lmask, lget] at h ⊢
  exact lmask_get t u k v h
theorem QTri.mask {pc : Nat} {L : QLoc} {S : List Value} {σ : QHeap} (b : List Bool) (h : QTri l Z n0 ad m (pc, lmask b L, S, σ) v σ') : QTri l Z n0 ad m (pc, L, S, σ) v σ' :=
 QTri.frame h fun p e R s mid args below meth c T locs cells slots C hcx X hR hL hC => ⟨C, ⟨by rw [lmask_len]; exact hL.1, fun k u hk => hL.2.1 k u (lmask_get b L k u hk), hL.2.2⟩, hC, fun target k => k⟩
theorem QTri.ret0 {pc aux : Nat} {L : QLoc} {σ : QHeap} (hc : pCode m pc = some (.return_, aux)) (hr : pRet m = none) : QTri l Z n0 ad m (pc, L, [], σ) none σ :=
 have hd : decode (pBytes m) pc = .ok (.return_, 1) := pDecN hc rfl
 ⟨Nat.le_refl _, Nat.le_refl _, fun p e R s mid args below meth c T locs cells slots C hcx X hR hF hL hC hn hc1 hsl => ⟨T, locs, by simpa using X, hR, hF, fun fs hf => X.returnOut hcx.1 (hcx.2.2.2.2.1.trans hr) (hb hcx.2.2.1 hd) hf⟩⟩
theorem QTri.retI {pc aux : Nat} {L : QLoc} {S : List Value} {σ : QHeap} {x : Int32} (hc : pCode m pc = some (.ireturn, aux)) (hr : pRet m = some .int) : QTri l Z n0 ad m (pc, L, .int x :: S, σ) (some (.int x)) σ :=
 have hd : decode (pBytes m) pc = .ok (.ireturn, 1) := pDecN hc rfl
 ⟨Nat.le_refl _, Nat.le_refl _, fun p e R s mid args below meth c T locs cells slots C hcx X hR hF hL hC hn hc1 hsl => ⟨T, locs, by simpa using X, hR, hF, fun fs hf => Jvm.RoadKit.retI X hcx.1 (hcx.2.2.2.2.1.trans hr) (hb hcx.2.2.1 hd) hf⟩⟩
theorem QTri.retZ {pc aux : Nat} {L : QLoc} {S : List Value} {σ : QHeap} {x : Int32} (hc : pCode m pc = some (.ireturn, aux)) (hr : pRet m = some .boolean) : QTri l Z n0 ad m (pc, L, .int x :: S, σ) (some (.int (x &&& 1))) σ :=
 have hd : decode (pBytes m) pc = .ok (.ireturn, 1) := pDecN hc rfl
 ⟨Nat.le_refl _, Nat.le_refl _, fun p e R s mid args below meth c T locs cells slots C hcx X hR hF hL hC hn hc1 hsl => ⟨T, locs, by simpa using X, hR, hF, fun fs hf => retN X hcx.1 (t := .boolean) (hcx.2.2.2.2.1.trans hr) (by simp) (hb hcx.2.2.1 hd) hf⟩⟩
theorem QTri.retJ {pc aux : Nat} {L : QLoc} {S : List Value} {σ : QHeap} {x : Int64} (hc : pCode m pc = some (.lreturn, aux)) (hr : pRet m = some .long) : QTri l Z n0 ad m (pc, L, .long x :: S, σ) (some (.long x)) σ :=
 have hd : decode (pBytes m) pc = .ok (.lreturn, 1) := pDecN hc rfl
 ⟨Nat.le_refl _, Nat.le_refl _, fun p e R s mid args below meth c T locs cells slots C hcx X hR hF hL hC hn hc1 hsl => ⟨T, locs, by simpa using X, hR, hF, fun fs hf => retOut X hcx.1 (t := .long) (hcx.2.2.2.2.1.trans hr) rfl (Or.inr (Or.inl ⟨rfl, rfl, _, rfl⟩)) (hb hcx.2.2.1 hd) hf⟩⟩
def LOk (ad : Nat → Addr) (L : QLoc) (C : List Slot) : Prop :=
 L.length = C.length ∧ (∀ k v, lget L k = some v → C[k]? = some (.val (qv ad v))) ∧ (∀ k w, C[k]? = some (.val w) → w.category = 2 → C[k + 1]? = some .second) ∧ ∀ k, C[k]? = some .second → ∃ j w, k = j + 1 ∧ C[j]? = some (.val w) ∧ w.category = 2
theorem LOk.base (ad : Nat → Addr) (n : Nat) : LOk ad (List.replicate n none) (List.replicate n .unset) := by
 refine ⟨by simp, fun k u h => ?_, fun k w h => ?_, fun k h => ?_⟩
 ·rw [lget_eq] at h
  rcases Nat.lt_or_ge k n with q | q
  ·simp [List.getElem?_replicate, q] at h
  ·simp [List.getElem?_eq_none, q] at h
 ·rcases Nat.lt_or_ge k n with q | q
  ·simp [List.getElem?_replicate, q] at h
  ·simp [List.getElem?_eq_none, q] at h
 ·rcases Nat.lt_or_ge k n with q | q
  ·simp [List.getElem?_replicate, q] at h
  ·simp [List.getElem?_eq_none, q] at h
theorem LOk.one {L : QLoc} {C : List Slot} (H : LOk ad L C) {u : Value} (hu : u.category = 1) : LOk ad (some u :: L) (.val (qv ad u) :: C) := by
 obtain ⟨h1, h2, h3, h4⟩ := H
 refine ⟨by simp [h1], fun k w h => ?_, fun k w h hw => ?_, fun k h => ?_⟩
 ·cases k with
  | zero => simp only [lget] at h; cases h; simp
  | succ k => simp only [lget] at h; simpa using h2 k w h
 ·cases k with
  | zero => simp at h; rw [← h, qv_cat, hu] at hw; cases hw
  | succ k => simpa using h3 k w (by simpa using h) hw
 ·cases k with
  | zero => simp at h
  | succ k =>
   obtain ⟨j, w, z1, z2, z3⟩ := h4 k (by simpa using h)
   exact ⟨j + 1, w, by omega, by simpa using z2, z3⟩
theorem LOk.two {L : QLoc} {C : List Slot} (H : LOk ad L C) {u : Value} (hu : u.category = 2) : LOk ad (some u :: none :: L) (.val (qv ad u) :: .second :: C) := by
 obtain ⟨h1, h2, h3, h4⟩ := H
 refine ⟨by simp [h1], fun k w h => ?_, fun k w h hw => ?_, fun k h => ?_⟩
 ·rcases k with _ | _ | k
  ·simp only [lget] at h; cases h; simp
  ·simp [lget] at h
  ·simp only [lget] at h; simpa using h2 k w h
 ·rcases k with _ | _ | k
  ·simp
  ·simp at h
  ·simpa using h3 k w (by simpa using h) hw
 ·rcases k with _ | _ | k
  ·simp at h
  ·exact ⟨0, qv ad u, rfl, by simp, by rw [qv_cat]; exact hu⟩
  ·obtain ⟨j, w, z1, z2, z3⟩ := h4 k (by simpa using h)
   exact ⟨j + 2, w, by omega, by simpa using z2, z3⟩
def slotsOf (u : Value) : List Slot := if u.category = 2 then [.val u, .second] else [.val u]
theorem fold_slots : ∀ (as : List Value) (acc : Array Slot), (as.foldl (fun acc v => if v.category = 2 then (acc.push (.val v)).push .second else acc.push (.val v)) acc).toList = acc.toList ++ as.flatMap slotsOf
 | [], acc => by simp
 | u :: t, acc => by
  rw [List.foldl_cons, fold_slots t]
  by_cases hc : u.category = 2 <;> simp [slotsOf, hc]
theorem slots_len : ∀ (as : List Value), (as.flatMap slotsOf).length = (as.map fun v => v.category).sum
 | [] => rfl
 | u :: t => by
  rw [List.flatMap_cons, List.length_append, slots_len t, List.map_cons, List.sum_cons]
  cases u <;> simp [slotsOf, Value.category]
theorem cats_qv (as : List Value) : ((as.map (qv ad)).map fun v => v.category).sum = (as.map fun v => v.category).sum := by
 rw [List.map_map]
 congr 1
 exact List.map_congr_left fun x _ => qv_cat ad x
theorem entry_list : ∀ (as : List Value) (n : Nat), LOk ad ((as.flatMap fun v => match v with | .long x => [some (.long x), none] | .double x => [some (.double x), none] | v => [some v]) ++ List.replicate n none) ((as.map (qv ad)).flatMap slotsOf ++ List.replicate n .unset)
 | [], n => by simpa using LOk.base ad n
 | u :: t, n => by
  have ih := entry_list t n
  cases u with
  | long x => exact LOk.two ih rfl
  | double x => exact LOk.two ih rfl
  | int x => exact LOk.one ih rfl
  | float x => exact LOk.one ih rfl
  | null => exact LOk.one ih rfl
  | ref x => exact LOk.one ih rfl
  | retAddr x => exact LOk.one ih rfl
theorem qentry_ok (as : List Value) (mx : Nat) (h : (as.map fun v => v.category).sum ≤ mx) : QLocOk ad (qentry as mx) (argsToLocals (as.map (qv ad)).toArray mx) ∧ (argsToLocals (as.map (qv ad)).toArray mx).size = mx := by
 have e : (argsToLocals (as.map (qv ad)).toArray mx).toList = (as.map (qv ad)).flatMap slotsOf ++ List.replicate (mx - (as.map fun v => v.category).sum) .unset := by
  unfold argsToLocals
  have q := fold_slots (as.map (qv ad)) #[]
  simp only [List.foldl_toArray', Array.toList_append, Array.toList_replicate]
  have q2 : ((as.map (qv ad)).foldl (fun (acc : Array Slot) (v : Value) => if v.category = 2 then (acc.push (.val v)).push .second else acc.push (.val v)) #[]).size = (as.map fun v => v.category).sum := by
   rw [← Array.length_toList, q]
   simp only [List.nil_append]
   rw [slots_len, cats_qv]
  rw [q, q2]
  simp
 have H := entry_list (ad := ad) as (mx - (as.map fun v => v.category).sum)
 rw [← e] at H
 obtain ⟨h1, h2, h3, h4⟩ := H
 have hs : (argsToLocals (as.map (qv ad)).toArray mx).size = mx := by
  rw [← Array.length_toList, e, List.length_append, slots_len, cats_qv, List.length_replicate]
  omega
 refine ⟨⟨h1.trans Array.length_toList, fun k u hk => ?_, fun k w hk hw => ?_, fun k hk => ?_⟩, hs⟩
 ·have := h2 k u hk; rwa [Array.getElem?_toList] at this
 ·have := h3 k w (by rw [Array.getElem?_toList]; exact hk) hw; rwa [Array.getElem?_toList] at this
 ·obtain ⟨j, w, z1, z2, z3⟩ := h4 k (by rw [Array.getElem?_toList]; exact hk)
  exact ⟨j, w, z1, by rwa [Array.getElem?_toList] at z2, z3⟩
set_option maxHeartbeats 4000000 in
theorem QTri.met {k : Nat} {as : List Value} {σ σ₁ : QHeap} {w : Option Value} {h0 : Heap} (hk : k < pN) (h : QTri l Z n0 ad k (0, qentry as (pMaxL k), [], σ) w σ₁) (hR : QRep Z n0 ad h0 σ) (hlen : (as.map fun v => v.category).sum ≤ pMaxL k) (hret : pRet k = none → w = none) (ws : List Jvm.Cond) {rm : Room}
  (r1 : pFr k ≤ rm.frames) (r2 : pLo k ≤ rm.locals) (r3 : σ₁.length - σ.length ≤ rm.cells) (r4 : qhs σ₁ - qhs σ ≤ rm.slots) :
  MetFree l (pName k) (head1 (Jvm.Cond.code (pName k) (pBytes k) (pMaxL k) (pRet k) :: ws) rm) (fun a U => a = (as.map (qv ad)).toArray ∧ Z.Warmed39 U.vm ∧ U.heap = h0) (fun _ _ _ _ _ => True)
   (fun _ U o U' => ∃ v L, o = .returned v ∧ (v = w.map (qv ad) ∧ QRep Z n0 ad U'.heap σ₁ ∧ Fr n0 L) ∧ FrameEnd U o U' L (σ₁.length - σ.length) (qhs σ₁ - qhs σ)) := by
 refine MetFree.of_bodySF (plainFor_of_name (kPlain _ (pKlt k hk))) hisR ?_
 intro p e s mid args below meth c s₁ Bd hml0 hP hK
 obtain ⟨rfl, hZ, hh⟩ := hP
 have e0 : s₁.heap = h0 := by rw [← hh, Bd.state]; rfl
 obtain ⟨hl1, hl2⟩ := qentry_ok (ad := ad) as (pMaxL k) hlen
 have hX : Stand p l e rm s mid (as.map (qv ad)).toArray below meth c s₁ [] 0 0 := Stand.of_body Bd
 obtain ⟨T', locs', X', R', F', S'⟩ := h.2.2 p e rm s mid _ below meth c s₁ [] 0 0 _ ⟨Bd.exec, hZ, Bd.bytes, hml0, Bd.returns, findClass_of_methodNamed Bd.named, (name_of_methodNamed Bd.named Bd.method).1, r1, r2⟩ hX (by rw [e0]; exact hR) (Fr.nil _) hl1 (hl2.trans hml0.symm) (by rw [hh, Nat.add_zero]; exact hR.2.1.symm) (by rw [Nat.zero_add]; exact r3) (by rw [Nat.zero_add]; exact r4)
 obtain ⟨fs, hr, hrun, hended, hW, hsame⟩ := X'.leave (v := w.map (qv ad)) (fun q => by rw [hret (Bd.returns.symm.trans q)]; rfl)
 refine ⟨_, _, S' fs hr, hrun, hended, _, _, rfl, ⟨rfl, R', F'⟩, ⟨_, rfl⟩, hW, ?_⟩
 simp only [Nat.zero_add] at hsame
 exact hsame
theorem QTri.room {k : Nat} {σ σ₁ : QHeap} {rest : List Value} {R : Room} (hroom : (Nat.ble (pFr k + 1) (pFr m) && Nat.ble ((rest.map fun v => v.category).sum + (pMaxL k + 11) + pLo k) (pLo m)) = true) (hfr : pFr m ≤ R.frames) (hlo : pLo m ≤ R.locals) :
  pFr k + 1 ≤ R.frames ∧ (rest.map fun v => v.category).sum + (pMaxL k + 11) + pLo k ≤ R.locals := by
 obtain ⟨q1, q2⟩ := Bool.and_eq_true_iff.mp hroom
 exact ⟨Nat.le_trans (Nat.le_of_ble_eq_true q1) hfr, Nat.le_trans (Nat.le_of_ble_eq_true q2) hlo⟩
theorem sig_len {k : Nat} (hk : k < pN) {as : List Value} (hna : as.length = pNA k) : ∀ sig, parseMethodDescriptor (pName k).desc = some sig → (as.map (qv ad)).length = sig.parameters.length := fun sig hs => by
 have q := pSig k hk
 rw [show parseMethodDescriptor (pDs k) = some sig from hs] at q
 simp at q
 simp [hna, q]
theorem ret_map (w : Option Value) (rest : List Value) : (w.toList ++ rest).map (qv ad) = (w.map (qv ad)).toList ++ rest.map (qv ad) := by cases w <;> simp
theorem QTri.after {as0 : List Value} {pc : Nat} {L : QLoc} {S rest : List Value} {σ σ₁ : QHeap} {w : Option Value} {k : Nat} (hcal : QTri l Z n0 ad k (0, qentry as0 (pMaxL k), [], σ) w σ₁) (h : QTri l Z n0 ad m (pc + 3, L, w.toList ++ rest, σ₁) v σ')
  (hs : ∀ (p : Program) (e : Env) (R : Room) (s : State) (mid : MethodId) (args : Array Value) (below : List Frame) (meth : Method) (c : Code) (T : State) (locs : List Loc) (cells slots : Nat) (C : Array Slot),
   QCx Z p R s mid meth c m → Stand p l e R s mid args below meth c T locs cells slots → QRep Z n0 ad T.heap σ → C.size = c.maxLocals → cells + (σ₁.length - σ.length) ≤ R.cells → slots + (qhs σ₁ - qhs σ) ≤ R.slots →
   ∃ T₁ Lc, Stand p l e R s mid args below meth c T₁ (locs ++ Lc) (cells + (σ₁.length - σ.length)) (slots + (qhs σ₁ - qhs σ)) ∧ QRep Z n0 ad T₁.heap σ₁ ∧ Fr n0 Lc ∧
    ∀ target, Steps p.tables e below (T₁.setTop (mkF mid (pc + 3) C ((w.map (qv ad)).toList ++ rest.map (qv ad)))) target → Steps p.tables e below (T.setTop (mkF mid pc C (S.map (qv ad)))) target) :
  QTri l Z n0 ad m (pc, L, S, σ) v σ' := by
 refine QTri.gen h hcal.1 hcal.2.1 fun p e R s mid args below meth c T locs cells slots C hcx X hR hF hL hC hn hc1 hsl => ?_
 obtain ⟨T₁, Lc, X₁, R₁, F₁, st⟩ := hs p e R s mid args below meth c T locs cells slots C hcx X hR hC hc1 hsl
 refine ⟨T₁, locs ++ Lc, C, X₁, R₁, hF.app F₁, hL, hC, fun target q => st target ?_⟩
 rw [← ret_map]
 exact q
set_option maxHeartbeats 4000000 in
theorem QTri.callV (W : QW Z a0) {pc idx k a : Nat} {L : QLoc} {S as rest vs : List Value} {σ σ₁ : QHeap} {w : Option Value} (hc : pCode m pc = some (.invokevirtual idx, k)) (hm : (lkV.contains (pK m, idx, k) && mV.contains k) = true) (hcell : hget σ a = some (.inl vs)) (hS : S = as.reverse ++ .ref a :: rest)
  (hna : as.length = pNA k) (hlen : Nat.ble (((Value.ref a :: as).map fun v => v.category).sum) (pMaxL k) = true) (hroom : (Nat.ble (pFr k + 1) (pFr m) && Nat.ble ((rest.map fun v => v.category).sum + (pMaxL k + 11) + pLo k) (pLo m)) = true) (hrb : (w.isNone || (pRet k).isSome) = true)
  (hcal : QTri l Z n0 ad k (0, qentry (.ref a :: as) (pMaxL k), [], σ) w σ₁) (h : QTri l Z n0 ad m (pc + 3, L, w.toList ++ rest, σ₁) v σ') : QTri l Z n0 ad m (pc, L, S, σ) v σ' := by
 have hd : decode (pBytes m) pc = .ok (.invokevirtual idx, 3) := pDecN hc rfl
 subst hS
 obtain ⟨m1, m2⟩ := Bool.and_eq_true_iff.mp hm
 have m1 := mem_of_contains m1
 have m2 := mem_of_contains m2
 have hkA := (mVlt k m2).1
 have hkN := mAlt k hkA
 have hret : pRet k = none → w = none := fun q => by
  rw [q] at hrb
  cases w with
  | none => rfl
  | some w => simp at hrb
 refine QTri.after hcal h fun p e R s mid args below meth c T locs cells slots C hcx X hR hC hc1 hsl => ?_
 obtain ⟨hx, hZ, hby, hml, hret', hown, hnm, hfr, hlo⟩ := hcx
 have hd2 : decode c.code pc = .ok (.invokevirtual idx, 3) := by rw [hby]; exact hd
 obtain ⟨f1, f2⟩ := QTri.room (σ := σ) (σ₁ := σ₁) hroom hfr hlo
 obtain ⟨cq, kq, q1, q2, q3⟩ := isOf hZ rfl (hR.2.2 _ _ hcell).1
 obtain ⟨w1, w2, w3⟩ := (qw_vi W) k m2
 obtain ⟨c1, c2⟩ := (qw_cod W) k hkA
 obtain ⟨_, _, ⟨T₁, L₁, k₁, n₁⟩, -, X₁, ⟨Lc, ⟨rfl, hR1, hF1⟩, l₁, y₁, z₁⟩, st⟩ := X.virtualBack hx (own := kName (pK m)) (index := idx) (y := pName k) (z := pName k) hown (mvT hZ (qw_ml W (pK m, idx, k) m1)) (mvT hZ w1) (notFace_of_selects (args := #[]) (mvT hZ w2)) (mvT hZ w2) (mvT hZ w3) (pOwn _ (pKlt k hkN))
  (backOf (W := (rest.map fun v => v.category).sum) (rm := ⟨pFr k, σ₁.length - σ.length, qhs σ₁ - qhs σ, pLo k⟩) (Q := fun v h L => v = Option.map (qv ad) w ∧ QRep Z n0 ad h σ₁ ∧ Fr n0 L) (QTri.met hkN hcal hR (Nat.le_of_ble_eq_true hlen) hret [] (Nat.le_refl _) (Nat.le_refl _) (Nat.le_refl _) (Nat.le_refl _)) hZ c1 c2 f1 f2) q1 q3 (g := mkF mid pc C (List.map (qv ad) (as.reverse ++ .ref a :: rest))) rfl hC (Steps.refl _) (argsL := as.map (qv ad)) (rest := rest.map (qv ad)) (sig_len hkN hna) (by simp [qv]) (by show 2 * 0 + _ ≤ _; rw [cats_qv]; omega) hd2 (fun _ _ => ⟨rfl, rfl, hc1, hsl⟩)
 dsimp only [Pt.U, Pt.locs, Pt.cells, Pt.slots] at X₁ l₁ y₁ z₁ st hR1
 subst l₁ y₁ z₁
 exact ⟨T₁, Lc, X₁, hR1, hF1, fun target q => st.trans q⟩
set_option maxHeartbeats 4000000 in
theorem QTri.callI (W : QW Z a0) {pc idx k a : Nat} {L : QLoc} {S as rest : List Value} {σ σ₁ : QHeap} (hc : pCode m pc = some (.invokespecial idx, k)) (hm : (lkV.contains (pK m, idx, k) && mI.contains k) = true) (hS : S = as.reverse ++ .ref a :: rest)
  (hna : as.length = pNA k) (hlen : Nat.ble (((Value.ref a :: as).map fun v => v.category).sum) (pMaxL k) = true) (hroom : (Nat.ble (pFr k + 1) (pFr m) && Nat.ble ((rest.map fun v => v.category).sum + (pMaxL k + 11) + pLo k) (pLo m)) = true)
  (hcal : QTri l Z n0 ad k (0, qentry (.ref a :: as) (pMaxL k), [], σ) none σ₁) (h : QTri l Z n0 ad m (pc + 3, L, rest, σ₁) v σ') : QTri l Z n0 ad m (pc, L, S, σ) v σ' := by
 have hd : decode (pBytes m) pc = .ok (.invokespecial idx, 3) := pDecN hc rfl
 subst hS
 obtain ⟨m1, m2⟩ := Bool.and_eq_true_iff.mp hm
 have m1 := mem_of_contains m1
 have m2 := mem_of_contains m2
 obtain ⟨hkA, -, hin, hrt⟩ := mIlt k m2
 have hkN := mAlt k hkA
 refine QTri.after (w := none) hcal h fun p e R s mid args below meth c T locs cells slots C hcx X hR hC hc1 hsl => ?_
 obtain ⟨hx, hZ, hby, hml, hret', hown, hnm, hfr, hlo⟩ := hcx
 have hd2 : decode c.code pc = .ok (.invokespecial idx, 3) := by rw [hby]; exact hd
 obtain ⟨f1, f2⟩ := QTri.room (σ := σ) (σ₁ := σ₁) hroom hfr hlo
 obtain ⟨c1, c2⟩ := (qw_cod W) k hkA
 have c1' := c1
 rw [hrt] at c1'
 obtain ⟨_, _, ⟨T₁, L₁, k₁, n₁⟩, -, X₁, ⟨Lc, ⟨rfl, hR1, hF1⟩, l₁, y₁, z₁⟩, st⟩ := X.specialBack hx (own := kName (pK m)) (index := idx) (y := pName k) hin hown (mvT hZ (qw_ml W (pK m, idx, k) m1)) (mvT hZ ((qw_ini W) k m2)) (mvT hZ c1') (pOwn _ (pKlt k hkN))
  (backOf (W := (rest.map fun v => v.category).sum) (rm := ⟨pFr k, σ₁.length - σ.length, qhs σ₁ - qhs σ, pLo k⟩) (Q := fun v h L => v = Option.map (qv ad) none ∧ QRep Z n0 ad h σ₁ ∧ Fr n0 L) (QTri.met hkN hcal hR (Nat.le_of_ble_eq_true hlen) (fun _ => rfl) [] (Nat.le_refl _) (Nat.le_refl _) (Nat.le_refl _) (Nat.le_refl _)) hZ c1 c2 f1 f2) (g := mkF mid pc C (List.map (qv ad) (as.reverse ++ .ref a :: rest))) rfl hC (Steps.refl _) (a := ad a) (argsL := as.map (qv ad)) (rest := rest.map (qv ad)) (sig_len hkN hna) (by simp [qv]) (by show 2 * 0 + _ ≤ _; rw [cats_qv]; omega) hd2 (fun _ _ => ⟨rfl, rfl, hc1, hsl⟩)
 dsimp only [Pt.U, Pt.locs, Pt.cells, Pt.slots] at X₁ l₁ y₁ z₁ st hR1
 subst l₁ y₁ z₁
 exact ⟨T₁, Lc, X₁, hR1, hF1, fun target q => st.trans q⟩
set_option maxHeartbeats 4000000 in
theorem QTri.callP (W : QW Z a0) {pc idx k a : Nat} {L : QLoc} {S as rest vs : List Value} {σ σ₁ : QHeap} {w : Option Value} (hc : pCode m pc = some (.invokevirtual idx, k)) (hm : (lkV.contains (pK m, idx, k) && mP.contains k) = true) (hcell : hget σ a = some (.inl vs)) (hS : S = as.reverse ++ .ref a :: rest)
  (hna : as.length = pNA k) (hlen : Nat.ble (((Value.ref a :: as).map fun v => v.category).sum) (pMaxL k) = true) (hroom : (Nat.ble (pFr k + 1) (pFr m) && Nat.ble ((rest.map fun v => v.category).sum + (pMaxL k + 11) + pLo k) (pLo m)) = true) (hrb : (w.isNone || (pRet k).isSome) = true)
  (hcal : QTri l Z n0 ad k (0, qentry (.ref a :: as) (pMaxL k), [], σ) w σ₁) (h : QTri l Z n0 ad m (pc + 3, L, w.toList ++ rest, σ₁) v σ') : QTri l Z n0 ad m (pc, L, S, σ) v σ' := by
 have hd : decode (pBytes m) pc = .ok (.invokevirtual idx, 3) := pDecN hc rfl
 subst hS
 obtain ⟨m1, m2⟩ := Bool.and_eq_true_iff.mp hm
 have m1 := mem_of_contains m1
 have m2 := mem_of_contains m2
 obtain ⟨hkA, hk1⟩ := mPlt k m2
 have hkN := mAlt k hkA
 have hret : pRet k = none → w = none := fun q => by
  rw [q] at hrb
  cases w with
  | none => rfl
  | some w => simp at hrb
 refine QTri.after hcal h fun p e R s mid args below meth c T locs cells slots C hcx X hR hC hc1 hsl => ?_
 obtain ⟨hx, hZ, hby, hml, hret', hown, hnm, hfr, hlo⟩ := hcx
 have hd2 : decode c.code pc = .ok (.invokevirtual idx, 3) := by rw [hby]; exact hd
 obtain ⟨f1, f2⟩ := QTri.room (σ := σ) (σ₁ := σ₁) hroom hfr hlo
 obtain ⟨cell, h1, h2⟩ := (hR.2.2 _ _ hcell).1.cell
 obtain ⟨w1, w2⟩ := (qw_pr W) k m2
 obtain ⟨c1, c2⟩ := (qw_cod W) k hkA
 have hpr : s.PrivateAt (pName k) := Cond.privateMethod_at (mvP hZ w2 (args := #[]))
 obtain ⟨cC, kC, i1, i2, i3, i4⟩ := Cond.instantiable_spec (args := #[]) (mvT hZ (qw_inst W))
 have hsel : (Cond.selects (pName k).cls (pName k) (pName k)).before args s = true := selects_self_of_private (c := cC) (k := kC) (by show s.vm.findClass (kName (pK k)) = _; rw [hk1]; exact i1) i2 (by have q := i4.1; cases hq : kC.isInterface with | false => rfl | true => rw [hq] at q; simp at q) hpr (mvT hZ w1) (pOwn _ (pKlt k hkN))
 obtain ⟨_, _, ⟨T₁, L₁, k₁, n₁⟩, -, X₁, ⟨Lc, ⟨rfl, hR1, hF1⟩, l₁, y₁, z₁⟩, st⟩ := X.privateBack hx (own := kName (pK m)) (index := idx) (y := pName k) hown (mvT hZ (qw_ml W (pK m, idx, k) m1)) (mvT hZ w1) hsel hpr (mvT hZ c1) (pOwn _ (pKlt k hkN))
  (backOf (W := (rest.map fun v => v.category).sum) (rm := ⟨pFr k, σ₁.length - σ.length, qhs σ₁ - qhs σ, pLo k⟩) (Q := fun v h L => v = Option.map (qv ad) w ∧ QRep Z n0 ad h σ₁ ∧ Fr n0 L) (QTri.met hkN hcal hR (Nat.le_of_ble_eq_true hlen) hret [] (Nat.le_refl _) (Nat.le_refl _) (Nat.le_refl _) (Nat.le_refl _)) hZ c1 c2 f1 f2) (g := mkF mid pc C (List.map (qv ad) (as.reverse ++ .ref a :: rest))) rfl hC (Steps.refl _) (a := ad a) h1 h2 (argsL := as.map (qv ad)) (rest := rest.map (qv ad)) (sig_len hkN hna) (by simp [qv]) (by show 2 * 0 + _ ≤ _; rw [cats_qv]; omega) hd2 (fun _ _ => ⟨rfl, rfl, hc1, hsl⟩)
 dsimp only [Pt.U, Pt.locs, Pt.cells, Pt.slots] at X₁ l₁ y₁ z₁ st hR1
 subst l₁ y₁ z₁
 exact ⟨T₁, Lc, X₁, hR1, hF1, fun target q => st.trans q⟩
set_option maxHeartbeats 4000000 in
theorem QTri.callS (W : QW Z a0) {pc idx k : Nat} {L : QLoc} {S as rest : List Value} {σ σ₁ : QHeap} {w : Option Value} (hc : pCode m pc = some (.invokestatic idx, k)) (hm : (lkV.contains (pK m, idx, k) && mS.contains k) = true) (hS : S = as.reverse ++ rest)
  (hna : as.length = pNA k) (hlen : Nat.ble ((as.map fun v => v.category).sum) (pMaxL k) = true) (hroom : (Nat.ble (pFr k + 1) (pFr m) && Nat.ble ((rest.map fun v => v.category).sum + (pMaxL k + 11) + pLo k) (pLo m)) = true) (hrb : (w.isNone || (pRet k).isSome) = true)
  (hcal : QTri l Z n0 ad k (0, qentry as (pMaxL k), [], σ) w σ₁) (h : QTri l Z n0 ad m (pc + 3, L, w.toList ++ rest, σ₁) v σ') : QTri l Z n0 ad m (pc, L, S, σ) v σ' := by
 have hd : decode (pBytes m) pc = .ok (.invokestatic idx, 3) := pDecN hc rfl
 subst hS
 obtain ⟨m1, m2⟩ := Bool.and_eq_true_iff.mp hm
 have m1 := mem_of_contains m1
 have m2 := mem_of_contains m2
 have hkA := mSlt k m2
 have hkN := mAlt k hkA
 have hret : pRet k = none → w = none := fun q => by
  rw [q] at hrb
  cases w with
  | none => rfl
  | some w => simp at hrb
 refine QTri.after hcal h fun p e R s mid args below meth c T locs cells slots C hcx X hR hC hc1 hsl => ?_
 obtain ⟨hx, hZ, hby, hml, hret', hown, hnm, hfr, hlo⟩ := hcx
 have hd2 : decode c.code pc = .ok (.invokestatic idx, 3) := by rw [hby]; exact hd
 obtain ⟨f1, f2⟩ := QTri.room (σ := σ) (σ₁ := σ₁) hroom hfr hlo
 obtain ⟨c1, c2⟩ := (qw_cod W) k hkA
 obtain ⟨_, _, ⟨T₁, L₁, k₁, n₁⟩, -, X₁, ⟨Lc, ⟨rfl, hR1, hF1⟩, l₁, y₁, z₁⟩, st⟩ := Jvm.LawKit.callS X hx (own := kName (pK m)) (index := idx) (y := pName k) hown (mvT hZ (qw_ml W (pK m, idx, k) m1)) (mvT hZ ((qw_st W) k m2)) (mvT hZ c2) (mvT hZ c1) (pOwn _ (pKlt k hkN))
  (backOf (W := (rest.map fun v => v.category).sum) (rm := ⟨pFr k, σ₁.length - σ.length, qhs σ₁ - qhs σ, pLo k⟩) (Q := fun v h L => v = Option.map (qv ad) w ∧ QRep Z n0 ad h σ₁ ∧ Fr n0 L) (QTri.met hkN hcal hR (Nat.le_of_ble_eq_true hlen) hret [] (Nat.le_refl _) (Nat.le_refl _) (Nat.le_refl _) (Nat.le_refl _)) hZ c1 c2 f1 f2) (g := mkF mid pc C (List.map (qv ad) (as.reverse ++ rest))) rfl hC (argsL := as.map (qv ad)) (rest := rest.map (qv ad)) (sig_len hkN hna) (by simp) (by show 2 * 0 + _ ≤ _; rw [cats_qv]; omega) hd2 (fun _ _ => ⟨rfl, rfl, hc1, hsl⟩)
 dsimp only [Pt.U, Pt.locs, Pt.cells, Pt.slots] at X₁ l₁ y₁ z₁ st hR1
 subst l₁ y₁ z₁
 exact ⟨T₁, Lc, X₁, hR1, hF1, fun target q => st target q⟩
set_option maxHeartbeats 4000000 in
theorem QTri.callO (W : QW Z a0) {pc idx k a : Nat} {L : QLoc} {rest : List Value} {σ : QHeap} (hc : pCode m pc = some (.invokespecial idx, k)) (hm : lkO.contains (pK m, idx) = true) (hroom : (Nat.ble 1 (pFr m) && Nat.ble ((rest.map fun v => v.category).sum + 12) (pLo m)) = true)
  (h : QTri l Z n0 ad m (pc + 3, L, rest, σ) v σ') : QTri l Z n0 ad m (pc, L, .ref a :: rest, σ) v σ' :=
 have hd : decode (pBytes m) pc = .ok (.invokespecial idx, 3) := pDecN hc rfl
 QTri.pure h rfl fun p e R s mid args below meth c T locs cells slots C hcx X hR hL hC => by
  obtain ⟨hx, hZ, hby, hml, hret', hown, hnm, hfr, hlo⟩ := hcx
  have hd2 : decode c.code pc = .ok (.invokespecial idx, 3) := by rw [hby]; exact hd
  obtain ⟨q1, q2⟩ := Bool.and_eq_true_iff.mp hroom
  obtain ⟨T₁, X₁, e₁, st⟩ := initO X hx hZ hown (idx := idx) (qw_mo W (pK m, idx) (mem_of_contains hm)) ((qw_oi W)) ((qw_oc W)) rfl (g := mkF mid pc C (List.map (qv ad) (.ref a :: rest))) rfl hC rfl hd2 (Nat.le_trans (Nat.le_of_ble_eq_true q1) hfr) (W := (rest.map fun v => v.category).sum) (by show 2 * 0 + _ ≤ _; rw [cats_qv]; omega) (Nat.le_trans (Nat.le_of_ble_eq_true q2) hlo)
  exact ⟨T₁, C, X₁, e₁, hL, hC, st⟩
theorem QTri.brT (Ad : QAd n0 ad) (W : QW Z a0) {st : QSt} {t f : Nat} {L : QLoc} {S : List Value} {σ : QHeap} {b : Bool} (hs : qstep m st = some (bif b then t else f, L, S, σ)) (hb : b = true) (h : QTri l Z n0 ad m (t, L, S, σ) v σ') : QTri l Z n0 ad m st v σ' := by
 subst hb; exact QTri.step Ad W h hs
theorem QTri.brF (Ad : QAd n0 ad) (W : QW Z a0) {st : QSt} {t f : Nat} {L : QLoc} {S : List Value} {σ : QHeap} {b : Bool} (hs : qstep m st = some (bif b then t else f, L, S, σ)) (hb : b = false) (h : QTri l Z n0 ad m (f, L, S, σ) v σ') : QTri l Z n0 ad m st v σ' := by
 subst hb; exact QTri.step Ad W h hs
theorem QTri.bnd {α : Type} (Ad : QAd n0 ad) (W : QW Z a0) {st : QSt} {x : Option α} {f : α → QSt} {a : α} (hs : qstep m st = x.bind fun v => some (f v)) (hx : x = some a) (h : QTri l Z n0 ad m (f a) v σ') : QTri l Z n0 ad m st v σ' :=
 QTri.step Ad W h (by rw [hs, hx]; rfl)
theorem QTri.bndB (Ad : QAd n0 ad) (W : QW Z a0) {st : QSt} {x y : Int32} {g : Value → QSt} (hs : qstep m st = ((qboo x).bind fun y => some (Value.int y)).bind fun w => some (g w)) (hx : qboo x = some y) (h : QTri l Z n0 ad m (g (.int y)) v σ') : QTri l Z n0 ad m st v σ' :=
 QTri.step Ad W h (by rw [hs, hx]; rfl)
end Triples
theorem qite {α : Type} {c : Prop} [Decidable c] {a b : Option α} {r : α} (h : (if c then a else b) = some r) : (c ∧ a = some r) ∨ (¬ c ∧ b = some r) := by
 by_cases hc : c
 ·exact Or.inl ⟨hc, by rwa [if_pos hc] at h⟩
 ·exact Or.inr ⟨hc, by rwa [if_neg hc] at h⟩
def qN : Nat := 4000
def loopN {V E : Type} (B : V → Option (E ⊕ V)) : Nat → V → Option E
 | 0, _ => none
 | n + 1, v => match B v with
  | none => none
  | some (.inl e) => some e
  | some (.inr v') => loopN B n v'
theorem loopN_tri {V E : Type} {B : V → Option (E ⊕ V)} {T : V → Prop} {KE : E → Prop} (hB : ∀ v r, B v = some r → (∀ e, r = .inl e → KE e) → (∀ v', r = .inr v' → T v') → T v) : ∀ (n : Nat) (v : V) (e : E), loopN B n v = some e → KE e → T v
 | 0, _, _, h, _ => by cases h
 | n + 1, v, e, h, k => by
  simp only [loopN] at h
  split at h
  ·cases h
  ·rename_i e' he
   cases h
   exact hB v _ he (fun e q => by cases q; exact k) (fun v' q => by cases q)
  ·rename_i v' he
   exact hB v _ he (fun e q => by cases q) (fun v'' q => by cases q; exact loopN_tri hB n v' e h k)
theorem loopN_inv {V E : Type} {B : V → Option (E ⊕ V)} (I : V → Prop) (P : E → Prop) (μ : V → Nat) (hB : ∀ v, I v → (∃ e, B v = some (.inl e) ∧ P e) ∨ ∃ v', B v = some (.inr v') ∧ I v' ∧ μ v' < μ v) : ∀ (n : Nat) (v : V), I v → μ v < n → ∃ e, loopN B n v = some e ∧ P e
 | 0, _, _, h => absurd h (Nat.not_lt_zero _)
 | n + 1, v, hv, hm => by
  rcases hB v hv with ⟨e, h1, h2⟩ | ⟨v', h1, h2, h3⟩
  ·exact ⟨e, by simp only [loopN, h1], h2⟩
  ·obtain ⟨e, g1, g2⟩ := loopN_inv I P μ hB n v' h2 (by omega)
   exact ⟨e, by simp only [loopN, h1]; exact g1, g2⟩
theorem qfn {α : Type} {P : α → Prop} : ∀ t ∈ ([] : List α), P t := fun _ h => nomatch h
theorem qfc {α : Type} {P : α → Prop} {a : α} {t : List α} (h : P a) (ht : ∀ x ∈ t, P x) : ∀ x ∈ a :: t, P x := fun x hx => by rcases List.mem_cons.mp hx with rfl | q; exact h; exact ht x q
theorem QW_ok {Z : State} {a0 : Array Value} (hw : ∀ d ∈ tables_1, d.before a0 Z = true) : QW Z a0 := by
  have w0 : ∀ k ∈ List.range nF, bif fFin k then (Jvm.Cond.laysFinal cName cName (fNm k) (fDs k)).before a0 Z = true else (Jvm.Cond.lays cName cName (fNm k) (fDs k)).before a0 Z = true :=
    show ∀ k ∈ [0, 1, 2, 3, 4, 5, 6, 7, 8, 9, 10, 11, 12, 13, 14, 15, 16, 17, 18, 19, 20, 21, 22, 23, 24, 25], bif fFin k then (Jvm.Cond.laysFinal cName cName (fNm k) (fDs k)).before a0 Z = true else (Jvm.Cond.lays cName cName (fNm k) (fDs k)).before a0 Z = true from
    (qfc (hw _ (List.mem_of_getElem? (i := 15) rfl)) (qfc (hw _ (List.mem_of_getElem? (i := 18) rfl)) (qfc (hw _ (List.mem_of_getElem? (i := 20) rfl)) (qfc (hw _ (List.mem_of_getElem? (i := 22) rfl)) (qfc (hw _ (List.mem_of_getElem? (i := 24) rfl)) (qfc (hw _ (List.mem_of_getElem? (i := 26) rfl)) (qfc (hw _ (List.mem_of_getElem? (i := 28) rfl)) (qfc (hw _ (List.mem_of_getElem? (i := 30) rfl)) (qfc (hw _ (List.mem_of_getElem? (i := 32) rfl)) (qfc (hw _ (List.mem_of_getElem? (i := 34) rfl)) (qfc (hw _ (List.mem_of_getElem? (i := 36) rfl)) (qfc (hw _ (List.mem_of_getElem? (i := 38) rfl)) (qfc (hw _ (List.mem_of_getElem? (i := 40) rfl)) (qfc (hw _ (List.mem_of_getElem? (i := 42) rfl)) (qfc (hw _ (List.mem_of_getElem? (i := 44) rfl)) (qfc (hw _ (List.mem_of_getElem? (i := 46) rfl)) (qfc (hw _ (List.mem_of_getElem? (i := 48) rfl)) (qfc (hw _ (List.mem_of_getElem? (i := 50) rfl)) (qfc (hw _ (List.mem_of_getElem? (i := 52) rfl)) (qfc (hw _ (List.mem_of_getElem? (i := 58) rfl)) (qfc (hw _ (List.mem_of_getElem? (i := 60) rfl)) (qfc (hw _ (List.mem_of_getElem? (i := 62) rfl)) (qfc (hw _ (List.mem_of_getElem? (i := 64) rfl)) (qfc (hw _ (List.mem_of_getElem? (i := 75) rfl)) (qfc (hw _ (List.mem_of_getElem? (i := 168) rfl)) (qfc (hw _ (List.mem_of_getElem? (i := 174) rfl)) qfn))))))))))))))))))))))))))
  refine ⟨?_, ?_, ?_, ?_, ?_, ?_, ?_, ?_, ?_, ?_, ?_, ?_, ?_, (fun k hk => w0 k (List.mem_range.mpr hk)), ?_, ?_, ?_⟩
  · exact (qfc (hw _ (List.mem_of_getElem? (i := 14) rfl)) (qfc (hw _ (List.mem_of_getElem? (i := 17) rfl)) (qfc (hw _ (List.mem_of_getElem? (i := 19) rfl)) (qfc (hw _ (List.mem_of_getElem? (i := 21) rfl)) (qfc (hw _ (List.mem_of_getElem? (i := 23) rfl)) (qfc (hw _ (List.mem_of_getElem? (i := 25) rfl)) (qfc (hw _ (List.mem_of_getElem? (i := 27) rfl)) (qfc (hw _ (List.mem_of_getElem? (i := 29) rfl)) (qfc (hw _ (List.mem_of_getElem? (i := 31) rfl)) (qfc (hw _ (List.mem_of_getElem? (i := 33) rfl)) (qfc (hw _ (List.mem_of_getElem? (i := 35) rfl)) (qfc (hw _ (List.mem_of_getElem? (i := 37) rfl)) (qfc (hw _ (List.mem_of_getElem? (i := 39) rfl)) (qfc (hw _ (List.mem_of_getElem? (i := 41) rfl)) (qfc (hw _ (List.mem_of_getElem? (i := 43) rfl)) (qfc (hw _ (List.mem_of_getElem? (i := 45) rfl)) (qfc (hw _ (List.mem_of_getElem? (i := 47) rfl)) (qfc (hw _ (List.mem_of_getElem? (i := 49) rfl)) (qfc (hw _ (List.mem_of_getElem? (i := 51) rfl)) (qfc (hw _ (List.mem_of_getElem? (i := 57) rfl)) (qfc (hw _ (List.mem_of_getElem? (i := 59) rfl)) (qfc (hw _ (List.mem_of_getElem? (i := 61) rfl)) (qfc (hw _ (List.mem_of_getElem? (i := 63) rfl)) (qfc (hw _ (List.mem_of_getElem? (i := 74) rfl)) (qfc (hw _ (List.mem_of_getElem? (i := 167) rfl)) (qfc (hw _ (List.mem_of_getElem? (i := 173) rfl)) qfn))))))))))))))))))))))))))
  · exact (qfc (hw _ (List.mem_of_getElem? (i := 0) rfl)) qfn)
  · exact qfn
  · exact (qfc ⟨_, rfl, (hw _ (List.mem_of_getElem? (i := 143) rfl))⟩ (qfc ⟨_, rfl, (hw _ (List.mem_of_getElem? (i := 144) rfl))⟩ qfn))
  · exact (qfc (hw _ (List.mem_of_getElem? (i := 3) rfl)) (qfc (hw _ (List.mem_of_getElem? (i := 7) rfl)) (qfc (hw _ (List.mem_of_getElem? (i := 53) rfl)) (qfc (hw _ (List.mem_of_getElem? (i := 65) rfl)) (qfc (hw _ (List.mem_of_getElem? (i := 70) rfl)) (qfc (hw _ (List.mem_of_getElem? (i := 76) rfl)) (qfc (hw _ (List.mem_of_getElem? (i := 81) rfl)) (qfc (hw _ (List.mem_of_getElem? (i := 85) rfl)) (qfc (hw _ (List.mem_of_getElem? (i := 90) rfl)) (qfc (hw _ (List.mem_of_getElem? (i := 94) rfl)) (qfc (hw _ (List.mem_of_getElem? (i := 99) rfl)) (qfc (hw _ (List.mem_of_getElem? (i := 103) rfl)) (qfc (hw _ (List.mem_of_getElem? (i := 107) rfl)) (qfc (hw _ (List.mem_of_getElem? (i := 111) rfl)) (qfc (hw _ (List.mem_of_getElem? (i := 115) rfl)) (qfc (hw _ (List.mem_of_getElem? (i := 119) rfl)) (qfc (hw _ (List.mem_of_getElem? (i := 123) rfl)) (qfc (hw _ (List.mem_of_getElem? (i := 128) rfl)) (qfc (hw _ (List.mem_of_getElem? (i := 132) rfl)) (qfc (hw _ (List.mem_of_getElem? (i := 136) rfl)) (qfc (hw _ (List.mem_of_getElem? (i := 140) rfl)) (qfc (hw _ (List.mem_of_getElem? (i := 145) rfl)) (qfc (hw _ (List.mem_of_getElem? (i := 150) rfl)) (qfc (hw _ (List.mem_of_getElem? (i := 155) rfl)) (qfc (hw _ (List.mem_of_getElem? (i := 158) rfl)) (qfc (hw _ (List.mem_of_getElem? (i := 163) rfl)) (qfc (hw _ (List.mem_of_getElem? (i := 169) rfl)) (qfc (hw _ (List.mem_of_getElem? (i := 175) rfl)) (qfc (hw _ (List.mem_of_getElem? (i := 179) rfl)) (qfc (hw _ (List.mem_of_getElem? (i := 183) rfl)) (qfc (hw _ (List.mem_of_getElem? (i := 187) rfl)) (qfc (hw _ (List.mem_of_getElem? (i := 192) rfl)) (qfc (hw _ (List.mem_of_getElem? (i := 196) rfl)) (qfc (hw _ (List.mem_of_getElem? (i := 200) rfl)) (qfc (hw _ (List.mem_of_getElem? (i := 204) rfl)) (qfc (hw _ (List.mem_of_getElem? (i := 208) rfl)) (qfc (hw _ (List.mem_of_getElem? (i := 212) rfl)) qfn)))))))))))))))))))))))))))))))))))))
  · exact (qfc (hw _ (List.mem_of_getElem? (i := 10) rfl)) qfn)
  · exact (qfc ⟨(hw _ (List.mem_of_getElem? (i := 66) rfl)), (hw _ (List.mem_of_getElem? (i := 68) rfl)), (hw _ (List.mem_of_getElem? (i := 67) rfl))⟩ (qfc ⟨(hw _ (List.mem_of_getElem? (i := 77) rfl)), (hw _ (List.mem_of_getElem? (i := 79) rfl)), (hw _ (List.mem_of_getElem? (i := 78) rfl))⟩ (qfc ⟨(hw _ (List.mem_of_getElem? (i := 86) rfl)), (hw _ (List.mem_of_getElem? (i := 88) rfl)), (hw _ (List.mem_of_getElem? (i := 87) rfl))⟩ (qfc ⟨(hw _ (List.mem_of_getElem? (i := 95) rfl)), (hw _ (List.mem_of_getElem? (i := 97) rfl)), (hw _ (List.mem_of_getElem? (i := 96) rfl))⟩ (qfc ⟨(hw _ (List.mem_of_getElem? (i := 124) rfl)), (hw _ (List.mem_of_getElem? (i := 126) rfl)), (hw _ (List.mem_of_getElem? (i := 125) rfl))⟩ (qfc ⟨(hw _ (List.mem_of_getElem? (i := 146) rfl)), (hw _ (List.mem_of_getElem? (i := 148) rfl)), (hw _ (List.mem_of_getElem? (i := 147) rfl))⟩ (qfc ⟨(hw _ (List.mem_of_getElem? (i := 151) rfl)), (hw _ (List.mem_of_getElem? (i := 153) rfl)), (hw _ (List.mem_of_getElem? (i := 152) rfl))⟩ (qfc ⟨(hw _ (List.mem_of_getElem? (i := 159) rfl)), (hw _ (List.mem_of_getElem? (i := 161) rfl)), (hw _ (List.mem_of_getElem? (i := 160) rfl))⟩ (qfc ⟨(hw _ (List.mem_of_getElem? (i := 188) rfl)), (hw _ (List.mem_of_getElem? (i := 190) rfl)), (hw _ (List.mem_of_getElem? (i := 189) rfl))⟩ (qfc ⟨(hw _ (List.mem_of_getElem? (i := 213) rfl)), (hw _ (List.mem_of_getElem? (i := 215) rfl)), (hw _ (List.mem_of_getElem? (i := 214) rfl))⟩ qfn))))))))))
  · exact (qfc ⟨(hw _ (List.mem_of_getElem? (i := 54) rfl)), (hw _ (List.mem_of_getElem? (i := 55) rfl))⟩ (qfc ⟨(hw _ (List.mem_of_getElem? (i := 71) rfl)), (hw _ (List.mem_of_getElem? (i := 72) rfl))⟩ (qfc ⟨(hw _ (List.mem_of_getElem? (i := 82) rfl)), (hw _ (List.mem_of_getElem? (i := 83) rfl))⟩ (qfc ⟨(hw _ (List.mem_of_getElem? (i := 91) rfl)), (hw _ (List.mem_of_getElem? (i := 92) rfl))⟩ (qfc ⟨(hw _ (List.mem_of_getElem? (i := 100) rfl)), (hw _ (List.mem_of_getElem? (i := 101) rfl))⟩ (qfc ⟨(hw _ (List.mem_of_getElem? (i := 104) rfl)), (hw _ (List.mem_of_getElem? (i := 105) rfl))⟩ (qfc ⟨(hw _ (List.mem_of_getElem? (i := 108) rfl)), (hw _ (List.mem_of_getElem? (i := 109) rfl))⟩ (qfc ⟨(hw _ (List.mem_of_getElem? (i := 112) rfl)), (hw _ (List.mem_of_getElem? (i := 113) rfl))⟩ (qfc ⟨(hw _ (List.mem_of_getElem? (i := 116) rfl)), (hw _ (List.mem_of_getElem? (i := 117) rfl))⟩ (qfc ⟨(hw _ (List.mem_of_getElem? (i := 120) rfl)), (hw _ (List.mem_of_getElem? (i := 121) rfl))⟩ (qfc ⟨(hw _ (List.mem_of_getElem? (i := 129) rfl)), (hw _ (List.mem_of_getElem? (i := 130) rfl))⟩ (qfc ⟨(hw _ (List.mem_of_getElem? (i := 133) rfl)), (hw _ (List.mem_of_getElem? (i := 134) rfl))⟩ (qfc ⟨(hw _ (List.mem_of_getElem? (i := 137) rfl)), (hw _ (List.mem_of_getElem? (i := 138) rfl))⟩ (qfc ⟨(hw _ (List.mem_of_getElem? (i := 164) rfl)), (hw _ (List.mem_of_getElem? (i := 165) rfl))⟩ (qfc ⟨(hw _ (List.mem_of_getElem? (i := 170) rfl)), (hw _ (List.mem_of_getElem? (i := 171) rfl))⟩ (qfc ⟨(hw _ (List.mem_of_getElem? (i := 176) rfl)), (hw _ (List.mem_of_getElem? (i := 177) rfl))⟩ (qfc ⟨(hw _ (List.mem_of_getElem? (i := 180) rfl)), (hw _ (List.mem_of_getElem? (i := 181) rfl))⟩ (qfc ⟨(hw _ (List.mem_of_getElem? (i := 184) rfl)), (hw _ (List.mem_of_getElem? (i := 185) rfl))⟩ (qfc ⟨(hw _ (List.mem_of_getElem? (i := 193) rfl)), (hw _ (List.mem_of_getElem? (i := 194) rfl))⟩ (qfc ⟨(hw _ (List.mem_of_getElem? (i := 197) rfl)), (hw _ (List.mem_of_getElem? (i := 198) rfl))⟩ (qfc ⟨(hw _ (List.mem_of_getElem? (i := 201) rfl)), (hw _ (List.mem_of_getElem? (i := 202) rfl))⟩ (qfc ⟨(hw _ (List.mem_of_getElem? (i := 205) rfl)), (hw _ (List.mem_of_getElem? (i := 206) rfl))⟩ (qfc ⟨(hw _ (List.mem_of_getElem? (i := 209) rfl)), (hw _ (List.mem_of_getElem? (i := 210) rfl))⟩ qfn)))))))))))))))))))))))
  · exact (qfc (hw _ (List.mem_of_getElem? (i := 4) rfl)) (qfc (hw _ (List.mem_of_getElem? (i := 141) rfl)) (qfc (hw _ (List.mem_of_getElem? (i := 156) rfl)) qfn)))
  · exact (qfc (hw _ (List.mem_of_getElem? (i := 8) rfl)) qfn)
  · exact (qfc ⟨(hw _ (List.mem_of_getElem? (i := 6) rfl)), (hw _ (List.mem_of_getElem? (i := 5) rfl))⟩ (qfc ⟨(hw _ (List.mem_of_getElem? (i := 9) rfl)), (hw _ (List.mem_of_getElem? (i := 2) rfl))⟩ (qfc ⟨(hw _ (List.mem_of_getElem? (i := 56) rfl)), (hw _ (List.mem_of_getElem? (i := 2) rfl))⟩ (qfc ⟨(hw _ (List.mem_of_getElem? (i := 69) rfl)), (hw _ (List.mem_of_getElem? (i := 2) rfl))⟩ (qfc ⟨(hw _ (List.mem_of_getElem? (i := 73) rfl)), (hw _ (List.mem_of_getElem? (i := 2) rfl))⟩ (qfc ⟨(hw _ (List.mem_of_getElem? (i := 80) rfl)), (hw _ (List.mem_of_getElem? (i := 2) rfl))⟩ (qfc ⟨(hw _ (List.mem_of_getElem? (i := 84) rfl)), (hw _ (List.mem_of_getElem? (i := 2) rfl))⟩ (qfc ⟨(hw _ (List.mem_of_getElem? (i := 89) rfl)), (hw _ (List.mem_of_getElem? (i := 2) rfl))⟩ (qfc ⟨(hw _ (List.mem_of_getElem? (i := 93) rfl)), (hw _ (List.mem_of_getElem? (i := 2) rfl))⟩ (qfc ⟨(hw _ (List.mem_of_getElem? (i := 98) rfl)), (hw _ (List.mem_of_getElem? (i := 2) rfl))⟩ (qfc ⟨(hw _ (List.mem_of_getElem? (i := 102) rfl)), (hw _ (List.mem_of_getElem? (i := 2) rfl))⟩ (qfc ⟨(hw _ (List.mem_of_getElem? (i := 106) rfl)), (hw _ (List.mem_of_getElem? (i := 2) rfl))⟩ (qfc ⟨(hw _ (List.mem_of_getElem? (i := 110) rfl)), (hw _ (List.mem_of_getElem? (i := 2) rfl))⟩ (qfc ⟨(hw _ (List.mem_of_getElem? (i := 114) rfl)), (hw _ (List.mem_of_getElem? (i := 2) rfl))⟩ (qfc ⟨(hw _ (List.mem_of_getElem? (i := 118) rfl)), (hw _ (List.mem_of_getElem? (i := 2) rfl))⟩ (qfc ⟨(hw _ (List.mem_of_getElem? (i := 122) rfl)), (hw _ (List.mem_of_getElem? (i := 2) rfl))⟩ (qfc ⟨(hw _ (List.mem_of_getElem? (i := 127) rfl)), (hw _ (List.mem_of_getElem? (i := 2) rfl))⟩ (qfc ⟨(hw _ (List.mem_of_getElem? (i := 131) rfl)), (hw _ (List.mem_of_getElem? (i := 2) rfl))⟩ (qfc ⟨(hw _ (List.mem_of_getElem? (i := 135) rfl)), (hw _ (List.mem_of_getElem? (i := 2) rfl))⟩ (qfc ⟨(hw _ (List.mem_of_getElem? (i := 139) rfl)), (hw _ (List.mem_of_getElem? (i := 2) rfl))⟩ (qfc ⟨(hw _ (List.mem_of_getElem? (i := 142) rfl)), (hw _ (List.mem_of_getElem? (i := 5) rfl))⟩ (qfc ⟨(hw _ (List.mem_of_getElem? (i := 149) rfl)), (hw _ (List.mem_of_getElem? (i := 2) rfl))⟩ (qfc ⟨(hw _ (List.mem_of_getElem? (i := 154) rfl)), (hw _ (List.mem_of_getElem? (i := 2) rfl))⟩ (qfc ⟨(hw _ (List.mem_of_getElem? (i := 157) rfl)), (hw _ (List.mem_of_getElem? (i := 5) rfl))⟩ (qfc ⟨(hw _ (List.mem_of_getElem? (i := 162) rfl)), (hw _ (List.mem_of_getElem? (i := 2) rfl))⟩ (qfc ⟨(hw _ (List.mem_of_getElem? (i := 166) rfl)), (hw _ (List.mem_of_getElem? (i := 2) rfl))⟩ (qfc ⟨(hw _ (List.mem_of_getElem? (i := 172) rfl)), (hw _ (List.mem_of_getElem? (i := 2) rfl))⟩ (qfc ⟨(hw _ (List.mem_of_getElem? (i := 178) rfl)), (hw _ (List.mem_of_getElem? (i := 2) rfl))⟩ (qfc ⟨(hw _ (List.mem_of_getElem? (i := 182) rfl)), (hw _ (List.mem_of_getElem? (i := 2) rfl))⟩ (qfc ⟨(hw _ (List.mem_of_getElem? (i := 186) rfl)), (hw _ (List.mem_of_getElem? (i := 2) rfl))⟩ (qfc ⟨(hw _ (List.mem_of_getElem? (i := 191) rfl)), (hw _ (List.mem_of_getElem? (i := 2) rfl))⟩ (qfc ⟨(hw _ (List.mem_of_getElem? (i := 195) rfl)), (hw _ (List.mem_of_getElem? (i := 2) rfl))⟩ (qfc ⟨(hw _ (List.mem_of_getElem? (i := 199) rfl)), (hw _ (List.mem_of_getElem? (i := 2) rfl))⟩ (qfc ⟨(hw _ (List.mem_of_getElem? (i := 203) rfl)), (hw _ (List.mem_of_getElem? (i := 2) rfl))⟩ (qfc ⟨(hw _ (List.mem_of_getElem? (i := 207) rfl)), (hw _ (List.mem_of_getElem? (i := 2) rfl))⟩ (qfc ⟨(hw _ (List.mem_of_getElem? (i := 211) rfl)), (hw _ (List.mem_of_getElem? (i := 2) rfl))⟩ (qfc ⟨(hw _ (List.mem_of_getElem? (i := 216) rfl)), (hw _ (List.mem_of_getElem? (i := 2) rfl))⟩ qfn)))))))))))))))))))))))))))))))))))))
  · exact (hw _ (List.mem_of_getElem? (i := 11) rfl))
  · exact (hw _ (List.mem_of_getElem? (i := 12) rfl))
  · exact (hw _ (List.mem_of_getElem? (i := 1) rfl))
  · exact (hw _ (List.mem_of_getElem? (i := 2) rfl))
  · exact (qfc (hw _ (List.mem_of_getElem? (i := 13) rfl)) (qfc (hw _ (List.mem_of_getElem? (i := 16) rfl)) qfn))
abbrev Ob := List Int32 × List Int32 × List Int32 × List Int32 × List Int32 × List Int32 × List Int32 × List Int32 × List Int32 × List Int32 × List Int32 × List Int32 × List Int32 × List Int32 × List Int32 × List Int32 × List Int32 × List Int32 × List Int32 × Int32 × Int32 × Int32 × Int32 × Int32 × Int32 × Int32
def f_srcPayload (o : Ob) : List Int32 := o.1
def f_pend (o : Ob) : List Int32 := o.2.1
def f_queue (o : Ob) : List Int32 := o.2.2.1
def f_stats (o : Ob) : List Int32 := o.2.2.2.1
def f_state (o : Ob) : List Int32 := o.2.2.2.2.1
def f_timer (o : Ob) : List Int32 := o.2.2.2.2.2.1
def f_rxVal (o : Ob) : List Int32 := o.2.2.2.2.2.2.1
def f_rxNext (o : Ob) : List Int32 := o.2.2.2.2.2.2.2.1
def f_rxLead (o : Ob) : List Int32 := o.2.2.2.2.2.2.2.2.1
def f_rxTrail (o : Ob) : List Int32 := o.2.2.2.2.2.2.2.2.2.1
def f_lossLeft (o : Ob) : List Int32 := o.2.2.2.2.2.2.2.2.2.2.1
def f_dups (o : Ob) : List Int32 := o.2.2.2.2.2.2.2.2.2.2.2.1
def f_drops (o : Ob) : List Int32 := o.2.2.2.2.2.2.2.2.2.2.2.2.1
def f_delSeq (o : Ob) : List Int32 := o.2.2.2.2.2.2.2.2.2.2.2.2.2.1
def f_delVal (o : Ob) : List Int32 := o.2.2.2.2.2.2.2.2.2.2.2.2.2.2.1
def f_delLen (o : Ob) : List Int32 := o.2.2.2.2.2.2.2.2.2.2.2.2.2.2.2.1
def f_lostLog (o : Ob) : List Int32 := o.2.2.2.2.2.2.2.2.2.2.2.2.2.2.2.2.1
def f_lostLen (o : Ob) : List Int32 := o.2.2.2.2.2.2.2.2.2.2.2.2.2.2.2.2.2.1
def f_nakBuf (o : Ob) : List Int32 := o.2.2.2.2.2.2.2.2.2.2.2.2.2.2.2.2.2.2.1
def f_win (o : Ob) : Int32 := o.2.2.2.2.2.2.2.2.2.2.2.2.2.2.2.2.2.2.2.1
def f_back (o : Ob) : Int32 := o.2.2.2.2.2.2.2.2.2.2.2.2.2.2.2.2.2.2.2.2.1
def f_repair (o : Ob) : Int32 := o.2.2.2.2.2.2.2.2.2.2.2.2.2.2.2.2.2.2.2.2.2.1
def f_period (o : Ob) : Int32 := o.2.2.2.2.2.2.2.2.2.2.2.2.2.2.2.2.2.2.2.2.2.2.1
def f_nextSeq (o : Ob) : Int32 := o.2.2.2.2.2.2.2.2.2.2.2.2.2.2.2.2.2.2.2.2.2.2.2.1
def f_qLen (o : Ob) : Int32 := o.2.2.2.2.2.2.2.2.2.2.2.2.2.2.2.2.2.2.2.2.2.2.2.2.1
def f_nakLen (o : Ob) : Int32 := o.2.2.2.2.2.2.2.2.2.2.2.2.2.2.2.2.2.2.2.2.2.2.2.2.2
def s_srcPayload (o : Ob) (v : List Int32) : Ob := (v, o.2.1, o.2.2.1, o.2.2.2.1, o.2.2.2.2.1, o.2.2.2.2.2.1, o.2.2.2.2.2.2.1, o.2.2.2.2.2.2.2.1, o.2.2.2.2.2.2.2.2.1, o.2.2.2.2.2.2.2.2.2.1, o.2.2.2.2.2.2.2.2.2.2.1, o.2.2.2.2.2.2.2.2.2.2.2.1, o.2.2.2.2.2.2.2.2.2.2.2.2.1, o.2.2.2.2.2.2.2.2.2.2.2.2.2.1, o.2.2.2.2.2.2.2.2.2.2.2.2.2.2.1, o.2.2.2.2.2.2.2.2.2.2.2.2.2.2.2.1, o.2.2.2.2.2.2.2.2.2.2.2.2.2.2.2.2.1, o.2.2.2.2.2.2.2.2.2.2.2.2.2.2.2.2.2.1, o.2.2.2.2.2.2.2.2.2.2.2.2.2.2.2.2.2.2.1, o.2.2.2.2.2.2.2.2.2.2.2.2.2.2.2.2.2.2.2.1, o.2.2.2.2.2.2.2.2.2.2.2.2.2.2.2.2.2.2.2.2.1, o.2.2.2.2.2.2.2.2.2.2.2.2.2.2.2.2.2.2.2.2.2.1, o.2.2.2.2.2.2.2.2.2.2.2.2.2.2.2.2.2.2.2.2.2.2.1, o.2.2.2.2.2.2.2.2.2.2.2.2.2.2.2.2.2.2.2.2.2.2.2.1, o.2.2.2.2.2.2.2.2.2.2.2.2.2.2.2.2.2.2.2.2.2.2.2.2.1, o.2.2.2.2.2.2.2.2.2.2.2.2.2.2.2.2.2.2.2.2.2.2.2.2.2)
def s_pend (o : Ob) (v : List Int32) : Ob := (o.1, v, o.2.2.1, o.2.2.2.1, o.2.2.2.2.1, o.2.2.2.2.2.1, o.2.2.2.2.2.2.1, o.2.2.2.2.2.2.2.1, o.2.2.2.2.2.2.2.2.1, o.2.2.2.2.2.2.2.2.2.1, o.2.2.2.2.2.2.2.2.2.2.1, o.2.2.2.2.2.2.2.2.2.2.2.1, o.2.2.2.2.2.2.2.2.2.2.2.2.1, o.2.2.2.2.2.2.2.2.2.2.2.2.2.1, o.2.2.2.2.2.2.2.2.2.2.2.2.2.2.1, o.2.2.2.2.2.2.2.2.2.2.2.2.2.2.2.1, o.2.2.2.2.2.2.2.2.2.2.2.2.2.2.2.2.1, o.2.2.2.2.2.2.2.2.2.2.2.2.2.2.2.2.2.1, o.2.2.2.2.2.2.2.2.2.2.2.2.2.2.2.2.2.2.1, o.2.2.2.2.2.2.2.2.2.2.2.2.2.2.2.2.2.2.2.1, o.2.2.2.2.2.2.2.2.2.2.2.2.2.2.2.2.2.2.2.2.1, o.2.2.2.2.2.2.2.2.2.2.2.2.2.2.2.2.2.2.2.2.2.1, o.2.2.2.2.2.2.2.2.2.2.2.2.2.2.2.2.2.2.2.2.2.2.1, o.2.2.2.2.2.2.2.2.2.2.2.2.2.2.2.2.2.2.2.2.2.2.2.1, o.2.2.2.2.2.2.2.2.2.2.2.2.2.2.2.2.2.2.2.2.2.2.2.2.1, o.2.2.2.2.2.2.2.2.2.2.2.2.2.2.2.2.2.2.2.2.2.2.2.2.2)
def s_queue (o : Ob) (v : List Int32) : Ob := (o.1, o.2.1, v, o.2.2.2.1, o.2.2.2.2.1, o.2.2.2.2.2.1, o.2.2.2.2.2.2.1, o.2.2.2.2.2.2.2.1, o.2.2.2.2.2.2.2.2.1, o.2.2.2.2.2.2.2.2.2.1, o.2.2.2.2.2.2.2.2.2.2.1, o.2.2.2.2.2.2.2.2.2.2.2.1, o.2.2.2.2.2.2.2.2.2.2.2.2.1, o.2.2.2.2.2.2.2.2.2.2.2.2.2.1, o.2.2.2.2.2.2.2.2.2.2.2.2.2.2.1, o.2.2.2.2.2.2.2.2.2.2.2.2.2.2.2.1, o.2.2.2.2.2.2.2.2.2.2.2.2.2.2.2.2.1, o.2.2.2.2.2.2.2.2.2.2.2.2.2.2.2.2.2.1, o.2.2.2.2.2.2.2.2.2.2.2.2.2.2.2.2.2.2.1, o.2.2.2.2.2.2.2.2.2.2.2.2.2.2.2.2.2.2.2.1, o.2.2.2.2.2.2.2.2.2.2.2.2.2.2.2.2.2.2.2.2.1, o.2.2.2.2.2.2.2.2.2.2.2.2.2.2.2.2.2.2.2.2.2.1, o.2.2.2.2.2.2.2.2.2.2.2.2.2.2.2.2.2.2.2.2.2.2.1, o.2.2.2.2.2.2.2.2.2.2.2.2.2.2.2.2.2.2.2.2.2.2.2.1, o.2.2.2.2.2.2.2.2.2.2.2.2.2.2.2.2.2.2.2.2.2.2.2.2.1, o.2.2.2.2.2.2.2.2.2.2.2.2.2.2.2.2.2.2.2.2.2.2.2.2.2)
def s_stats (o : Ob) (v : List Int32) : Ob := (o.1, o.2.1, o.2.2.1, v, o.2.2.2.2.1, o.2.2.2.2.2.1, o.2.2.2.2.2.2.1, o.2.2.2.2.2.2.2.1, o.2.2.2.2.2.2.2.2.1, o.2.2.2.2.2.2.2.2.2.1, o.2.2.2.2.2.2.2.2.2.2.1, o.2.2.2.2.2.2.2.2.2.2.2.1, o.2.2.2.2.2.2.2.2.2.2.2.2.1, o.2.2.2.2.2.2.2.2.2.2.2.2.2.1, o.2.2.2.2.2.2.2.2.2.2.2.2.2.2.1, o.2.2.2.2.2.2.2.2.2.2.2.2.2.2.2.1, o.2.2.2.2.2.2.2.2.2.2.2.2.2.2.2.2.1, o.2.2.2.2.2.2.2.2.2.2.2.2.2.2.2.2.2.1, o.2.2.2.2.2.2.2.2.2.2.2.2.2.2.2.2.2.2.1, o.2.2.2.2.2.2.2.2.2.2.2.2.2.2.2.2.2.2.2.1, o.2.2.2.2.2.2.2.2.2.2.2.2.2.2.2.2.2.2.2.2.1, o.2.2.2.2.2.2.2.2.2.2.2.2.2.2.2.2.2.2.2.2.2.1, o.2.2.2.2.2.2.2.2.2.2.2.2.2.2.2.2.2.2.2.2.2.2.1, o.2.2.2.2.2.2.2.2.2.2.2.2.2.2.2.2.2.2.2.2.2.2.2.1, o.2.2.2.2.2.2.2.2.2.2.2.2.2.2.2.2.2.2.2.2.2.2.2.2.1, o.2.2.2.2.2.2.2.2.2.2.2.2.2.2.2.2.2.2.2.2.2.2.2.2.2)
def s_state (o : Ob) (v : List Int32) : Ob := (o.1, o.2.1, o.2.2.1, o.2.2.2.1, v, o.2.2.2.2.2.1, o.2.2.2.2.2.2.1, o.2.2.2.2.2.2.2.1, o.2.2.2.2.2.2.2.2.1, o.2.2.2.2.2.2.2.2.2.1, o.2.2.2.2.2.2.2.2.2.2.1, o.2.2.2.2.2.2.2.2.2.2.2.1, o.2.2.2.2.2.2.2.2.2.2.2.2.1, o.2.2.2.2.2.2.2.2.2.2.2.2.2.1, o.2.2.2.2.2.2.2.2.2.2.2.2.2.2.1, o.2.2.2.2.2.2.2.2.2.2.2.2.2.2.2.1, o.2.2.2.2.2.2.2.2.2.2.2.2.2.2.2.2.1, o.2.2.2.2.2.2.2.2.2.2.2.2.2.2.2.2.2.1, o.2.2.2.2.2.2.2.2.2.2.2.2.2.2.2.2.2.2.1, o.2.2.2.2.2.2.2.2.2.2.2.2.2.2.2.2.2.2.2.1, o.2.2.2.2.2.2.2.2.2.2.2.2.2.2.2.2.2.2.2.2.1, o.2.2.2.2.2.2.2.2.2.2.2.2.2.2.2.2.2.2.2.2.2.1, o.2.2.2.2.2.2.2.2.2.2.2.2.2.2.2.2.2.2.2.2.2.2.1, o.2.2.2.2.2.2.2.2.2.2.2.2.2.2.2.2.2.2.2.2.2.2.2.1, o.2.2.2.2.2.2.2.2.2.2.2.2.2.2.2.2.2.2.2.2.2.2.2.2.1, o.2.2.2.2.2.2.2.2.2.2.2.2.2.2.2.2.2.2.2.2.2.2.2.2.2)
def s_timer (o : Ob) (v : List Int32) : Ob := (o.1, o.2.1, o.2.2.1, o.2.2.2.1, o.2.2.2.2.1, v, o.2.2.2.2.2.2.1, o.2.2.2.2.2.2.2.1, o.2.2.2.2.2.2.2.2.1, o.2.2.2.2.2.2.2.2.2.1, o.2.2.2.2.2.2.2.2.2.2.1, o.2.2.2.2.2.2.2.2.2.2.2.1, o.2.2.2.2.2.2.2.2.2.2.2.2.1, o.2.2.2.2.2.2.2.2.2.2.2.2.2.1, o.2.2.2.2.2.2.2.2.2.2.2.2.2.2.1, o.2.2.2.2.2.2.2.2.2.2.2.2.2.2.2.1, o.2.2.2.2.2.2.2.2.2.2.2.2.2.2.2.2.1, o.2.2.2.2.2.2.2.2.2.2.2.2.2.2.2.2.2.1, o.2.2.2.2.2.2.2.2.2.2.2.2.2.2.2.2.2.2.1, o.2.2.2.2.2.2.2.2.2.2.2.2.2.2.2.2.2.2.2.1, o.2.2.2.2.2.2.2.2.2.2.2.2.2.2.2.2.2.2.2.2.1, o.2.2.2.2.2.2.2.2.2.2.2.2.2.2.2.2.2.2.2.2.2.1, o.2.2.2.2.2.2.2.2.2.2.2.2.2.2.2.2.2.2.2.2.2.2.1, o.2.2.2.2.2.2.2.2.2.2.2.2.2.2.2.2.2.2.2.2.2.2.2.1, o.2.2.2.2.2.2.2.2.2.2.2.2.2.2.2.2.2.2.2.2.2.2.2.2.1, o.2.2.2.2.2.2.2.2.2.2.2.2.2.2.2.2.2.2.2.2.2.2.2.2.2)
def s_rxVal (o : Ob) (v : List Int32) : Ob := (o.1, o.2.1, o.2.2.1, o.2.2.2.1, o.2.2.2.2.1, o.2.2.2.2.2.1, v, o.2.2.2.2.2.2.2.1, o.2.2.2.2.2.2.2.2.1, o.2.2.2.2.2.2.2.2.2.1, o.2.2.2.2.2.2.2.2.2.2.1, o.2.2.2.2.2.2.2.2.2.2.2.1, o.2.2.2.2.2.2.2.2.2.2.2.2.1, o.2.2.2.2.2.2.2.2.2.2.2.2.2.1, o.2.2.2.2.2.2.2.2.2.2.2.2.2.2.1, o.2.2.2.2.2.2.2.2.2.2.2.2.2.2.2.1, o.2.2.2.2.2.2.2.2.2.2.2.2.2.2.2.2.1, o.2.2.2.2.2.2.2.2.2.2.2.2.2.2.2.2.2.1, o.2.2.2.2.2.2.2.2.2.2.2.2.2.2.2.2.2.2.1, o.2.2.2.2.2.2.2.2.2.2.2.2.2.2.2.2.2.2.2.1, o.2.2.2.2.2.2.2.2.2.2.2.2.2.2.2.2.2.2.2.2.1, o.2.2.2.2.2.2.2.2.2.2.2.2.2.2.2.2.2.2.2.2.2.1, o.2.2.2.2.2.2.2.2.2.2.2.2.2.2.2.2.2.2.2.2.2.2.1, o.2.2.2.2.2.2.2.2.2.2.2.2.2.2.2.2.2.2.2.2.2.2.2.1, o.2.2.2.2.2.2.2.2.2.2.2.2.2.2.2.2.2.2.2.2.2.2.2.2.1, o.2.2.2.2.2.2.2.2.2.2.2.2.2.2.2.2.2.2.2.2.2.2.2.2.2)
def s_rxNext (o : Ob) (v : List Int32) : Ob := (o.1, o.2.1, o.2.2.1, o.2.2.2.1, o.2.2.2.2.1, o.2.2.2.2.2.1, o.2.2.2.2.2.2.1, v, o.2.2.2.2.2.2.2.2.1, o.2.2.2.2.2.2.2.2.2.1, o.2.2.2.2.2.2.2.2.2.2.1, o.2.2.2.2.2.2.2.2.2.2.2.1, o.2.2.2.2.2.2.2.2.2.2.2.2.1, o.2.2.2.2.2.2.2.2.2.2.2.2.2.1, o.2.2.2.2.2.2.2.2.2.2.2.2.2.2.1, o.2.2.2.2.2.2.2.2.2.2.2.2.2.2.2.1, o.2.2.2.2.2.2.2.2.2.2.2.2.2.2.2.2.1, o.2.2.2.2.2.2.2.2.2.2.2.2.2.2.2.2.2.1, o.2.2.2.2.2.2.2.2.2.2.2.2.2.2.2.2.2.2.1, o.2.2.2.2.2.2.2.2.2.2.2.2.2.2.2.2.2.2.2.1, o.2.2.2.2.2.2.2.2.2.2.2.2.2.2.2.2.2.2.2.2.1, o.2.2.2.2.2.2.2.2.2.2.2.2.2.2.2.2.2.2.2.2.2.1, o.2.2.2.2.2.2.2.2.2.2.2.2.2.2.2.2.2.2.2.2.2.2.1, o.2.2.2.2.2.2.2.2.2.2.2.2.2.2.2.2.2.2.2.2.2.2.2.1, o.2.2.2.2.2.2.2.2.2.2.2.2.2.2.2.2.2.2.2.2.2.2.2.2.1, o.2.2.2.2.2.2.2.2.2.2.2.2.2.2.2.2.2.2.2.2.2.2.2.2.2)
def s_rxLead (o : Ob) (v : List Int32) : Ob := (o.1, o.2.1, o.2.2.1, o.2.2.2.1, o.2.2.2.2.1, o.2.2.2.2.2.1, o.2.2.2.2.2.2.1, o.2.2.2.2.2.2.2.1, v, o.2.2.2.2.2.2.2.2.2.1, o.2.2.2.2.2.2.2.2.2.2.1, o.2.2.2.2.2.2.2.2.2.2.2.1, o.2.2.2.2.2.2.2.2.2.2.2.2.1, o.2.2.2.2.2.2.2.2.2.2.2.2.2.1, o.2.2.2.2.2.2.2.2.2.2.2.2.2.2.1, o.2.2.2.2.2.2.2.2.2.2.2.2.2.2.2.1, o.2.2.2.2.2.2.2.2.2.2.2.2.2.2.2.2.1, o.2.2.2.2.2.2.2.2.2.2.2.2.2.2.2.2.2.1, o.2.2.2.2.2.2.2.2.2.2.2.2.2.2.2.2.2.2.1, o.2.2.2.2.2.2.2.2.2.2.2.2.2.2.2.2.2.2.2.1, o.2.2.2.2.2.2.2.2.2.2.2.2.2.2.2.2.2.2.2.2.1, o.2.2.2.2.2.2.2.2.2.2.2.2.2.2.2.2.2.2.2.2.2.1, o.2.2.2.2.2.2.2.2.2.2.2.2.2.2.2.2.2.2.2.2.2.2.1, o.2.2.2.2.2.2.2.2.2.2.2.2.2.2.2.2.2.2.2.2.2.2.2.1, o.2.2.2.2.2.2.2.2.2.2.2.2.2.2.2.2.2.2.2.2.2.2.2.2.1, o.2.2.2.2.2.2.2.2.2.2.2.2.2.2.2.2.2.2.2.2.2.2.2.2.2)
def s_rxTrail (o : Ob) (v : List Int32) : Ob := (o.1, o.2.1, o.2.2.1, o.2.2.2.1, o.2.2.2.2.1, o.2.2.2.2.2.1, o.2.2.2.2.2.2.1, o.2.2.2.2.2.2.2.1, o.2.2.2.2.2.2.2.2.1, v, o.2.2.2.2.2.2.2.2.2.2.1, o.2.2.2.2.2.2.2.2.2.2.2.1, o.2.2.2.2.2.2.2.2.2.2.2.2.1, o.2.2.2.2.2.2.2.2.2.2.2.2.2.1, o.2.2.2.2.2.2.2.2.2.2.2.2.2.2.1, o.2.2.2.2.2.2.2.2.2.2.2.2.2.2.2.1, o.2.2.2.2.2.2.2.2.2.2.2.2.2.2.2.2.1, o.2.2.2.2.2.2.2.2.2.2.2.2.2.2.2.2.2.1, o.2.2.2.2.2.2.2.2.2.2.2.2.2.2.2.2.2.2.1, o.2.2.2.2.2.2.2.2.2.2.2.2.2.2.2.2.2.2.2.1, o.2.2.2.2.2.2.2.2.2.2.2.2.2.2.2.2.2.2.2.2.1, o.2.2.2.2.2.2.2.2.2.2.2.2.2.2.2.2.2.2.2.2.2.1, o.2.2.2.2.2.2.2.2.2.2.2.2.2.2.2.2.2.2.2.2.2.2.1, o.2.2.2.2.2.2.2.2.2.2.2.2.2.2.2.2.2.2.2.2.2.2.2.1, o.2.2.2.2.2.2.2.2.2.2.2.2.2.2.2.2.2.2.2.2.2.2.2.2.1, o.2.2.2.2.2.2.2.2.2.2.2.2.2.2.2.2.2.2.2.2.2.2.2.2.2)
def s_lossLeft (o : Ob) (v : List Int32) : Ob := (o.1, o.2.1, o.2.2.1, o.2.2.2.1, o.2.2.2.2.1, o.2.2.2.2.2.1, o.2.2.2.2.2.2.1, o.2.2.2.2.2.2.2.1, o.2.2.2.2.2.2.2.2.1, o.2.2.2.2.2.2.2.2.2.1, v, o.2.2.2.2.2.2.2.2.2.2.2.1, o.2.2.2.2.2.2.2.2.2.2.2.2.1, o.2.2.2.2.2.2.2.2.2.2.2.2.2.1, o.2.2.2.2.2.2.2.2.2.2.2.2.2.2.1, o.2.2.2.2.2.2.2.2.2.2.2.2.2.2.2.1, o.2.2.2.2.2.2.2.2.2.2.2.2.2.2.2.2.1, o.2.2.2.2.2.2.2.2.2.2.2.2.2.2.2.2.2.1, o.2.2.2.2.2.2.2.2.2.2.2.2.2.2.2.2.2.2.1, o.2.2.2.2.2.2.2.2.2.2.2.2.2.2.2.2.2.2.2.1, o.2.2.2.2.2.2.2.2.2.2.2.2.2.2.2.2.2.2.2.2.1, o.2.2.2.2.2.2.2.2.2.2.2.2.2.2.2.2.2.2.2.2.2.1, o.2.2.2.2.2.2.2.2.2.2.2.2.2.2.2.2.2.2.2.2.2.2.1, o.2.2.2.2.2.2.2.2.2.2.2.2.2.2.2.2.2.2.2.2.2.2.2.1, o.2.2.2.2.2.2.2.2.2.2.2.2.2.2.2.2.2.2.2.2.2.2.2.2.1, o.2.2.2.2.2.2.2.2.2.2.2.2.2.2.2.2.2.2.2.2.2.2.2.2.2)
def s_dups (o : Ob) (v : List Int32) : Ob := (o.1, o.2.1, o.2.2.1, o.2.2.2.1, o.2.2.2.2.1, o.2.2.2.2.2.1, o.2.2.2.2.2.2.1, o.2.2.2.2.2.2.2.1, o.2.2.2.2.2.2.2.2.1, o.2.2.2.2.2.2.2.2.2.1, o.2.2.2.2.2.2.2.2.2.2.1, v, o.2.2.2.2.2.2.2.2.2.2.2.2.1, o.2.2.2.2.2.2.2.2.2.2.2.2.2.1, o.2.2.2.2.2.2.2.2.2.2.2.2.2.2.1, o.2.2.2.2.2.2.2.2.2.2.2.2.2.2.2.1, o.2.2.2.2.2.2.2.2.2.2.2.2.2.2.2.2.1, o.2.2.2.2.2.2.2.2.2.2.2.2.2.2.2.2.2.1, o.2.2.2.2.2.2.2.2.2.2.2.2.2.2.2.2.2.2.1, o.2.2.2.2.2.2.2.2.2.2.2.2.2.2.2.2.2.2.2.1, o.2.2.2.2.2.2.2.2.2.2.2.2.2.2.2.2.2.2.2.2.1, o.2.2.2.2.2.2.2.2.2.2.2.2.2.2.2.2.2.2.2.2.2.1, o.2.2.2.2.2.2.2.2.2.2.2.2.2.2.2.2.2.2.2.2.2.2.1, o.2.2.2.2.2.2.2.2.2.2.2.2.2.2.2.2.2.2.2.2.2.2.2.1, o.2.2.2.2.2.2.2.2.2.2.2.2.2.2.2.2.2.2.2.2.2.2.2.2.1, o.2.2.2.2.2.2.2.2.2.2.2.2.2.2.2.2.2.2.2.2.2.2.2.2.2)
def s_drops (o : Ob) (v : List Int32) : Ob := (o.1, o.2.1, o.2.2.1, o.2.2.2.1, o.2.2.2.2.1, o.2.2.2.2.2.1, o.2.2.2.2.2.2.1, o.2.2.2.2.2.2.2.1, o.2.2.2.2.2.2.2.2.1, o.2.2.2.2.2.2.2.2.2.1, o.2.2.2.2.2.2.2.2.2.2.1, o.2.2.2.2.2.2.2.2.2.2.2.1, v, o.2.2.2.2.2.2.2.2.2.2.2.2.2.1, o.2.2.2.2.2.2.2.2.2.2.2.2.2.2.1, o.2.2.2.2.2.2.2.2.2.2.2.2.2.2.2.1, o.2.2.2.2.2.2.2.2.2.2.2.2.2.2.2.2.1, o.2.2.2.2.2.2.2.2.2.2.2.2.2.2.2.2.2.1, o.2.2.2.2.2.2.2.2.2.2.2.2.2.2.2.2.2.2.1, o.2.2.2.2.2.2.2.2.2.2.2.2.2.2.2.2.2.2.2.1, o.2.2.2.2.2.2.2.2.2.2.2.2.2.2.2.2.2.2.2.2.1, o.2.2.2.2.2.2.2.2.2.2.2.2.2.2.2.2.2.2.2.2.2.1, o.2.2.2.2.2.2.2.2.2.2.2.2.2.2.2.2.2.2.2.2.2.2.1, o.2.2.2.2.2.2.2.2.2.2.2.2.2.2.2.2.2.2.2.2.2.2.2.1, o.2.2.2.2.2.2.2.2.2.2.2.2.2.2.2.2.2.2.2.2.2.2.2.2.1, o.2.2.2.2.2.2.2.2.2.2.2.2.2.2.2.2.2.2.2.2.2.2.2.2.2)
def s_delSeq (o : Ob) (v : List Int32) : Ob := (o.1, o.2.1, o.2.2.1, o.2.2.2.1, o.2.2.2.2.1, o.2.2.2.2.2.1, o.2.2.2.2.2.2.1, o.2.2.2.2.2.2.2.1, o.2.2.2.2.2.2.2.2.1, o.2.2.2.2.2.2.2.2.2.1, o.2.2.2.2.2.2.2.2.2.2.1, o.2.2.2.2.2.2.2.2.2.2.2.1, o.2.2.2.2.2.2.2.2.2.2.2.2.1, v, o.2.2.2.2.2.2.2.2.2.2.2.2.2.2.1, o.2.2.2.2.2.2.2.2.2.2.2.2.2.2.2.1, o.2.2.2.2.2.2.2.2.2.2.2.2.2.2.2.2.1, o.2.2.2.2.2.2.2.2.2.2.2.2.2.2.2.2.2.1, o.2.2.2.2.2.2.2.2.2.2.2.2.2.2.2.2.2.2.1, o.2.2.2.2.2.2.2.2.2.2.2.2.2.2.2.2.2.2.2.1, o.2.2.2.2.2.2.2.2.2.2.2.2.2.2.2.2.2.2.2.2.1, o.2.2.2.2.2.2.2.2.2.2.2.2.2.2.2.2.2.2.2.2.2.1, o.2.2.2.2.2.2.2.2.2.2.2.2.2.2.2.2.2.2.2.2.2.2.1, o.2.2.2.2.2.2.2.2.2.2.2.2.2.2.2.2.2.2.2.2.2.2.2.1, o.2.2.2.2.2.2.2.2.2.2.2.2.2.2.2.2.2.2.2.2.2.2.2.2.1, o.2.2.2.2.2.2.2.2.2.2.2.2.2.2.2.2.2.2.2.2.2.2.2.2.2)
def s_delVal (o : Ob) (v : List Int32) : Ob := (o.1, o.2.1, o.2.2.1, o.2.2.2.1, o.2.2.2.2.1, o.2.2.2.2.2.1, o.2.2.2.2.2.2.1, o.2.2.2.2.2.2.2.1, o.2.2.2.2.2.2.2.2.1, o.2.2.2.2.2.2.2.2.2.1, o.2.2.2.2.2.2.2.2.2.2.1, o.2.2.2.2.2.2.2.2.2.2.2.1, o.2.2.2.2.2.2.2.2.2.2.2.2.1, o.2.2.2.2.2.2.2.2.2.2.2.2.2.1, v, o.2.2.2.2.2.2.2.2.2.2.2.2.2.2.2.1, o.2.2.2.2.2.2.2.2.2.2.2.2.2.2.2.2.1, o.2.2.2.2.2.2.2.2.2.2.2.2.2.2.2.2.2.1, o.2.2.2.2.2.2.2.2.2.2.2.2.2.2.2.2.2.2.1, o.2.2.2.2.2.2.2.2.2.2.2.2.2.2.2.2.2.2.2.1, o.2.2.2.2.2.2.2.2.2.2.2.2.2.2.2.2.2.2.2.2.1, o.2.2.2.2.2.2.2.2.2.2.2.2.2.2.2.2.2.2.2.2.2.1, o.2.2.2.2.2.2.2.2.2.2.2.2.2.2.2.2.2.2.2.2.2.2.1, o.2.2.2.2.2.2.2.2.2.2.2.2.2.2.2.2.2.2.2.2.2.2.2.1, o.2.2.2.2.2.2.2.2.2.2.2.2.2.2.2.2.2.2.2.2.2.2.2.2.1, o.2.2.2.2.2.2.2.2.2.2.2.2.2.2.2.2.2.2.2.2.2.2.2.2.2)
def s_delLen (o : Ob) (v : List Int32) : Ob := (o.1, o.2.1, o.2.2.1, o.2.2.2.1, o.2.2.2.2.1, o.2.2.2.2.2.1, o.2.2.2.2.2.2.1, o.2.2.2.2.2.2.2.1, o.2.2.2.2.2.2.2.2.1, o.2.2.2.2.2.2.2.2.2.1, o.2.2.2.2.2.2.2.2.2.2.1, o.2.2.2.2.2.2.2.2.2.2.2.1, o.2.2.2.2.2.2.2.2.2.2.2.2.1, o.2.2.2.2.2.2.2.2.2.2.2.2.2.1, o.2.2.2.2.2.2.2.2.2.2.2.2.2.2.1, v, o.2.2.2.2.2.2.2.2.2.2.2.2.2.2.2.2.1, o.2.2.2.2.2.2.2.2.2.2.2.2.2.2.2.2.2.1, o.2.2.2.2.2.2.2.2.2.2.2.2.2.2.2.2.2.2.1, o.2.2.2.2.2.2.2.2.2.2.2.2.2.2.2.2.2.2.2.1, o.2.2.2.2.2.2.2.2.2.2.2.2.2.2.2.2.2.2.2.2.1, o.2.2.2.2.2.2.2.2.2.2.2.2.2.2.2.2.2.2.2.2.2.1, o.2.2.2.2.2.2.2.2.2.2.2.2.2.2.2.2.2.2.2.2.2.2.1, o.2.2.2.2.2.2.2.2.2.2.2.2.2.2.2.2.2.2.2.2.2.2.2.1, o.2.2.2.2.2.2.2.2.2.2.2.2.2.2.2.2.2.2.2.2.2.2.2.2.1, o.2.2.2.2.2.2.2.2.2.2.2.2.2.2.2.2.2.2.2.2.2.2.2.2.2)
def s_lostLog (o : Ob) (v : List Int32) : Ob := (o.1, o.2.1, o.2.2.1, o.2.2.2.1, o.2.2.2.2.1, o.2.2.2.2.2.1, o.2.2.2.2.2.2.1, o.2.2.2.2.2.2.2.1, o.2.2.2.2.2.2.2.2.1, o.2.2.2.2.2.2.2.2.2.1, o.2.2.2.2.2.2.2.2.2.2.1, o.2.2.2.2.2.2.2.2.2.2.2.1, o.2.2.2.2.2.2.2.2.2.2.2.2.1, o.2.2.2.2.2.2.2.2.2.2.2.2.2.1, o.2.2.2.2.2.2.2.2.2.2.2.2.2.2.1, o.2.2.2.2.2.2.2.2.2.2.2.2.2.2.2.1, v, o.2.2.2.2.2.2.2.2.2.2.2.2.2.2.2.2.2.1, o.2.2.2.2.2.2.2.2.2.2.2.2.2.2.2.2.2.2.1, o.2.2.2.2.2.2.2.2.2.2.2.2.2.2.2.2.2.2.2.1, o.2.2.2.2.2.2.2.2.2.2.2.2.2.2.2.2.2.2.2.2.1, o.2.2.2.2.2.2.2.2.2.2.2.2.2.2.2.2.2.2.2.2.2.1, o.2.2.2.2.2.2.2.2.2.2.2.2.2.2.2.2.2.2.2.2.2.2.1, o.2.2.2.2.2.2.2.2.2.2.2.2.2.2.2.2.2.2.2.2.2.2.2.1, o.2.2.2.2.2.2.2.2.2.2.2.2.2.2.2.2.2.2.2.2.2.2.2.2.1, o.2.2.2.2.2.2.2.2.2.2.2.2.2.2.2.2.2.2.2.2.2.2.2.2.2)
def s_lostLen (o : Ob) (v : List Int32) : Ob := (o.1, o.2.1, o.2.2.1, o.2.2.2.1, o.2.2.2.2.1, o.2.2.2.2.2.1, o.2.2.2.2.2.2.1, o.2.2.2.2.2.2.2.1, o.2.2.2.2.2.2.2.2.1, o.2.2.2.2.2.2.2.2.2.1, o.2.2.2.2.2.2.2.2.2.2.1, o.2.2.2.2.2.2.2.2.2.2.2.1, o.2.2.2.2.2.2.2.2.2.2.2.2.1, o.2.2.2.2.2.2.2.2.2.2.2.2.2.1, o.2.2.2.2.2.2.2.2.2.2.2.2.2.2.1, o.2.2.2.2.2.2.2.2.2.2.2.2.2.2.2.1, o.2.2.2.2.2.2.2.2.2.2.2.2.2.2.2.2.1, v, o.2.2.2.2.2.2.2.2.2.2.2.2.2.2.2.2.2.2.1, o.2.2.2.2.2.2.2.2.2.2.2.2.2.2.2.2.2.2.2.1, o.2.2.2.2.2.2.2.2.2.2.2.2.2.2.2.2.2.2.2.2.1, o.2.2.2.2.2.2.2.2.2.2.2.2.2.2.2.2.2.2.2.2.2.1, o.2.2.2.2.2.2.2.2.2.2.2.2.2.2.2.2.2.2.2.2.2.2.1, o.2.2.2.2.2.2.2.2.2.2.2.2.2.2.2.2.2.2.2.2.2.2.2.1, o.2.2.2.2.2.2.2.2.2.2.2.2.2.2.2.2.2.2.2.2.2.2.2.2.1, o.2.2.2.2.2.2.2.2.2.2.2.2.2.2.2.2.2.2.2.2.2.2.2.2.2)
def s_nakBuf (o : Ob) (v : List Int32) : Ob := (o.1, o.2.1, o.2.2.1, o.2.2.2.1, o.2.2.2.2.1, o.2.2.2.2.2.1, o.2.2.2.2.2.2.1, o.2.2.2.2.2.2.2.1, o.2.2.2.2.2.2.2.2.1, o.2.2.2.2.2.2.2.2.2.1, o.2.2.2.2.2.2.2.2.2.2.1, o.2.2.2.2.2.2.2.2.2.2.2.1, o.2.2.2.2.2.2.2.2.2.2.2.2.1, o.2.2.2.2.2.2.2.2.2.2.2.2.2.1, o.2.2.2.2.2.2.2.2.2.2.2.2.2.2.1, o.2.2.2.2.2.2.2.2.2.2.2.2.2.2.2.1, o.2.2.2.2.2.2.2.2.2.2.2.2.2.2.2.2.1, o.2.2.2.2.2.2.2.2.2.2.2.2.2.2.2.2.2.1, v, o.2.2.2.2.2.2.2.2.2.2.2.2.2.2.2.2.2.2.2.1, o.2.2.2.2.2.2.2.2.2.2.2.2.2.2.2.2.2.2.2.2.1, o.2.2.2.2.2.2.2.2.2.2.2.2.2.2.2.2.2.2.2.2.2.1, o.2.2.2.2.2.2.2.2.2.2.2.2.2.2.2.2.2.2.2.2.2.2.1, o.2.2.2.2.2.2.2.2.2.2.2.2.2.2.2.2.2.2.2.2.2.2.2.1, o.2.2.2.2.2.2.2.2.2.2.2.2.2.2.2.2.2.2.2.2.2.2.2.2.1, o.2.2.2.2.2.2.2.2.2.2.2.2.2.2.2.2.2.2.2.2.2.2.2.2.2)
def s_win (o : Ob) (v : Int32) : Ob := (o.1, o.2.1, o.2.2.1, o.2.2.2.1, o.2.2.2.2.1, o.2.2.2.2.2.1, o.2.2.2.2.2.2.1, o.2.2.2.2.2.2.2.1, o.2.2.2.2.2.2.2.2.1, o.2.2.2.2.2.2.2.2.2.1, o.2.2.2.2.2.2.2.2.2.2.1, o.2.2.2.2.2.2.2.2.2.2.2.1, o.2.2.2.2.2.2.2.2.2.2.2.2.1, o.2.2.2.2.2.2.2.2.2.2.2.2.2.1, o.2.2.2.2.2.2.2.2.2.2.2.2.2.2.1, o.2.2.2.2.2.2.2.2.2.2.2.2.2.2.2.1, o.2.2.2.2.2.2.2.2.2.2.2.2.2.2.2.2.1, o.2.2.2.2.2.2.2.2.2.2.2.2.2.2.2.2.2.1, o.2.2.2.2.2.2.2.2.2.2.2.2.2.2.2.2.2.2.1, v, o.2.2.2.2.2.2.2.2.2.2.2.2.2.2.2.2.2.2.2.2.1, o.2.2.2.2.2.2.2.2.2.2.2.2.2.2.2.2.2.2.2.2.2.1, o.2.2.2.2.2.2.2.2.2.2.2.2.2.2.2.2.2.2.2.2.2.2.1, o.2.2.2.2.2.2.2.2.2.2.2.2.2.2.2.2.2.2.2.2.2.2.2.1, o.2.2.2.2.2.2.2.2.2.2.2.2.2.2.2.2.2.2.2.2.2.2.2.2.1, o.2.2.2.2.2.2.2.2.2.2.2.2.2.2.2.2.2.2.2.2.2.2.2.2.2)
def s_back (o : Ob) (v : Int32) : Ob := (o.1, o.2.1, o.2.2.1, o.2.2.2.1, o.2.2.2.2.1, o.2.2.2.2.2.1, o.2.2.2.2.2.2.1, o.2.2.2.2.2.2.2.1, o.2.2.2.2.2.2.2.2.1, o.2.2.2.2.2.2.2.2.2.1, o.2.2.2.2.2.2.2.2.2.2.1, o.2.2.2.2.2.2.2.2.2.2.2.1, o.2.2.2.2.2.2.2.2.2.2.2.2.1, o.2.2.2.2.2.2.2.2.2.2.2.2.2.1, o.2.2.2.2.2.2.2.2.2.2.2.2.2.2.1, o.2.2.2.2.2.2.2.2.2.2.2.2.2.2.2.1, o.2.2.2.2.2.2.2.2.2.2.2.2.2.2.2.2.1, o.2.2.2.2.2.2.2.2.2.2.2.2.2.2.2.2.2.1, o.2.2.2.2.2.2.2.2.2.2.2.2.2.2.2.2.2.2.1, o.2.2.2.2.2.2.2.2.2.2.2.2.2.2.2.2.2.2.2.1, v, o.2.2.2.2.2.2.2.2.2.2.2.2.2.2.2.2.2.2.2.2.2.1, o.2.2.2.2.2.2.2.2.2.2.2.2.2.2.2.2.2.2.2.2.2.2.1, o.2.2.2.2.2.2.2.2.2.2.2.2.2.2.2.2.2.2.2.2.2.2.2.1, o.2.2.2.2.2.2.2.2.2.2.2.2.2.2.2.2.2.2.2.2.2.2.2.2.1, o.2.2.2.2.2.2.2.2.2.2.2.2.2.2.2.2.2.2.2.2.2.2.2.2.2)
def s_repair (o : Ob) (v : Int32) : Ob := (o.1, o.2.1, o.2.2.1, o.2.2.2.1, o.2.2.2.2.1, o.2.2.2.2.2.1, o.2.2.2.2.2.2.1, o.2.2.2.2.2.2.2.1, o.2.2.2.2.2.2.2.2.1, o.2.2.2.2.2.2.2.2.2.1, o.2.2.2.2.2.2.2.2.2.2.1, o.2.2.2.2.2.2.2.2.2.2.2.1, o.2.2.2.2.2.2.2.2.2.2.2.2.1, o.2.2.2.2.2.2.2.2.2.2.2.2.2.1, o.2.2.2.2.2.2.2.2.2.2.2.2.2.2.1, o.2.2.2.2.2.2.2.2.2.2.2.2.2.2.2.1, o.2.2.2.2.2.2.2.2.2.2.2.2.2.2.2.2.1, o.2.2.2.2.2.2.2.2.2.2.2.2.2.2.2.2.2.1, o.2.2.2.2.2.2.2.2.2.2.2.2.2.2.2.2.2.2.1, o.2.2.2.2.2.2.2.2.2.2.2.2.2.2.2.2.2.2.2.1, o.2.2.2.2.2.2.2.2.2.2.2.2.2.2.2.2.2.2.2.2.1, v, o.2.2.2.2.2.2.2.2.2.2.2.2.2.2.2.2.2.2.2.2.2.2.1, o.2.2.2.2.2.2.2.2.2.2.2.2.2.2.2.2.2.2.2.2.2.2.2.1, o.2.2.2.2.2.2.2.2.2.2.2.2.2.2.2.2.2.2.2.2.2.2.2.2.1, o.2.2.2.2.2.2.2.2.2.2.2.2.2.2.2.2.2.2.2.2.2.2.2.2.2)
def s_period (o : Ob) (v : Int32) : Ob := (o.1, o.2.1, o.2.2.1, o.2.2.2.1, o.2.2.2.2.1, o.2.2.2.2.2.1, o.2.2.2.2.2.2.1, o.2.2.2.2.2.2.2.1, o.2.2.2.2.2.2.2.2.1, o.2.2.2.2.2.2.2.2.2.1, o.2.2.2.2.2.2.2.2.2.2.1, o.2.2.2.2.2.2.2.2.2.2.2.1, o.2.2.2.2.2.2.2.2.2.2.2.2.1, o.2.2.2.2.2.2.2.2.2.2.2.2.2.1, o.2.2.2.2.2.2.2.2.2.2.2.2.2.2.1, o.2.2.2.2.2.2.2.2.2.2.2.2.2.2.2.1, o.2.2.2.2.2.2.2.2.2.2.2.2.2.2.2.2.1, o.2.2.2.2.2.2.2.2.2.2.2.2.2.2.2.2.2.1, o.2.2.2.2.2.2.2.2.2.2.2.2.2.2.2.2.2.2.1, o.2.2.2.2.2.2.2.2.2.2.2.2.2.2.2.2.2.2.2.1, o.2.2.2.2.2.2.2.2.2.2.2.2.2.2.2.2.2.2.2.2.1, o.2.2.2.2.2.2.2.2.2.2.2.2.2.2.2.2.2.2.2.2.2.1, v, o.2.2.2.2.2.2.2.2.2.2.2.2.2.2.2.2.2.2.2.2.2.2.2.1, o.2.2.2.2.2.2.2.2.2.2.2.2.2.2.2.2.2.2.2.2.2.2.2.2.1, o.2.2.2.2.2.2.2.2.2.2.2.2.2.2.2.2.2.2.2.2.2.2.2.2.2)
def s_nextSeq (o : Ob) (v : Int32) : Ob := (o.1, o.2.1, o.2.2.1, o.2.2.2.1, o.2.2.2.2.1, o.2.2.2.2.2.1, o.2.2.2.2.2.2.1, o.2.2.2.2.2.2.2.1, o.2.2.2.2.2.2.2.2.1, o.2.2.2.2.2.2.2.2.2.1, o.2.2.2.2.2.2.2.2.2.2.1, o.2.2.2.2.2.2.2.2.2.2.2.1, o.2.2.2.2.2.2.2.2.2.2.2.2.1, o.2.2.2.2.2.2.2.2.2.2.2.2.2.1, o.2.2.2.2.2.2.2.2.2.2.2.2.2.2.1, o.2.2.2.2.2.2.2.2.2.2.2.2.2.2.2.1, o.2.2.2.2.2.2.2.2.2.2.2.2.2.2.2.2.1, o.2.2.2.2.2.2.2.2.2.2.2.2.2.2.2.2.2.1, o.2.2.2.2.2.2.2.2.2.2.2.2.2.2.2.2.2.2.1, o.2.2.2.2.2.2.2.2.2.2.2.2.2.2.2.2.2.2.2.1, o.2.2.2.2.2.2.2.2.2.2.2.2.2.2.2.2.2.2.2.2.1, o.2.2.2.2.2.2.2.2.2.2.2.2.2.2.2.2.2.2.2.2.2.1, o.2.2.2.2.2.2.2.2.2.2.2.2.2.2.2.2.2.2.2.2.2.2.1, v, o.2.2.2.2.2.2.2.2.2.2.2.2.2.2.2.2.2.2.2.2.2.2.2.2.1, o.2.2.2.2.2.2.2.2.2.2.2.2.2.2.2.2.2.2.2.2.2.2.2.2.2)
def s_qLen (o : Ob) (v : Int32) : Ob := (o.1, o.2.1, o.2.2.1, o.2.2.2.1, o.2.2.2.2.1, o.2.2.2.2.2.1, o.2.2.2.2.2.2.1, o.2.2.2.2.2.2.2.1, o.2.2.2.2.2.2.2.2.1, o.2.2.2.2.2.2.2.2.2.1, o.2.2.2.2.2.2.2.2.2.2.1, o.2.2.2.2.2.2.2.2.2.2.2.1, o.2.2.2.2.2.2.2.2.2.2.2.2.1, o.2.2.2.2.2.2.2.2.2.2.2.2.2.1, o.2.2.2.2.2.2.2.2.2.2.2.2.2.2.1, o.2.2.2.2.2.2.2.2.2.2.2.2.2.2.2.1, o.2.2.2.2.2.2.2.2.2.2.2.2.2.2.2.2.1, o.2.2.2.2.2.2.2.2.2.2.2.2.2.2.2.2.2.1, o.2.2.2.2.2.2.2.2.2.2.2.2.2.2.2.2.2.2.1, o.2.2.2.2.2.2.2.2.2.2.2.2.2.2.2.2.2.2.2.1, o.2.2.2.2.2.2.2.2.2.2.2.2.2.2.2.2.2.2.2.2.1, o.2.2.2.2.2.2.2.2.2.2.2.2.2.2.2.2.2.2.2.2.2.1, o.2.2.2.2.2.2.2.2.2.2.2.2.2.2.2.2.2.2.2.2.2.2.1, o.2.2.2.2.2.2.2.2.2.2.2.2.2.2.2.2.2.2.2.2.2.2.2.1, v, o.2.2.2.2.2.2.2.2.2.2.2.2.2.2.2.2.2.2.2.2.2.2.2.2.2)
def s_nakLen (o : Ob) (v : Int32) : Ob := (o.1, o.2.1, o.2.2.1, o.2.2.2.1, o.2.2.2.2.1, o.2.2.2.2.2.1, o.2.2.2.2.2.2.1, o.2.2.2.2.2.2.2.1, o.2.2.2.2.2.2.2.2.1, o.2.2.2.2.2.2.2.2.2.1, o.2.2.2.2.2.2.2.2.2.2.1, o.2.2.2.2.2.2.2.2.2.2.2.1, o.2.2.2.2.2.2.2.2.2.2.2.2.1, o.2.2.2.2.2.2.2.2.2.2.2.2.2.1, o.2.2.2.2.2.2.2.2.2.2.2.2.2.2.1, o.2.2.2.2.2.2.2.2.2.2.2.2.2.2.2.1, o.2.2.2.2.2.2.2.2.2.2.2.2.2.2.2.2.1, o.2.2.2.2.2.2.2.2.2.2.2.2.2.2.2.2.2.1, o.2.2.2.2.2.2.2.2.2.2.2.2.2.2.2.2.2.2.1, o.2.2.2.2.2.2.2.2.2.2.2.2.2.2.2.2.2.2.2.1, o.2.2.2.2.2.2.2.2.2.2.2.2.2.2.2.2.2.2.2.2.1, o.2.2.2.2.2.2.2.2.2.2.2.2.2.2.2.2.2.2.2.2.2.1, o.2.2.2.2.2.2.2.2.2.2.2.2.2.2.2.2.2.2.2.2.2.2.1, o.2.2.2.2.2.2.2.2.2.2.2.2.2.2.2.2.2.2.2.2.2.2.2.1, o.2.2.2.2.2.2.2.2.2.2.2.2.2.2.2.2.2.2.2.2.2.2.2.2.1, v)
theorem fs (o : Ob) : f_srcPayload o = o.1 ∧ f_pend o = o.2.1 ∧ f_queue o = o.2.2.1 ∧ f_stats o = o.2.2.2.1 ∧ f_state o = o.2.2.2.2.1 ∧ f_timer o = o.2.2.2.2.2.1 ∧ f_rxVal o = o.2.2.2.2.2.2.1 ∧ f_rxNext o = o.2.2.2.2.2.2.2.1 ∧ f_rxLead o = o.2.2.2.2.2.2.2.2.1 ∧ f_rxTrail o = o.2.2.2.2.2.2.2.2.2.1 ∧ f_lossLeft o = o.2.2.2.2.2.2.2.2.2.2.1 ∧ f_dups o = o.2.2.2.2.2.2.2.2.2.2.2.1 ∧ f_drops o = o.2.2.2.2.2.2.2.2.2.2.2.2.1 ∧ f_delSeq o = o.2.2.2.2.2.2.2.2.2.2.2.2.2.1 ∧ f_delVal o = o.2.2.2.2.2.2.2.2.2.2.2.2.2.2.1 ∧ f_delLen o = o.2.2.2.2.2.2.2.2.2.2.2.2.2.2.2.1 ∧ f_lostLog o = o.2.2.2.2.2.2.2.2.2.2.2.2.2.2.2.2.1 ∧ f_lostLen o = o.2.2.2.2.2.2.2.2.2.2.2.2.2.2.2.2.2.1 ∧ f_nakBuf o = o.2.2.2.2.2.2.2.2.2.2.2.2.2.2.2.2.2.2.1 ∧ f_win o = o.2.2.2.2.2.2.2.2.2.2.2.2.2.2.2.2.2.2.2.1 ∧ f_back o = o.2.2.2.2.2.2.2.2.2.2.2.2.2.2.2.2.2.2.2.2.1 ∧ f_repair o = o.2.2.2.2.2.2.2.2.2.2.2.2.2.2.2.2.2.2.2.2.2.1 ∧ f_period o = o.2.2.2.2.2.2.2.2.2.2.2.2.2.2.2.2.2.2.2.2.2.2.1 ∧ f_nextSeq o = o.2.2.2.2.2.2.2.2.2.2.2.2.2.2.2.2.2.2.2.2.2.2.2.1 ∧ f_qLen o = o.2.2.2.2.2.2.2.2.2.2.2.2.2.2.2.2.2.2.2.2.2.2.2.2.1 ∧ f_nakLen o = o.2.2.2.2.2.2.2.2.2.2.2.2.2.2.2.2.2.2.2.2.2.2.2.2.2 := by simp only [f_srcPayload, f_pend, f_queue, f_stats, f_state, f_timer, f_rxVal, f_rxNext, f_rxLead, f_rxTrail, f_lossLeft, f_dups, f_drops, f_delSeq, f_delVal, f_delLen, f_lostLog, f_lostLen, f_nakBuf, f_win, f_back, f_repair, f_period, f_nextSeq, f_qLen, f_nakLen, and_self]
def ob0 : Ob := ([], [], [], [], [], [], [], [], [], [], [], [], [], [], [], [], [], [], [], 0, 0, 0, 0, 0, 0, 0)
section Walks
variable {l : Launch} {Z : State} {n0 : Nat} {ad : Nat → Addr} {a0 : Array Value}
set_option maxRecDepth 20000
set_option maxHeartbeats 2000000
abbrev tt : Bool := true
abbrev ff : Bool := false
open QTri renaming steps → zS, brT → zT, brF → zF, bnd → zB, mask → zM
open Option (bind_eq_some_iff)
open Classical (em)
/-- cell([II)I -/
def F1 (s : List Int32) (x1 : Int32) : Option (Int32) :=
 (if x1 < (s.length.toInt32) then (aget s x1).bind fun y2 => some y2 else some (0:Int32))
theorem tF1 (Ad : QAd n0 ad) (W : QW Z a0) (e0 : Ob) (s : List Int32) (x1 : Int32) {r : Int32} (h : F1 s x1 = some r) : QTri l Z n0 ad 1 (0, qentry [.ref 0, .int x1] (pMaxL 1), [], [.inr (.inl (.int, s)), .inl [.null, .null, .null, .null, .null, .null, .null, .null, .null, .null, .null, .null, .null, .null, .null, .null, .null, .null, .null, .int (f_win e0), .int (f_back e0), .int (f_repair e0), .int (f_period e0), .int (f_nextSeq e0), .int (f_qLen e0), .int (f_nakLen e0)]]) (some (Value.int r)) [.inr (.inl (.int, s)), .inl [.null, .null, .null, .null, .null, .null, .null, .null, .null, .null, .null, .null, .null, .null, .null, .null, .null, .null, .null, .int (f_win e0), .int (f_back e0), .int (f_repair e0), .int (f_period e0), .int (f_nextSeq e0), .int (f_qLen e0), .int (f_nakLen e0)]] := by
 unfold F1 at h
 refine zS Ad W 3 (st' := (3, [vR 0, vI x1], [.int (s.length.toInt32), .int x1], [.inr (.inl (.int, s)), .inl [.null, .null, .null, .null, .null, .null, .null, .null, .null, .null, .null, .null, .null, .null, .null, .null, .null, .null, .null, .int (f_win e0), .int (f_back e0), .int (f_repair e0), .int (f_period e0), .int (f_nextSeq e0), .int (f_qLen e0), .int (f_nakLen e0)]])) rfl ?_
 rcases qite h with ⟨hc1, h⟩ | ⟨hc1, h⟩
 ·refine zF Ad W (t := 12) (f := 6) rfl (XT.ii_ge_f hc1) ?_
  refine zS Ad W 2 (st' := (8, [vR 0, vI x1], [.int x1, .ref 0], [.inr (.inl (.int, s)), .inl [.null, .null, .null, .null, .null, .null, .null, .null, .null, .null, .null, .null, .null, .null, .null, .null, .null, .null, .null, .int (f_win e0), .int (f_back e0), .int (f_repair e0), .int (f_period e0), .int (f_nextSeq e0), .int (f_qLen e0), .int (f_nakLen e0)]])) rfl ?_
  obtain ⟨y2, hy2, h⟩ := bind_eq_some_iff.mp h
  refine zB Ad W (f := fun y2 => (9, [vR 0, vI x1], [.int y2], [.inr (.inl (.int, s)), .inl [.null, .null, .null, .null, .null, .null, .null, .null, .null, .null, .null, .null, .null, .null, .null, .null, .null, .null, .null, .int (f_win e0), .int (f_back e0), .int (f_repair e0), .int (f_period e0), .int (f_nextSeq e0), .int (f_qLen e0), .int (f_nakLen e0)]])) rfl hy2 ?_
  refine zS Ad W 1 (st' := (13, [vR 0, vI x1], [.int y2], [.inr (.inl (.int, s)), .inl [.null, .null, .null, .null, .null, .null, .null, .null, .null, .null, .null, .null, .null, .null, .null, .null, .null, .null, .null, .int (f_win e0), .int (f_back e0), .int (f_repair e0), .int (f_period e0), .int (f_nextSeq e0), .int (f_qLen e0), .int (f_nakLen e0)]])) rfl ?_
  obtain rfl := Option.some.inj h
  exact QTri.retI rfl rfl
 ·refine zT Ad W (t := 12) (f := 6) rfl (XT.ii_ge_t hc1) ?_
  refine zS Ad W 1 (st' := (13, [vR 0, vI x1], [.int (0:Int32)], [.inr (.inl (.int, s)), .inl [.null, .null, .null, .null, .null, .null, .null, .null, .null, .null, .null, .null, .null, .null, .null, .null, .null, .null, .null, .int (f_win e0), .int (f_back e0), .int (f_repair e0), .int (f_period e0), .int (f_nextSeq e0), .int (f_qLen e0), .int (f_nakLen e0)]])) rfl ?_
  obtain rfl := Option.some.inj h
  exact QTri.retI rfl rfl
def H0 (s : List Int32) (o0 : Ob) : QHeap := [.inr (.inl (.int, s)), .inl [.ref 2, .ref 3, .ref 4, .ref 5, .ref 6, .ref 7, .ref 8, .ref 9, .ref 10, .ref 11, .ref 12, .ref 13, .ref 14, .ref 15, .ref 16, .ref 17, .ref 18, .ref 19, .ref 20, .int (f_win o0), .int (f_back o0), .int (f_repair o0), .int (f_period o0), .int (f_nextSeq o0), .int (f_qLen o0), .int (f_nakLen o0)], .inr (.inl (.int, (f_srcPayload o0))), .inr (.inl (.boolean, (f_pend o0))), .inr (.inl (.int, (f_queue o0))), .inr (.inl (.int, (f_stats o0))), .inr (.inl (.int, (f_state o0))), .inr (.inl (.int, (f_timer o0))), .inr (.inl (.int, (f_rxVal o0))), .inr (.inl (.int, (f_rxNext o0))), .inr (.inl (.int, (f_rxLead o0))), .inr (.inl (.int, (f_rxTrail o0))), .inr (.inl (.int, (f_lossLeft o0))), .inr (.inl (.int, (f_dups o0))), .inr (.inl (.int, (f_drops o0))), .inr (.inl (.int, (f_delSeq o0))), .inr (.inl (.int, (f_delVal o0))), .inr (.inl (.int, (f_delLen o0))), .inr (.inl (.int, (f_lostLog o0))), .inr (.inl (.int, (f_lostLen o0))), .inr (.inl (.int, (f_nakBuf o0)))]
def H0v (s : List Int32) (a0_0 : List Int32) (a0_1 : List Int32) (a0_2 : List Int32) (a0_3 : List Int32) (a0_4 : List Int32) (a0_5 : List Int32) (a0_6 : List Int32) (a0_7 : List Int32) (a0_8 : List Int32) (a0_9 : List Int32) (a0_10 : List Int32) (a0_11 : List Int32) (a0_12 : List Int32) (a0_13 : List Int32) (a0_14 : List Int32) (a0_15 : List Int32) (a0_16 : List Int32) (a0_17 : List Int32) (a0_18 : List Int32) (a0_19 : Int32) (a0_20 : Int32) (a0_21 : Int32) (a0_22 : Int32) (a0_23 : Int32) (a0_24 : Int32) (a0_25 : Int32) : QHeap := [.inr (.inl (.int, s)), .inl [.ref 2, .ref 3, .ref 4, .ref 5, .ref 6, .ref 7, .ref 8, .ref 9, .ref 10, .ref 11, .ref 12, .ref 13, .ref 14, .ref 15, .ref 16, .ref 17, .ref 18, .ref 19, .ref 20, .int a0_19, .int a0_20, .int a0_21, .int a0_22, .int a0_23, .int a0_24, .int a0_25], .inr (.inl (.int, a0_0)), .inr (.inl (.boolean, a0_1)), .inr (.inl (.int, a0_2)), .inr (.inl (.int, a0_3)), .inr (.inl (.int, a0_4)), .inr (.inl (.int, a0_5)), .inr (.inl (.int, a0_6)), .inr (.inl (.int, a0_7)), .inr (.inl (.int, a0_8)), .inr (.inl (.int, a0_9)), .inr (.inl (.int, a0_10)), .inr (.inl (.int, a0_11)), .inr (.inl (.int, a0_12)), .inr (.inl (.int, a0_13)), .inr (.inl (.int, a0_14)), .inr (.inl (.int, a0_15)), .inr (.inl (.int, a0_16)), .inr (.inl (.int, a0_17)), .inr (.inl (.int, a0_18))]
def H0x0 (s : List Int32) (o0 : Ob) (a0_0 : List Int32) (a0_1 : List Int32) (a0_2 : List Int32) (a0_3 : List Int32) (a0_4 : List Int32) (a0_5 : List Int32) (a0_6 : List Int32) (a0_7 : List Int32) (a0_8 : List Int32) (a0_9 : List Int32) (a0_10 : List Int32) (a0_11 : List Int32) (a0_12 : List Int32) (a0_13 : List Int32) (a0_14 : List Int32) (a0_15 : List Int32) (a0_16 : List Int32) (a0_17 : List Int32) (a0_18 : List Int32) : QHeap := H0v s a0_0 a0_1 a0_2 a0_3 a0_4 a0_5 a0_6 a0_7 a0_8 a0_9 a0_10 a0_11 a0_12 a0_13 a0_14 a0_15 a0_16 a0_17 a0_18 (f_win o0) (f_back o0) (f_repair o0) (f_period o0) (f_nextSeq o0) (f_qLen o0) (f_nakLen o0)
/-- clamp(III)I -/
def F3 (x1 : Int32) (x2 : Int32) (x3 : Int32) : Option (Int32) :=
 (if x1 < x2 then some x2 else (if x3 < x1 then some x3 else some x1))
theorem tF3 (Ad : QAd n0 ad) (W : QW Z a0) {a : Nat} {σ : QHeap} (x1 : Int32) (x2 : Int32) (x3 : Int32) {r : Int32} (h : F3 x1 x2 x3 = some r) : QTri l Z n0 ad 3 (0, qentry [.ref a, .int x1, .int x2, .int x3] (pMaxL 3), [], σ) (some (Value.int r)) σ := by
 unfold F3 at h
 refine zS Ad W 2 (st' := (2, [vR a, vI x1, vI x2, vI x3], [.int x2, .int x1], σ)) rfl ?_
 rcases qite h with ⟨hc7, h⟩ | ⟨hc7, h⟩
 ·refine zF Ad W (t := 7) (f := 5) rfl (XT.ii_ge_f hc7) ?_
  refine zS Ad W 1 (st' := (6, [vR a, vI x1, vI x2, vI x3], [.int x2], σ)) rfl ?_
  obtain rfl := Option.some.inj h
  exact QTri.retI rfl rfl
 ·refine zT Ad W (t := 7) (f := 5) rfl (XT.ii_ge_t hc7) ?_
  refine zS Ad W 2 (st' := (9, [vR a, vI x1, vI x2, vI x3], [.int x3, .int x1], σ)) rfl ?_
  rcases qite h with ⟨hc8, h⟩ | ⟨hc8, h⟩
  ·refine zF Ad W (t := 14) (f := 12) rfl (XT.ii_le_f hc8) ?_
   refine zS Ad W 1 (st' := (13, [vR a, vI x1, vI x2, vI x3], [.int x3], σ)) rfl ?_
   obtain rfl := Option.some.inj h
   exact QTri.retI rfl rfl
  ·refine zT Ad W (t := 14) (f := 12) rfl (XT.ii_le_t hc8) ?_
   refine zS Ad W 1 (st' := (15, [vR a, vI x1, vI x2, vI x3], [.int x1], σ)) rfl ?_
   obtain rfl := Option.some.inj h
   exact QTri.retI rfl rfl
def H0x1 (s : List Int32) (o0 : Ob) (a0_0 : List Int32) (a0_1 : List Int32) (a0_2 : List Int32) (a0_3 : List Int32) (a0_4 : List Int32) (a0_5 : List Int32) (a0_6 : List Int32) (a0_7 : List Int32) (a0_8 : List Int32) (a0_9 : List Int32) (a0_10 : List Int32) (a0_11 : List Int32) (a0_12 : List Int32) (a0_13 : List Int32) (a0_14 : List Int32) (a0_15 : List Int32) (a0_16 : List Int32) (a0_17 : List Int32) (a0_18 : List Int32) (a0_19 : Int32) : QHeap := H0v s a0_0 a0_1 a0_2 a0_3 a0_4 a0_5 a0_6 a0_7 a0_8 a0_9 a0_10 a0_11 a0_12 a0_13 a0_14 a0_15 a0_16 a0_17 a0_18 a0_19 (f_back o0) (f_repair o0) (f_period o0) (f_nextSeq o0) (f_qLen o0) (f_nakLen o0)
def H0x2 (s : List Int32) (o0 : Ob) (a0_0 : List Int32) (a0_1 : List Int32) (a0_2 : List Int32) (a0_3 : List Int32) (a0_4 : List Int32) (a0_5 : List Int32) (a0_6 : List Int32) (a0_7 : List Int32) (a0_8 : List Int32) (a0_9 : List Int32) (a0_10 : List Int32) (a0_11 : List Int32) (a0_12 : List Int32) (a0_13 : List Int32) (a0_14 : List Int32) (a0_15 : List Int32) (a0_16 : List Int32) (a0_17 : List Int32) (a0_18 : List Int32) (a0_19 : Int32) (a0_20 : Int32) : QHeap := H0v s a0_0 a0_1 a0_2 a0_3 a0_4 a0_5 a0_6 a0_7 a0_8 a0_9 a0_10 a0_11 a0_12 a0_13 a0_14 a0_15 a0_16 a0_17 a0_18 a0_19 a0_20 (f_repair o0) (f_period o0) (f_nextSeq o0) (f_qLen o0) (f_nakLen o0)
def H0x3 (s : List Int32) (o0 : Ob) (a0_0 : List Int32) (a0_1 : List Int32) (a0_2 : List Int32) (a0_3 : List Int32) (a0_4 : List Int32) (a0_5 : List Int32) (a0_6 : List Int32) (a0_7 : List Int32) (a0_8 : List Int32) (a0_9 : List Int32) (a0_10 : List Int32) (a0_11 : List Int32) (a0_12 : List Int32) (a0_13 : List Int32) (a0_14 : List Int32) (a0_15 : List Int32) (a0_16 : List Int32) (a0_17 : List Int32) (a0_18 : List Int32) (a0_19 : Int32) (a0_20 : Int32) (a0_21 : Int32) : QHeap := H0v s a0_0 a0_1 a0_2 a0_3 a0_4 a0_5 a0_6 a0_7 a0_8 a0_9 a0_10 a0_11 a0_12 a0_13 a0_14 a0_15 a0_16 a0_17 a0_18 a0_19 a0_20 a0_21 (f_period o0) (f_nextSeq o0) (f_qLen o0) (f_nakLen o0)
def H0x4 (s : List Int32) (o0 : Ob) (a0_0 : List Int32) (a0_1 : List Int32) (a0_2 : List Int32) (a0_3 : List Int32) (a0_4 : List Int32) (a0_5 : List Int32) (a0_6 : List Int32) (a0_7 : List Int32) (a0_8 : List Int32) (a0_9 : List Int32) (a0_10 : List Int32) (a0_11 : List Int32) (a0_12 : List Int32) (a0_13 : List Int32) (a0_14 : List Int32) (a0_15 : List Int32) (a0_16 : List Int32) (a0_17 : List Int32) (a0_18 : List Int32) (a0_19 : Int32) (a0_20 : Int32) (a0_21 : Int32) (a0_22 : Int32) : QHeap := H0v s a0_0 a0_1 a0_2 a0_3 a0_4 a0_5 a0_6 a0_7 a0_8 a0_9 a0_10 a0_11 a0_12 a0_13 a0_14 a0_15 a0_16 a0_17 a0_18 a0_19 a0_20 a0_21 a0_22 (f_nextSeq o0) (f_qLen o0) (f_nakLen o0)
def H0x5 (s : List Int32) (o0 : Ob) (a0_8 : List Int32) : QHeap := H0v s (f_srcPayload o0) (f_pend o0) (f_queue o0) (f_stats o0) (f_state o0) (f_timer o0) (f_rxVal o0) (f_rxNext o0) a0_8 (f_rxTrail o0) (f_lossLeft o0) (f_dups o0) (f_drops o0) (f_delSeq o0) (f_delVal o0) (f_delLen o0) (f_lostLog o0) (f_lostLen o0) (f_nakBuf o0) (f_win o0) (f_back o0) (f_repair o0) (f_period o0) (f_nextSeq o0) (f_qLen o0) (f_nakLen o0)
def B2_207 (v : Int32 × Ob) : Option (((Ob)) ⊕ (Int32 × Ob)) :=
  (if v.1 < (4 : Int32) then (aset (f_rxLead v.2) v.1 (-1 : Int32)).bind fun y15 => some (.inr ((v.1 + (1 : Int32)), (s_rxLead v.2 y15))) else some (.inl v.2))
theorem tB2_207 (Ad : QAd n0 ad) (W : QW Z a0) (s : List Int32) (v : Int32 × Ob) {r : ((Ob)) ⊕ (Int32 × Ob)} {u : Option Value} {τ : QHeap} (h : B2_207 v = some r) (hx0 : ∀ x : Ob, r = .inl x → u = (none : Option Value) ∧ τ = (H0 s x)) (hc : ∀ x : Int32 × Ob, r = .inr x → QTri l Z n0 ad 2 (207, [vR 1, none, none, none, none, vI x.1], [], (H0 s x.2)) u τ) : QTri l Z n0 ad 2 (207, [vR 1, none, none, none, none, vI v.1], [], (H0 s v.2)) u τ := by
 unfold B2_207 at h
 refine zS Ad W 2 (st' := (210, [vR 1, none, none, none, none, vI v.1], [.int (4:Int32), .int v.1], (H0 s v.2))) rfl ?_
 rcases qite h with ⟨hc14, h⟩ | ⟨hc14, h⟩
 ·refine zF Ad W (t := 227) (f := 213) rfl (XT.ii_ge_f hc14) ?_
  refine zS Ad W 4 (st' := (220, [vR 1, none, none, none, none, vI v.1], [.int (-1:Int32), .int v.1, .ref 10], (H0 s v.2))) rfl ?_
  obtain ⟨y15, hy15, h⟩ := bind_eq_some_iff.mp h
  refine zB Ad W (f := fun y15 => (221, [vR 1, none, none, none, none, vI v.1], [], (H0x5 s v.2 y15))) rfl hy15 ?_
  refine zS Ad W 2 (st' := (207, [vR 1, none, none, none, none, vI (v.1 + (1:Int32))], [], (H0x5 s v.2 y15))) rfl ?_
  have E16 : ((H0x5 s v.2 y15) : QHeap) = (H0 s (s_rxLead v.2 y15)) := by simp only [fs, H0, H0v, H0x5, s_rxLead]
  rw [E16]
  obtain rfl := Option.some.inj h
  exact zM [tt,ff,ff,ff,ff,tt] (hc ((v.1 + (1:Int32)), (s_rxLead v.2 y15)) rfl)
 ·refine zT Ad W (t := 227) (f := 213) rfl (XT.ii_ge_t hc14) ?_
  obtain rfl := Option.some.inj h
  obtain ⟨rfl, rfl⟩ := hx0 v.2 rfl
  exact QTri.ret0 rfl rfl
/-- init(IIII)V -/
def F2 (x1 : Int32) (x2 : Int32) (x3 : Int32) (x4 : Int32) : Option (Ob) :=
 (F3 x1 (2:Int32) (16:Int32)).bind fun r9 => (F3 x2 (1:Int32) (8:Int32)).bind fun r10 => (F3 x3 (1:Int32) (8:Int32)).bind fun r11 => (F3 x4 (0:Int32) (16:Int32)).bind fun r12 => (loopN (B2_207) qN ((0:Int32), (s_period (s_repair (s_back (s_win (s_nakBuf (s_lostLen (s_lostLog (s_delLen (s_delVal (s_delSeq (s_drops (s_dups (s_lossLeft (s_rxTrail (s_rxLead (s_rxNext (s_rxVal (s_timer (s_state (s_stats (s_queue (s_pend (s_srcPayload ob0 (List.replicate 32 0)) (List.replicate 32 0)) (List.replicate 64 0)) (List.replicate 10 0)) (List.replicate 128 0)) (List.replicate 128 0)) (List.replicate 128 0)) (List.replicate 4 0)) (List.replicate 4 0)) (List.replicate 4 0)) (List.replicate 4 0)) (List.replicate 4 0)) (List.replicate 4 0)) (List.replicate 128 0)) (List.replicate 128 0)) (List.replicate 4 0)) (List.replicate 128 0)) (List.replicate 4 0)) (List.replicate 128 0)) r9) r10) r11) r12))).bind fun e17 => some e17
theorem tF2 (Ad : QAd n0 ad) (W : QW Z a0) (s : List Int32) (x1 : Int32) (x2 : Int32) (x3 : Int32) (x4 : Int32) {r : Ob} (h : F2 x1 x2 x3 x4 = some r) : QTri l Z n0 ad 2 (0, qentry [.ref 1, .int x1, .int x2, .int x3, .int x4] (pMaxL 2), [], [.inr (.inl (.int, s)), .inl [.null, .null, .null, .null, .null, .null, .null, .null, .null, .null, .null, .null, .null, .null, .null, .null, .null, .null, .null, .int (f_win ob0), .int (f_back ob0), .int (f_repair ob0), .int (f_period ob0), .int (f_nextSeq ob0), .int (f_qLen ob0), .int (f_nakLen ob0)]]) (none : Option Value) (H0 s r) := by
 unfold F2 at h
 refine zS Ad W 1 (st' := (1, [vR 1, vI x1, vI x2, vI x3, vI x4, none], [.ref 1], [.inr (.inl (.int, s)), .inl [.null, .null, .null, .null, .null, .null, .null, .null, .null, .null, .null, .null, .null, .null, .null, .null, .null, .null, .null, .int (f_win ob0), .int (f_back ob0), .int (f_repair ob0), .int (f_period ob0), .int (f_nextSeq ob0), .int (f_qLen ob0), .int (f_nakLen ob0)]])) rfl ?_
 refine QTri.callO W rfl rfl rfl ?_
 refine zS Ad W 3 (st' := (9, [vR 1, vI x1, vI x2, vI x3, vI x4, none], [.ref 2, .ref 1], [.inr (.inl (.int, s)), .inl [.null, .null, .null, .null, .null, .null, .null, .null, .null, .null, .null, .null, .null, .null, .null, .null, .null, .null, .null, .int (f_win ob0), .int (f_back ob0), .int (f_repair ob0), .int (f_period ob0), .int (f_nextSeq ob0), .int (f_qLen ob0), .int (f_nakLen ob0)], .inr (.inl (.int, (List.replicate 32 0)))])) rfl ?_
 refine zS Ad W 1 (st' := (12, [vR 1, vI x1, vI x2, vI x3, vI x4, none], [], [.inr (.inl (.int, s)), .inl [.ref 2, .null, .null, .null, .null, .null, .null, .null, .null, .null, .null, .null, .null, .null, .null, .null, .null, .null, .null, .int (f_win ob0), .int (f_back ob0), .int (f_repair ob0), .int (f_period ob0), .int (f_nextSeq ob0), .int (f_qLen ob0), .int (f_nakLen ob0)], .inr (.inl (.int, (List.replicate 32 0)))])) rfl ?_
 refine zS Ad W 3 (st' := (17, [vR 1, vI x1, vI x2, vI x3, vI x4, none], [.ref 3, .ref 1], [.inr (.inl (.int, s)), .inl [.ref 2, .null, .null, .null, .null, .null, .null, .null, .null, .null, .null, .null, .null, .null, .null, .null, .null, .null, .null, .int (f_win ob0), .int (f_back ob0), .int (f_repair ob0), .int (f_period ob0), .int (f_nextSeq ob0), .int (f_qLen ob0), .int (f_nakLen ob0)], .inr (.inl (.int, (List.replicate 32 0))), .inr (.inl (.boolean, (List.replicate 32 0)))])) rfl ?_
 refine zS Ad W 1 (st' := (20, [vR 1, vI x1, vI x2, vI x3, vI x4, none], [], [.inr (.inl (.int, s)), .inl [.ref 2, .ref 3, .null, .null, .null, .null, .null, .null, .null, .null, .null, .null, .null, .null, .null, .null, .null, .null, .null, .int (f_win ob0), .int (f_back ob0), .int (f_repair ob0), .int (f_period ob0), .int (f_nextSeq ob0), .int (f_qLen ob0), .int (f_nakLen ob0)], .inr (.inl (.int, (List.replicate 32 0))), .inr (.inl (.boolean, (List.replicate 32 0)))])) rfl ?_
 refine zS Ad W 3 (st' := (25, [vR 1, vI x1, vI x2, vI x3, vI x4, none], [.ref 4, .ref 1], [.inr (.inl (.int, s)), .inl [.ref 2, .ref 3, .null, .null, .null, .null, .null, .null, .null, .null, .null, .null, .null, .null, .null, .null, .null, .null, .null, .int (f_win ob0), .int (f_back ob0), .int (f_repair ob0), .int (f_period ob0), .int (f_nextSeq ob0), .int (f_qLen ob0), .int (f_nakLen ob0)], .inr (.inl (.int, (List.replicate 32 0))), .inr (.inl (.boolean, (List.replicate 32 0))), .inr (.inl (.int, (List.replicate 64 0)))])) rfl ?_
 refine zS Ad W 1 (st' := (28, [vR 1, vI x1, vI x2, vI x3, vI x4, none], [], [.inr (.inl (.int, s)), .inl [.ref 2, .ref 3, .ref 4, .null, .null, .null, .null, .null, .null, .null, .null, .null, .null, .null, .null, .null, .null, .null, .null, .int (f_win ob0), .int (f_back ob0), .int (f_repair ob0), .int (f_period ob0), .int (f_nextSeq ob0), .int (f_qLen ob0), .int (f_nakLen ob0)], .inr (.inl (.int, (List.replicate 32 0))), .inr (.inl (.boolean, (List.replicate 32 0))), .inr (.inl (.int, (List.replicate 64 0)))])) rfl ?_
 refine zS Ad W 3 (st' := (33, [vR 1, vI x1, vI x2, vI x3, vI x4, none], [.ref 5, .ref 1], [.inr (.inl (.int, s)), .inl [.ref 2, .ref 3, .ref 4, .null, .null, .null, .null, .null, .null, .null, .null, .null, .null, .null, .null, .null, .null, .null, .null, .int (f_win ob0), .int (f_back ob0), .int (f_repair ob0), .int (f_period ob0), .int (f_nextSeq ob0), .int (f_qLen ob0), .int (f_nakLen ob0)], .inr (.inl (.int, (List.replicate 32 0))), .inr (.inl (.boolean, (List.replicate 32 0))), .inr (.inl (.int, (List.replicate 64 0))), .inr (.inl (.int, (List.replicate 10 0)))])) rfl ?_
 refine zS Ad W 1 (st' := (36, [vR 1, vI x1, vI x2, vI x3, vI x4, none], [], [.inr (.inl (.int, s)), .inl [.ref 2, .ref 3, .ref 4, .ref 5, .null, .null, .null, .null, .null, .null, .null, .null, .null, .null, .null, .null, .null, .null, .null, .int (f_win ob0), .int (f_back ob0), .int (f_repair ob0), .int (f_period ob0), .int (f_nextSeq ob0), .int (f_qLen ob0), .int (f_nakLen ob0)], .inr (.inl (.int, (List.replicate 32 0))), .inr (.inl (.boolean, (List.replicate 32 0))), .inr (.inl (.int, (List.replicate 64 0))), .inr (.inl (.int, (List.replicate 10 0)))])) rfl ?_
 refine zS Ad W 3 (st' := (42, [vR 1, vI x1, vI x2, vI x3, vI x4, none], [.ref 6, .ref 1], [.inr (.inl (.int, s)), .inl [.ref 2, .ref 3, .ref 4, .ref 5, .null, .null, .null, .null, .null, .null, .null, .null, .null, .null, .null, .null, .null, .null, .null, .int (f_win ob0), .int (f_back ob0), .int (f_repair ob0), .int (f_period ob0), .int (f_nextSeq ob0), .int (f_qLen ob0), .int (f_nakLen ob0)], .inr (.inl (.int, (List.replicate 32 0))), .inr (.inl (.boolean, (List.replicate 32 0))), .inr (.inl (.int, (List.replicate 64 0))), .inr (.inl (.int, (List.replicate 10 0))), .inr (.inl (.int, (List.replicate 128 0)))])) rfl ?_
 refine zS Ad W 1 (st' := (45, [vR 1, vI x1, vI x2, vI x3, vI x4, none], [], [.inr (.inl (.int, s)), .inl [.ref 2, .ref 3, .ref 4, .ref 5, .ref 6, .null, .null, .null, .null, .null, .null, .null, .null, .null, .null, .null, .null, .null, .null, .int (f_win ob0), .int (f_back ob0), .int (f_repair ob0), .int (f_period ob0), .int (f_nextSeq ob0), .int (f_qLen ob0), .int (f_nakLen ob0)], .inr (.inl (.int, (List.replicate 32 0))), .inr (.inl (.boolean, (List.replicate 32 0))), .inr (.inl (.int, (List.replicate 64 0))), .inr (.inl (.int, (List.replicate 10 0))), .inr (.inl (.int, (List.replicate 128 0)))])) rfl ?_
 refine zS Ad W 3 (st' := (51, [vR 1, vI x1, vI x2, vI x3, vI x4, none], [.ref 7, .ref 1], [.inr (.inl (.int, s)), .inl [.ref 2, .ref 3, .ref 4, .ref 5, .ref 6, .null, .null, .null, .null, .null, .null, .null, .null, .null, .null, .null, .null, .null, .null, .int (f_win ob0), .int (f_back ob0), .int (f_repair ob0), .int (f_period ob0), .int (f_nextSeq ob0), .int (f_qLen ob0), .int (f_nakLen ob0)], .inr (.inl (.int, (List.replicate 32 0))), .inr (.inl (.boolean, (List.replicate 32 0))), .inr (.inl (.int, (List.replicate 64 0))), .inr (.inl (.int, (List.replicate 10 0))), .inr (.inl (.int, (List.replicate 128 0))), .inr (.inl (.int, (List.replicate 128 0)))])) rfl ?_
 refine zS Ad W 1 (st' := (54, [vR 1, vI x1, vI x2, vI x3, vI x4, none], [], [.inr (.inl (.int, s)), .inl [.ref 2, .ref 3, .ref 4, .ref 5, .ref 6, .ref 7, .null, .null, .null, .null, .null, .null, .null, .null, .null, .null, .null, .null, .null, .int (f_win ob0), .int (f_back ob0), .int (f_repair ob0), .int (f_period ob0), .int (f_nextSeq ob0), .int (f_qLen ob0), .int (f_nakLen ob0)], .inr (.inl (.int, (List.replicate 32 0))), .inr (.inl (.boolean, (List.replicate 32 0))), .inr (.inl (.int, (List.replicate 64 0))), .inr (.inl (.int, (List.replicate 10 0))), .inr (.inl (.int, (List.replicate 128 0))), .inr (.inl (.int, (List.replicate 128 0)))])) rfl ?_
 refine zS Ad W 3 (st' := (60, [vR 1, vI x1, vI x2, vI x3, vI x4, none], [.ref 8, .ref 1], [.inr (.inl (.int, s)), .inl [.ref 2, .ref 3, .ref 4, .ref 5, .ref 6, .ref 7, .null, .null, .null, .null, .null, .null, .null, .null, .null, .null, .null, .null, .null, .int (f_win ob0), .int (f_back ob0), .int (f_repair ob0), .int (f_period ob0), .int (f_nextSeq ob0), .int (f_qLen ob0), .int (f_nakLen ob0)], .inr (.inl (.int, (List.replicate 32 0))), .inr (.inl (.boolean, (List.replicate 32 0))), .inr (.inl (.int, (List.replicate 64 0))), .inr (.inl (.int, (List.replicate 10 0))), .inr (.inl (.int, (List.replicate 128 0))), .inr (.inl (.int, (List.replicate 128 0))), .inr (.inl (.int, (List.replicate 128 0)))])) rfl ?_
 refine zS Ad W 1 (st' := (63, [vR 1, vI x1, vI x2, vI x3, vI x4, none], [], [.inr (.inl (.int, s)), .inl [.ref 2, .ref 3, .ref 4, .ref 5, .ref 6, .ref 7, .ref 8, .null, .null, .null, .null, .null, .null, .null, .null, .null, .null, .null, .null, .int (f_win ob0), .int (f_back ob0), .int (f_repair ob0), .int (f_period ob0), .int (f_nextSeq ob0), .int (f_qLen ob0), .int (f_nakLen ob0)], .inr (.inl (.int, (List.replicate 32 0))), .inr (.inl (.boolean, (List.replicate 32 0))), .inr (.inl (.int, (List.replicate 64 0))), .inr (.inl (.int, (List.replicate 10 0))), .inr (.inl (.int, (List.replicate 128 0))), .inr (.inl (.int, (List.replicate 128 0))), .inr (.inl (.int, (List.replicate 128 0)))])) rfl ?_
 refine zS Ad W 3 (st' := (67, [vR 1, vI x1, vI x2, vI x3, vI x4, none], [.ref 9, .ref 1], [.inr (.inl (.int, s)), .inl [.ref 2, .ref 3, .ref 4, .ref 5, .ref 6, .ref 7, .ref 8, .null, .null, .null, .null, .null, .null, .null, .null, .null, .null, .null, .null, .int (f_win ob0), .int (f_back ob0), .int (f_repair ob0), .int (f_period ob0), .int (f_nextSeq ob0), .int (f_qLen ob0), .int (f_nakLen ob0)], .inr (.inl (.int, (List.replicate 32 0))), .inr (.inl (.boolean, (List.replicate 32 0))), .inr (.inl (.int, (List.replicate 64 0))), .inr (.inl (.int, (List.replicate 10 0))), .inr (.inl (.int, (List.replicate 128 0))), .inr (.inl (.int, (List.replicate 128 0))), .inr (.inl (.int, (List.replicate 128 0))), .inr (.inl (.int, (List.replicate 4 0)))])) rfl ?_
 refine zS Ad W 1 (st' := (70, [vR 1, vI x1, vI x2, vI x3, vI x4, none], [], [.inr (.inl (.int, s)), .inl [.ref 2, .ref 3, .ref 4, .ref 5, .ref 6, .ref 7, .ref 8, .ref 9, .null, .null, .null, .null, .null, .null, .null, .null, .null, .null, .null, .int (f_win ob0), .int (f_back ob0), .int (f_repair ob0), .int (f_period ob0), .int (f_nextSeq ob0), .int (f_qLen ob0), .int (f_nakLen ob0)], .inr (.inl (.int, (List.replicate 32 0))), .inr (.inl (.boolean, (List.replicate 32 0))), .inr (.inl (.int, (List.replicate 64 0))), .inr (.inl (.int, (List.replicate 10 0))), .inr (.inl (.int, (List.replicate 128 0))), .inr (.inl (.int, (List.replicate 128 0))), .inr (.inl (.int, (List.replicate 128 0))), .inr (.inl (.int, (List.replicate 4 0)))])) rfl ?_
 refine zS Ad W 3 (st' := (74, [vR 1, vI x1, vI x2, vI x3, vI x4, none], [.ref 10, .ref 1], [.inr (.inl (.int, s)), .inl [.ref 2, .ref 3, .ref 4, .ref 5, .ref 6, .ref 7, .ref 8, .ref 9, .null, .null, .null, .null, .null, .null, .null, .null, .null, .null, .null, .int (f_win ob0), .int (f_back ob0), .int (f_repair ob0), .int (f_period ob0), .int (f_nextSeq ob0), .int (f_qLen ob0), .int (f_nakLen ob0)], .inr (.inl (.int, (List.replicate 32 0))), .inr (.inl (.boolean, (List.replicate 32 0))), .inr (.inl (.int, (List.replicate 64 0))), .inr (.inl (.int, (List.replicate 10 0))), .inr (.inl (.int, (List.replicate 128 0))), .inr (.inl (.int, (List.replicate 128 0))), .inr (.inl (.int, (List.replicate 128 0))), .inr (.inl (.int, (List.replicate 4 0))), .inr (.inl (.int, (List.replicate 4 0)))])) rfl ?_
 refine zS Ad W 1 (st' := (77, [vR 1, vI x1, vI x2, vI x3, vI x4, none], [], [.inr (.inl (.int, s)), .inl [.ref 2, .ref 3, .ref 4, .ref 5, .ref 6, .ref 7, .ref 8, .ref 9, .ref 10, .null, .null, .null, .null, .null, .null, .null, .null, .null, .null, .int (f_win ob0), .int (f_back ob0), .int (f_repair ob0), .int (f_period ob0), .int (f_nextSeq ob0), .int (f_qLen ob0), .int (f_nakLen ob0)], .inr (.inl (.int, (List.replicate 32 0))), .inr (.inl (.boolean, (List.replicate 32 0))), .inr (.inl (.int, (List.replicate 64 0))), .inr (.inl (.int, (List.replicate 10 0))), .inr (.inl (.int, (List.replicate 128 0))), .inr (.inl (.int, (List.replicate 128 0))), .inr (.inl (.int, (List.replicate 128 0))), .inr (.inl (.int, (List.replicate 4 0))), .inr (.inl (.int, (List.replicate 4 0)))])) rfl ?_
 refine zS Ad W 3 (st' := (81, [vR 1, vI x1, vI x2, vI x3, vI x4, none], [.ref 11, .ref 1], [.inr (.inl (.int, s)), .inl [.ref 2, .ref 3, .ref 4, .ref 5, .ref 6, .ref 7, .ref 8, .ref 9, .ref 10, .null, .null, .null, .null, .null, .null, .null, .null, .null, .null, .int (f_win ob0), .int (f_back ob0), .int (f_repair ob0), .int (f_period ob0), .int (f_nextSeq ob0), .int (f_qLen ob0), .int (f_nakLen ob0)], .inr (.inl (.int, (List.replicate 32 0))), .inr (.inl (.boolean, (List.replicate 32 0))), .inr (.inl (.int, (List.replicate 64 0))), .inr (.inl (.int, (List.replicate 10 0))), .inr (.inl (.int, (List.replicate 128 0))), .inr (.inl (.int, (List.replicate 128 0))), .inr (.inl (.int, (List.replicate 128 0))), .inr (.inl (.int, (List.replicate 4 0))), .inr (.inl (.int, (List.replicate 4 0))), .inr (.inl (.int, (List.replicate 4 0)))])) rfl ?_
 refine zS Ad W 1 (st' := (84, [vR 1, vI x1, vI x2, vI x3, vI x4, none], [], [.inr (.inl (.int, s)), .inl [.ref 2, .ref 3, .ref 4, .ref 5, .ref 6, .ref 7, .ref 8, .ref 9, .ref 10, .ref 11, .null, .null, .null, .null, .null, .null, .null, .null, .null, .int (f_win ob0), .int (f_back ob0), .int (f_repair ob0), .int (f_period ob0), .int (f_nextSeq ob0), .int (f_qLen ob0), .int (f_nakLen ob0)], .inr (.inl (.int, (List.replicate 32 0))), .inr (.inl (.boolean, (List.replicate 32 0))), .inr (.inl (.int, (List.replicate 64 0))), .inr (.inl (.int, (List.replicate 10 0))), .inr (.inl (.int, (List.replicate 128 0))), .inr (.inl (.int, (List.replicate 128 0))), .inr (.inl (.int, (List.replicate 128 0))), .inr (.inl (.int, (List.replicate 4 0))), .inr (.inl (.int, (List.replicate 4 0))), .inr (.inl (.int, (List.replicate 4 0)))])) rfl ?_
 refine zS Ad W 3 (st' := (88, [vR 1, vI x1, vI x2, vI x3, vI x4, none], [.ref 12, .ref 1], [.inr (.inl (.int, s)), .inl [.ref 2, .ref 3, .ref 4, .ref 5, .ref 6, .ref 7, .ref 8, .ref 9, .ref 10, .ref 11, .null, .null, .null, .null, .null, .null, .null, .null, .null, .int (f_win ob0), .int (f_back ob0), .int (f_repair ob0), .int (f_period ob0), .int (f_nextSeq ob0), .int (f_qLen ob0), .int (f_nakLen ob0)], .inr (.inl (.int, (List.replicate 32 0))), .inr (.inl (.boolean, (List.replicate 32 0))), .inr (.inl (.int, (List.replicate 64 0))), .inr (.inl (.int, (List.replicate 10 0))), .inr (.inl (.int, (List.replicate 128 0))), .inr (.inl (.int, (List.replicate 128 0))), .inr (.inl (.int, (List.replicate 128 0))), .inr (.inl (.int, (List.replicate 4 0))), .inr (.inl (.int, (List.replicate 4 0))), .inr (.inl (.int, (List.replicate 4 0))), .inr (.inl (.int, (List.replicate 4 0)))])) rfl ?_
 refine zS Ad W 1 (st' := (91, [vR 1, vI x1, vI x2, vI x3, vI x4, none], [], [.inr (.inl (.int, s)), .inl [.ref 2, .ref 3, .ref 4, .ref 5, .ref 6, .ref 7, .ref 8, .ref 9, .ref 10, .ref 11, .ref 12, .null, .null, .null, .null, .null, .null, .null, .null, .int (f_win ob0), .int (f_back ob0), .int (f_repair ob0), .int (f_period ob0), .int (f_nextSeq ob0), .int (f_qLen ob0), .int (f_nakLen ob0)], .inr (.inl (.int, (List.replicate 32 0))), .inr (.inl (.boolean, (List.replicate 32 0))), .inr (.inl (.int, (List.replicate 64 0))), .inr (.inl (.int, (List.replicate 10 0))), .inr (.inl (.int, (List.replicate 128 0))), .inr (.inl (.int, (List.replicate 128 0))), .inr (.inl (.int, (List.replicate 128 0))), .inr (.inl (.int, (List.replicate 4 0))), .inr (.inl (.int, (List.replicate 4 0))), .inr (.inl (.int, (List.replicate 4 0))), .inr (.inl (.int, (List.replicate 4 0)))])) rfl ?_
 refine zS Ad W 3 (st' := (95, [vR 1, vI x1, vI x2, vI x3, vI x4, none], [.ref 13, .ref 1], [.inr (.inl (.int, s)), .inl [.ref 2, .ref 3, .ref 4, .ref 5, .ref 6, .ref 7, .ref 8, .ref 9, .ref 10, .ref 11, .ref 12, .null, .null, .null, .null, .null, .null, .null, .null, .int (f_win ob0), .int (f_back ob0), .int (f_repair ob0), .int (f_period ob0), .int (f_nextSeq ob0), .int (f_qLen ob0), .int (f_nakLen ob0)], .inr (.inl (.int, (List.replicate 32 0))), .inr (.inl (.boolean, (List.replicate 32 0))), .inr (.inl (.int, (List.replicate 64 0))), .inr (.inl (.int, (List.replicate 10 0))), .inr (.inl (.int, (List.replicate 128 0))), .inr (.inl (.int, (List.replicate 128 0))), .inr (.inl (.int, (List.replicate 128 0))), .inr (.inl (.int, (List.replicate 4 0))), .inr (.inl (.int, (List.replicate 4 0))), .inr (.inl (.int, (List.replicate 4 0))), .inr (.inl (.int, (List.replicate 4 0))), .inr (.inl (.int, (List.replicate 4 0)))])) rfl ?_
 refine zS Ad W 1 (st' := (98, [vR 1, vI x1, vI x2, vI x3, vI x4, none], [], [.inr (.inl (.int, s)), .inl [.ref 2, .ref 3, .ref 4, .ref 5, .ref 6, .ref 7, .ref 8, .ref 9, .ref 10, .ref 11, .ref 12, .ref 13, .null, .null, .null, .null, .null, .null, .null, .int (f_win ob0), .int (f_back ob0), .int (f_repair ob0), .int (f_period ob0), .int (f_nextSeq ob0), .int (f_qLen ob0), .int (f_nakLen ob0)], .inr (.inl (.int, (List.replicate 32 0))), .inr (.inl (.boolean, (List.replicate 32 0))), .inr (.inl (.int, (List.replicate 64 0))), .inr (.inl (.int, (List.replicate 10 0))), .inr (.inl (.int, (List.replicate 128 0))), .inr (.inl (.int, (List.replicate 128 0))), .inr (.inl (.int, (List.replicate 128 0))), .inr (.inl (.int, (List.replicate 4 0))), .inr (.inl (.int, (List.replicate 4 0))), .inr (.inl (.int, (List.replicate 4 0))), .inr (.inl (.int, (List.replicate 4 0))), .inr (.inl (.int, (List.replicate 4 0)))])) rfl ?_
 refine zS Ad W 3 (st' := (102, [vR 1, vI x1, vI x2, vI x3, vI x4, none], [.ref 14, .ref 1], [.inr (.inl (.int, s)), .inl [.ref 2, .ref 3, .ref 4, .ref 5, .ref 6, .ref 7, .ref 8, .ref 9, .ref 10, .ref 11, .ref 12, .ref 13, .null, .null, .null, .null, .null, .null, .null, .int (f_win ob0), .int (f_back ob0), .int (f_repair ob0), .int (f_period ob0), .int (f_nextSeq ob0), .int (f_qLen ob0), .int (f_nakLen ob0)], .inr (.inl (.int, (List.replicate 32 0))), .inr (.inl (.boolean, (List.replicate 32 0))), .inr (.inl (.int, (List.replicate 64 0))), .inr (.inl (.int, (List.replicate 10 0))), .inr (.inl (.int, (List.replicate 128 0))), .inr (.inl (.int, (List.replicate 128 0))), .inr (.inl (.int, (List.replicate 128 0))), .inr (.inl (.int, (List.replicate 4 0))), .inr (.inl (.int, (List.replicate 4 0))), .inr (.inl (.int, (List.replicate 4 0))), .inr (.inl (.int, (List.replicate 4 0))), .inr (.inl (.int, (List.replicate 4 0))), .inr (.inl (.int, (List.replicate 4 0)))])) rfl ?_
 refine zS Ad W 1 (st' := (105, [vR 1, vI x1, vI x2, vI x3, vI x4, none], [], [.inr (.inl (.int, s)), .inl [.ref 2, .ref 3, .ref 4, .ref 5, .ref 6, .ref 7, .ref 8, .ref 9, .ref 10, .ref 11, .ref 12, .ref 13, .ref 14, .null, .null, .null, .null, .null, .null, .int (f_win ob0), .int (f_back ob0), .int (f_repair ob0), .int (f_period ob0), .int (f_nextSeq ob0), .int (f_qLen ob0), .int (f_nakLen ob0)], .inr (.inl (.int, (List.replicate 32 0))), .inr (.inl (.boolean, (List.replicate 32 0))), .inr (.inl (.int, (List.replicate 64 0))), .inr (.inl (.int, (List.replicate 10 0))), .inr (.inl (.int, (List.replicate 128 0))), .inr (.inl (.int, (List.replicate 128 0))), .inr (.inl (.int, (List.replicate 128 0))), .inr (.inl (.int, (List.replicate 4 0))), .inr (.inl (.int, (List.replicate 4 0))), .inr (.inl (.int, (List.replicate 4 0))), .inr (.inl (.int, (List.replicate 4 0))), .inr (.inl (.int, (List.replicate 4 0))), .inr (.inl (.int, (List.replicate 4 0)))])) rfl ?_
 refine zS Ad W 3 (st' := (111, [vR 1, vI x1, vI x2, vI x3, vI x4, none], [.ref 15, .ref 1], [.inr (.inl (.int, s)), .inl [.ref 2, .ref 3, .ref 4, .ref 5, .ref 6, .ref 7, .ref 8, .ref 9, .ref 10, .ref 11, .ref 12, .ref 13, .ref 14, .null, .null, .null, .null, .null, .null, .int (f_win ob0), .int (f_back ob0), .int (f_repair ob0), .int (f_period ob0), .int (f_nextSeq ob0), .int (f_qLen ob0), .int (f_nakLen ob0)], .inr (.inl (.int, (List.replicate 32 0))), .inr (.inl (.boolean, (List.replicate 32 0))), .inr (.inl (.int, (List.replicate 64 0))), .inr (.inl (.int, (List.replicate 10 0))), .inr (.inl (.int, (List.replicate 128 0))), .inr (.inl (.int, (List.replicate 128 0))), .inr (.inl (.int, (List.replicate 128 0))), .inr (.inl (.int, (List.replicate 4 0))), .inr (.inl (.int, (List.replicate 4 0))), .inr (.inl (.int, (List.replicate 4 0))), .inr (.inl (.int, (List.replicate 4 0))), .inr (.inl (.int, (List.replicate 4 0))), .inr (.inl (.int, (List.replicate 4 0))), .inr (.inl (.int, (List.replicate 128 0)))])) rfl ?_
 refine zS Ad W 1 (st' := (114, [vR 1, vI x1, vI x2, vI x3, vI x4, none], [], [.inr (.inl (.int, s)), .inl [.ref 2, .ref 3, .ref 4, .ref 5, .ref 6, .ref 7, .ref 8, .ref 9, .ref 10, .ref 11, .ref 12, .ref 13, .ref 14, .ref 15, .null, .null, .null, .null, .null, .int (f_win ob0), .int (f_back ob0), .int (f_repair ob0), .int (f_period ob0), .int (f_nextSeq ob0), .int (f_qLen ob0), .int (f_nakLen ob0)], .inr (.inl (.int, (List.replicate 32 0))), .inr (.inl (.boolean, (List.replicate 32 0))), .inr (.inl (.int, (List.replicate 64 0))), .inr (.inl (.int, (List.replicate 10 0))), .inr (.inl (.int, (List.replicate 128 0))), .inr (.inl (.int, (List.replicate 128 0))), .inr (.inl (.int, (List.replicate 128 0))), .inr (.inl (.int, (List.replicate 4 0))), .inr (.inl (.int, (List.replicate 4 0))), .inr (.inl (.int, (List.replicate 4 0))), .inr (.inl (.int, (List.replicate 4 0))), .inr (.inl (.int, (List.replicate 4 0))), .inr (.inl (.int, (List.replicate 4 0))), .inr (.inl (.int, (List.replicate 128 0)))])) rfl ?_
 refine zS Ad W 3 (st' := (120, [vR 1, vI x1, vI x2, vI x3, vI x4, none], [.ref 16, .ref 1], [.inr (.inl (.int, s)), .inl [.ref 2, .ref 3, .ref 4, .ref 5, .ref 6, .ref 7, .ref 8, .ref 9, .ref 10, .ref 11, .ref 12, .ref 13, .ref 14, .ref 15, .null, .null, .null, .null, .null, .int (f_win ob0), .int (f_back ob0), .int (f_repair ob0), .int (f_period ob0), .int (f_nextSeq ob0), .int (f_qLen ob0), .int (f_nakLen ob0)], .inr (.inl (.int, (List.replicate 32 0))), .inr (.inl (.boolean, (List.replicate 32 0))), .inr (.inl (.int, (List.replicate 64 0))), .inr (.inl (.int, (List.replicate 10 0))), .inr (.inl (.int, (List.replicate 128 0))), .inr (.inl (.int, (List.replicate 128 0))), .inr (.inl (.int, (List.replicate 128 0))), .inr (.inl (.int, (List.replicate 4 0))), .inr (.inl (.int, (List.replicate 4 0))), .inr (.inl (.int, (List.replicate 4 0))), .inr (.inl (.int, (List.replicate 4 0))), .inr (.inl (.int, (List.replicate 4 0))), .inr (.inl (.int, (List.replicate 4 0))), .inr (.inl (.int, (List.replicate 128 0))), .inr (.inl (.int, (List.replicate 128 0)))])) rfl ?_
 refine zS Ad W 1 (st' := (123, [vR 1, vI x1, vI x2, vI x3, vI x4, none], [], [.inr (.inl (.int, s)), .inl [.ref 2, .ref 3, .ref 4, .ref 5, .ref 6, .ref 7, .ref 8, .ref 9, .ref 10, .ref 11, .ref 12, .ref 13, .ref 14, .ref 15, .ref 16, .null, .null, .null, .null, .int (f_win ob0), .int (f_back ob0), .int (f_repair ob0), .int (f_period ob0), .int (f_nextSeq ob0), .int (f_qLen ob0), .int (f_nakLen ob0)], .inr (.inl (.int, (List.replicate 32 0))), .inr (.inl (.boolean, (List.replicate 32 0))), .inr (.inl (.int, (List.replicate 64 0))), .inr (.inl (.int, (List.replicate 10 0))), .inr (.inl (.int, (List.replicate 128 0))), .inr (.inl (.int, (List.replicate 128 0))), .inr (.inl (.int, (List.replicate 128 0))), .inr (.inl (.int, (List.replicate 4 0))), .inr (.inl (.int, (List.replicate 4 0))), .inr (.inl (.int, (List.replicate 4 0))), .inr (.inl (.int, (List.replicate 4 0))), .inr (.inl (.int, (List.replicate 4 0))), .inr (.inl (.int, (List.replicate 4 0))), .inr (.inl (.int, (List.replicate 128 0))), .inr (.inl (.int, (List.replicate 128 0)))])) rfl ?_
 refine zS Ad W 3 (st' := (127, [vR 1, vI x1, vI x2, vI x3, vI x4, none], [.ref 17, .ref 1], [.inr (.inl (.int, s)), .inl [.ref 2, .ref 3, .ref 4, .ref 5, .ref 6, .ref 7, .ref 8, .ref 9, .ref 10, .ref 11, .ref 12, .ref 13, .ref 14, .ref 15, .ref 16, .null, .null, .null, .null, .int (f_win ob0), .int (f_back ob0), .int (f_repair ob0), .int (f_period ob0), .int (f_nextSeq ob0), .int (f_qLen ob0), .int (f_nakLen ob0)], .inr (.inl (.int, (List.replicate 32 0))), .inr (.inl (.boolean, (List.replicate 32 0))), .inr (.inl (.int, (List.replicate 64 0))), .inr (.inl (.int, (List.replicate 10 0))), .inr (.inl (.int, (List.replicate 128 0))), .inr (.inl (.int, (List.replicate 128 0))), .inr (.inl (.int, (List.replicate 128 0))), .inr (.inl (.int, (List.replicate 4 0))), .inr (.inl (.int, (List.replicate 4 0))), .inr (.inl (.int, (List.replicate 4 0))), .inr (.inl (.int, (List.replicate 4 0))), .inr (.inl (.int, (List.replicate 4 0))), .inr (.inl (.int, (List.replicate 4 0))), .inr (.inl (.int, (List.replicate 128 0))), .inr (.inl (.int, (List.replicate 128 0))), .inr (.inl (.int, (List.replicate 4 0)))])) rfl ?_
 refine zS Ad W 1 (st' := (130, [vR 1, vI x1, vI x2, vI x3, vI x4, none], [], [.inr (.inl (.int, s)), .inl [.ref 2, .ref 3, .ref 4, .ref 5, .ref 6, .ref 7, .ref 8, .ref 9, .ref 10, .ref 11, .ref 12, .ref 13, .ref 14, .ref 15, .ref 16, .ref 17, .null, .null, .null, .int (f_win ob0), .int (f_back ob0), .int (f_repair ob0), .int (f_period ob0), .int (f_nextSeq ob0), .int (f_qLen ob0), .int (f_nakLen ob0)], .inr (.inl (.int, (List.replicate 32 0))), .inr (.inl (.boolean, (List.replicate 32 0))), .inr (.inl (.int, (List.replicate 64 0))), .inr (.inl (.int, (List.replicate 10 0))), .inr (.inl (.int, (List.replicate 128 0))), .inr (.inl (.int, (List.replicate 128 0))), .inr (.inl (.int, (List.replicate 128 0))), .inr (.inl (.int, (List.replicate 4 0))), .inr (.inl (.int, (List.replicate 4 0))), .inr (.inl (.int, (List.replicate 4 0))), .inr (.inl (.int, (List.replicate 4 0))), .inr (.inl (.int, (List.replicate 4 0))), .inr (.inl (.int, (List.replicate 4 0))), .inr (.inl (.int, (List.replicate 128 0))), .inr (.inl (.int, (List.replicate 128 0))), .inr (.inl (.int, (List.replicate 4 0)))])) rfl ?_
 refine zS Ad W 3 (st' := (136, [vR 1, vI x1, vI x2, vI x3, vI x4, none], [.ref 18, .ref 1], [.inr (.inl (.int, s)), .inl [.ref 2, .ref 3, .ref 4, .ref 5, .ref 6, .ref 7, .ref 8, .ref 9, .ref 10, .ref 11, .ref 12, .ref 13, .ref 14, .ref 15, .ref 16, .ref 17, .null, .null, .null, .int (f_win ob0), .int (f_back ob0), .int (f_repair ob0), .int (f_period ob0), .int (f_nextSeq ob0), .int (f_qLen ob0), .int (f_nakLen ob0)], .inr (.inl (.int, (List.replicate 32 0))), .inr (.inl (.boolean, (List.replicate 32 0))), .inr (.inl (.int, (List.replicate 64 0))), .inr (.inl (.int, (List.replicate 10 0))), .inr (.inl (.int, (List.replicate 128 0))), .inr (.inl (.int, (List.replicate 128 0))), .inr (.inl (.int, (List.replicate 128 0))), .inr (.inl (.int, (List.replicate 4 0))), .inr (.inl (.int, (List.replicate 4 0))), .inr (.inl (.int, (List.replicate 4 0))), .inr (.inl (.int, (List.replicate 4 0))), .inr (.inl (.int, (List.replicate 4 0))), .inr (.inl (.int, (List.replicate 4 0))), .inr (.inl (.int, (List.replicate 128 0))), .inr (.inl (.int, (List.replicate 128 0))), .inr (.inl (.int, (List.replicate 4 0))), .inr (.inl (.int, (List.replicate 128 0)))])) rfl ?_
 refine zS Ad W 1 (st' := (139, [vR 1, vI x1, vI x2, vI x3, vI x4, none], [], [.inr (.inl (.int, s)), .inl [.ref 2, .ref 3, .ref 4, .ref 5, .ref 6, .ref 7, .ref 8, .ref 9, .ref 10, .ref 11, .ref 12, .ref 13, .ref 14, .ref 15, .ref 16, .ref 17, .ref 18, .null, .null, .int (f_win ob0), .int (f_back ob0), .int (f_repair ob0), .int (f_period ob0), .int (f_nextSeq ob0), .int (f_qLen ob0), .int (f_nakLen ob0)], .inr (.inl (.int, (List.replicate 32 0))), .inr (.inl (.boolean, (List.replicate 32 0))), .inr (.inl (.int, (List.replicate 64 0))), .inr (.inl (.int, (List.replicate 10 0))), .inr (.inl (.int, (List.replicate 128 0))), .inr (.inl (.int, (List.replicate 128 0))), .inr (.inl (.int, (List.replicate 128 0))), .inr (.inl (.int, (List.replicate 4 0))), .inr (.inl (.int, (List.replicate 4 0))), .inr (.inl (.int, (List.replicate 4 0))), .inr (.inl (.int, (List.replicate 4 0))), .inr (.inl (.int, (List.replicate 4 0))), .inr (.inl (.int, (List.replicate 4 0))), .inr (.inl (.int, (List.replicate 128 0))), .inr (.inl (.int, (List.replicate 128 0))), .inr (.inl (.int, (List.replicate 4 0))), .inr (.inl (.int, (List.replicate 128 0)))])) rfl ?_
 refine zS Ad W 3 (st' := (143, [vR 1, vI x1, vI x2, vI x3, vI x4, none], [.ref 19, .ref 1], [.inr (.inl (.int, s)), .inl [.ref 2, .ref 3, .ref 4, .ref 5, .ref 6, .ref 7, .ref 8, .ref 9, .ref 10, .ref 11, .ref 12, .ref 13, .ref 14, .ref 15, .ref 16, .ref 17, .ref 18, .null, .null, .int (f_win ob0), .int (f_back ob0), .int (f_repair ob0), .int (f_period ob0), .int (f_nextSeq ob0), .int (f_qLen ob0), .int (f_nakLen ob0)], .inr (.inl (.int, (List.replicate 32 0))), .inr (.inl (.boolean, (List.replicate 32 0))), .inr (.inl (.int, (List.replicate 64 0))), .inr (.inl (.int, (List.replicate 10 0))), .inr (.inl (.int, (List.replicate 128 0))), .inr (.inl (.int, (List.replicate 128 0))), .inr (.inl (.int, (List.replicate 128 0))), .inr (.inl (.int, (List.replicate 4 0))), .inr (.inl (.int, (List.replicate 4 0))), .inr (.inl (.int, (List.replicate 4 0))), .inr (.inl (.int, (List.replicate 4 0))), .inr (.inl (.int, (List.replicate 4 0))), .inr (.inl (.int, (List.replicate 4 0))), .inr (.inl (.int, (List.replicate 128 0))), .inr (.inl (.int, (List.replicate 128 0))), .inr (.inl (.int, (List.replicate 4 0))), .inr (.inl (.int, (List.replicate 128 0))), .inr (.inl (.int, (List.replicate 4 0)))])) rfl ?_
 refine zS Ad W 1 (st' := (146, [vR 1, vI x1, vI x2, vI x3, vI x4, none], [], [.inr (.inl (.int, s)), .inl [.ref 2, .ref 3, .ref 4, .ref 5, .ref 6, .ref 7, .ref 8, .ref 9, .ref 10, .ref 11, .ref 12, .ref 13, .ref 14, .ref 15, .ref 16, .ref 17, .ref 18, .ref 19, .null, .int (f_win ob0), .int (f_back ob0), .int (f_repair ob0), .int (f_period ob0), .int (f_nextSeq ob0), .int (f_qLen ob0), .int (f_nakLen ob0)], .inr (.inl (.int, (List.replicate 32 0))), .inr (.inl (.boolean, (List.replicate 32 0))), .inr (.inl (.int, (List.replicate 64 0))), .inr (.inl (.int, (List.replicate 10 0))), .inr (.inl (.int, (List.replicate 128 0))), .inr (.inl (.int, (List.replicate 128 0))), .inr (.inl (.int, (List.replicate 128 0))), .inr (.inl (.int, (List.replicate 4 0))), .inr (.inl (.int, (List.replicate 4 0))), .inr (.inl (.int, (List.replicate 4 0))), .inr (.inl (.int, (List.replicate 4 0))), .inr (.inl (.int, (List.replicate 4 0))), .inr (.inl (.int, (List.replicate 4 0))), .inr (.inl (.int, (List.replicate 128 0))), .inr (.inl (.int, (List.replicate 128 0))), .inr (.inl (.int, (List.replicate 4 0))), .inr (.inl (.int, (List.replicate 128 0))), .inr (.inl (.int, (List.replicate 4 0)))])) rfl ?_
 refine zS Ad W 3 (st' := (152, [vR 1, vI x1, vI x2, vI x3, vI x4, none], [.ref 20, .ref 1], [.inr (.inl (.int, s)), .inl [.ref 2, .ref 3, .ref 4, .ref 5, .ref 6, .ref 7, .ref 8, .ref 9, .ref 10, .ref 11, .ref 12, .ref 13, .ref 14, .ref 15, .ref 16, .ref 17, .ref 18, .ref 19, .null, .int (f_win ob0), .int (f_back ob0), .int (f_repair ob0), .int (f_period ob0), .int (f_nextSeq ob0), .int (f_qLen ob0), .int (f_nakLen ob0)], .inr (.inl (.int, (List.replicate 32 0))), .inr (.inl (.boolean, (List.replicate 32 0))), .inr (.inl (.int, (List.replicate 64 0))), .inr (.inl (.int, (List.replicate 10 0))), .inr (.inl (.int, (List.replicate 128 0))), .inr (.inl (.int, (List.replicate 128 0))), .inr (.inl (.int, (List.replicate 128 0))), .inr (.inl (.int, (List.replicate 4 0))), .inr (.inl (.int, (List.replicate 4 0))), .inr (.inl (.int, (List.replicate 4 0))), .inr (.inl (.int, (List.replicate 4 0))), .inr (.inl (.int, (List.replicate 4 0))), .inr (.inl (.int, (List.replicate 4 0))), .inr (.inl (.int, (List.replicate 128 0))), .inr (.inl (.int, (List.replicate 128 0))), .inr (.inl (.int, (List.replicate 4 0))), .inr (.inl (.int, (List.replicate 128 0))), .inr (.inl (.int, (List.replicate 4 0))), .inr (.inl (.int, (List.replicate 128 0)))])) rfl ?_
 refine zS Ad W 1 (st' := (155, [vR 1, vI x1, vI x2, vI x3, vI x4, none], [], (H0x0 s ob0 (List.replicate 32 0) (List.replicate 32 0) (List.replicate 64 0) (List.replicate 10 0) (List.replicate 128 0) (List.replicate 128 0) (List.replicate 128 0) (List.replicate 4 0) (List.replicate 4 0) (List.replicate 4 0) (List.replicate 4 0) (List.replicate 4 0) (List.replicate 4 0) (List.replicate 128 0) (List.replicate 128 0) (List.replicate 4 0) (List.replicate 128 0) (List.replicate 4 0) (List.replicate 128 0)))) rfl ?_
 refine zS Ad W 5 (st' := (161, [vR 1, vI x1, vI x2, vI x3, vI x4, none], [.int (16:Int32), .int (2:Int32), .int x1, .ref 1, .ref 1], (H0x0 s ob0 (List.replicate 32 0) (List.replicate 32 0) (List.replicate 64 0) (List.replicate 10 0) (List.replicate 128 0) (List.replicate 128 0) (List.replicate 128 0) (List.replicate 4 0) (List.replicate 4 0) (List.replicate 4 0) (List.replicate 4 0) (List.replicate 4 0) (List.replicate 4 0) (List.replicate 128 0) (List.replicate 128 0) (List.replicate 4 0) (List.replicate 128 0) (List.replicate 4 0) (List.replicate 128 0)))) rfl ?_
 obtain ⟨r9, hr9, h⟩ := bind_eq_some_iff.mp h
 refine QTri.callP W (a := 1) (as := [.int x1, .int (2:Int32), .int (16:Int32)]) (rest := [.ref 1]) (w := (some (.int r9))) (σ₁ := (H0x0 s ob0 (List.replicate 32 0) (List.replicate 32 0) (List.replicate 64 0) (List.replicate 10 0) (List.replicate 128 0) (List.replicate 128 0) (List.replicate 128 0) (List.replicate 4 0) (List.replicate 4 0) (List.replicate 4 0) (List.replicate 4 0) (List.replicate 4 0) (List.replicate 4 0) (List.replicate 128 0) (List.replicate 128 0) (List.replicate 4 0) (List.replicate 128 0) (List.replicate 4 0) (List.replicate 128 0))) rfl rfl rfl rfl rfl rfl rfl rfl (tF3 Ad W x1 (2:Int32) (16:Int32) hr9) ?_
 refine zS Ad W 1 (st' := (167, [vR 1, vI x1, vI x2, vI x3, vI x4, none], [], (H0x1 s ob0 (List.replicate 32 0) (List.replicate 32 0) (List.replicate 64 0) (List.replicate 10 0) (List.replicate 128 0) (List.replicate 128 0) (List.replicate 128 0) (List.replicate 4 0) (List.replicate 4 0) (List.replicate 4 0) (List.replicate 4 0) (List.replicate 4 0) (List.replicate 4 0) (List.replicate 128 0) (List.replicate 128 0) (List.replicate 4 0) (List.replicate 128 0) (List.replicate 4 0) (List.replicate 128 0) r9))) rfl ?_
 refine zS Ad W 5 (st' := (173, [vR 1, vI x1, vI x2, vI x3, vI x4, none], [.int (8:Int32), .int (1:Int32), .int x2, .ref 1, .ref 1], (H0x1 s ob0 (List.replicate 32 0) (List.replicate 32 0) (List.replicate 64 0) (List.replicate 10 0) (List.replicate 128 0) (List.replicate 128 0) (List.replicate 128 0) (List.replicate 4 0) (List.replicate 4 0) (List.replicate 4 0) (List.replicate 4 0) (List.replicate 4 0) (List.replicate 4 0) (List.replicate 128 0) (List.replicate 128 0) (List.replicate 4 0) (List.replicate 128 0) (List.replicate 4 0) (List.replicate 128 0) r9))) rfl ?_
 obtain ⟨r10, hr10, h⟩ := bind_eq_some_iff.mp h
 refine QTri.callP W (a := 1) (as := [.int x2, .int (1:Int32), .int (8:Int32)]) (rest := [.ref 1]) (w := (some (.int r10))) (σ₁ := (H0x1 s ob0 (List.replicate 32 0) (List.replicate 32 0) (List.replicate 64 0) (List.replicate 10 0) (List.replicate 128 0) (List.replicate 128 0) (List.replicate 128 0) (List.replicate 4 0) (List.replicate 4 0) (List.replicate 4 0) (List.replicate 4 0) (List.replicate 4 0) (List.replicate 4 0) (List.replicate 128 0) (List.replicate 128 0) (List.replicate 4 0) (List.replicate 128 0) (List.replicate 4 0) (List.replicate 128 0) r9)) rfl rfl rfl rfl rfl rfl rfl rfl (tF3 Ad W x2 (1:Int32) (8:Int32) hr10) ?_
 refine zS Ad W 1 (st' := (179, [vR 1, vI x1, vI x2, vI x3, vI x4, none], [], (H0x2 s ob0 (List.replicate 32 0) (List.replicate 32 0) (List.replicate 64 0) (List.replicate 10 0) (List.replicate 128 0) (List.replicate 128 0) (List.replicate 128 0) (List.replicate 4 0) (List.replicate 4 0) (List.replicate 4 0) (List.replicate 4 0) (List.replicate 4 0) (List.replicate 4 0) (List.replicate 128 0) (List.replicate 128 0) (List.replicate 4 0) (List.replicate 128 0) (List.replicate 4 0) (List.replicate 128 0) r9 r10))) rfl ?_
 refine zS Ad W 5 (st' := (185, [vR 1, vI x1, vI x2, vI x3, vI x4, none], [.int (8:Int32), .int (1:Int32), .int x3, .ref 1, .ref 1], (H0x2 s ob0 (List.replicate 32 0) (List.replicate 32 0) (List.replicate 64 0) (List.replicate 10 0) (List.replicate 128 0) (List.replicate 128 0) (List.replicate 128 0) (List.replicate 4 0) (List.replicate 4 0) (List.replicate 4 0) (List.replicate 4 0) (List.replicate 4 0) (List.replicate 4 0) (List.replicate 128 0) (List.replicate 128 0) (List.replicate 4 0) (List.replicate 128 0) (List.replicate 4 0) (List.replicate 128 0) r9 r10))) rfl ?_
 obtain ⟨r11, hr11, h⟩ := bind_eq_some_iff.mp h
 refine QTri.callP W (a := 1) (as := [.int x3, .int (1:Int32), .int (8:Int32)]) (rest := [.ref 1]) (w := (some (.int r11))) (σ₁ := (H0x2 s ob0 (List.replicate 32 0) (List.replicate 32 0) (List.replicate 64 0) (List.replicate 10 0) (List.replicate 128 0) (List.replicate 128 0) (List.replicate 128 0) (List.replicate 4 0) (List.replicate 4 0) (List.replicate 4 0) (List.replicate 4 0) (List.replicate 4 0) (List.replicate 4 0) (List.replicate 128 0) (List.replicate 128 0) (List.replicate 4 0) (List.replicate 128 0) (List.replicate 4 0) (List.replicate 128 0) r9 r10)) rfl rfl rfl rfl rfl rfl rfl rfl (tF3 Ad W x3 (1:Int32) (8:Int32) hr11) ?_
 refine zS Ad W 1 (st' := (191, [vR 1, vI x1, vI x2, vI x3, vI x4, none], [], (H0x3 s ob0 (List.replicate 32 0) (List.replicate 32 0) (List.replicate 64 0) (List.replicate 10 0) (List.replicate 128 0) (List.replicate 128 0) (List.replicate 128 0) (List.replicate 4 0) (List.replicate 4 0) (List.replicate 4 0) (List.replicate 4 0) (List.replicate 4 0) (List.replicate 4 0) (List.replicate 128 0) (List.replicate 128 0) (List.replicate 4 0) (List.replicate 128 0) (List.replicate 4 0) (List.replicate 128 0) r9 r10 r11))) rfl ?_
 refine zS Ad W 5 (st' := (198, [vR 1, vI x1, vI x2, vI x3, vI x4, none], [.int (16:Int32), .int (0:Int32), .int x4, .ref 1, .ref 1], (H0x3 s ob0 (List.replicate 32 0) (List.replicate 32 0) (List.replicate 64 0) (List.replicate 10 0) (List.replicate 128 0) (List.replicate 128 0) (List.replicate 128 0) (List.replicate 4 0) (List.replicate 4 0) (List.replicate 4 0) (List.replicate 4 0) (List.replicate 4 0) (List.replicate 4 0) (List.replicate 128 0) (List.replicate 128 0) (List.replicate 4 0) (List.replicate 128 0) (List.replicate 4 0) (List.replicate 128 0) r9 r10 r11))) rfl ?_
 obtain ⟨r12, hr12, h⟩ := bind_eq_some_iff.mp h
 refine QTri.callP W (a := 1) (as := [.int x4, .int (0:Int32), .int (16:Int32)]) (rest := [.ref 1]) (w := (some (.int r12))) (σ₁ := (H0x3 s ob0 (List.replicate 32 0) (List.replicate 32 0) (List.replicate 64 0) (List.replicate 10 0) (List.replicate 128 0) (List.replicate 128 0) (List.replicate 128 0) (List.replicate 4 0) (List.replicate 4 0) (List.replicate 4 0) (List.replicate 4 0) (List.replicate 4 0) (List.replicate 4 0) (List.replicate 128 0) (List.replicate 128 0) (List.replicate 4 0) (List.replicate 128 0) (List.replicate 4 0) (List.replicate 128 0) r9 r10 r11)) rfl rfl rfl rfl rfl rfl rfl rfl (tF3 Ad W x4 (0:Int32) (16:Int32) hr12) ?_
 refine zS Ad W 1 (st' := (204, [vR 1, vI x1, vI x2, vI x3, vI x4, none], [], (H0x4 s ob0 (List.replicate 32 0) (List.replicate 32 0) (List.replicate 64 0) (List.replicate 10 0) (List.replicate 128 0) (List.replicate 128 0) (List.replicate 128 0) (List.replicate 4 0) (List.replicate 4 0) (List.replicate 4 0) (List.replicate 4 0) (List.replicate 4 0) (List.replicate 4 0) (List.replicate 128 0) (List.replicate 128 0) (List.replicate 4 0) (List.replicate 128 0) (List.replicate 4 0) (List.replicate 128 0) r9 r10 r11 r12))) rfl ?_
 refine zS Ad W 2 (st' := (207, [vR 1, vI x1, vI x2, vI x3, vI x4, vI (0:Int32)], [], (H0x4 s ob0 (List.replicate 32 0) (List.replicate 32 0) (List.replicate 64 0) (List.replicate 10 0) (List.replicate 128 0) (List.replicate 128 0) (List.replicate 128 0) (List.replicate 4 0) (List.replicate 4 0) (List.replicate 4 0) (List.replicate 4 0) (List.replicate 4 0) (List.replicate 4 0) (List.replicate 128 0) (List.replicate 128 0) (List.replicate 4 0) (List.replicate 128 0) (List.replicate 4 0) (List.replicate 128 0) r9 r10 r11 r12))) rfl ?_
 have E13 : ((H0x4 s ob0 (List.replicate 32 0) (List.replicate 32 0) (List.replicate 64 0) (List.replicate 10 0) (List.replicate 128 0) (List.replicate 128 0) (List.replicate 128 0) (List.replicate 4 0) (List.replicate 4 0) (List.replicate 4 0) (List.replicate 4 0) (List.replicate 4 0) (List.replicate 4 0) (List.replicate 128 0) (List.replicate 128 0) (List.replicate 4 0) (List.replicate 128 0) (List.replicate 4 0) (List.replicate 128 0) r9 r10 r11 r12) : QHeap) = (H0 s (s_period (s_repair (s_back (s_win (s_nakBuf (s_lostLen (s_lostLog (s_delLen (s_delVal (s_delSeq (s_drops (s_dups (s_lossLeft (s_rxTrail (s_rxLead (s_rxNext (s_rxVal (s_timer (s_state (s_stats (s_queue (s_pend (s_srcPayload ob0 (List.replicate 32 0)) (List.replicate 32 0)) (List.replicate 64 0)) (List.replicate 10 0)) (List.replicate 128 0)) (List.replicate 128 0)) (List.replicate 128 0)) (List.replicate 4 0)) (List.replicate 4 0)) (List.replicate 4 0)) (List.replicate 4 0)) (List.replicate 4 0)) (List.replicate 4 0)) (List.replicate 128 0)) (List.replicate 128 0)) (List.replicate 4 0)) (List.replicate 128 0)) (List.replicate 4 0)) (List.replicate 128 0)) r9) r10) r11) r12)) := by simp only [fs, H0, H0v, H0x4, s_srcPayload, s_pend, s_queue, s_stats, s_state, s_timer, s_rxVal, s_rxNext, s_rxLead, s_rxTrail, s_lossLeft, s_dups, s_drops, s_delSeq, s_delVal, s_delLen, s_lostLog, s_lostLen, s_nakBuf, s_win, s_back, s_repair, s_period, ob0]
 rw [E13]
 obtain ⟨e17, he17, h⟩ := bind_eq_some_iff.mp h
 refine zM [tt,ff,ff,ff,ff,tt] (loopN_tri (B := B2_207) (T := fun lv18 => QTri l Z n0 ad 2 (207, [vR 1, none, none, none, none, vI lv18.1], [], (H0 s lv18.2)) (none : Option Value) (H0 s r)) (KE := fun e17a => (none : Option Value) = (none : Option Value) ∧ (H0 s r) = (H0 s e17a)) (fun lv18 r hB hE hC => tB2_207 Ad W s lv18 hB (fun x q => hE _ q) (fun x q => hC x q)) qN ((0:Int32), (s_period (s_repair (s_back (s_win (s_nakBuf (s_lostLen (s_lostLog (s_delLen (s_delVal (s_delSeq (s_drops (s_dups (s_lossLeft (s_rxTrail (s_rxLead (s_rxNext (s_rxVal (s_timer (s_state (s_stats (s_queue (s_pend (s_srcPayload ob0 (List.replicate 32 0)) (List.replicate 32 0)) (List.replicate 64 0)) (List.replicate 10 0)) (List.replicate 128 0)) (List.replicate 128 0)) (List.replicate 128 0)) (List.replicate 4 0)) (List.replicate 4 0)) (List.replicate 4 0)) (List.replicate 4 0)) (List.replicate 4 0)) (List.replicate 4 0)) (List.replicate 128 0)) (List.replicate 128 0)) (List.replicate 4 0)) (List.replicate 128 0)) (List.replicate 4 0)) (List.replicate 128 0)) r9) r10) r11) r12)) e17 he17 ?_)
 obtain rfl := Option.some.inj h
 exact ⟨rfl, rfl⟩
/-- lead()I -/
def F5 (o : Ob) : Option (Int32) :=
 some ((f_nextSeq o) - (1:Int32))
theorem tF5 (Ad : QAd n0 ad) (W : QW Z a0) (s : List Int32) (o : Ob) {r : Int32} (h : F5 o = some r) : QTri l Z n0 ad 5 (0, qentry [.ref 1] (pMaxL 5), [], (H0 s o)) (some (Value.int r)) (H0 s o) := by
 unfold F5 at h
 refine zS Ad W 4 (st' := (6, [vR 1], [.int ((f_nextSeq o) - (1:Int32))], (H0 s o))) rfl ?_
 obtain rfl := Option.some.inj h
 exact QTri.retI rfl rfl
/-- sourceLead()I -/
def F4 (o : Ob) : Option (Int32) :=
 (F5 o).bind fun r25 => some r25
theorem tF4 (Ad : QAd n0 ad) (W : QW Z a0) (s : List Int32) (o : Ob) {r : Int32} (h : F4 o = some r) : QTri l Z n0 ad 4 (0, qentry [.ref 1] (pMaxL 4), [], (H0 s o)) (some (Value.int r)) (H0 s o) := by
 unfold F4 at h
 refine zS Ad W 1 (st' := (1, [vR 1], [.ref 1], (H0 s o))) rfl ?_
 obtain ⟨r25, hr25, h⟩ := bind_eq_some_iff.mp h
 refine QTri.callP W (a := 1) (as := []) (rest := []) (w := (some (.int r25))) (σ₁ := (H0 s o)) rfl rfl rfl rfl rfl rfl rfl rfl (tF5 Ad W s o hr25) ?_
 obtain rfl := Option.some.inj h
 exact QTri.retI rfl rfl
/-- trail()I -/
def F7 (o : Ob) : Option (Int32) :=
 (if ((f_nextSeq o) - (f_win o)) < (0:Int32) then some (0:Int32) else some ((f_nextSeq o) - (f_win o)))
theorem tF7 (Ad : QAd n0 ad) (W : QW Z a0) (s : List Int32) (o : Ob) {r : Int32} (h : F7 o = some r) : QTri l Z n0 ad 7 (0, qentry [.ref 1] (pMaxL 7), [], (H0 s o)) (some (Value.int r)) (H0 s o) := by
 unfold F7 at h
 refine zS Ad W 7 (st' := (11, [vR 1, vI ((f_nextSeq o) - (f_win o))], [.int ((f_nextSeq o) - (f_win o))], (H0 s o))) rfl ?_
 rcases qite h with ⟨hc27, h⟩ | ⟨hc27, h⟩
 ·refine zF Ad W (t := 16) (f := 14) rfl (XT.i0_ge_f hc27) ?_
  refine zS Ad W 1 (st' := (15, [vR 1, vI ((f_nextSeq o) - (f_win o))], [.int (0:Int32)], (H0 s o))) rfl ?_
  obtain rfl := Option.some.inj h
  exact QTri.retI rfl rfl
 ·refine zT Ad W (t := 16) (f := 14) rfl (XT.i0_ge_t hc27) ?_
  refine zS Ad W 1 (st' := (17, [vR 1, vI ((f_nextSeq o) - (f_win o))], [.int ((f_nextSeq o) - (f_win o))], (H0 s o))) rfl ?_
  obtain rfl := Option.some.inj h
  exact QTri.retI rfl rfl
/-- sourceTrail()I -/
def F6 (o : Ob) : Option (Int32) :=
 (F7 o).bind fun r28 => some r28
theorem tF6 (Ad : QAd n0 ad) (W : QW Z a0) (s : List Int32) (o : Ob) {r : Int32} (h : F6 o = some r) : QTri l Z n0 ad 6 (0, qentry [.ref 1] (pMaxL 6), [], (H0 s o)) (some (Value.int r)) (H0 s o) := by
 unfold F6 at h
 refine zS Ad W 1 (st' := (1, [vR 1], [.ref 1], (H0 s o))) rfl ?_
 obtain ⟨r28, hr28, h⟩ := bind_eq_some_iff.mp h
 refine QTri.callP W (a := 1) (as := []) (rest := []) (w := (some (.int r28))) (σ₁ := (H0 s o)) rfl rfl rfl rfl rfl rfl rfl rfl (tF7 Ad W s o hr28) ?_
 obtain rfl := Option.some.inj h
 exact QTri.retI rfl rfl
/-- validRx(I)Z -/
def F9 (x1 : Int32) : Option (Int32) :=
 (if x1 < (0:Int32) then some (0:Int32) else (if x1 < (4:Int32) then some (1:Int32) else some (0:Int32)))
theorem tF9 (Ad : QAd n0 ad) (W : QW Z a0) {a : Nat} {σ : QHeap} (x1 : Int32) {r : Int32} (h : F9 x1 = some r) : QTri l Z n0 ad 9 (0, qentry [.ref a, .int x1] (pMaxL 9), [], σ) (some (Value.int r)) σ := by
 unfold F9 at h
 refine zS Ad W 1 (st' := (1, [vR a, vI x1], [.int x1], σ)) rfl ?_
 rcases qite h with ⟨hc31, h⟩ | ⟨hc31, h⟩
 ·refine zT Ad W (t := 13) (f := 4) rfl (XT.i0_lt_t hc31) ?_
  refine zS Ad W 1 (st' := (14, [vR a, vI x1], [.int (0:Int32)], σ)) rfl ?_
  obtain rfl := Option.some.inj h
  exact QTri.retZ rfl rfl
 ·refine zF Ad W (t := 13) (f := 4) rfl (XT.i0_lt_f hc31) ?_
  refine zS Ad W 2 (st' := (6, [vR a, vI x1], [.int (4:Int32), .int x1], σ)) rfl ?_
  rcases qite h with ⟨hc32, h⟩ | ⟨hc32, h⟩
  ·refine zF Ad W (t := 13) (f := 9) rfl (XT.ii_ge_f hc32) ?_
   refine zS Ad W 2 (st' := (14, [vR a, vI x1], [.int (1:Int32)], σ)) rfl ?_
   obtain rfl := Option.some.inj h
   exact QTri.retZ rfl rfl
  ·refine zT Ad W (t := 13) (f := 9) rfl (XT.ii_ge_t hc32) ?_
   refine zS Ad W 1 (st' := (14, [vR a, vI x1], [.int (0:Int32)], σ)) rfl ?_
   obtain rfl := Option.some.inj h
   exact QTri.retZ rfl rfl
/-- rxInfo(II)I -/
def F8 (o : Ob) (x1 : Int32) (x2 : Int32) : Option (Int32) :=
 (F9 x1).bind fun r33 => (if r33 = (0:Int32) then some (-2:Int32) else (if x2 = (0:Int32) then (aget (f_rxNext o) x1).bind fun y36 => some y36 else (if x2 = (1:Int32) then (aget (f_rxLead o) x1).bind fun y38 => some y38 else (if x2 = (2:Int32) then (aget (f_rxTrail o) x1).bind fun y40 => some y40 else (if x2 = (3:Int32) then (aget (f_delLen o) x1).bind fun y42 => some y42 else (if x2 = (4:Int32) then (aget (f_lostLen o) x1).bind fun y44 => some y44 else (if x2 = (5:Int32) then (aget (f_lossLeft o) x1).bind fun y46 => some y46 else (if x2 = (6:Int32) then (aget (f_dups o) x1).bind fun y48 => some y48 else (if x2 = (7:Int32) then (aget (f_drops o) x1).bind fun y50 => some y50 else some (-2:Int32))))))))))
theorem tF8 (Ad : QAd n0 ad) (W : QW Z a0) (s : List Int32) (o : Ob) (x1 : Int32) (x2 : Int32) {r : Int32} (h : F8 o x1 x2 = some r) : QTri l Z n0 ad 8 (0, qentry [.ref 1, .int x1, .int x2] (pMaxL 8), [], (H0 s o)) (some (Value.int r)) (H0 s o) := by
 unfold F8 at h
 refine zS Ad W 2 (st' := (2, [vR 1, vI x1, vI x2], [.int x1, .ref 1], (H0 s o))) rfl ?_
 obtain ⟨r33, hr33, h⟩ := bind_eq_some_iff.mp h
 refine QTri.callP W (a := 1) (as := [.int x1]) (rest := []) (w := (some (.int r33))) (σ₁ := (H0 s o)) rfl rfl rfl rfl rfl rfl rfl rfl (tF9 Ad W x1 hr33) ?_
 rcases qite h with ⟨hc34, h⟩ | ⟨hc34, h⟩
 ·refine zF Ad W (t := 11) (f := 8) rfl (XT.i0_ne_f hc34) ?_
  refine zS Ad W 1 (st' := (10, [vR 1, vI x1, vI x2], [.int (-2:Int32)], (H0 s o))) rfl ?_
  obtain rfl := Option.some.inj h
  exact QTri.retI rfl rfl
 ·refine zT Ad W (t := 11) (f := 8) rfl (XT.i0_ne_t hc34) ?_
  refine zS Ad W 1 (st' := (12, [vR 1, vI x1, vI x2], [.int x2], (H0 s o))) rfl ?_
  rcases qite h with ⟨hc35, h⟩ | ⟨hc35, h⟩
  ·refine zF Ad W (t := 22) (f := 15) rfl (XT.i0_ne_f hc35) ?_
   refine zS Ad W 3 (st' := (20, [vR 1, vI x1, vI x2], [.int x1, .ref 9], (H0 s o))) rfl ?_
   obtain ⟨y36, hy36, h⟩ := bind_eq_some_iff.mp h
   refine zB Ad W (f := fun y36 => (21, [vR 1, vI x1, vI x2], [.int y36], (H0 s o))) rfl hy36 ?_
   obtain rfl := Option.some.inj h
   exact QTri.retI rfl rfl
  ·refine zT Ad W (t := 22) (f := 15) rfl (XT.i0_ne_t hc35) ?_
   refine zS Ad W 2 (st' := (24, [vR 1, vI x1, vI x2], [.int (1:Int32), .int x2], (H0 s o))) rfl ?_
   rcases qite h with ⟨hc37, h⟩ | ⟨hc37, h⟩
   ·refine zF Ad W (t := 34) (f := 27) rfl (XT.ii_ne_f hc37) ?_
    refine zS Ad W 3 (st' := (32, [vR 1, vI x1, vI x2], [.int x1, .ref 10], (H0 s o))) rfl ?_
    obtain ⟨y38, hy38, h⟩ := bind_eq_some_iff.mp h
    refine zB Ad W (f := fun y38 => (33, [vR 1, vI x1, vI x2], [.int y38], (H0 s o))) rfl hy38 ?_
    obtain rfl := Option.some.inj h
    exact QTri.retI rfl rfl
   ·refine zT Ad W (t := 34) (f := 27) rfl (XT.ii_ne_t hc37) ?_
    refine zS Ad W 2 (st' := (36, [vR 1, vI x1, vI x2], [.int (2:Int32), .int x2], (H0 s o))) rfl ?_
    rcases qite h with ⟨hc39, h⟩ | ⟨hc39, h⟩
    ·refine zF Ad W (t := 46) (f := 39) rfl (XT.ii_ne_f hc39) ?_
     refine zS Ad W 3 (st' := (44, [vR 1, vI x1, vI x2], [.int x1, .ref 11], (H0 s o))) rfl ?_
     obtain ⟨y40, hy40, h⟩ := bind_eq_some_iff.mp h
     refine zB Ad W (f := fun y40 => (45, [vR 1, vI x1, vI x2], [.int y40], (H0 s o))) rfl hy40 ?_
     obtain rfl := Option.some.inj h
     exact QTri.retI rfl rfl
    ·refine zT Ad W (t := 46) (f := 39) rfl (XT.ii_ne_t hc39) ?_
     refine zS Ad W 2 (st' := (48, [vR 1, vI x1, vI x2], [.int (3:Int32), .int x2], (H0 s o))) rfl ?_
     rcases qite h with ⟨hc41, h⟩ | ⟨hc41, h⟩
     ·refine zF Ad W (t := 58) (f := 51) rfl (XT.ii_ne_f hc41) ?_
      refine zS Ad W 3 (st' := (56, [vR 1, vI x1, vI x2], [.int x1, .ref 17], (H0 s o))) rfl ?_
      obtain ⟨y42, hy42, h⟩ := bind_eq_some_iff.mp h
      refine zB Ad W (f := fun y42 => (57, [vR 1, vI x1, vI x2], [.int y42], (H0 s o))) rfl hy42 ?_
      obtain rfl := Option.some.inj h
      exact QTri.retI rfl rfl
     ·refine zT Ad W (t := 58) (f := 51) rfl (XT.ii_ne_t hc41) ?_
      refine zS Ad W 2 (st' := (60, [vR 1, vI x1, vI x2], [.int (4:Int32), .int x2], (H0 s o))) rfl ?_
      rcases qite h with ⟨hc43, h⟩ | ⟨hc43, h⟩
      ·refine zF Ad W (t := 70) (f := 63) rfl (XT.ii_ne_f hc43) ?_
       refine zS Ad W 3 (st' := (68, [vR 1, vI x1, vI x2], [.int x1, .ref 19], (H0 s o))) rfl ?_
       obtain ⟨y44, hy44, h⟩ := bind_eq_some_iff.mp h
       refine zB Ad W (f := fun y44 => (69, [vR 1, vI x1, vI x2], [.int y44], (H0 s o))) rfl hy44 ?_
       obtain rfl := Option.some.inj h
       exact QTri.retI rfl rfl
      ·refine zT Ad W (t := 70) (f := 63) rfl (XT.ii_ne_t hc43) ?_
       refine zS Ad W 2 (st' := (72, [vR 1, vI x1, vI x2], [.int (5:Int32), .int x2], (H0 s o))) rfl ?_
       rcases qite h with ⟨hc45, h⟩ | ⟨hc45, h⟩
       ·refine zF Ad W (t := 82) (f := 75) rfl (XT.ii_ne_f hc45) ?_
        refine zS Ad W 3 (st' := (80, [vR 1, vI x1, vI x2], [.int x1, .ref 12], (H0 s o))) rfl ?_
        obtain ⟨y46, hy46, h⟩ := bind_eq_some_iff.mp h
        refine zB Ad W (f := fun y46 => (81, [vR 1, vI x1, vI x2], [.int y46], (H0 s o))) rfl hy46 ?_
        obtain rfl := Option.some.inj h
        exact QTri.retI rfl rfl
       ·refine zT Ad W (t := 82) (f := 75) rfl (XT.ii_ne_t hc45) ?_
        refine zS Ad W 2 (st' := (85, [vR 1, vI x1, vI x2], [.int (6:Int32), .int x2], (H0 s o))) rfl ?_
        rcases qite h with ⟨hc47, h⟩ | ⟨hc47, h⟩
        ·refine zF Ad W (t := 95) (f := 88) rfl (XT.ii_ne_f hc47) ?_
         refine zS Ad W 3 (st' := (93, [vR 1, vI x1, vI x2], [.int x1, .ref 13], (H0 s o))) rfl ?_
         obtain ⟨y48, hy48, h⟩ := bind_eq_some_iff.mp h
         refine zB Ad W (f := fun y48 => (94, [vR 1, vI x1, vI x2], [.int y48], (H0 s o))) rfl hy48 ?_
         obtain rfl := Option.some.inj h
         exact QTri.retI rfl rfl
        ·refine zT Ad W (t := 95) (f := 88) rfl (XT.ii_ne_t hc47) ?_
         refine zS Ad W 2 (st' := (98, [vR 1, vI x1, vI x2], [.int (7:Int32), .int x2], (H0 s o))) rfl ?_
         rcases qite h with ⟨hc49, h⟩ | ⟨hc49, h⟩
         ·refine zF Ad W (t := 108) (f := 101) rfl (XT.ii_ne_f hc49) ?_
          refine zS Ad W 3 (st' := (106, [vR 1, vI x1, vI x2], [.int x1, .ref 14], (H0 s o))) rfl ?_
          obtain ⟨y50, hy50, h⟩ := bind_eq_some_iff.mp h
          refine zB Ad W (f := fun y50 => (107, [vR 1, vI x1, vI x2], [.int y50], (H0 s o))) rfl hy50 ?_
          obtain rfl := Option.some.inj h
          exact QTri.retI rfl rfl
         ·refine zT Ad W (t := 108) (f := 101) rfl (XT.ii_ne_t hc49) ?_
          refine zS Ad W 1 (st' := (110, [vR 1, vI x1, vI x2], [.int (-2:Int32)], (H0 s o))) rfl ?_
          obtain rfl := Option.some.inj h
          exact QTri.retI rfl rfl
/-- deliveredSeq(II)I -/
def F22 (o : Ob) (x1 : Int32) (x2 : Int32) : Option (Int32) :=
 (F9 x1).bind fun r63 => (if r63 = (0:Int32) then some (-1:Int32) else (if x2 < (0:Int32) then some (-1:Int32) else (aget (f_delLen o) x1).bind fun y66 => (if x2 < y66 then (aget (f_delSeq o) ((x1 * (32:Int32)) + x2)).bind fun y68 => some y68 else some (-1:Int32))))
theorem tF22 (Ad : QAd n0 ad) (W : QW Z a0) (s : List Int32) (o : Ob) (x1 : Int32) (x2 : Int32) {r : Int32} (h : F22 o x1 x2 = some r) : QTri l Z n0 ad 22 (0, qentry [.ref 1, .int x1, .int x2] (pMaxL 22), [], (H0 s o)) (some (Value.int r)) (H0 s o) := by
 unfold F22 at h
 refine zS Ad W 2 (st' := (2, [vR 1, vI x1, vI x2], [.int x1, .ref 1], (H0 s o))) rfl ?_
 obtain ⟨r63, hr63, h⟩ := bind_eq_some_iff.mp h
 refine QTri.callP W (a := 1) (as := [.int x1]) (rest := []) (w := (some (.int r63))) (σ₁ := (H0 s o)) rfl rfl rfl rfl rfl rfl rfl rfl (tF9 Ad W x1 hr63) ?_
 rcases qite h with ⟨hc64, h⟩ | ⟨hc64, h⟩
 ·refine zT Ad W (t := 22) (f := 8) rfl (XT.i0_eq_t hc64) ?_
  refine zS Ad W 1 (st' := (23, [vR 1, vI x1, vI x2], [.int (-1:Int32)], (H0 s o))) rfl ?_
  obtain rfl := Option.some.inj h
  exact QTri.retI rfl rfl
 ·refine zF Ad W (t := 22) (f := 8) rfl (XT.i0_eq_f hc64) ?_
  refine zS Ad W 1 (st' := (9, [vR 1, vI x1, vI x2], [.int x2], (H0 s o))) rfl ?_
  rcases qite h with ⟨hc65, h⟩ | ⟨hc65, h⟩
  ·refine zT Ad W (t := 22) (f := 12) rfl (XT.i0_lt_t hc65) ?_
   refine zS Ad W 1 (st' := (23, [vR 1, vI x1, vI x2], [.int (-1:Int32)], (H0 s o))) rfl ?_
   obtain rfl := Option.some.inj h
   exact QTri.retI rfl rfl
  ·refine zF Ad W (t := 22) (f := 12) rfl (XT.i0_lt_f hc65) ?_
   refine zS Ad W 4 (st' := (18, [vR 1, vI x1, vI x2], [.int x1, .ref 17, .int x2], (H0 s o))) rfl ?_
   obtain ⟨y66, hy66, h⟩ := bind_eq_some_iff.mp h
   refine zB Ad W (f := fun y66 => (19, [vR 1, vI x1, vI x2], [.int y66, .int x2], (H0 s o))) rfl hy66 ?_
   rcases qite h with ⟨hc67, h⟩ | ⟨hc67, h⟩
   ·refine zT Ad W (t := 24) (f := 22) rfl (XT.ii_lt_t hc67) ?_
    refine zS Ad W 7 (st' := (34, [vR 1, vI x1, vI x2], [.int ((x1 * (32:Int32)) + x2), .ref 15], (H0 s o))) rfl ?_
    obtain ⟨y68, hy68, h⟩ := bind_eq_some_iff.mp h
    refine zB Ad W (f := fun y68 => (35, [vR 1, vI x1, vI x2], [.int y68], (H0 s o))) rfl hy68 ?_
    obtain rfl := Option.some.inj h
    exact QTri.retI rfl rfl
   ·refine zF Ad W (t := 24) (f := 22) rfl (XT.ii_lt_f hc67) ?_
    refine zS Ad W 1 (st' := (23, [vR 1, vI x1, vI x2], [.int (-1:Int32)], (H0 s o))) rfl ?_
    obtain rfl := Option.some.inj h
    exact QTri.retI rfl rfl
/-- deliveredValue(II)I -/
def F23 (o : Ob) (x1 : Int32) (x2 : Int32) : Option (Int32) :=
 (F9 x1).bind fun r77 => (if r77 = (0:Int32) then some (-1:Int32) else (if x2 < (0:Int32) then some (-1:Int32) else (aget (f_delLen o) x1).bind fun y80 => (if x2 < y80 then (aget (f_delVal o) ((x1 * (32:Int32)) + x2)).bind fun y82 => some y82 else some (-1:Int32))))
theorem tF23 (Ad : QAd n0 ad) (W : QW Z a0) (s : List Int32) (o : Ob) (x1 : Int32) (x2 : Int32) {r : Int32} (h : F23 o x1 x2 = some r) : QTri l Z n0 ad 23 (0, qentry [.ref 1, .int x1, .int x2] (pMaxL 23), [], (H0 s o)) (some (Value.int r)) (H0 s o) := by
 unfold F23 at h
 refine zS Ad W 2 (st' := (2, [vR 1, vI x1, vI x2], [.int x1, .ref 1], (H0 s o))) rfl ?_
 obtain ⟨r77, hr77, h⟩ := bind_eq_some_iff.mp h
 refine QTri.callP W (a := 1) (as := [.int x1]) (rest := []) (w := (some (.int r77))) (σ₁ := (H0 s o)) rfl rfl rfl rfl rfl rfl rfl rfl (tF9 Ad W x1 hr77) ?_
 rcases qite h with ⟨hc78, h⟩ | ⟨hc78, h⟩
 ·refine zT Ad W (t := 22) (f := 8) rfl (XT.i0_eq_t hc78) ?_
  refine zS Ad W 1 (st' := (23, [vR 1, vI x1, vI x2], [.int (-1:Int32)], (H0 s o))) rfl ?_
  obtain rfl := Option.some.inj h
  exact QTri.retI rfl rfl
 ·refine zF Ad W (t := 22) (f := 8) rfl (XT.i0_eq_f hc78) ?_
  refine zS Ad W 1 (st' := (9, [vR 1, vI x1, vI x2], [.int x2], (H0 s o))) rfl ?_
  rcases qite h with ⟨hc79, h⟩ | ⟨hc79, h⟩
  ·refine zT Ad W (t := 22) (f := 12) rfl (XT.i0_lt_t hc79) ?_
   refine zS Ad W 1 (st' := (23, [vR 1, vI x1, vI x2], [.int (-1:Int32)], (H0 s o))) rfl ?_
   obtain rfl := Option.some.inj h
   exact QTri.retI rfl rfl
  ·refine zF Ad W (t := 22) (f := 12) rfl (XT.i0_lt_f hc79) ?_
   refine zS Ad W 4 (st' := (18, [vR 1, vI x1, vI x2], [.int x1, .ref 17, .int x2], (H0 s o))) rfl ?_
   obtain ⟨y80, hy80, h⟩ := bind_eq_some_iff.mp h
   refine zB Ad W (f := fun y80 => (19, [vR 1, vI x1, vI x2], [.int y80, .int x2], (H0 s o))) rfl hy80 ?_
   rcases qite h with ⟨hc81, h⟩ | ⟨hc81, h⟩
   ·refine zT Ad W (t := 24) (f := 22) rfl (XT.ii_lt_t hc81) ?_
    refine zS Ad W 7 (st' := (34, [vR 1, vI x1, vI x2], [.int ((x1 * (32:Int32)) + x2), .ref 16], (H0 s o))) rfl ?_
    obtain ⟨y82, hy82, h⟩ := bind_eq_some_iff.mp h
    refine zB Ad W (f := fun y82 => (35, [vR 1, vI x1, vI x2], [.int y82], (H0 s o))) rfl hy82 ?_
    obtain rfl := Option.some.inj h
    exact QTri.retI rfl rfl
   ·refine zF Ad W (t := 24) (f := 22) rfl (XT.ii_lt_f hc81) ?_
    refine zS Ad W 1 (st' := (23, [vR 1, vI x1, vI x2], [.int (-1:Int32)], (H0 s o))) rfl ?_
    obtain rfl := Option.some.inj h
    exact QTri.retI rfl rfl
/-- get(JI)I -/
def F24 (x0 : Int64) (x2 : Int32) : Option (Int32) :=
 some (((XT.ushrL x0 ((x2 &&& (7:Int32)) * (8:Int32))) &&& (255 : Int64)).toInt32)
theorem tF24 (Ad : QAd n0 ad) (W : QW Z a0) {σ : QHeap} (x0 : Int64) (x2 : Int32) {r : Int32} (h : F24 x0 x2 = some r) : QTri l Z n0 ad 24 (0, qentry [.long x0, .int x2] (pMaxL 24), [], σ) (some (Value.int r)) σ := by
 unfold F24 at h
 refine zS Ad W 12 (st' := (16, [vL x0, none, vI x2, vI ((x2 &&& (7:Int32)) * (8:Int32))], [.int (((XT.ushrL x0 ((x2 &&& (7:Int32)) * (8:Int32))) &&& (255 : Int64)).toInt32)], σ)) rfl ?_
 obtain rfl := Option.some.inj h
 exact QTri.retI rfl rfl
def J0_597 (s : List Int32) (p0 : Ob) (x2 : Int64) (x4 : Int64) (x6 : Int64) (x8 : Int64) (x10 : Int64) (x12 : Int32) (x13 : Int32) (x14 : Int32) (x15 : Int32) (x16 : Int32) (x17 : Int32) (x18 : Int32) (x19 : Int32) (x20 : Int32) (x21 : Int32) (x22 : Int32) (x23 : Int32) (x24 : Int32) : Option (((Int32 × Int32) ⊕ (Int32 × Int32) ⊕ (Int32 × QHeap)) ⊕ (Int32 × Int32 × Int32)) :=
  some (.inr (x22, x23, (x24 + (1 : Int32))))
theorem tJ0_597 (Ad : QAd n0 ad) (W : QW Z a0) (s : List Int32) (p0 : Ob) (x2 : Int64) (x4 : Int64) (x6 : Int64) (x8 : Int64) (x10 : Int64) (x12 : Int32) (x13 : Int32) (x14 : Int32) (x15 : Int32) (x16 : Int32) (x17 : Int32) (x18 : Int32) (x19 : Int32) (x20 : Int32) (x21 : Int32) (x22 : Int32) (x23 : Int32) (x24 : Int32) {r : ((Int32 × Int32) ⊕ (Int32 × Int32) ⊕ (Int32 × QHeap)) ⊕ (Int32 × Int32 × Int32)} {u : Option Value} {τ : QHeap} (h : J0_597 s p0 x2 x4 x6 x8 x10 x12 x13 x14 x15 x16 x17 x18 x19 x20 x21 x22 x23 x24 = some r) (hx0 : ∀ x : Int32 × Int32, r = .inl (Sum.inl x) → QTri l Z n0 ad 0 (433, [vR 0, vR 1, vL x2, none, vL x4, none, vL x6, none, vL x8, none, vL x10, none, vI x12, vI x13, vI x14, vI x15, vI x16, vI x17, none, vI x19, vI x20, none, vI x.1, vI x.2, none, none, none, none, none], [], (H0 s p0)) u τ) (hx1 : ∀ x : Int32 × Int32, r = .inl (Sum.inr (Sum.inl x)) → QTri l Z n0 ad 0 (603, [vR 0, vR 1, vL x2, none, vL x4, none, vL x6, none, vL x8, none, vL x10, none, vI x12, vI x13, vI x14, vI x15, vI x16, vI x17, none, vI x19, vI x20, none, vI x.1, vI x.2, none, none, none, none, none], [], (H0 s p0)) u τ) (hx2 : ∀ x : Int32 × QHeap, r = .inl (Sum.inr (Sum.inr x)) → u = (some (Value.int x.1)) ∧ τ = x.2) (hc : ∀ x : Int32 × Int32 × Int32, r = .inr x → QTri l Z n0 ad 0 (419, [vR 0, vR 1, vL x2, none, vL x4, none, vL x6, none, vL x8, none, vL x10, none, vI x12, vI x13, vI x14, vI x15, vI x16, vI x17, vI x18, vI x19, vI x20, vI x21, vI x.1, vI x.2.1, vI x.2.2, none, none, none, none], [], (H0 s p0)) u τ) : QTri l Z n0 ad 0 (597, [vR 0, vR 1, vL x2, none, vL x4, none, vL x6, none, vL x8, none, vL x10, none, vI x12, vI x13, vI x14, vI x15, vI x16, vI x17, vI x18, vI x19, vI x20, vI x21, vI x22, vI x23, vI x24, none, none, none, none], [], (H0 s p0)) u τ := by
 unfold J0_597 at h
 refine zS Ad W 2 (st' := (419, [vR 0, vR 1, vL x2, none, vL x4, none, vL x6, none, vL x8, none, vL x10, none, vI x12, vI x13, vI x14, vI x15, vI x16, vI x17, vI x18, vI x19, vI x20, vI x21, vI x22, vI x23, vI (x24 + (1:Int32)), none, none, none, none], [], (H0 s p0))) rfl ?_
 obtain rfl := Option.some.inj h
 exact zM [tt,tt,tt,ff,tt,ff,tt,ff,tt,ff,tt,ff,tt,tt,tt,tt,tt,tt,tt,tt,tt,tt,tt,tt,tt,ff,ff,ff,ff] (hc (x22, x23, (x24 + (1:Int32))) rfl)
/-- lostSeq(II)I -/
def F37 (o : Ob) (x1 : Int32) (x2 : Int32) : Option (Int32) :=
 (F9 x1).bind fun r87 => (if r87 = (0:Int32) then some (-1:Int32) else (if x2 < (0:Int32) then some (-1:Int32) else (aget (f_lostLen o) x1).bind fun y90 => (if x2 < y90 then (aget (f_lostLog o) ((x1 * (32:Int32)) + x2)).bind fun y92 => some y92 else some (-1:Int32))))
theorem tF37 (Ad : QAd n0 ad) (W : QW Z a0) (s : List Int32) (o : Ob) (x1 : Int32) (x2 : Int32) {r : Int32} (h : F37 o x1 x2 = some r) : QTri l Z n0 ad 37 (0, qentry [.ref 1, .int x1, .int x2] (pMaxL 37), [], (H0 s o)) (some (Value.int r)) (H0 s o) := by
 unfold F37 at h
 refine zS Ad W 2 (st' := (2, [vR 1, vI x1, vI x2], [.int x1, .ref 1], (H0 s o))) rfl ?_
 obtain ⟨r87, hr87, h⟩ := bind_eq_some_iff.mp h
 refine QTri.callP W (a := 1) (as := [.int x1]) (rest := []) (w := (some (.int r87))) (σ₁ := (H0 s o)) rfl rfl rfl rfl rfl rfl rfl rfl (tF9 Ad W x1 hr87) ?_
 rcases qite h with ⟨hc88, h⟩ | ⟨hc88, h⟩
 ·refine zT Ad W (t := 22) (f := 8) rfl (XT.i0_eq_t hc88) ?_
  refine zS Ad W 1 (st' := (23, [vR 1, vI x1, vI x2], [.int (-1:Int32)], (H0 s o))) rfl ?_
  obtain rfl := Option.some.inj h
  exact QTri.retI rfl rfl
 ·refine zF Ad W (t := 22) (f := 8) rfl (XT.i0_eq_f hc88) ?_
  refine zS Ad W 1 (st' := (9, [vR 1, vI x1, vI x2], [.int x2], (H0 s o))) rfl ?_
  rcases qite h with ⟨hc89, h⟩ | ⟨hc89, h⟩
  ·refine zT Ad W (t := 22) (f := 12) rfl (XT.i0_lt_t hc89) ?_
   refine zS Ad W 1 (st' := (23, [vR 1, vI x1, vI x2], [.int (-1:Int32)], (H0 s o))) rfl ?_
   obtain rfl := Option.some.inj h
   exact QTri.retI rfl rfl
  ·refine zF Ad W (t := 22) (f := 12) rfl (XT.i0_lt_f hc89) ?_
   refine zS Ad W 4 (st' := (18, [vR 1, vI x1, vI x2], [.int x1, .ref 19, .int x2], (H0 s o))) rfl ?_
   obtain ⟨y90, hy90, h⟩ := bind_eq_some_iff.mp h
   refine zB Ad W (f := fun y90 => (19, [vR 1, vI x1, vI x2], [.int y90, .int x2], (H0 s o))) rfl hy90 ?_
   rcases qite h with ⟨hc91, h⟩ | ⟨hc91, h⟩
   ·refine zT Ad W (t := 24) (f := 22) rfl (XT.ii_lt_t hc91) ?_
    refine zS Ad W 7 (st' := (34, [vR 1, vI x1, vI x2], [.int ((x1 * (32:Int32)) + x2), .ref 18], (H0 s o))) rfl ?_
    obtain ⟨y92, hy92, h⟩ := bind_eq_some_iff.mp h
    refine zB Ad W (f := fun y92 => (35, [vR 1, vI x1, vI x2], [.int y92], (H0 s o))) rfl hy92 ?_
    obtain rfl := Option.some.inj h
    exact QTri.retI rfl rfl
   ·refine zF Ad W (t := 24) (f := 22) rfl (XT.ii_lt_f hc91) ?_
    refine zS Ad W 1 (st' := (23, [vR 1, vI x1, vI x2], [.int (-1:Int32)], (H0 s o))) rfl ?_
    obtain rfl := Option.some.inj h
    exact QTri.retI rfl rfl
def J0_564 (s : List Int32) (p0 : Ob) (x2 : Int64) (x4 : Int64) (x6 : Int64) (x8 : Int64) (x10 : Int64) (x12 : Int32) (x13 : Int32) (x14 : Int32) (x15 : Int32) (x16 : Int32) (x17 : Int32) (x18 : Int32) (x19 : Int32) (x20 : Int32) (x21 : Int32) (x22 : Int32) (x23 : Int32) (x24 : Int32) (w0 : Int32) : Option (((Int32 × Int32) ⊕ (Int32 × Int32) ⊕ (Int32 × QHeap)) ⊕ (Int32 × Int32 × Int32)) :=
  (if w0 = x24 then (if x24 < x16 then (if x24 < x21 then (J0_597 s p0 x2 x4 x6 x8 x10 x12 x13 x14 x15 x16 x17 x18 x19 x20 x21 x22 (x23 + (1 : Int32)) x24) else some (.inl (Sum.inr (Sum.inr ((0 : Int32), (H0 s p0)))))) else some (.inl (Sum.inr (Sum.inr ((0 : Int32), (H0 s p0)))))) else some (.inl (Sum.inr (Sum.inr ((0 : Int32), (H0 s p0))))))
theorem tJ0_564 (Ad : QAd n0 ad) (W : QW Z a0) (s : List Int32) (p0 : Ob) (x2 : Int64) (x4 : Int64) (x6 : Int64) (x8 : Int64) (x10 : Int64) (x12 : Int32) (x13 : Int32) (x14 : Int32) (x15 : Int32) (x16 : Int32) (x17 : Int32) (x18 : Int32) (x19 : Int32) (x20 : Int32) (x21 : Int32) (x22 : Int32) (x23 : Int32) (x24 : Int32) (w0 : Int32) {r : ((Int32 × Int32) ⊕ (Int32 × Int32) ⊕ (Int32 × QHeap)) ⊕ (Int32 × Int32 × Int32)} {u : Option Value} {τ : QHeap} (h : J0_564 s p0 x2 x4 x6 x8 x10 x12 x13 x14 x15 x16 x17 x18 x19 x20 x21 x22 x23 x24 w0 = some r) (hx0 : ∀ x : Int32 × Int32, r = .inl (Sum.inl x) → QTri l Z n0 ad 0 (433, [vR 0, vR 1, vL x2, none, vL x4, none, vL x6, none, vL x8, none, vL x10, none, vI x12, vI x13, vI x14, vI x15, vI x16, vI x17, none, vI x19, vI x20, none, vI x.1, vI x.2, none, none, none, none, none], [], (H0 s p0)) u τ) (hx1 : ∀ x : Int32 × Int32, r = .inl (Sum.inr (Sum.inl x)) → QTri l Z n0 ad 0 (603, [vR 0, vR 1, vL x2, none, vL x4, none, vL x6, none, vL x8, none, vL x10, none, vI x12, vI x13, vI x14, vI x15, vI x16, vI x17, none, vI x19, vI x20, none, vI x.1, vI x.2, none, none, none, none, none], [], (H0 s p0)) u τ) (hx2 : ∀ x : Int32 × QHeap, r = .inl (Sum.inr (Sum.inr x)) → u = (some (Value.int x.1)) ∧ τ = x.2) (hc : ∀ x : Int32 × Int32 × Int32, r = .inr x → QTri l Z n0 ad 0 (419, [vR 0, vR 1, vL x2, none, vL x4, none, vL x6, none, vL x8, none, vL x10, none, vI x12, vI x13, vI x14, vI x15, vI x16, vI x17, vI x18, vI x19, vI x20, vI x21, vI x.1, vI x.2.1, vI x.2.2, none, none, none, none], [], (H0 s p0)) u τ) : QTri l Z n0 ad 0 (564, [vR 0, vR 1, vL x2, none, vL x4, none, vL x6, none, vL x8, none, vL x10, none, vI x12, vI x13, vI x14, vI x15, vI x16, vI x17, vI x18, vI x19, vI x20, vI x21, vI x22, vI x23, vI x24, none, none, none, none], [.int w0], (H0 s p0)) u τ := by
 unfold J0_564 at h
 refine zS Ad W 3 (st' := (570, [vR 0, vR 1, vL x2, none, vL x4, none, vL x6, none, vL x8, none, vL x10, none, vI x12, vI x13, vI x14, vI x15, vI x16, vI x17, vI x18, vI x19, vI x20, vI x21, vI x22, vI x23, vI x24, none, vI w0, none, none], [.int x24, .int w0], (H0 s p0))) rfl ?_
 rcases qite h with ⟨hc94, h⟩ | ⟨hc94, h⟩
 ·refine zF Ad W (t := 595) (f := 573) rfl (XT.ii_ne_f hc94) ?_
  refine zS Ad W 2 (st' := (577, [vR 0, vR 1, vL x2, none, vL x4, none, vL x6, none, vL x8, none, vL x10, none, vI x12, vI x13, vI x14, vI x15, vI x16, vI x17, vI x18, vI x19, vI x20, vI x21, vI x22, vI x23, vI x24, none, vI w0, none, none], [.int x16, .int x24], (H0 s p0))) rfl ?_
  rcases qite h with ⟨hc95, h⟩ | ⟨hc95, h⟩
  ·refine zF Ad W (t := 587) (f := 580) rfl (XT.ii_ge_f hc95) ?_
   refine zS Ad W 2 (st' := (584, [vR 0, vR 1, vL x2, none, vL x4, none, vL x6, none, vL x8, none, vL x10, none, vI x12, vI x13, vI x14, vI x15, vI x16, vI x17, vI x18, vI x19, vI x20, vI x21, vI x22, vI x23, vI x24, none, vI w0, none, none], [.int x21, .int x24], (H0 s p0))) rfl ?_
   rcases qite h with ⟨hc96, h⟩ | ⟨hc96, h⟩
   ·refine zT Ad W (t := 589) (f := 587) rfl (XT.ii_lt_t hc96) ?_
    refine zS Ad W 2 (st' := (597, [vR 0, vR 1, vL x2, none, vL x4, none, vL x6, none, vL x8, none, vL x10, none, vI x12, vI x13, vI x14, vI x15, vI x16, vI x17, vI x18, vI x19, vI x20, vI x21, vI x22, vI (x23 + (1:Int32)), vI x24, none, vI w0, none, none], [], (H0 s p0))) rfl ?_
    exact zM [tt,tt,tt,ff,tt,ff,tt,ff,tt,ff,tt,ff,tt,tt,tt,tt,tt,tt,tt,tt,tt,tt,tt,tt,tt,ff,ff,ff,ff] (tJ0_597 Ad W s p0 x2 x4 x6 x8 x10 x12 x13 x14 x15 x16 x17 x18 x19 x20 x21 x22 (x23 + (1:Int32)) x24 h hx0 hx1 hx2 hc)
   ·refine zF Ad W (t := 589) (f := 587) rfl (XT.ii_lt_f hc96) ?_
    refine zS Ad W 1 (st' := (588, [vR 0, vR 1, vL x2, none, vL x4, none, vL x6, none, vL x8, none, vL x10, none, vI x12, vI x13, vI x14, vI x15, vI x16, vI x17, vI x18, vI x19, vI x20, vI x21, vI x22, vI x23, vI x24, none, vI w0, none, none], [.int (0:Int32)], (H0 s p0))) rfl ?_
    obtain rfl := Option.some.inj h
    obtain ⟨rfl, rfl⟩ := hx2 ((0:Int32), (H0 s p0)) rfl
    exact QTri.retZ rfl rfl
  ·refine zT Ad W (t := 587) (f := 580) rfl (XT.ii_ge_t hc95) ?_
   refine zS Ad W 1 (st' := (588, [vR 0, vR 1, vL x2, none, vL x4, none, vL x6, none, vL x8, none, vL x10, none, vI x12, vI x13, vI x14, vI x15, vI x16, vI x17, vI x18, vI x19, vI x20, vI x21, vI x22, vI x23, vI x24, none, vI w0, none, none], [.int (0:Int32)], (H0 s p0))) rfl ?_
   obtain rfl := Option.some.inj h
   obtain ⟨rfl, rfl⟩ := hx2 ((0:Int32), (H0 s p0)) rfl
   exact QTri.retZ rfl rfl
 ·refine zT Ad W (t := 595) (f := 573) rfl (XT.ii_ne_t hc94) ?_
  refine zS Ad W 1 (st' := (596, [vR 0, vR 1, vL x2, none, vL x4, none, vL x6, none, vL x8, none, vL x10, none, vI x12, vI x13, vI x14, vI x15, vI x16, vI x17, vI x18, vI x19, vI x20, vI x21, vI x22, vI x23, vI x24, none, vI w0, none, none], [.int (0:Int32)], (H0 s p0))) rfl ?_
  obtain rfl := Option.some.inj h
  obtain ⟨rfl, rfl⟩ := hx2 ((0:Int32), (H0 s p0)) rfl
  exact QTri.retZ rfl rfl
def J0_455 (s : List Int32) (p0 : Ob) (x2 : Int64) (x4 : Int64) (x6 : Int64) (x8 : Int64) (x10 : Int64) (x12 : Int32) (x13 : Int32) (x14 : Int32) (x15 : Int32) (x16 : Int32) (x17 : Int32) (x18 : Int32) (x19 : Int32) (x20 : Int32) (x21 : Int32) (x22 : Int32) (x23 : Int32) (x24 : Int32) (w0 : Int32) : Option (((Int32 × Int32) ⊕ (Int32 × Int32) ⊕ (Int32 × QHeap)) ⊕ (Int32 × Int32 × Int32)) :=
  (if w0 = x24 then (if ((XT.ushrL x10 x24) &&& (1 : Int64)) = (0 : Int64) then some (.inl (Sum.inr (Sum.inr ((0 : Int32), (H0 s p0))))) else (F23 p0 x17 x22).bind fun r83 => (F24 (if (x24 >>> ((3 : Int32) &&& 31)) = (0 : Int32) then x2 else (if (x24 >>> ((3 : Int32) &&& 31)) = (1 : Int32) then x4 else (if (x24 >>> ((3 : Int32) &&& 31)) = (2 : Int32) then x6 else x8))) x24).bind fun r84 => (if r83 = r84 then (J0_597 s p0 x2 x4 x6 x8 x10 x12 x13 x14 x15 x16 x17 x18 x19 x20 x21 (x22 + (1 : Int32)) x23 x24) else some (.inl (Sum.inr (Sum.inr ((0 : Int32), (H0 s p0))))))) else (if x23 < x20 then (F37 p0 x17 x23).bind fun r93 => (J0_564 s p0 x2 x4 x6 x8 x10 x12 x13 x14 x15 x16 x17 x18 x19 x20 x21 x22 x23 x24 r93) else (J0_564 s p0 x2 x4 x6 x8 x10 x12 x13 x14 x15 x16 x17 x18 x19 x20 x21 x22 x23 x24 (-1 : Int32))))
theorem tJ0_455 (Ad : QAd n0 ad) (W : QW Z a0) (s : List Int32) (p0 : Ob) (x2 : Int64) (x4 : Int64) (x6 : Int64) (x8 : Int64) (x10 : Int64) (x12 : Int32) (x13 : Int32) (x14 : Int32) (x15 : Int32) (x16 : Int32) (x17 : Int32) (x18 : Int32) (x19 : Int32) (x20 : Int32) (x21 : Int32) (x22 : Int32) (x23 : Int32) (x24 : Int32) (w0 : Int32) {r : ((Int32 × Int32) ⊕ (Int32 × Int32) ⊕ (Int32 × QHeap)) ⊕ (Int32 × Int32 × Int32)} {u : Option Value} {τ : QHeap} (h : J0_455 s p0 x2 x4 x6 x8 x10 x12 x13 x14 x15 x16 x17 x18 x19 x20 x21 x22 x23 x24 w0 = some r) (hx0 : ∀ x : Int32 × Int32, r = .inl (Sum.inl x) → QTri l Z n0 ad 0 (433, [vR 0, vR 1, vL x2, none, vL x4, none, vL x6, none, vL x8, none, vL x10, none, vI x12, vI x13, vI x14, vI x15, vI x16, vI x17, none, vI x19, vI x20, none, vI x.1, vI x.2, none, none, none, none, none], [], (H0 s p0)) u τ) (hx1 : ∀ x : Int32 × Int32, r = .inl (Sum.inr (Sum.inl x)) → QTri l Z n0 ad 0 (603, [vR 0, vR 1, vL x2, none, vL x4, none, vL x6, none, vL x8, none, vL x10, none, vI x12, vI x13, vI x14, vI x15, vI x16, vI x17, none, vI x19, vI x20, none, vI x.1, vI x.2, none, none, none, none, none], [], (H0 s p0)) u τ) (hx2 : ∀ x : Int32 × QHeap, r = .inl (Sum.inr (Sum.inr x)) → u = (some (Value.int x.1)) ∧ τ = x.2) (hc : ∀ x : Int32 × Int32 × Int32, r = .inr x → QTri l Z n0 ad 0 (419, [vR 0, vR 1, vL x2, none, vL x4, none, vL x6, none, vL x8, none, vL x10, none, vI x12, vI x13, vI x14, vI x15, vI x16, vI x17, vI x18, vI x19, vI x20, vI x21, vI x.1, vI x.2.1, vI x.2.2, none, none, none, none], [], (H0 s p0)) u τ) : QTri l Z n0 ad 0 (455, [vR 0, vR 1, vL x2, none, vL x4, none, vL x6, none, vL x8, none, vL x10, none, vI x12, vI x13, vI x14, vI x15, vI x16, vI x17, vI x18, vI x19, vI x20, vI x21, vI x22, vI x23, vI x24, none, none, none, none], [.int w0], (H0 s p0)) u τ := by
 unfold J0_455 at h
 refine zS Ad W 3 (st' := (461, [vR 0, vR 1, vL x2, none, vL x4, none, vL x6, none, vL x8, none, vL x10, none, vI x12, vI x13, vI x14, vI x15, vI x16, vI x17, vI x18, vI x19, vI x20, vI x21, vI x22, vI x23, vI x24, vI w0, none, none, none], [.int x24, .int w0], (H0 s p0))) rfl ?_
 rcases qite h with ⟨hc70, h⟩ | ⟨hc70, h⟩
 ·refine zF Ad W (t := 545) (f := 464) rfl (XT.ii_ne_f hc70) ?_
  refine zS Ad W 7 (st' := (473, [vR 0, vR 1, vL x2, none, vL x4, none, vL x6, none, vL x8, none, vL x10, none, vI x12, vI x13, vI x14, vI x15, vI x16, vI x17, vI x18, vI x19, vI x20, vI x21, vI x22, vI x23, vI x24, vI w0, none, none, none], [.int (XT.cmpL ((XT.ushrL x10 x24) &&& (1 : Int64)) (0 : Int64))], (H0 s p0))) rfl ?_
  rcases qite h with ⟨hc71, h⟩ | ⟨hc71, h⟩
  ·refine zF Ad W (t := 478) (f := 476) rfl (XT.ll_ne_f hc71) ?_
   refine zS Ad W 1 (st' := (477, [vR 0, vR 1, vL x2, none, vL x4, none, vL x6, none, vL x8, none, vL x10, none, vI x12, vI x13, vI x14, vI x15, vI x16, vI x17, vI x18, vI x19, vI x20, vI x21, vI x22, vI x23, vI x24, vI w0, none, none, none], [.int (0:Int32)], (H0 s p0))) rfl ?_
   obtain rfl := Option.some.inj h
   obtain ⟨rfl, rfl⟩ := hx2 ((0:Int32), (H0 s p0)) rfl
   exact QTri.retZ rfl rfl
  ·refine zT Ad W (t := 478) (f := 476) rfl (XT.ll_ne_t hc71) ?_
   refine zS Ad W 5 (st' := (486, [vR 0, vR 1, vL x2, none, vL x4, none, vL x6, none, vL x8, none, vL x10, none, vI x12, vI x13, vI x14, vI x15, vI x16, vI x17, vI x18, vI x19, vI x20, vI x21, vI x22, vI x23, vI x24, vI w0, vI (x24 >>> ((3:Int32) &&& 31)), none, none], [.int (x24 >>> ((3:Int32) &&& 31))], (H0 s p0))) rfl ?_
   have K73 : ∀ z72 : Int64, z72 = (if (x24 >>> ((3:Int32) &&& 31)) = (0:Int32) then x2 else (if (x24 >>> ((3:Int32) &&& 31)) = (1:Int32) then x4 else (if (x24 >>> ((3:Int32) &&& 31)) = (2:Int32) then x6 else x8))) → QTri l Z n0 ad 0 (517, [vR 0, vR 1, vL x2, none, vL x4, none, vL x6, none, vL x8, none, vL x10, none, vI x12, vI x13, vI x14, vI x15, vI x16, vI x17, vI x18, vI x19, vI x20, vI x21, vI x22, vI x23, vI x24, none, none, none, none], [.long z72], (H0 s p0)) u τ := by
    intro z72 ez72
    subst ez72
    refine zS Ad W 4 (st' := (524, [vR 0, vR 1, vL x2, none, vL x4, none, vL x6, none, vL x8, none, vL x10, none, vI x12, vI x13, vI x14, vI x15, vI x16, vI x17, vI x18, vI x19, vI x20, vI x21, vI x22, vI x23, vI x24, none, none, vL (if (x24 >>> ((3:Int32) &&& 31)) = (0:Int32) then x2 else (if (x24 >>> ((3:Int32) &&& 31)) = (1:Int32) then x4 else (if (x24 >>> ((3:Int32) &&& 31)) = (2:Int32) then x6 else x8))), none], [.int x22, .int x17, .ref 1], (H0 s p0))) rfl ?_
    obtain ⟨r83, hr83, h⟩ := bind_eq_some_iff.mp h
    refine QTri.callV W (a := 1) (as := [.int x17, .int x22]) (rest := []) (w := (some (.int r83))) (σ₁ := (H0 s p0)) rfl rfl rfl rfl rfl rfl rfl rfl (tF23 Ad W s p0 x17 x22 hr83) ?_
    refine zS Ad W 2 (st' := (531, [vR 0, vR 1, vL x2, none, vL x4, none, vL x6, none, vL x8, none, vL x10, none, vI x12, vI x13, vI x14, vI x15, vI x16, vI x17, vI x18, vI x19, vI x20, vI x21, vI x22, vI x23, vI x24, none, none, vL (if (x24 >>> ((3:Int32) &&& 31)) = (0:Int32) then x2 else (if (x24 >>> ((3:Int32) &&& 31)) = (1:Int32) then x4 else (if (x24 >>> ((3:Int32) &&& 31)) = (2:Int32) then x6 else x8))), none], [.int x24, .long (if (x24 >>> ((3:Int32) &&& 31)) = (0:Int32) then x2 else (if (x24 >>> ((3:Int32) &&& 31)) = (1:Int32) then x4 else (if (x24 >>> ((3:Int32) &&& 31)) = (2:Int32) then x6 else x8))), .int r83], (H0 s p0))) rfl ?_
    obtain ⟨r84, hr84, h⟩ := bind_eq_some_iff.mp h
    refine QTri.callS W (as := [.long (if (x24 >>> ((3:Int32) &&& 31)) = (0:Int32) then x2 else (if (x24 >>> ((3:Int32) &&& 31)) = (1:Int32) then x4 else (if (x24 >>> ((3:Int32) &&& 31)) = (2:Int32) then x6 else x8))), .int x24]) (rest := [.int r83]) (w := (some (.int r84))) (σ₁ := (H0 s p0)) rfl rfl rfl rfl rfl rfl rfl (tF24 Ad W (if (x24 >>> ((3:Int32) &&& 31)) = (0:Int32) then x2 else (if (x24 >>> ((3:Int32) &&& 31)) = (1:Int32) then x4 else (if (x24 >>> ((3:Int32) &&& 31)) = (2:Int32) then x6 else x8))) x24 hr84) ?_
    rcases qite h with ⟨hc85, h⟩ | ⟨hc85, h⟩
    ·refine zT Ad W (t := 539) (f := 537) rfl (XT.ii_eq_t hc85) ?_
     refine zS Ad W 2 (st' := (597, [vR 0, vR 1, vL x2, none, vL x4, none, vL x6, none, vL x8, none, vL x10, none, vI x12, vI x13, vI x14, vI x15, vI x16, vI x17, vI x18, vI x19, vI x20, vI x21, vI (x22 + (1:Int32)), vI x23, vI x24, none, none, vL (if (x24 >>> ((3:Int32) &&& 31)) = (0:Int32) then x2 else (if (x24 >>> ((3:Int32) &&& 31)) = (1:Int32) then x4 else (if (x24 >>> ((3:Int32) &&& 31)) = (2:Int32) then x6 else x8))), none], [], (H0 s p0))) rfl ?_
     exact zM [tt,tt,tt,ff,tt,ff,tt,ff,tt,ff,tt,ff,tt,tt,tt,tt,tt,tt,tt,tt,tt,tt,tt,tt,tt,ff,ff,ff,ff] (tJ0_597 Ad W s p0 x2 x4 x6 x8 x10 x12 x13 x14 x15 x16 x17 x18 x19 x20 x21 (x22 + (1:Int32)) x23 x24 h hx0 hx1 hx2 hc)
    ·refine zF Ad W (t := 539) (f := 537) rfl (XT.ii_eq_f hc85) ?_
     refine zS Ad W 1 (st' := (538, [vR 0, vR 1, vL x2, none, vL x4, none, vL x6, none, vL x8, none, vL x10, none, vI x12, vI x13, vI x14, vI x15, vI x16, vI x17, vI x18, vI x19, vI x20, vI x21, vI x22, vI x23, vI x24, none, none, vL (if (x24 >>> ((3:Int32) &&& 31)) = (0:Int32) then x2 else (if (x24 >>> ((3:Int32) &&& 31)) = (1:Int32) then x4 else (if (x24 >>> ((3:Int32) &&& 31)) = (2:Int32) then x6 else x8))), none], [.int (0:Int32)], (H0 s p0))) rfl ?_
     obtain rfl := Option.some.inj h
     obtain ⟨rfl, rfl⟩ := hx2 ((0:Int32), (H0 s p0)) rfl
     exact QTri.retZ rfl rfl
   rcases em ((x24 >>> ((3:Int32) &&& 31)) = (0:Int32)) with hc74 | hc74
   ·refine zF Ad W (t := 493) (f := 489) rfl (XT.i0_ne_f hc74) ?_
    refine zS Ad W 2 (st' := (517, [vR 0, vR 1, vL x2, none, vL x4, none, vL x6, none, vL x8, none, vL x10, none, vI x12, vI x13, vI x14, vI x15, vI x16, vI x17, vI x18, vI x19, vI x20, vI x21, vI x22, vI x23, vI x24, vI w0, vI (x24 >>> ((3:Int32) &&& 31)), none, none], [.long x2], (H0 s p0))) rfl ?_
    exact zM [tt,tt,tt,ff,tt,ff,tt,ff,tt,ff,tt,ff,tt,tt,tt,tt,tt,tt,tt,tt,tt,tt,tt,tt,tt,ff,ff,ff,ff] (K73 _ (if_pos hc74).symm)
   ·refine zT Ad W (t := 493) (f := 489) rfl (XT.i0_ne_t hc74) ?_
    refine zS Ad W 2 (st' := (496, [vR 0, vR 1, vL x2, none, vL x4, none, vL x6, none, vL x8, none, vL x10, none, vI x12, vI x13, vI x14, vI x15, vI x16, vI x17, vI x18, vI x19, vI x20, vI x21, vI x22, vI x23, vI x24, vI w0, vI (x24 >>> ((3:Int32) &&& 31)), none, none], [.int (1:Int32), .int (x24 >>> ((3:Int32) &&& 31))], (H0 s p0))) rfl ?_
    rcases em ((x24 >>> ((3:Int32) &&& 31)) = (1:Int32)) with hc75 | hc75
    ·refine zF Ad W (t := 504) (f := 499) rfl (XT.ii_ne_f hc75) ?_
     refine zS Ad W 2 (st' := (517, [vR 0, vR 1, vL x2, none, vL x4, none, vL x6, none, vL x8, none, vL x10, none, vI x12, vI x13, vI x14, vI x15, vI x16, vI x17, vI x18, vI x19, vI x20, vI x21, vI x22, vI x23, vI x24, vI w0, vI (x24 >>> ((3:Int32) &&& 31)), none, none], [.long x4], (H0 s p0))) rfl ?_
     exact zM [tt,tt,tt,ff,tt,ff,tt,ff,tt,ff,tt,ff,tt,tt,tt,tt,tt,tt,tt,tt,tt,tt,tt,tt,tt,ff,ff,ff,ff] (K73 _ ((if_neg hc74).trans (if_pos hc75)).symm)
    ·refine zT Ad W (t := 504) (f := 499) rfl (XT.ii_ne_t hc75) ?_
     refine zS Ad W 2 (st' := (507, [vR 0, vR 1, vL x2, none, vL x4, none, vL x6, none, vL x8, none, vL x10, none, vI x12, vI x13, vI x14, vI x15, vI x16, vI x17, vI x18, vI x19, vI x20, vI x21, vI x22, vI x23, vI x24, vI w0, vI (x24 >>> ((3:Int32) &&& 31)), none, none], [.int (2:Int32), .int (x24 >>> ((3:Int32) &&& 31))], (H0 s p0))) rfl ?_
     rcases em ((x24 >>> ((3:Int32) &&& 31)) = (2:Int32)) with hc76 | hc76
     ·refine zF Ad W (t := 515) (f := 510) rfl (XT.ii_ne_f hc76) ?_
      refine zS Ad W 2 (st' := (517, [vR 0, vR 1, vL x2, none, vL x4, none, vL x6, none, vL x8, none, vL x10, none, vI x12, vI x13, vI x14, vI x15, vI x16, vI x17, vI x18, vI x19, vI x20, vI x21, vI x22, vI x23, vI x24, vI w0, vI (x24 >>> ((3:Int32) &&& 31)), none, none], [.long x6], (H0 s p0))) rfl ?_
      exact zM [tt,tt,tt,ff,tt,ff,tt,ff,tt,ff,tt,ff,tt,tt,tt,tt,tt,tt,tt,tt,tt,tt,tt,tt,tt,ff,ff,ff,ff] (K73 _ ((if_neg hc74).trans ((if_neg hc75).trans (if_pos hc76))).symm)
     ·refine zT Ad W (t := 515) (f := 510) rfl (XT.ii_ne_t hc76) ?_
      refine zS Ad W 1 (st' := (517, [vR 0, vR 1, vL x2, none, vL x4, none, vL x6, none, vL x8, none, vL x10, none, vI x12, vI x13, vI x14, vI x15, vI x16, vI x17, vI x18, vI x19, vI x20, vI x21, vI x22, vI x23, vI x24, vI w0, vI (x24 >>> ((3:Int32) &&& 31)), none, none], [.long x8], (H0 s p0))) rfl ?_
      exact zM [tt,tt,tt,ff,tt,ff,tt,ff,tt,ff,tt,ff,tt,tt,tt,tt,tt,tt,tt,tt,tt,tt,tt,tt,tt,ff,ff,ff,ff] (K73 _ ((if_neg hc74).trans ((if_neg hc75).trans (if_neg hc76))).symm)
 ·refine zT Ad W (t := 545) (f := 464) rfl (XT.ii_ne_t hc70) ?_
  refine zS Ad W 2 (st' := (549, [vR 0, vR 1, vL x2, none, vL x4, none, vL x6, none, vL x8, none, vL x10, none, vI x12, vI x13, vI x14, vI x15, vI x16, vI x17, vI x18, vI x19, vI x20, vI x21, vI x22, vI x23, vI x24, vI w0, none, none, none], [.int x20, .int x23], (H0 s p0))) rfl ?_
  rcases qite h with ⟨hc86, h⟩ | ⟨hc86, h⟩
  ·refine zF Ad W (t := 563) (f := 552) rfl (XT.ii_ge_f hc86) ?_
   refine zS Ad W 3 (st' := (557, [vR 0, vR 1, vL x2, none, vL x4, none, vL x6, none, vL x8, none, vL x10, none, vI x12, vI x13, vI x14, vI x15, vI x16, vI x17, vI x18, vI x19, vI x20, vI x21, vI x22, vI x23, vI x24, vI w0, none, none, none], [.int x23, .int x17, .ref 1], (H0 s p0))) rfl ?_
   obtain ⟨r93, hr93, h⟩ := bind_eq_some_iff.mp h
   refine QTri.callV W (a := 1) (as := [.int x17, .int x23]) (rest := []) (w := (some (.int r93))) (σ₁ := (H0 s p0)) rfl rfl rfl rfl rfl rfl rfl rfl (tF37 Ad W s p0 x17 x23 hr93) ?_
   refine zS Ad W 1 (st' := (564, [vR 0, vR 1, vL x2, none, vL x4, none, vL x6, none, vL x8, none, vL x10, none, vI x12, vI x13, vI x14, vI x15, vI x16, vI x17, vI x18, vI x19, vI x20, vI x21, vI x22, vI x23, vI x24, vI w0, none, none, none], [.int r93], (H0 s p0))) rfl ?_
   exact zM [tt,tt,tt,ff,tt,ff,tt,ff,tt,ff,tt,ff,tt,tt,tt,tt,tt,tt,tt,tt,tt,tt,tt,tt,tt,ff,ff,ff,ff] (tJ0_564 Ad W s p0 x2 x4 x6 x8 x10 x12 x13 x14 x15 x16 x17 x18 x19 x20 x21 x22 x23 x24 r93 h hx0 hx1 hx2 hc)
  ·refine zT Ad W (t := 563) (f := 552) rfl (XT.ii_ge_t hc86) ?_
   refine zS Ad W 1 (st' := (564, [vR 0, vR 1, vL x2, none, vL x4, none, vL x6, none, vL x8, none, vL x10, none, vI x12, vI x13, vI x14, vI x15, vI x16, vI x17, vI x18, vI x19, vI x20, vI x21, vI x22, vI x23, vI x24, vI w0, none, none, none], [.int (-1:Int32)], (H0 s p0))) rfl ?_
   exact zM [tt,tt,tt,ff,tt,ff,tt,ff,tt,ff,tt,ff,tt,tt,tt,tt,tt,tt,tt,tt,tt,tt,tt,tt,tt,ff,ff,ff,ff] (tJ0_564 Ad W s p0 x2 x4 x6 x8 x10 x12 x13 x14 x15 x16 x17 x18 x19 x20 x21 x22 x23 x24 (-1:Int32) h hx0 hx1 hx2 hc)
def B0_419 (s : List Int32) (p0 : Ob) (x2 : Int64) (x4 : Int64) (x6 : Int64) (x8 : Int64) (x10 : Int64) (x12 : Int32) (x13 : Int32) (x14 : Int32) (x15 : Int32) (x16 : Int32) (x17 : Int32) (x18 : Int32) (x19 : Int32) (x20 : Int32) (x21 : Int32) (v : Int32 × Int32 × Int32) : Option (((Int32 × Int32) ⊕ (Int32 × Int32) ⊕ (Int32 × QHeap)) ⊕ (Int32 × Int32 × Int32)) :=
  (if v.2.2 < (32 : Int32) then (if v.2.2 < x18 then (if v.1 < x19 then (F22 p0 x17 v.1).bind fun r69 => (J0_455 s p0 x2 x4 x6 x8 x10 x12 x13 x14 x15 x16 x17 x18 x19 x20 x21 v.1 v.2.1 v.2.2 r69) else (J0_455 s p0 x2 x4 x6 x8 x10 x12 x13 x14 x15 x16 x17 x18 x19 x20 x21 v.1 v.2.1 v.2.2 (-1 : Int32))) else some (.inl (Sum.inl (v.1, v.2.1)))) else some (.inl (Sum.inr (Sum.inl (v.1, v.2.1)))))
theorem tB0_419 (Ad : QAd n0 ad) (W : QW Z a0) (s : List Int32) (p0 : Ob) (x2 : Int64) (x4 : Int64) (x6 : Int64) (x8 : Int64) (x10 : Int64) (x12 : Int32) (x13 : Int32) (x14 : Int32) (x15 : Int32) (x16 : Int32) (x17 : Int32) (x18 : Int32) (x19 : Int32) (x20 : Int32) (x21 : Int32) (v : Int32 × Int32 × Int32) {r : ((Int32 × Int32) ⊕ (Int32 × Int32) ⊕ (Int32 × QHeap)) ⊕ (Int32 × Int32 × Int32)} {u : Option Value} {τ : QHeap} (h : B0_419 s p0 x2 x4 x6 x8 x10 x12 x13 x14 x15 x16 x17 x18 x19 x20 x21 v = some r) (hx0 : ∀ x : Int32 × Int32, r = .inl (Sum.inl x) → QTri l Z n0 ad 0 (433, [vR 0, vR 1, vL x2, none, vL x4, none, vL x6, none, vL x8, none, vL x10, none, vI x12, vI x13, vI x14, vI x15, vI x16, vI x17, none, vI x19, vI x20, none, vI x.1, vI x.2, none, none, none, none, none], [], (H0 s p0)) u τ) (hx1 : ∀ x : Int32 × Int32, r = .inl (Sum.inr (Sum.inl x)) → QTri l Z n0 ad 0 (603, [vR 0, vR 1, vL x2, none, vL x4, none, vL x6, none, vL x8, none, vL x10, none, vI x12, vI x13, vI x14, vI x15, vI x16, vI x17, none, vI x19, vI x20, none, vI x.1, vI x.2, none, none, none, none, none], [], (H0 s p0)) u τ) (hx2 : ∀ x : Int32 × QHeap, r = .inl (Sum.inr (Sum.inr x)) → u = (some (Value.int x.1)) ∧ τ = x.2) (hc : ∀ x : Int32 × Int32 × Int32, r = .inr x → QTri l Z n0 ad 0 (419, [vR 0, vR 1, vL x2, none, vL x4, none, vL x6, none, vL x8, none, vL x10, none, vI x12, vI x13, vI x14, vI x15, vI x16, vI x17, vI x18, vI x19, vI x20, vI x21, vI x.1, vI x.2.1, vI x.2.2, none, none, none, none], [], (H0 s p0)) u τ) : QTri l Z n0 ad 0 (419, [vR 0, vR 1, vL x2, none, vL x4, none, vL x6, none, vL x8, none, vL x10, none, vI x12, vI x13, vI x14, vI x15, vI x16, vI x17, vI x18, vI x19, vI x20, vI x21, vI v.1, vI v.2.1, vI v.2.2, none, none, none, none], [], (H0 s p0)) u τ := by
 unfold B0_419 at h
 refine zS Ad W 2 (st' := (423, [vR 0, vR 1, vL x2, none, vL x4, none, vL x6, none, vL x8, none, vL x10, none, vI x12, vI x13, vI x14, vI x15, vI x16, vI x17, vI x18, vI x19, vI x20, vI x21, vI v.1, vI v.2.1, vI v.2.2, none, none, none, none], [.int (32:Int32), .int v.2.2], (H0 s p0))) rfl ?_
 rcases qite h with ⟨hc60, h⟩ | ⟨hc60, h⟩
 ·refine zF Ad W (t := 603) (f := 426) rfl (XT.ii_ge_f hc60) ?_
  refine zS Ad W 2 (st' := (430, [vR 0, vR 1, vL x2, none, vL x4, none, vL x6, none, vL x8, none, vL x10, none, vI x12, vI x13, vI x14, vI x15, vI x16, vI x17, vI x18, vI x19, vI x20, vI x21, vI v.1, vI v.2.1, vI v.2.2, none, none, none, none], [.int x18, .int v.2.2], (H0 s p0))) rfl ?_
  rcases qite h with ⟨hc61, h⟩ | ⟨hc61, h⟩
  ·refine zT Ad W (t := 436) (f := 433) rfl (XT.ii_lt_t hc61) ?_
   refine zS Ad W 2 (st' := (440, [vR 0, vR 1, vL x2, none, vL x4, none, vL x6, none, vL x8, none, vL x10, none, vI x12, vI x13, vI x14, vI x15, vI x16, vI x17, vI x18, vI x19, vI x20, vI x21, vI v.1, vI v.2.1, vI v.2.2, none, none, none, none], [.int x19, .int v.1], (H0 s p0))) rfl ?_
   rcases qite h with ⟨hc62, h⟩ | ⟨hc62, h⟩
   ·refine zF Ad W (t := 454) (f := 443) rfl (XT.ii_ge_f hc62) ?_
    refine zS Ad W 3 (st' := (448, [vR 0, vR 1, vL x2, none, vL x4, none, vL x6, none, vL x8, none, vL x10, none, vI x12, vI x13, vI x14, vI x15, vI x16, vI x17, vI x18, vI x19, vI x20, vI x21, vI v.1, vI v.2.1, vI v.2.2, none, none, none, none], [.int v.1, .int x17, .ref 1], (H0 s p0))) rfl ?_
    obtain ⟨r69, hr69, h⟩ := bind_eq_some_iff.mp h
    refine QTri.callV W (a := 1) (as := [.int x17, .int v.1]) (rest := []) (w := (some (.int r69))) (σ₁ := (H0 s p0)) rfl rfl rfl rfl rfl rfl rfl rfl (tF22 Ad W s p0 x17 v.1 hr69) ?_
    refine zS Ad W 1 (st' := (455, [vR 0, vR 1, vL x2, none, vL x4, none, vL x6, none, vL x8, none, vL x10, none, vI x12, vI x13, vI x14, vI x15, vI x16, vI x17, vI x18, vI x19, vI x20, vI x21, vI v.1, vI v.2.1, vI v.2.2, none, none, none, none], [.int r69], (H0 s p0))) rfl ?_
    exact zM [tt,tt,tt,ff,tt,ff,tt,ff,tt,ff,tt,ff,tt,tt,tt,tt,tt,tt,tt,tt,tt,tt,tt,tt,tt,ff,ff,ff,ff] (tJ0_455 Ad W s p0 x2 x4 x6 x8 x10 x12 x13 x14 x15 x16 x17 x18 x19 x20 x21 v.1 v.2.1 v.2.2 r69 h hx0 hx1 hx2 hc)
   ·refine zT Ad W (t := 454) (f := 443) rfl (XT.ii_ge_t hc62) ?_
    refine zS Ad W 1 (st' := (455, [vR 0, vR 1, vL x2, none, vL x4, none, vL x6, none, vL x8, none, vL x10, none, vI x12, vI x13, vI x14, vI x15, vI x16, vI x17, vI x18, vI x19, vI x20, vI x21, vI v.1, vI v.2.1, vI v.2.2, none, none, none, none], [.int (-1:Int32)], (H0 s p0))) rfl ?_
    exact zM [tt,tt,tt,ff,tt,ff,tt,ff,tt,ff,tt,ff,tt,tt,tt,tt,tt,tt,tt,tt,tt,tt,tt,tt,tt,ff,ff,ff,ff] (tJ0_455 Ad W s p0 x2 x4 x6 x8 x10 x12 x13 x14 x15 x16 x17 x18 x19 x20 x21 v.1 v.2.1 v.2.2 (-1:Int32) h hx0 hx1 hx2 hc)
  ·refine zF Ad W (t := 436) (f := 433) rfl (XT.ii_lt_f hc61) ?_
   obtain rfl := Option.some.inj h
   exact zM [tt,tt,tt,ff,tt,ff,tt,ff,tt,ff,tt,ff,tt,tt,tt,tt,tt,tt,ff,tt,tt,ff,tt,tt,ff,ff,ff,ff,ff] (hx0 (v.1, v.2.1) rfl)
 ·refine zT Ad W (t := 603) (f := 426) rfl (XT.ii_ge_t hc60) ?_
  obtain rfl := Option.some.inj h
  exact zM [tt,tt,tt,ff,tt,ff,tt,ff,tt,ff,tt,ff,tt,tt,tt,tt,tt,tt,ff,tt,tt,ff,tt,tt,ff,ff,ff,ff,ff] (hx1 (v.1, v.2.1) rfl)
def J0_603 (s : List Int32) (p0 : Ob) (x2 : Int64) (x4 : Int64) (x6 : Int64) (x8 : Int64) (x10 : Int64) (x12 : Int32) (x13 : Int32) (x14 : Int32) (x15 : Int32) (x16 : Int32) (x17 : Int32) (x19 : Int32) (x20 : Int32) (x22 : Int32) (x23 : Int32) : Option (((Unit) ⊕ (Int32 × QHeap)) ⊕ (Int32)) :=
  (if x22 = x19 then (if x23 = x20 then some (.inr (x17 + (1 : Int32))) else some (.inl (Sum.inr ((0 : Int32), (H0 s p0))))) else some (.inl (Sum.inr ((0 : Int32), (H0 s p0)))))
theorem tJ0_603 (Ad : QAd n0 ad) (W : QW Z a0) (s : List Int32) (p0 : Ob) (x2 : Int64) (x4 : Int64) (x6 : Int64) (x8 : Int64) (x10 : Int64) (x12 : Int32) (x13 : Int32) (x14 : Int32) (x15 : Int32) (x16 : Int32) (x17 : Int32) (x19 : Int32) (x20 : Int32) (x22 : Int32) (x23 : Int32) {r : ((Unit) ⊕ (Int32 × QHeap)) ⊕ (Int32)} {u : Option Value} {τ : QHeap} (h : J0_603 s p0 x2 x4 x6 x8 x10 x12 x13 x14 x15 x16 x17 x19 x20 x22 x23 = some r) (hx0 : ∀ x : Unit, r = .inl (Sum.inl x) → QTri l Z n0 ad 0 (625, [vR 0, vR 1, vL x2, none, vL x4, none, vL x6, none, vL x8, none, vL x10, none, vI x12, vI x13, vI x14, none, none, none, none, none, none, none, none, none, none, none, none, none, none], [], (H0 s p0)) u τ) (hx1 : ∀ x : Int32 × QHeap, r = .inl (Sum.inr x) → u = (some (Value.int x.1)) ∧ τ = x.2) (hc : ∀ x : Int32, r = .inr x → QTri l Z n0 ad 0 (330, [vR 0, vR 1, vL x2, none, vL x4, none, vL x6, none, vL x8, none, vL x10, none, vI x12, vI x13, vI x14, vI x15, vI x16, vI x, none, none, none, none, none, none, none, none, none, none, none], [], (H0 s p0)) u τ) : QTri l Z n0 ad 0 (603, [vR 0, vR 1, vL x2, none, vL x4, none, vL x6, none, vL x8, none, vL x10, none, vI x12, vI x13, vI x14, vI x15, vI x16, vI x17, none, vI x19, vI x20, none, vI x22, vI x23, none, none, none, none, none], [], (H0 s p0)) u τ := by
 unfold J0_603 at h
 refine zS Ad W 2 (st' := (607, [vR 0, vR 1, vL x2, none, vL x4, none, vL x6, none, vL x8, none, vL x10, none, vI x12, vI x13, vI x14, vI x15, vI x16, vI x17, none, vI x19, vI x20, none, vI x22, vI x23, none, none, none, none, none], [.int x19, .int x22], (H0 s p0))) rfl ?_
 rcases qite h with ⟨hc99, h⟩ | ⟨hc99, h⟩
 ·refine zF Ad W (t := 617) (f := 610) rfl (XT.ii_ne_f hc99) ?_
  refine zS Ad W 2 (st' := (614, [vR 0, vR 1, vL x2, none, vL x4, none, vL x6, none, vL x8, none, vL x10, none, vI x12, vI x13, vI x14, vI x15, vI x16, vI x17, none, vI x19, vI x20, none, vI x22, vI x23, none, none, none, none, none], [.int x20, .int x23], (H0 s p0))) rfl ?_
  rcases qite h with ⟨hc100, h⟩ | ⟨hc100, h⟩
  ·refine zT Ad W (t := 619) (f := 617) rfl (XT.ii_eq_t hc100) ?_
   refine zS Ad W 2 (st' := (330, [vR 0, vR 1, vL x2, none, vL x4, none, vL x6, none, vL x8, none, vL x10, none, vI x12, vI x13, vI x14, vI x15, vI x16, vI (x17 + (1:Int32)), none, vI x19, vI x20, none, vI x22, vI x23, none, none, none, none, none], [], (H0 s p0))) rfl ?_
   obtain rfl := Option.some.inj h
   exact zM [tt,tt,tt,ff,tt,ff,tt,ff,tt,ff,tt,ff,tt,tt,tt,tt,tt,tt,ff,ff,ff,ff,ff,ff,ff,ff,ff,ff,ff] (hc (x17 + (1:Int32)) rfl)
  ·refine zF Ad W (t := 619) (f := 617) rfl (XT.ii_eq_f hc100) ?_
   refine zS Ad W 1 (st' := (618, [vR 0, vR 1, vL x2, none, vL x4, none, vL x6, none, vL x8, none, vL x10, none, vI x12, vI x13, vI x14, vI x15, vI x16, vI x17, none, vI x19, vI x20, none, vI x22, vI x23, none, none, none, none, none], [.int (0:Int32)], (H0 s p0))) rfl ?_
   obtain rfl := Option.some.inj h
   obtain ⟨rfl, rfl⟩ := hx1 ((0:Int32), (H0 s p0)) rfl
   exact QTri.retZ rfl rfl
 ·refine zT Ad W (t := 617) (f := 610) rfl (XT.ii_ne_t hc99) ?_
  refine zS Ad W 1 (st' := (618, [vR 0, vR 1, vL x2, none, vL x4, none, vL x6, none, vL x8, none, vL x10, none, vI x12, vI x13, vI x14, vI x15, vI x16, vI x17, none, vI x19, vI x20, none, vI x22, vI x23, none, none, none, none, none], [.int (0:Int32)], (H0 s p0))) rfl ?_
  obtain rfl := Option.some.inj h
  obtain ⟨rfl, rfl⟩ := hx1 ((0:Int32), (H0 s p0)) rfl
  exact QTri.retZ rfl rfl
def B0_330 (s : List Int32) (p0 : Ob) (x2 : Int64) (x4 : Int64) (x6 : Int64) (x8 : Int64) (x10 : Int64) (x12 : Int32) (x13 : Int32) (x14 : Int32) (x15 : Int32) (x16 : Int32) (v : Int32) : Option (((Unit) ⊕ (Int32 × QHeap)) ⊕ (Int32)) :=
  (if v < (4 : Int32) then (F8 p0 v (0 : Int32)).bind fun r51 => (F8 p0 v (3 : Int32)).bind fun r52 => (F8 p0 v (4 : Int32)).bind fun r53 => (if r52 < (0 : Int32) then some (.inl (Sum.inr ((0 : Int32), (H0 s p0)))) else (if r53 < (0 : Int32) then some (.inl (Sum.inr ((0 : Int32), (H0 s p0)))) else (if (r52 + r53) = r51 then (if (x15 + (1 : Int32)) < r51 then some (.inl (Sum.inr ((0 : Int32), (H0 s p0)))) else (if (32 : Int32) < r51 then some (.inl (Sum.inr ((0 : Int32), (H0 s p0)))) else (F8 p0 v (2 : Int32)).bind fun r59 => ((loopN (B0_419 s p0 x2 x4 x6 x8 x10 x12 x13 x14 x15 x16 v r51 r52 r53 r59) qN ((0 : Int32), (0 : Int32), (0 : Int32))).bind fun e97 => match e97 with | .inl e97a => (J0_603 s p0 x2 x4 x6 x8 x10 x12 x13 x14 x15 x16 v r52 r53 e97a.1 e97a.2) | .inr (.inl e97a) => (J0_603 s p0 x2 x4 x6 x8 x10 x12 x13 x14 x15 x16 v r52 r53 e97a.1 e97a.2) | .inr (.inr e97a) => some (.inl (Sum.inr e97a))))) else some (.inl (Sum.inr ((0 : Int32), (H0 s p0))))))) else some (.inl (Sum.inl ())))
theorem tB0_330 (Ad : QAd n0 ad) (W : QW Z a0) (s : List Int32) (p0 : Ob) (x2 : Int64) (x4 : Int64) (x6 : Int64) (x8 : Int64) (x10 : Int64) (x12 : Int32) (x13 : Int32) (x14 : Int32) (x15 : Int32) (x16 : Int32) (v : Int32) {r : ((Unit) ⊕ (Int32 × QHeap)) ⊕ (Int32)} {u : Option Value} {τ : QHeap} (h : B0_330 s p0 x2 x4 x6 x8 x10 x12 x13 x14 x15 x16 v = some r) (hx0 : ∀ x : Unit, r = .inl (Sum.inl x) → QTri l Z n0 ad 0 (625, [vR 0, vR 1, vL x2, none, vL x4, none, vL x6, none, vL x8, none, vL x10, none, vI x12, vI x13, vI x14, none, none, none, none, none, none, none, none, none, none, none, none, none, none], [], (H0 s p0)) u τ) (hx1 : ∀ x : Int32 × QHeap, r = .inl (Sum.inr x) → u = (some (Value.int x.1)) ∧ τ = x.2) (hc : ∀ x : Int32, r = .inr x → QTri l Z n0 ad 0 (330, [vR 0, vR 1, vL x2, none, vL x4, none, vL x6, none, vL x8, none, vL x10, none, vI x12, vI x13, vI x14, vI x15, vI x16, vI x, none, none, none, none, none, none, none, none, none, none, none], [], (H0 s p0)) u τ) : QTri l Z n0 ad 0 (330, [vR 0, vR 1, vL x2, none, vL x4, none, vL x6, none, vL x8, none, vL x10, none, vI x12, vI x13, vI x14, vI x15, vI x16, vI v, none, none, none, none, none, none, none, none, none, none, none], [], (H0 s p0)) u τ := by
 unfold B0_330 at h
 refine zS Ad W 2 (st' := (333, [vR 0, vR 1, vL x2, none, vL x4, none, vL x6, none, vL x8, none, vL x10, none, vI x12, vI x13, vI x14, vI x15, vI x16, vI v, none, none, none, none, none, none, none, none, none, none, none], [.int (4:Int32), .int v], (H0 s p0))) rfl ?_
 rcases qite h with ⟨hc30, h⟩ | ⟨hc30, h⟩
 ·refine zF Ad W (t := 625) (f := 336) rfl (XT.ii_ge_f hc30) ?_
  refine zS Ad W 3 (st' := (340, [vR 0, vR 1, vL x2, none, vL x4, none, vL x6, none, vL x8, none, vL x10, none, vI x12, vI x13, vI x14, vI x15, vI x16, vI v, none, none, none, none, none, none, none, none, none, none, none], [.int (0:Int32), .int v, .ref 1], (H0 s p0))) rfl ?_
  obtain ⟨r51, hr51, h⟩ := bind_eq_some_iff.mp h
  refine QTri.callV W (a := 1) (as := [.int v, .int (0:Int32)]) (rest := []) (w := (some (.int r51))) (σ₁ := (H0 s p0)) rfl rfl rfl rfl rfl rfl rfl rfl (tF8 Ad W s p0 v (0:Int32) hr51) ?_
  refine zS Ad W 4 (st' := (349, [vR 0, vR 1, vL x2, none, vL x4, none, vL x6, none, vL x8, none, vL x10, none, vI x12, vI x13, vI x14, vI x15, vI x16, vI v, vI r51, none, none, none, none, none, none, none, none, none, none], [.int (3:Int32), .int v, .ref 1], (H0 s p0))) rfl ?_
  obtain ⟨r52, hr52, h⟩ := bind_eq_some_iff.mp h
  refine QTri.callV W (a := 1) (as := [.int v, .int (3:Int32)]) (rest := []) (w := (some (.int r52))) (σ₁ := (H0 s p0)) rfl rfl rfl rfl rfl rfl rfl rfl (tF8 Ad W s p0 v (3:Int32) hr52) ?_
  refine zS Ad W 4 (st' := (358, [vR 0, vR 1, vL x2, none, vL x4, none, vL x6, none, vL x8, none, vL x10, none, vI x12, vI x13, vI x14, vI x15, vI x16, vI v, vI r51, vI r52, none, none, none, none, none, none, none, none, none], [.int (4:Int32), .int v, .ref 1], (H0 s p0))) rfl ?_
  obtain ⟨r53, hr53, h⟩ := bind_eq_some_iff.mp h
  refine QTri.callV W (a := 1) (as := [.int v, .int (4:Int32)]) (rest := []) (w := (some (.int r53))) (σ₁ := (H0 s p0)) rfl rfl rfl rfl rfl rfl rfl rfl (tF8 Ad W s p0 v (4:Int32) hr53) ?_
  refine zS Ad W 2 (st' := (365, [vR 0, vR 1, vL x2, none, vL x4, none, vL x6, none, vL x8, none, vL x10, none, vI x12, vI x13, vI x14, vI x15, vI x16, vI v, vI r51, vI r52, vI r53, none, none, none, none, none, none, none, none], [.int r52], (H0 s p0))) rfl ?_
  rcases qite h with ⟨hc54, h⟩ | ⟨hc54, h⟩
  ·refine zT Ad W (t := 399) (f := 368) rfl (XT.i0_lt_t hc54) ?_
   refine zS Ad W 1 (st' := (400, [vR 0, vR 1, vL x2, none, vL x4, none, vL x6, none, vL x8, none, vL x10, none, vI x12, vI x13, vI x14, vI x15, vI x16, vI v, vI r51, vI r52, vI r53, none, none, none, none, none, none, none, none], [.int (0:Int32)], (H0 s p0))) rfl ?_
   obtain rfl := Option.some.inj h
   obtain ⟨rfl, rfl⟩ := hx1 ((0:Int32), (H0 s p0)) rfl
   exact QTri.retZ rfl rfl
  ·refine zF Ad W (t := 399) (f := 368) rfl (XT.i0_lt_f hc54) ?_
   refine zS Ad W 1 (st' := (370, [vR 0, vR 1, vL x2, none, vL x4, none, vL x6, none, vL x8, none, vL x10, none, vI x12, vI x13, vI x14, vI x15, vI x16, vI v, vI r51, vI r52, vI r53, none, none, none, none, none, none, none, none], [.int r53], (H0 s p0))) rfl ?_
   rcases qite h with ⟨hc55, h⟩ | ⟨hc55, h⟩
   ·refine zT Ad W (t := 399) (f := 373) rfl (XT.i0_lt_t hc55) ?_
    refine zS Ad W 1 (st' := (400, [vR 0, vR 1, vL x2, none, vL x4, none, vL x6, none, vL x8, none, vL x10, none, vI x12, vI x13, vI x14, vI x15, vI x16, vI v, vI r51, vI r52, vI r53, none, none, none, none, none, none, none, none], [.int (0:Int32)], (H0 s p0))) rfl ?_
    obtain rfl := Option.some.inj h
    obtain ⟨rfl, rfl⟩ := hx1 ((0:Int32), (H0 s p0)) rfl
    exact QTri.retZ rfl rfl
   ·refine zF Ad W (t := 399) (f := 373) rfl (XT.i0_lt_f hc55) ?_
    refine zS Ad W 4 (st' := (380, [vR 0, vR 1, vL x2, none, vL x4, none, vL x6, none, vL x8, none, vL x10, none, vI x12, vI x13, vI x14, vI x15, vI x16, vI v, vI r51, vI r52, vI r53, none, none, none, none, none, none, none, none], [.int r51, .int (r52 + r53)], (H0 s p0))) rfl ?_
    rcases qite h with ⟨hc56, h⟩ | ⟨hc56, h⟩
    ·refine zF Ad W (t := 399) (f := 383) rfl (XT.ii_ne_f hc56) ?_
     refine zS Ad W 4 (st' := (389, [vR 0, vR 1, vL x2, none, vL x4, none, vL x6, none, vL x8, none, vL x10, none, vI x12, vI x13, vI x14, vI x15, vI x16, vI v, vI r51, vI r52, vI r53, none, none, none, none, none, none, none, none], [.int (x15 + (1:Int32)), .int r51], (H0 s p0))) rfl ?_
     rcases qite h with ⟨hc57, h⟩ | ⟨hc57, h⟩
     ·refine zT Ad W (t := 399) (f := 392) rfl (XT.ii_gt_t hc57) ?_
      refine zS Ad W 1 (st' := (400, [vR 0, vR 1, vL x2, none, vL x4, none, vL x6, none, vL x8, none, vL x10, none, vI x12, vI x13, vI x14, vI x15, vI x16, vI v, vI r51, vI r52, vI r53, none, none, none, none, none, none, none, none], [.int (0:Int32)], (H0 s p0))) rfl ?_
      obtain rfl := Option.some.inj h
      obtain ⟨rfl, rfl⟩ := hx1 ((0:Int32), (H0 s p0)) rfl
      exact QTri.retZ rfl rfl
     ·refine zF Ad W (t := 399) (f := 392) rfl (XT.ii_gt_f hc57) ?_
      refine zS Ad W 2 (st' := (396, [vR 0, vR 1, vL x2, none, vL x4, none, vL x6, none, vL x8, none, vL x10, none, vI x12, vI x13, vI x14, vI x15, vI x16, vI v, vI r51, vI r52, vI r53, none, none, none, none, none, none, none, none], [.int (32:Int32), .int r51], (H0 s p0))) rfl ?_
      rcases qite h with ⟨hc58, h⟩ | ⟨hc58, h⟩
      ·refine zF Ad W (t := 401) (f := 399) rfl (XT.ii_le_f hc58) ?_
       refine zS Ad W 1 (st' := (400, [vR 0, vR 1, vL x2, none, vL x4, none, vL x6, none, vL x8, none, vL x10, none, vI x12, vI x13, vI x14, vI x15, vI x16, vI v, vI r51, vI r52, vI r53, none, none, none, none, none, none, none, none], [.int (0:Int32)], (H0 s p0))) rfl ?_
       obtain rfl := Option.some.inj h
       obtain ⟨rfl, rfl⟩ := hx1 ((0:Int32), (H0 s p0)) rfl
       exact QTri.retZ rfl rfl
      ·refine zT Ad W (t := 401) (f := 399) rfl (XT.ii_le_t hc58) ?_
       refine zS Ad W 3 (st' := (405, [vR 0, vR 1, vL x2, none, vL x4, none, vL x6, none, vL x8, none, vL x10, none, vI x12, vI x13, vI x14, vI x15, vI x16, vI v, vI r51, vI r52, vI r53, none, none, none, none, none, none, none, none], [.int (2:Int32), .int v, .ref 1], (H0 s p0))) rfl ?_
       obtain ⟨r59, hr59, h⟩ := bind_eq_some_iff.mp h
       refine QTri.callV W (a := 1) (as := [.int v, .int (2:Int32)]) (rest := []) (w := (some (.int r59))) (σ₁ := (H0 s p0)) rfl rfl rfl rfl rfl rfl rfl rfl (tF8 Ad W s p0 v (2:Int32) hr59) ?_
       refine zS Ad W 3 (st' := (413, [vR 0, vR 1, vL x2, none, vL x4, none, vL x6, none, vL x8, none, vL x10, none, vI x12, vI x13, vI x14, vI x15, vI x16, vI v, vI r51, vI r52, vI r53, vI r59, vI (0:Int32), none, none, none, none, none, none], [], (H0 s p0))) rfl ?_
       refine zS Ad W 4 (st' := (419, [vR 0, vR 1, vL x2, none, vL x4, none, vL x6, none, vL x8, none, vL x10, none, vI x12, vI x13, vI x14, vI x15, vI x16, vI v, vI r51, vI r52, vI r53, vI r59, vI (0:Int32), vI (0:Int32), vI (0:Int32), none, none, none, none], [], (H0 s p0))) rfl ?_
       obtain ⟨e97, he97, h⟩ := bind_eq_some_iff.mp h
       refine zM [tt,tt,tt,ff,tt,ff,tt,ff,tt,ff,tt,ff,tt,tt,tt,tt,tt,tt,tt,tt,tt,tt,tt,tt,tt,ff,ff,ff,ff] (loopN_tri (B := B0_419 s p0 x2 x4 x6 x8 x10 x12 x13 x14 x15 x16 v r51 r52 r53 r59) (T := fun lv98 => QTri l Z n0 ad 0 (419, [vR 0, vR 1, vL x2, none, vL x4, none, vL x6, none, vL x8, none, vL x10, none, vI x12, vI x13, vI x14, vI x15, vI x16, vI v, vI r51, vI r52, vI r53, vI r59, vI lv98.1, vI lv98.2.1, vI lv98.2.2, none, none, none, none], [], (H0 s p0)) u τ) (KE := fun e => match e with | .inl e97a => QTri l Z n0 ad 0 (433, [vR 0, vR 1, vL x2, none, vL x4, none, vL x6, none, vL x8, none, vL x10, none, vI x12, vI x13, vI x14, vI x15, vI x16, vI v, none, vI r52, vI r53, none, vI e97a.1, vI e97a.2, none, none, none, none, none], [], (H0 s p0)) u τ | .inr (.inl e97a) => QTri l Z n0 ad 0 (603, [vR 0, vR 1, vL x2, none, vL x4, none, vL x6, none, vL x8, none, vL x10, none, vI x12, vI x13, vI x14, vI x15, vI x16, vI v, none, vI r52, vI r53, none, vI e97a.1, vI e97a.2, none, none, none, none, none], [], (H0 s p0)) u τ | .inr (.inr e97a) => u = (some (Value.int e97a.1)) ∧ τ = e97a.2) (fun lv98 r hB hE hC => tB0_419 Ad W s p0 x2 x4 x6 x8 x10 x12 x13 x14 x15 x16 v r51 r52 r53 r59 lv98 hB (fun x q => hE _ q) (fun x q => hE _ q) (fun x q => hE _ q) (fun x q => hC x q)) qN ((0:Int32), (0:Int32), (0:Int32)) e97 he97 ?_)
       rcases e97 with e97a | e97a | e97a
       ·refine zS Ad W 1 (st' := (603, [vR 0, vR 1, vL x2, none, vL x4, none, vL x6, none, vL x8, none, vL x10, none, vI x12, vI x13, vI x14, vI x15, vI x16, vI v, none, vI r52, vI r53, none, vI e97a.1, vI e97a.2, none, none, none, none, none], [], (H0 s p0))) rfl ?_
        exact zM [tt,tt,tt,ff,tt,ff,tt,ff,tt,ff,tt,ff,tt,tt,tt,tt,tt,tt,ff,tt,tt,ff,tt,tt,ff,ff,ff,ff,ff] (tJ0_603 Ad W s p0 x2 x4 x6 x8 x10 x12 x13 x14 x15 x16 v r52 r53 e97a.1 e97a.2 h hx0 hx1 hc)
       ·exact zM [tt,tt,tt,ff,tt,ff,tt,ff,tt,ff,tt,ff,tt,tt,tt,tt,tt,tt,ff,tt,tt,ff,tt,tt,ff,ff,ff,ff,ff] (tJ0_603 Ad W s p0 x2 x4 x6 x8 x10 x12 x13 x14 x15 x16 v r52 r53 e97a.1 e97a.2 h hx0 hx1 hc)
       ·obtain rfl := Option.some.inj h
        exact hx1 e97a rfl
    ·refine zT Ad W (t := 399) (f := 383) rfl (XT.ii_ne_t hc56) ?_
     refine zS Ad W 1 (st' := (400, [vR 0, vR 1, vL x2, none, vL x4, none, vL x6, none, vL x8, none, vL x10, none, vI x12, vI x13, vI x14, vI x15, vI x16, vI v, vI r51, vI r52, vI r53, none, none, none, none, none, none, none, none], [.int (0:Int32)], (H0 s p0))) rfl ?_
     obtain rfl := Option.some.inj h
     obtain ⟨rfl, rfl⟩ := hx1 ((0:Int32), (H0 s p0)) rfl
     exact QTri.retZ rfl rfl
 ·refine zT Ad W (t := 625) (f := 336) rfl (XT.ii_ge_t hc30) ?_
  obtain rfl := Option.some.inj h
  exact zM [tt,tt,tt,ff,tt,ff,tt,ff,tt,ff,tt,ff,tt,tt,tt,ff,ff,ff,ff,ff,ff,ff,ff,ff,ff,ff,ff,ff,ff] (hx0 () rfl)
def J0_315 (s : List Int32) (p0 : Ob) (x2 : Int64) (x4 : Int64) (x6 : Int64) (x8 : Int64) (x10 : Int64) (x12 : Int32) (x13 : Int32) (x14 : Int32) : Option (((Int32 × QHeap)) ⊕ (Int64 × Int64 × Int64 × Int64 × Int64 × Int32 × Ob)) :=
  (F4 p0).bind fun r26 => (F6 p0).bind fun r29 => ((loopN (B0_330 s p0 x2 x4 x6 x8 x10 x12 x13 x14 r26 r29) qN (0 : Int32)).bind fun e101 => match e101 with | .inl e101a => some (.inr (x2, x4, x6, x8, x10, (x14 + (1 : Int32)), p0)) | .inr e101a => some (.inl e101a))
theorem tJ0_315 (Ad : QAd n0 ad) (W : QW Z a0) (s : List Int32) (p0 : Ob) (x2 : Int64) (x4 : Int64) (x6 : Int64) (x8 : Int64) (x10 : Int64) (x12 : Int32) (x13 : Int32) (x14 : Int32) {r : ((Int32 × QHeap)) ⊕ (Int64 × Int64 × Int64 × Int64 × Int64 × Int32 × Ob)} {u : Option Value} {τ : QHeap} (h : J0_315 s p0 x2 x4 x6 x8 x10 x12 x13 x14 = some r) (hx0 : ∀ x : Int32 × QHeap, r = .inl x → u = (some (Value.int x.1)) ∧ τ = x.2) (hc : ∀ x : Int64 × Int64 × Int64 × Int64 × Int64 × Int32 × Ob, r = .inr x → QTri l Z n0 ad 0 (90, [vR 0, vR 1, vL x.1, none, vL x.2.1, none, vL x.2.2.1, none, vL x.2.2.2.1, none, vL x.2.2.2.2.1, none, vI x12, vI x13, vI x.2.2.2.2.2.1, none, none, none, none, none, none, none, none, none, none, none, none, none, none], [], (H0 s x.2.2.2.2.2.2)) u τ) : QTri l Z n0 ad 0 (315, [vR 0, vR 1, vL x2, none, vL x4, none, vL x6, none, vL x8, none, vL x10, none, vI x12, vI x13, vI x14, none, none, none, none, none, none, none, none, none, none, none, none, none, none], [], (H0 s p0)) u τ := by
 unfold J0_315 at h
 refine zS Ad W 1 (st' := (316, [vR 0, vR 1, vL x2, none, vL x4, none, vL x6, none, vL x8, none, vL x10, none, vI x12, vI x13, vI x14, none, none, none, none, none, none, none, none, none, none, none, none, none, none], [.ref 1], (H0 s p0))) rfl ?_
 obtain ⟨r26, hr26, h⟩ := bind_eq_some_iff.mp h
 refine QTri.callV W (a := 1) (as := []) (rest := []) (w := (some (.int r26))) (σ₁ := (H0 s p0)) rfl rfl rfl rfl rfl rfl rfl rfl (tF4 Ad W s p0 hr26) ?_
 refine zS Ad W 2 (st' := (322, [vR 0, vR 1, vL x2, none, vL x4, none, vL x6, none, vL x8, none, vL x10, none, vI x12, vI x13, vI x14, vI r26, none, none, none, none, none, none, none, none, none, none, none, none, none], [.ref 1], (H0 s p0))) rfl ?_
 obtain ⟨r29, hr29, h⟩ := bind_eq_some_iff.mp h
 refine QTri.callV W (a := 1) (as := []) (rest := []) (w := (some (.int r29))) (σ₁ := (H0 s p0)) rfl rfl rfl rfl rfl rfl rfl rfl (tF6 Ad W s p0 hr29) ?_
 refine zS Ad W 3 (st' := (330, [vR 0, vR 1, vL x2, none, vL x4, none, vL x6, none, vL x8, none, vL x10, none, vI x12, vI x13, vI x14, vI r26, vI r29, vI (0:Int32), none, none, none, none, none, none, none, none, none, none, none], [], (H0 s p0))) rfl ?_
 obtain ⟨e101, he101, h⟩ := bind_eq_some_iff.mp h
 refine zM [tt,tt,tt,ff,tt,ff,tt,ff,tt,ff,tt,ff,tt,tt,tt,tt,tt,tt,ff,ff,ff,ff,ff,ff,ff,ff,ff,ff,ff] (loopN_tri (B := B0_330 s p0 x2 x4 x6 x8 x10 x12 x13 x14 r26 r29) (T := fun lv102 => QTri l Z n0 ad 0 (330, [vR 0, vR 1, vL x2, none, vL x4, none, vL x6, none, vL x8, none, vL x10, none, vI x12, vI x13, vI x14, vI r26, vI r29, vI lv102, none, none, none, none, none, none, none, none, none, none, none], [], (H0 s p0)) u τ) (KE := fun e => match e with | .inl e101a => QTri l Z n0 ad 0 (625, [vR 0, vR 1, vL x2, none, vL x4, none, vL x6, none, vL x8, none, vL x10, none, vI x12, vI x13, vI x14, none, none, none, none, none, none, none, none, none, none, none, none, none, none], [], (H0 s p0)) u τ | .inr e101a => u = (some (Value.int e101a.1)) ∧ τ = e101a.2) (fun lv102 r hB hE hC => tB0_330 Ad W s p0 x2 x4 x6 x8 x10 x12 x13 x14 r26 r29 lv102 hB (fun x q => hE _ q) (fun x q => hE _ q) (fun x q => hC x q)) qN (0:Int32) e101 he101 ?_)
 rcases e101 with e101a | e101a
 ·refine zS Ad W 2 (st' := (90, [vR 0, vR 1, vL x2, none, vL x4, none, vL x6, none, vL x8, none, vL x10, none, vI x12, vI x13, vI (x14 + (1:Int32)), none, none, none, none, none, none, none, none, none, none, none, none, none, none], [], (H0 s p0))) rfl ?_
  obtain rfl := Option.some.inj h
  exact zM [tt,tt,tt,ff,tt,ff,tt,ff,tt,ff,tt,ff,tt,tt,tt,ff,ff,ff,ff,ff,ff,ff,ff,ff,ff,ff,ff,ff,ff] (hc (x2, x4, x6, x8, x10, (x14 + (1:Int32)), p0) rfl)
 ·obtain rfl := Option.some.inj h
  exact hx0 e101a rfl
def H0x6 (s : List Int32) (o0 : Ob) (a0_3 : List Int32) : QHeap := H0v s (f_srcPayload o0) (f_pend o0) (f_queue o0) a0_3 (f_state o0) (f_timer o0) (f_rxVal o0) (f_rxNext o0) (f_rxLead o0) (f_rxTrail o0) (f_lossLeft o0) (f_dups o0) (f_drops o0) (f_delSeq o0) (f_delVal o0) (f_delLen o0) (f_lostLog o0) (f_lostLen o0) (f_nakBuf o0) (f_win o0) (f_back o0) (f_repair o0) (f_period o0) (f_nextSeq o0) (f_qLen o0) (f_nakLen o0)
/-- validSeq(I)Z -/
def F19 (x1 : Int32) : Option (Int32) :=
 (if x1 < (0:Int32) then some (0:Int32) else (if x1 < (32:Int32) then some (1:Int32) else some (0:Int32)))
theorem tF19 (Ad : QAd n0 ad) (W : QW Z a0) {a : Nat} {σ : QHeap} (x1 : Int32) {r : Int32} (h : F19 x1 = some r) : QTri l Z n0 ad 19 (0, qentry [.ref a, .int x1] (pMaxL 19), [], σ) (some (Value.int r)) σ := by
 unfold F19 at h
 refine zS Ad W 1 (st' := (1, [vR a, vI x1], [.int x1], σ)) rfl ?_
 rcases qite h with ⟨hc117, h⟩ | ⟨hc117, h⟩
 ·refine zT Ad W (t := 14) (f := 4) rfl (XT.i0_lt_t hc117) ?_
  refine zS Ad W 1 (st' := (15, [vR a, vI x1], [.int (0:Int32)], σ)) rfl ?_
  obtain rfl := Option.some.inj h
  exact QTri.retZ rfl rfl
 ·refine zF Ad W (t := 14) (f := 4) rfl (XT.i0_lt_f hc117) ?_
  refine zS Ad W 2 (st' := (7, [vR a, vI x1], [.int (32:Int32), .int x1], σ)) rfl ?_
  rcases qite h with ⟨hc118, h⟩ | ⟨hc118, h⟩
  ·refine zF Ad W (t := 14) (f := 10) rfl (XT.ii_ge_f hc118) ?_
   refine zS Ad W 2 (st' := (15, [vR a, vI x1], [.int (1:Int32)], σ)) rfl ?_
   obtain rfl := Option.some.inj h
   exact QTri.retZ rfl rfl
  ·refine zT Ad W (t := 14) (f := 10) rfl (XT.ii_ge_t hc118) ?_
   refine zS Ad W 1 (st' := (15, [vR a, vI x1], [.int (0:Int32)], σ)) rfl ?_
   obtain rfl := Option.some.inj h
   exact QTri.retZ rfl rfl
def H0x7 (s : List Int32) (o0 : Ob) (a0_1 : List Int32) : QHeap := H0v s (f_srcPayload o0) a0_1 (f_queue o0) (f_stats o0) (f_state o0) (f_timer o0) (f_rxVal o0) (f_rxNext o0) (f_rxLead o0) (f_rxTrail o0) (f_lossLeft o0) (f_dups o0) (f_drops o0) (f_delSeq o0) (f_delVal o0) (f_delLen o0) (f_lostLog o0) (f_lostLen o0) (f_nakBuf o0) (f_win o0) (f_back o0) (f_repair o0) (f_period o0) (f_nextSeq o0) (f_qLen o0) (f_nakLen o0)
def B12_23 (x3 : Int32) (v : Int32 × Ob) : Option (((Ob)) ⊕ (Int32 × Ob)) :=
  (if v.1 < x3 then (if v.1 < (32 : Int32) then (aset (f_pend v.2) v.1 (0 : Int32)).bind fun y123 => some (.inr ((v.1 + (1 : Int32)), (s_pend v.2 y123))) else some (.inl v.2)) else some (.inl v.2))
theorem tB12_23 (Ad : QAd n0 ad) (W : QW Z a0) (s : List Int32) (x3 : Int32) (v : Int32 × Ob) {r : ((Ob)) ⊕ (Int32 × Ob)} {u : Option Value} {τ : QHeap} (h : B12_23 x3 v = some r) (hx0 : ∀ x : Ob, r = .inl x → u = (none : Option Value) ∧ τ = (H0 s x)) (hc : ∀ x : Int32 × Ob, r = .inr x → QTri l Z n0 ad 12 (23, [vR 1, none, none, vI x3, vI x.1], [], (H0 s x.2)) u τ) : QTri l Z n0 ad 12 (23, [vR 1, none, none, vI x3, vI v.1], [], (H0 s v.2)) u τ := by
 unfold B12_23 at h
 refine zS Ad W 2 (st' := (26, [vR 1, none, none, vI x3, vI v.1], [.int x3, .int v.1], (H0 s v.2))) rfl ?_
 rcases qite h with ⟨hc121, h⟩ | ⟨hc121, h⟩
 ·refine zF Ad W (t := 50) (f := 29) rfl (XT.ii_ge_f hc121) ?_
  refine zS Ad W 2 (st' := (33, [vR 1, none, none, vI x3, vI v.1], [.int (32:Int32), .int v.1], (H0 s v.2))) rfl ?_
  rcases qite h with ⟨hc122, h⟩ | ⟨hc122, h⟩
  ·refine zF Ad W (t := 50) (f := 36) rfl (XT.ii_ge_f hc122) ?_
   refine zS Ad W 4 (st' := (43, [vR 1, none, none, vI x3, vI v.1], [.int (0:Int32), .int v.1, .ref 3], (H0 s v.2))) rfl ?_
   obtain ⟨y123, hy123, h⟩ := bind_eq_some_iff.mp h
   refine zB Ad W (f := fun y123 => (44, [vR 1, none, none, vI x3, vI v.1], [], (H0x7 s v.2 y123))) rfl hy123 ?_
   refine zS Ad W 2 (st' := (23, [vR 1, none, none, vI x3, vI (v.1 + (1:Int32))], [], (H0x7 s v.2 y123))) rfl ?_
   have E124 : ((H0x7 s v.2 y123) : QHeap) = (H0 s (s_pend v.2 y123)) := by simp only [fs, H0, H0v, H0x7, s_pend]
   rw [E124]
   obtain rfl := Option.some.inj h
   exact zM [tt,ff,ff,tt,tt] (hc ((v.1 + (1:Int32)), (s_pend v.2 y123)) rfl)
  ·refine zT Ad W (t := 50) (f := 36) rfl (XT.ii_ge_t hc122) ?_
   obtain rfl := Option.some.inj h
   obtain ⟨rfl, rfl⟩ := hx0 v.2 rfl
   exact QTri.ret0 rfl rfl
 ·refine zT Ad W (t := 50) (f := 29) rfl (XT.ii_ge_t hc121) ?_
  obtain rfl := Option.some.inj h
  obtain ⟨rfl, rfl⟩ := hx0 v.2 rfl
  exact QTri.ret0 rfl rfl
def J12_20 (o : Ob) (x3 : Int32) : Option (Ob) :=
  (loopN (B12_23 x3) qN ((0 : Int32), o)).bind fun e125 => some e125
theorem tJ12_20 (Ad : QAd n0 ad) (W : QW Z a0) (s : List Int32) (o : Ob) (x3 : Int32) {r : Ob} (h : J12_20 o x3 = some r) : QTri l Z n0 ad 12 (20, [vR 1, none, none, vI x3, none], [], (H0 s o)) (none : Option Value) (H0 s r) := by
 unfold J12_20 at h
 refine zS Ad W 2 (st' := (23, [vR 1, none, none, vI x3, vI (0:Int32)], [], (H0 s o))) rfl ?_
 obtain ⟨e125, he125, h⟩ := bind_eq_some_iff.mp h
 refine zM [tt,ff,ff,tt,tt] (loopN_tri (B := B12_23 x3) (T := fun lv126 => QTri l Z n0 ad 12 (23, [vR 1, none, none, vI x3, vI lv126.1], [], (H0 s lv126.2)) (none : Option Value) (H0 s r)) (KE := fun e125a => (none : Option Value) = (none : Option Value) ∧ (H0 s r) = (H0 s e125a)) (fun lv126 r hB hE hC => tB12_23 Ad W s x3 lv126 hB (fun x q => hE _ q) (fun x q => hC x q)) qN ((0:Int32), o) e125 he125 ?_)
 obtain rfl := Option.some.inj h
 exact ⟨rfl, rfl⟩
/-- aggregatorApply(III)V -/
def F12 (o : Ob) (x1 : Int32) (x2 : Int32) (x3 : Int32) : Option (Ob) :=
 (if x1 = (1:Int32) then (F19 x2).bind fun r119 => (if r119 = (0:Int32) then (J12_20 o x3) else (aset (f_pend o) x2 (0:Int32)).bind fun y127 => (J12_20 (s_pend o y127) x3)) else (J12_20 o x3))
theorem tF12 (Ad : QAd n0 ad) (W : QW Z a0) (s : List Int32) (o : Ob) (x1 : Int32) (x2 : Int32) (x3 : Int32) {r : Ob} (h : F12 o x1 x2 x3 = some r) : QTri l Z n0 ad 12 (0, qentry [.ref 1, .int x1, .int x2, .int x3] (pMaxL 12), [], (H0 s o)) (none : Option Value) (H0 s r) := by
 unfold F12 at h
 refine zS Ad W 2 (st' := (2, [vR 1, vI x1, vI x2, vI x3, none], [.int (1:Int32), .int x1], (H0 s o))) rfl ?_
 rcases qite h with ⟨hc116, h⟩ | ⟨hc116, h⟩
 ·refine zF Ad W (t := 20) (f := 5) rfl (XT.ii_ne_f hc116) ?_
  refine zS Ad W 2 (st' := (7, [vR 1, vI x1, vI x2, vI x3, none], [.int x2, .ref 1], (H0 s o))) rfl ?_
  obtain ⟨r119, hr119, h⟩ := bind_eq_some_iff.mp h
  refine QTri.callP W (a := 1) (as := [.int x2]) (rest := []) (w := (some (.int r119))) (σ₁ := (H0 s o)) rfl rfl rfl rfl rfl rfl rfl rfl (tF19 Ad W x2 hr119) ?_
  rcases qite h with ⟨hc120, h⟩ | ⟨hc120, h⟩
  ·refine zT Ad W (t := 20) (f := 13) rfl (XT.i0_eq_t hc120) ?_
   exact zM [tt,ff,ff,tt,ff] (tJ12_20 Ad W s o x3 h)
  ·refine zF Ad W (t := 20) (f := 13) rfl (XT.i0_eq_f hc120) ?_
   refine zS Ad W 4 (st' := (19, [vR 1, vI x1, vI x2, vI x3, none], [.int (0:Int32), .int x2, .ref 3], (H0 s o))) rfl ?_
   obtain ⟨y127, hy127, h⟩ := bind_eq_some_iff.mp h
   refine zB Ad W (f := fun y127 => (20, [vR 1, vI x1, vI x2, vI x3, none], [], (H0x7 s o y127))) rfl hy127 ?_
   have E128 : ((H0x7 s o y127) : QHeap) = (H0 s (s_pend o y127)) := by simp only [fs, H0, H0v, H0x7, s_pend]
   rw [E128]
   exact zM [tt,ff,ff,tt,ff] (tJ12_20 Ad W s (s_pend o y127) x3 h)
 ·refine zT Ad W (t := 20) (f := 5) rfl (XT.ii_ne_t hc116) ?_
  exact zM [tt,ff,ff,tt,ff] (tJ12_20 Ad W s o x3 h)
def H0x8 (s : List Int32) (o0 : Ob) (a0_10 : List Int32) : QHeap := H0v s (f_srcPayload o0) (f_pend o0) (f_queue o0) (f_stats o0) (f_state o0) (f_timer o0) (f_rxVal o0) (f_rxNext o0) (f_rxLead o0) (f_rxTrail o0) a0_10 (f_dups o0) (f_drops o0) (f_delSeq o0) (f_delVal o0) (f_delLen o0) (f_lostLog o0) (f_lostLen o0) (f_nakBuf o0) (f_win o0) (f_back o0) (f_repair o0) (f_period o0) (f_nextSeq o0) (f_qLen o0) (f_nakLen o0)
def H0x9 (s : List Int32) (o0 : Ob) (a0_10 : List Int32) (a0_12 : List Int32) : QHeap := H0v s (f_srcPayload o0) (f_pend o0) (f_queue o0) (f_stats o0) (f_state o0) (f_timer o0) (f_rxVal o0) (f_rxNext o0) (f_rxLead o0) (f_rxTrail o0) a0_10 (f_dups o0) a0_12 (f_delSeq o0) (f_delVal o0) (f_delLen o0) (f_lostLog o0) (f_lostLen o0) (f_nakBuf o0) (f_win o0) (f_back o0) (f_repair o0) (f_period o0) (f_nextSeq o0) (f_qLen o0) (f_nakLen o0)
def H0x10 (s : List Int32) (o0 : Ob) (a0_3 : List Int32) (a0_10 : List Int32) (a0_12 : List Int32) : QHeap := H0v s (f_srcPayload o0) (f_pend o0) (f_queue o0) a0_3 (f_state o0) (f_timer o0) (f_rxVal o0) (f_rxNext o0) (f_rxLead o0) (f_rxTrail o0) a0_10 (f_dups o0) a0_12 (f_delSeq o0) (f_delVal o0) (f_delLen o0) (f_lostLog o0) (f_lostLen o0) (f_nakBuf o0) (f_win o0) (f_back o0) (f_repair o0) (f_period o0) (f_nextSeq o0) (f_qLen o0) (f_nakLen o0)
def H0x11 (s : List Int32) (o0 : Ob) (a0_4 : List Int32) : QHeap := H0v s (f_srcPayload o0) (f_pend o0) (f_queue o0) (f_stats o0) a0_4 (f_timer o0) (f_rxVal o0) (f_rxNext o0) (f_rxLead o0) (f_rxTrail o0) (f_lossLeft o0) (f_dups o0) (f_drops o0) (f_delSeq o0) (f_delVal o0) (f_delLen o0) (f_lostLog o0) (f_lostLen o0) (f_nakBuf o0) (f_win o0) (f_back o0) (f_repair o0) (f_period o0) (f_nextSeq o0) (f_qLen o0) (f_nakLen o0)
/-- backoffOf(I)I -/
def F32 (o : Ob) (x1 : Int32) : Option (Int32) :=
 some ((f_back o) + x1)
theorem tF32 (Ad : QAd n0 ad) (W : QW Z a0) (s : List Int32) (o : Ob) (x1 : Int32) {r : Int32} (h : F32 o x1 = some r) : QTri l Z n0 ad 32 (0, qentry [.ref 1, .int x1] (pMaxL 32), [], (H0 s o)) (some (Value.int r)) (H0 s o) := by
 unfold F32 at h
 refine zS Ad W 4 (st' := (6, [vR 1, vI x1], [.int ((f_back o) + x1)], (H0 s o))) rfl ?_
 obtain rfl := Option.some.inj h
 exact QTri.retI rfl rfl
def H0x12 (s : List Int32) (o0 : Ob) (a0_5 : List Int32) : QHeap := H0v s (f_srcPayload o0) (f_pend o0) (f_queue o0) (f_stats o0) (f_state o0) a0_5 (f_rxVal o0) (f_rxNext o0) (f_rxLead o0) (f_rxTrail o0) (f_lossLeft o0) (f_dups o0) (f_drops o0) (f_delSeq o0) (f_delVal o0) (f_delLen o0) (f_lostLog o0) (f_lostLen o0) (f_nakBuf o0) (f_win o0) (f_back o0) (f_repair o0) (f_period o0) (f_nextSeq o0) (f_qLen o0) (f_nakLen o0)
def J14_70 (o : Ob) (x1 : Int32) (x2 : Int32) (x4 : Int32) : Option (((Ob)) ⊕ (Int32 × Ob)) :=
  some (.inr ((x4 + (1 : Int32)), o))
theorem tJ14_70 (Ad : QAd n0 ad) (W : QW Z a0) (s : List Int32) (o : Ob) (x1 : Int32) (x2 : Int32) (x4 : Int32) {r : ((Ob)) ⊕ (Int32 × Ob)} {u : Option Value} {τ : QHeap} (h : J14_70 o x1 x2 x4 = some r) (hx0 : ∀ x : Ob, r = .inl x → QTri l Z n0 ad 14 (76, [vR 1, vI x1, vI x2, none, none, none], [], (H0 s x)) u τ) (hc : ∀ x : Int32 × Ob, r = .inr x → QTri l Z n0 ad 14 (18, [vR 1, vI x1, vI x2, none, vI x.1, none], [], (H0 s x.2)) u τ) : QTri l Z n0 ad 14 (70, [vR 1, vI x1, vI x2, none, vI x4, none], [], (H0 s o)) u τ := by
 unfold J14_70 at h
 refine zS Ad W 2 (st' := (18, [vR 1, vI x1, vI x2, none, vI (x4 + (1:Int32)), none], [], (H0 s o))) rfl ?_
 obtain rfl := Option.some.inj h
 exact zM [tt,tt,tt,ff,tt,ff] (hc ((x4 + (1:Int32)), o) rfl)
def B14_18 (x1 : Int32) (x2 : Int32) (v : Int32 × Ob) : Option (((Ob)) ⊕ (Int32 × Ob)) :=
  (if x2 < v.1 then some (.inl v.2) else (if v.1 < (32 : Int32) then (aget (f_state v.2) ((x1 * (32 : Int32)) + v.1)).bind fun y149 => (if y149 = (0 : Int32) then (aset (f_state v.2) ((x1 * (32 : Int32)) + v.1) (1 : Int32)).bind fun y151 => (F32 (s_state v.2 y151) x1).bind fun r153 => (aset (f_timer (s_state v.2 y151)) ((x1 * (32 : Int32)) + v.1) r153).bind fun y154 => (J14_70 (s_timer (s_state v.2 y151) y154) x1 x2 v.1) else (J14_70 v.2 x1 x2 v.1)) else some (.inl v.2)))
theorem tB14_18 (Ad : QAd n0 ad) (W : QW Z a0) (s : List Int32) (x1 : Int32) (x2 : Int32) (v : Int32 × Ob) {r : ((Ob)) ⊕ (Int32 × Ob)} {u : Option Value} {τ : QHeap} (h : B14_18 x1 x2 v = some r) (hx0 : ∀ x : Ob, r = .inl x → QTri l Z n0 ad 14 (76, [vR 1, vI x1, vI x2, none, none, none], [], (H0 s x)) u τ) (hc : ∀ x : Int32 × Ob, r = .inr x → QTri l Z n0 ad 14 (18, [vR 1, vI x1, vI x2, none, vI x.1, none], [], (H0 s x.2)) u τ) : QTri l Z n0 ad 14 (18, [vR 1, vI x1, vI x2, none, vI v.1, none], [], (H0 s v.2)) u τ := by
 unfold B14_18 at h
 refine zS Ad W 2 (st' := (21, [vR 1, vI x1, vI x2, none, vI v.1, none], [.int x2, .int v.1], (H0 s v.2))) rfl ?_
 rcases qite h with ⟨hc147, h⟩ | ⟨hc147, h⟩
 ·refine zT Ad W (t := 76) (f := 24) rfl (XT.ii_gt_t hc147) ?_
  obtain rfl := Option.some.inj h
  exact zM [tt,tt,tt,ff,ff,ff] (hx0 v.2 rfl)
 ·refine zF Ad W (t := 76) (f := 24) rfl (XT.ii_gt_f hc147) ?_
  refine zS Ad W 2 (st' := (28, [vR 1, vI x1, vI x2, none, vI v.1, none], [.int (32:Int32), .int v.1], (H0 s v.2))) rfl ?_
  rcases qite h with ⟨hc148, h⟩ | ⟨hc148, h⟩
  ·refine zF Ad W (t := 76) (f := 31) rfl (XT.ii_ge_f hc148) ?_
   refine zS Ad W 9 (st' := (46, [vR 1, vI x1, vI x2, none, vI v.1, vI ((x1 * (32:Int32)) + v.1)], [.int ((x1 * (32:Int32)) + v.1), .ref 6], (H0 s v.2))) rfl ?_
   obtain ⟨y149, hy149, h⟩ := bind_eq_some_iff.mp h
   refine zB Ad W (f := fun y149 => (47, [vR 1, vI x1, vI x2, none, vI v.1, vI ((x1 * (32:Int32)) + v.1)], [.int y149], (H0 s v.2))) rfl hy149 ?_
   rcases qite h with ⟨hc150, h⟩ | ⟨hc150, h⟩
   ·refine zF Ad W (t := 70) (f := 50) rfl (XT.i0_ne_f hc150) ?_
    refine zS Ad W 4 (st' := (57, [vR 1, vI x1, vI x2, none, vI v.1, vI ((x1 * (32:Int32)) + v.1)], [.int (1:Int32), .int ((x1 * (32:Int32)) + v.1), .ref 6], (H0 s v.2))) rfl ?_
    obtain ⟨y151, hy151, h⟩ := bind_eq_some_iff.mp h
    refine zB Ad W (f := fun y151 => (58, [vR 1, vI x1, vI x2, none, vI v.1, vI ((x1 * (32:Int32)) + v.1)], [], (H0x11 s v.2 y151))) rfl hy151 ?_
    refine zS Ad W 5 (st' := (66, [vR 1, vI x1, vI x2, none, vI v.1, vI ((x1 * (32:Int32)) + v.1)], [.int x1, .ref 1, .int ((x1 * (32:Int32)) + v.1), .ref 7], (H0x11 s v.2 y151))) rfl ?_
    have E152 : ((H0x11 s v.2 y151) : QHeap) = (H0 s (s_state v.2 y151)) := by simp only [fs, H0, H0v, H0x11, s_state]
    rw [E152]
    obtain ⟨r153, hr153, h⟩ := bind_eq_some_iff.mp h
    refine QTri.callP W (a := 1) (as := [.int x1]) (rest := [.int ((x1 * (32:Int32)) + v.1), .ref 7]) (w := (some (.int r153))) (σ₁ := (H0 s (s_state v.2 y151))) rfl rfl rfl rfl rfl rfl rfl rfl (tF32 Ad W s (s_state v.2 y151) x1 hr153) ?_
    obtain ⟨y154, hy154, h⟩ := bind_eq_some_iff.mp h
    refine zB Ad W (f := fun y154 => (70, [vR 1, vI x1, vI x2, none, vI v.1, vI ((x1 * (32:Int32)) + v.1)], [], (H0x12 s (s_state v.2 y151) y154))) rfl hy154 ?_
    have E155 : ((H0x12 s (s_state v.2 y151) y154) : QHeap) = (H0 s (s_timer (s_state v.2 y151) y154)) := (show ∀ b0 : Ob, ((H0x12 s b0 y154) : QHeap) = (H0 s (s_timer b0 y154)) from fun b0 => by simp only [fs, H0, H0v, H0x12, s_timer]) (s_state v.2 y151)
    rw [E155]
    exact zM [tt,tt,tt,ff,tt,ff] (tJ14_70 Ad W s (s_timer (s_state v.2 y151) y154) x1 x2 v.1 h hx0 hc)
   ·refine zT Ad W (t := 70) (f := 50) rfl (XT.i0_ne_t hc150) ?_
    exact zM [tt,tt,tt,ff,tt,ff] (tJ14_70 Ad W s v.2 x1 x2 v.1 h hx0 hc)
  ·refine zT Ad W (t := 76) (f := 31) rfl (XT.ii_ge_t hc148) ?_
   obtain rfl := Option.some.inj h
   exact zM [tt,tt,tt,ff,ff,ff] (hx0 v.2 rfl)
def J14_76 (o : Ob) (x1 : Int32) (x2 : Int32) : Option (Ob) :=
  (aget (f_rxLead o) x1).bind fun y158 => (if y158 < x2 then (aset (f_rxLead o) x1 x2).bind fun y160 => some (s_rxLead o y160) else some o)
theorem tJ14_76 (Ad : QAd n0 ad) (W : QW Z a0) (s : List Int32) (o : Ob) (x1 : Int32) (x2 : Int32) {r : Ob} (h : J14_76 o x1 x2 = some r) : QTri l Z n0 ad 14 (76, [vR 1, vI x1, vI x2, none, none, none], [], (H0 s o)) (none : Option Value) (H0 s r) := by
 unfold J14_76 at h
 refine zS Ad W 4 (st' := (82, [vR 1, vI x1, vI x2, none, none, none], [.int x1, .ref 10, .int x2], (H0 s o))) rfl ?_
 obtain ⟨y158, hy158, h⟩ := bind_eq_some_iff.mp h
 refine zB Ad W (f := fun y158 => (83, [vR 1, vI x1, vI x2, none, none, none], [.int y158, .int x2], (H0 s o))) rfl hy158 ?_
 rcases qite h with ⟨hc159, h⟩ | ⟨hc159, h⟩
 ·refine zF Ad W (t := 93) (f := 86) rfl (XT.ii_le_f hc159) ?_
  refine zS Ad W 4 (st' := (92, [vR 1, vI x1, vI x2, none, none, none], [.int x2, .int x1, .ref 10], (H0 s o))) rfl ?_
  obtain ⟨y160, hy160, h⟩ := bind_eq_some_iff.mp h
  refine zB Ad W (f := fun y160 => (93, [vR 1, vI x1, vI x2, none, none, none], [], (H0x5 s o y160))) rfl hy160 ?_
  have E161 : ((H0x5 s o y160) : QHeap) = (H0 s (s_rxLead o y160)) := by simp only [fs, H0, H0v, H0x5, s_rxLead]
  rw [E161]
  obtain rfl := Option.some.inj h
  exact QTri.ret0 rfl rfl
 ·refine zT Ad W (t := 93) (f := 86) rfl (XT.ii_le_t hc159) ?_
  obtain rfl := Option.some.inj h
  exact QTri.ret0 rfl rfl
/-- applyLead(II)V -/
def F14 (o : Ob) (x1 : Int32) (x2 : Int32) : Option (Ob) :=
 (aget (f_rxLead o) x1).bind fun y143 => (loopN (B14_18 x1 x2) qN ((if (y143 + (1:Int32)) < (0:Int32) then (0:Int32) else (y143 + (1:Int32))), o)).bind fun e156 => (J14_76 e156 x1 x2)
theorem tF14 (Ad : QAd n0 ad) (W : QW Z a0) (s : List Int32) (o : Ob) (x1 : Int32) (x2 : Int32) {r : Ob} (h : F14 o x1 x2 = some r) : QTri l Z n0 ad 14 (0, qentry [.ref 1, .int x1, .int x2] (pMaxL 14), [], (H0 s o)) (none : Option Value) (H0 s r) := by
 unfold F14 at h
 refine zS Ad W 3 (st' := (5, [vR 1, vI x1, vI x2, none, none, none], [.int x1, .ref 10], (H0 s o))) rfl ?_
 obtain ⟨y143, hy143, h⟩ := bind_eq_some_iff.mp h
 refine zB Ad W (f := fun y143 => (6, [vR 1, vI x1, vI x2, none, none, none], [.int y143], (H0 s o))) rfl hy143 ?_
 refine zS Ad W 4 (st' := (10, [vR 1, vI x1, vI x2, vI (y143 + (1:Int32)), none, none], [.int (y143 + (1:Int32))], (H0 s o))) rfl ?_
 have K145 : ∀ z144 : Int32, z144 = (if (y143 + (1:Int32)) < (0:Int32) then (0:Int32) else (y143 + (1:Int32))) → QTri l Z n0 ad 14 (15, [vR 1, vI x1, vI x2, vI z144, none, none], [], (H0 s o)) (none : Option Value) (H0 s r) := by
  intro z144 ez144
  subst ez144
  refine zS Ad W 2 (st' := (18, [vR 1, vI x1, vI x2, vI (if (y143 + (1:Int32)) < (0:Int32) then (0:Int32) else (y143 + (1:Int32))), vI (if (y143 + (1:Int32)) < (0:Int32) then (0:Int32) else (y143 + (1:Int32))), none], [], (H0 s o))) rfl ?_
  obtain ⟨e156, he156, h⟩ := bind_eq_some_iff.mp h
  refine zM [tt,tt,tt,ff,tt,ff] (loopN_tri (B := B14_18 x1 x2) (T := fun lv157 => QTri l Z n0 ad 14 (18, [vR 1, vI x1, vI x2, none, vI lv157.1, none], [], (H0 s lv157.2)) (none : Option Value) (H0 s r)) (KE := fun e156a => QTri l Z n0 ad 14 (76, [vR 1, vI x1, vI x2, none, none, none], [], (H0 s e156a)) (none : Option Value) (H0 s r)) (fun lv157 r hB hE hC => tB14_18 Ad W s x1 x2 lv157 hB (fun x q => hE _ q) (fun x q => hC x q)) qN ((if (y143 + (1:Int32)) < (0:Int32) then (0:Int32) else (y143 + (1:Int32))), o) e156 he156 ?_)
  exact zM [tt,tt,tt,ff,ff,ff] (tJ14_76 Ad W s e156 x1 x2 h)
 rcases em ((y143 + (1:Int32)) < (0:Int32)) with hc146 | hc146
 ·refine zF Ad W (t := 15) (f := 13) rfl (XT.i0_ge_f hc146) ?_
  refine zS Ad W 2 (st' := (15, [vR 1, vI x1, vI x2, vI (0:Int32), none, none], [], (H0 s o))) rfl ?_
  exact zM [tt,tt,tt,tt,ff,ff] (K145 _ (if_pos hc146).symm)
 ·refine zT Ad W (t := 15) (f := 13) rfl (XT.i0_ge_t hc146) ?_
  exact zM [tt,tt,tt,tt,ff,ff] (K145 _ (if_neg hc146).symm)
def H0x13 (s : List Int32) (o0 : Ob) (a0_9 : List Int32) : QHeap := H0v s (f_srcPayload o0) (f_pend o0) (f_queue o0) (f_stats o0) (f_state o0) (f_timer o0) (f_rxVal o0) (f_rxNext o0) (f_rxLead o0) a0_9 (f_lossLeft o0) (f_dups o0) (f_drops o0) (f_delSeq o0) (f_delVal o0) (f_delLen o0) (f_lostLog o0) (f_lostLen o0) (f_nakBuf o0) (f_win o0) (f_back o0) (f_repair o0) (f_period o0) (f_nextSeq o0) (f_qLen o0) (f_nakLen o0)
def J15_108 (o : Ob) (x1 : Int32) (x2 : Int32) (x4 : Int32) : Option (((Ob)) ⊕ (Int32 × Ob)) :=
  some (.inr ((x4 + (1 : Int32)), o))
theorem tJ15_108 (Ad : QAd n0 ad) (W : QW Z a0) (s : List Int32) (o : Ob) (x1 : Int32) (x2 : Int32) (x4 : Int32) {r : ((Ob)) ⊕ (Int32 × Ob)} {u : Option Value} {τ : QHeap} (h : J15_108 o x1 x2 x4 = some r) (hx0 : ∀ x : Ob, r = .inl x → u = (none : Option Value) ∧ τ = (H0 s x)) (hc : ∀ x : Int32 × Ob, r = .inr x → QTri l Z n0 ad 15 (34, [vR 1, vI x1, vI x2, none, vI x.1, none, none], [], (H0 s x.2)) u τ) : QTri l Z n0 ad 15 (108, [vR 1, vI x1, vI x2, none, vI x4, none, none], [], (H0 s o)) u τ := by
 unfold J15_108 at h
 refine zS Ad W 2 (st' := (34, [vR 1, vI x1, vI x2, none, vI (x4 + (1:Int32)), none, none], [], (H0 s o))) rfl ?_
 obtain rfl := Option.some.inj h
 exact zM [tt,tt,tt,ff,tt,ff,ff] (hc ((x4 + (1:Int32)), o) rfl)
def H0x14 (s : List Int32) (o0 : Ob) (a0_4 : List Int32) (a0_5 : List Int32) : QHeap := H0v s (f_srcPayload o0) (f_pend o0) (f_queue o0) (f_stats o0) a0_4 a0_5 (f_rxVal o0) (f_rxNext o0) (f_rxLead o0) (f_rxTrail o0) (f_lossLeft o0) (f_dups o0) (f_drops o0) (f_delSeq o0) (f_delVal o0) (f_delLen o0) (f_lostLog o0) (f_lostLen o0) (f_nakBuf o0) (f_win o0) (f_back o0) (f_repair o0) (f_period o0) (f_nextSeq o0) (f_qLen o0) (f_nakLen o0)
def H0x15 (s : List Int32) (o0 : Ob) (a0_16 : List Int32) : QHeap := H0v s (f_srcPayload o0) (f_pend o0) (f_queue o0) (f_stats o0) (f_state o0) (f_timer o0) (f_rxVal o0) (f_rxNext o0) (f_rxLead o0) (f_rxTrail o0) (f_lossLeft o0) (f_dups o0) (f_drops o0) (f_delSeq o0) (f_delVal o0) (f_delLen o0) a0_16 (f_lostLen o0) (f_nakBuf o0) (f_win o0) (f_back o0) (f_repair o0) (f_period o0) (f_nextSeq o0) (f_qLen o0) (f_nakLen o0)
def H0x16 (s : List Int32) (o0 : Ob) (a0_16 : List Int32) (a0_17 : List Int32) : QHeap := H0v s (f_srcPayload o0) (f_pend o0) (f_queue o0) (f_stats o0) (f_state o0) (f_timer o0) (f_rxVal o0) (f_rxNext o0) (f_rxLead o0) (f_rxTrail o0) (f_lossLeft o0) (f_dups o0) (f_drops o0) (f_delSeq o0) (f_delVal o0) (f_delLen o0) a0_16 a0_17 (f_nakBuf o0) (f_win o0) (f_back o0) (f_repair o0) (f_period o0) (f_nextSeq o0) (f_qLen o0) (f_nakLen o0)
/-- appendLost(II)V -/
def F36 (o : Ob) (x1 : Int32) (x2 : Int32) : Option (Ob) :=
 (aget (f_lostLen o) x1).bind fun y180 => (if y180 < (32:Int32) then (aget (f_lostLen o) x1).bind fun y182 => (aset (f_lostLog o) ((x1 * (32:Int32)) + y182) x2).bind fun y183 => (aget (f_lostLen o) x1).bind fun y184 => (aset (f_lostLen o) x1 (y184 + (1:Int32))).bind fun y185 => some (s_lostLen (s_lostLog o y183) y185) else some o)
theorem tF36 (Ad : QAd n0 ad) (W : QW Z a0) (s : List Int32) (o : Ob) (x1 : Int32) (x2 : Int32) {r : Ob} (h : F36 o x1 x2 = some r) : QTri l Z n0 ad 36 (0, qentry [.ref 1, .int x1, .int x2] (pMaxL 36), [], (H0 s o)) (none : Option Value) (H0 s r) := by
 unfold F36 at h
 refine zS Ad W 3 (st' := (5, [vR 1, vI x1, vI x2], [.int x1, .ref 19], (H0 s o))) rfl ?_
 obtain ⟨y180, hy180, h⟩ := bind_eq_some_iff.mp h
 refine zB Ad W (f := fun y180 => (6, [vR 1, vI x1, vI x2], [.int y180], (H0 s o))) rfl hy180 ?_
 refine zS Ad W 1 (st' := (8, [vR 1, vI x1, vI x2], [.int (32:Int32), .int y180], (H0 s o))) rfl ?_
 rcases qite h with ⟨hc181, h⟩ | ⟨hc181, h⟩
 ·refine zF Ad W (t := 38) (f := 11) rfl (XT.ii_ge_f hc181) ?_
  refine zS Ad W 8 (st' := (24, [vR 1, vI x1, vI x2], [.int x1, .ref 19, .int (x1 * (32:Int32)), .ref 18], (H0 s o))) rfl ?_
  obtain ⟨y182, hy182, h⟩ := bind_eq_some_iff.mp h
  refine zB Ad W (f := fun y182 => (25, [vR 1, vI x1, vI x2], [.int y182, .int (x1 * (32:Int32)), .ref 18], (H0 s o))) rfl hy182 ?_
  refine zS Ad W 2 (st' := (27, [vR 1, vI x1, vI x2], [.int x2, .int ((x1 * (32:Int32)) + y182), .ref 18], (H0 s o))) rfl ?_
  obtain ⟨y183, hy183, h⟩ := bind_eq_some_iff.mp h
  refine zB Ad W (f := fun y183 => (28, [vR 1, vI x1, vI x2], [], (H0x15 s o y183))) rfl hy183 ?_
  refine zS Ad W 4 (st' := (34, [vR 1, vI x1, vI x2], [.int x1, .ref 19, .int x1, .ref 19], (H0x15 s o y183))) rfl ?_
  obtain ⟨y184, hy184, h⟩ := bind_eq_some_iff.mp h
  refine zB Ad W (f := fun y184 => (35, [vR 1, vI x1, vI x2], [.int y184, .int x1, .ref 19], (H0x15 s o y183))) rfl hy184 ?_
  refine zS Ad W 2 (st' := (37, [vR 1, vI x1, vI x2], [.int (y184 + (1:Int32)), .int x1, .ref 19], (H0x15 s o y183))) rfl ?_
  obtain ⟨y185, hy185, h⟩ := bind_eq_some_iff.mp h
  refine zB Ad W (f := fun y185 => (38, [vR 1, vI x1, vI x2], [], (H0x16 s o y183 y185))) rfl hy185 ?_
  have E186 : ((H0x16 s o y183 y185) : QHeap) = (H0 s (s_lostLen (s_lostLog o y183) y185)) := by simp only [fs, H0, H0v, H0x16, s_lostLog, s_lostLen]
  rw [E186]
  obtain rfl := Option.some.inj h
  exact QTri.ret0 rfl rfl
 ·refine zT Ad W (t := 38) (f := 11) rfl (XT.ii_ge_t hc181) ?_
  obtain rfl := Option.some.inj h
  exact QTri.ret0 rfl rfl
def B15_34 (x1 : Int32) (x2 : Int32) (v : Int32 × Ob) : Option (((Ob)) ⊕ (Int32 × Ob)) :=
  (if v.1 < x2 then (if v.1 < (32 : Int32) then (aget (f_state v.2) ((x1 * (32 : Int32)) + v.1)).bind fun y173 => (if y173 = (4 : Int32) then (J15_108 v.2 x1 x2 v.1) else (if y173 = (5 : Int32) then (J15_108 v.2 x1 x2 v.1) else (if y173 = (6 : Int32) then (J15_108 v.2 x1 x2 v.1) else (aset (f_state v.2) ((x1 * (32 : Int32)) + v.1) (6 : Int32)).bind fun y177 => (aset (f_timer v.2) ((x1 * (32 : Int32)) + v.1) (0 : Int32)).bind fun y178 => (F36 (s_timer (s_state v.2 y177) y178) x1 v.1).bind fun r187 => (J15_108 r187 x1 x2 v.1)))) else some (.inl v.2)) else some (.inl v.2))
theorem tB15_34 (Ad : QAd n0 ad) (W : QW Z a0) (s : List Int32) (x1 : Int32) (x2 : Int32) (v : Int32 × Ob) {r : ((Ob)) ⊕ (Int32 × Ob)} {u : Option Value} {τ : QHeap} (h : B15_34 x1 x2 v = some r) (hx0 : ∀ x : Ob, r = .inl x → u = (none : Option Value) ∧ τ = (H0 s x)) (hc : ∀ x : Int32 × Ob, r = .inr x → QTri l Z n0 ad 15 (34, [vR 1, vI x1, vI x2, none, vI x.1, none, none], [], (H0 s x.2)) u τ) : QTri l Z n0 ad 15 (34, [vR 1, vI x1, vI x2, none, vI v.1, none, none], [], (H0 s v.2)) u τ := by
 unfold B15_34 at h
 refine zS Ad W 2 (st' := (37, [vR 1, vI x1, vI x2, none, vI v.1, none, none], [.int x2, .int v.1], (H0 s v.2))) rfl ?_
 rcases qite h with ⟨hc171, h⟩ | ⟨hc171, h⟩
 ·refine zF Ad W (t := 114) (f := 40) rfl (XT.ii_ge_f hc171) ?_
  refine zS Ad W 2 (st' := (44, [vR 1, vI x1, vI x2, none, vI v.1, none, none], [.int (32:Int32), .int v.1], (H0 s v.2))) rfl ?_
  rcases qite h with ⟨hc172, h⟩ | ⟨hc172, h⟩
  ·refine zF Ad W (t := 114) (f := 47) rfl (XT.ii_ge_f hc172) ?_
   refine zS Ad W 9 (st' := (62, [vR 1, vI x1, vI x2, none, vI v.1, vI ((x1 * (32:Int32)) + v.1), none], [.int ((x1 * (32:Int32)) + v.1), .ref 6], (H0 s v.2))) rfl ?_
   obtain ⟨y173, hy173, h⟩ := bind_eq_some_iff.mp h
   refine zB Ad W (f := fun y173 => (63, [vR 1, vI x1, vI x2, none, vI v.1, vI ((x1 * (32:Int32)) + v.1), none], [.int y173], (H0 s v.2))) rfl hy173 ?_
   refine zS Ad W 3 (st' := (68, [vR 1, vI x1, vI x2, none, vI v.1, vI ((x1 * (32:Int32)) + v.1), vI y173], [.int (4:Int32), .int y173], (H0 s v.2))) rfl ?_
   rcases qite h with ⟨hc174, h⟩ | ⟨hc174, h⟩
   ·refine zT Ad W (t := 108) (f := 71) rfl (XT.ii_eq_t hc174) ?_
    exact zM [tt,tt,tt,ff,tt,ff,ff] (tJ15_108 Ad W s v.2 x1 x2 v.1 h hx0 hc)
   ·refine zF Ad W (t := 108) (f := 71) rfl (XT.ii_eq_f hc174) ?_
    refine zS Ad W 2 (st' := (74, [vR 1, vI x1, vI x2, none, vI v.1, vI ((x1 * (32:Int32)) + v.1), vI y173], [.int (5:Int32), .int y173], (H0 s v.2))) rfl ?_
    rcases qite h with ⟨hc175, h⟩ | ⟨hc175, h⟩
    ·refine zT Ad W (t := 108) (f := 77) rfl (XT.ii_eq_t hc175) ?_
     exact zM [tt,tt,tt,ff,tt,ff,ff] (tJ15_108 Ad W s v.2 x1 x2 v.1 h hx0 hc)
    ·refine zF Ad W (t := 108) (f := 77) rfl (XT.ii_eq_f hc175) ?_
     refine zS Ad W 2 (st' := (81, [vR 1, vI x1, vI x2, none, vI v.1, vI ((x1 * (32:Int32)) + v.1), vI y173], [.int (6:Int32), .int y173], (H0 s v.2))) rfl ?_
     rcases qite h with ⟨hc176, h⟩ | ⟨hc176, h⟩
     ·refine zT Ad W (t := 108) (f := 84) rfl (XT.ii_eq_t hc176) ?_
      exact zM [tt,tt,tt,ff,tt,ff,ff] (tJ15_108 Ad W s v.2 x1 x2 v.1 h hx0 hc)
     ·refine zF Ad W (t := 108) (f := 84) rfl (XT.ii_eq_f hc176) ?_
      refine zS Ad W 4 (st' := (92, [vR 1, vI x1, vI x2, none, vI v.1, vI ((x1 * (32:Int32)) + v.1), vI y173], [.int (6:Int32), .int ((x1 * (32:Int32)) + v.1), .ref 6], (H0 s v.2))) rfl ?_
      obtain ⟨y177, hy177, h⟩ := bind_eq_some_iff.mp h
      refine zB Ad W (f := fun y177 => (93, [vR 1, vI x1, vI x2, none, vI v.1, vI ((x1 * (32:Int32)) + v.1), vI y173], [], (H0x11 s v.2 y177))) rfl hy177 ?_
      refine zS Ad W 4 (st' := (100, [vR 1, vI x1, vI x2, none, vI v.1, vI ((x1 * (32:Int32)) + v.1), vI y173], [.int (0:Int32), .int ((x1 * (32:Int32)) + v.1), .ref 7], (H0x11 s v.2 y177))) rfl ?_
      obtain ⟨y178, hy178, h⟩ := bind_eq_some_iff.mp h
      refine zB Ad W (f := fun y178 => (101, [vR 1, vI x1, vI x2, none, vI v.1, vI ((x1 * (32:Int32)) + v.1), vI y173], [], (H0x14 s v.2 y177 y178))) rfl hy178 ?_
      refine zS Ad W 3 (st' := (105, [vR 1, vI x1, vI x2, none, vI v.1, vI ((x1 * (32:Int32)) + v.1), vI y173], [.int v.1, .int x1, .ref 1], (H0x14 s v.2 y177 y178))) rfl ?_
      have E179 : ((H0x14 s v.2 y177 y178) : QHeap) = (H0 s (s_timer (s_state v.2 y177) y178)) := by simp only [fs, H0, H0v, H0x14, s_state, s_timer]
      rw [E179]
      obtain ⟨r187, hr187, h⟩ := bind_eq_some_iff.mp h
      refine QTri.callP W (a := 1) (as := [.int x1, .int v.1]) (rest := []) (w := none) (σ₁ := (H0 s r187)) rfl rfl rfl rfl rfl rfl rfl rfl (tF36 Ad W s (s_timer (s_state v.2 y177) y178) x1 v.1 hr187) ?_
      exact zM [tt,tt,tt,ff,tt,ff,ff] (tJ15_108 Ad W s r187 x1 x2 v.1 h hx0 hc)
  ·refine zT Ad W (t := 114) (f := 47) rfl (XT.ii_ge_t hc172) ?_
   obtain rfl := Option.some.inj h
   obtain ⟨rfl, rfl⟩ := hx0 v.2 rfl
   exact QTri.ret0 rfl rfl
 ·refine zT Ad W (t := 114) (f := 40) rfl (XT.ii_ge_t hc171) ?_
  obtain rfl := Option.some.inj h
  obtain ⟨rfl, rfl⟩ := hx0 v.2 rfl
  exact QTri.ret0 rfl rfl
/-- applyTrail(II)V -/
def F15 (o : Ob) (x1 : Int32) (x2 : Int32) : Option (Ob) :=
 (aget (f_rxTrail o) x1).bind fun y163 => (if y163 < x2 then (aset (f_rxTrail o) x1 x2).bind fun y165 => (aget (f_rxNext o) x1).bind fun y166 => (loopN (B15_34 x1 x2) qN ((if y166 < (0:Int32) then (0:Int32) else y166), (s_rxTrail o y165))).bind fun e188 => some e188 else some o)
theorem tF15 (Ad : QAd n0 ad) (W : QW Z a0) (s : List Int32) (o : Ob) (x1 : Int32) (x2 : Int32) {r : Ob} (h : F15 o x1 x2 = some r) : QTri l Z n0 ad 15 (0, qentry [.ref 1, .int x1, .int x2] (pMaxL 15), [], (H0 s o)) (none : Option Value) (H0 s r) := by
 unfold F15 at h
 refine zS Ad W 4 (st' := (6, [vR 1, vI x1, vI x2, none, none, none, none], [.int x1, .ref 11, .int x2], (H0 s o))) rfl ?_
 obtain ⟨y163, hy163, h⟩ := bind_eq_some_iff.mp h
 refine zB Ad W (f := fun y163 => (7, [vR 1, vI x1, vI x2, none, none, none, none], [.int y163, .int x2], (H0 s o))) rfl hy163 ?_
 rcases qite h with ⟨hc164, h⟩ | ⟨hc164, h⟩
 ·refine zT Ad W (t := 11) (f := 10) rfl (XT.ii_gt_t hc164) ?_
  refine zS Ad W 4 (st' := (17, [vR 1, vI x1, vI x2, none, none, none, none], [.int x2, .int x1, .ref 11], (H0 s o))) rfl ?_
  obtain ⟨y165, hy165, h⟩ := bind_eq_some_iff.mp h
  refine zB Ad W (f := fun y165 => (18, [vR 1, vI x1, vI x2, none, none, none, none], [], (H0x13 s o y165))) rfl hy165 ?_
  refine zS Ad W 3 (st' := (23, [vR 1, vI x1, vI x2, none, none, none, none], [.int x1, .ref 9], (H0x13 s o y165))) rfl ?_
  obtain ⟨y166, hy166, h⟩ := bind_eq_some_iff.mp h
  refine zB Ad W (f := fun y166 => (24, [vR 1, vI x1, vI x2, none, none, none, none], [.int y166], (H0x13 s o y165))) rfl hy166 ?_
  refine zS Ad W 2 (st' := (26, [vR 1, vI x1, vI x2, vI y166, none, none, none], [.int y166], (H0x13 s o y165))) rfl ?_
  have K168 : ∀ z167 : Int32, z167 = (if y166 < (0:Int32) then (0:Int32) else y166) → QTri l Z n0 ad 15 (31, [vR 1, vI x1, vI x2, vI z167, none, none, none], [], (H0x13 s o y165)) (none : Option Value) (H0 s r) := by
   intro z167 ez167
   subst ez167
   refine zS Ad W 2 (st' := (34, [vR 1, vI x1, vI x2, vI (if y166 < (0:Int32) then (0:Int32) else y166), vI (if y166 < (0:Int32) then (0:Int32) else y166), none, none], [], (H0x13 s o y165))) rfl ?_
   have E170 : ((H0x13 s o y165) : QHeap) = (H0 s (s_rxTrail o y165)) := by simp only [fs, H0, H0v, H0x13, s_rxTrail]
   rw [E170]
   obtain ⟨e188, he188, h⟩ := bind_eq_some_iff.mp h
   refine zM [tt,tt,tt,ff,tt,ff,ff] (loopN_tri (B := B15_34 x1 x2) (T := fun lv189 => QTri l Z n0 ad 15 (34, [vR 1, vI x1, vI x2, none, vI lv189.1, none, none], [], (H0 s lv189.2)) (none : Option Value) (H0 s r)) (KE := fun e188a => (none : Option Value) = (none : Option Value) ∧ (H0 s r) = (H0 s e188a)) (fun lv189 r hB hE hC => tB15_34 Ad W s x1 x2 lv189 hB (fun x q => hE _ q) (fun x q => hC x q)) qN ((if y166 < (0:Int32) then (0:Int32) else y166), (s_rxTrail o y165)) e188 he188 ?_)
   obtain rfl := Option.some.inj h
   exact ⟨rfl, rfl⟩
  rcases em (y166 < (0:Int32)) with hc169 | hc169
  ·refine zF Ad W (t := 31) (f := 29) rfl (XT.i0_ge_f hc169) ?_
   refine zS Ad W 2 (st' := (31, [vR 1, vI x1, vI x2, vI (0:Int32), none, none, none], [], (H0x13 s o y165))) rfl ?_
   exact zM [tt,tt,tt,tt,ff,ff,ff] (K168 _ (if_pos hc169).symm)
  ·refine zT Ad W (t := 31) (f := 29) rfl (XT.i0_ge_t hc169) ?_
   exact zM [tt,tt,tt,tt,ff,ff,ff] (K168 _ (if_neg hc169).symm)
 ·refine zF Ad W (t := 11) (f := 10) rfl (XT.ii_gt_f hc164) ?_
  obtain rfl := Option.some.inj h
  exact QTri.ret0 rfl rfl
def H0x17 (s : List Int32) (o0 : Ob) (a0_13 : List Int32) : QHeap := H0v s (f_srcPayload o0) (f_pend o0) (f_queue o0) (f_stats o0) (f_state o0) (f_timer o0) (f_rxVal o0) (f_rxNext o0) (f_rxLead o0) (f_rxTrail o0) (f_lossLeft o0) (f_dups o0) (f_drops o0) a0_13 (f_delVal o0) (f_delLen o0) (f_lostLog o0) (f_lostLen o0) (f_nakBuf o0) (f_win o0) (f_back o0) (f_repair o0) (f_period o0) (f_nextSeq o0) (f_qLen o0) (f_nakLen o0)
def H0x18 (s : List Int32) (o0 : Ob) (a0_13 : List Int32) (a0_14 : List Int32) : QHeap := H0v s (f_srcPayload o0) (f_pend o0) (f_queue o0) (f_stats o0) (f_state o0) (f_timer o0) (f_rxVal o0) (f_rxNext o0) (f_rxLead o0) (f_rxTrail o0) (f_lossLeft o0) (f_dups o0) (f_drops o0) a0_13 a0_14 (f_delLen o0) (f_lostLog o0) (f_lostLen o0) (f_nakBuf o0) (f_win o0) (f_back o0) (f_repair o0) (f_period o0) (f_nextSeq o0) (f_qLen o0) (f_nakLen o0)
def H0x19 (s : List Int32) (o0 : Ob) (a0_13 : List Int32) (a0_14 : List Int32) (a0_15 : List Int32) : QHeap := H0v s (f_srcPayload o0) (f_pend o0) (f_queue o0) (f_stats o0) (f_state o0) (f_timer o0) (f_rxVal o0) (f_rxNext o0) (f_rxLead o0) (f_rxTrail o0) (f_lossLeft o0) (f_dups o0) (f_drops o0) a0_13 a0_14 a0_15 (f_lostLog o0) (f_lostLen o0) (f_nakBuf o0) (f_win o0) (f_back o0) (f_repair o0) (f_period o0) (f_nextSeq o0) (f_qLen o0) (f_nakLen o0)
/-- appendDelivered(III)V -/
def F20 (o : Ob) (x1 : Int32) (x2 : Int32) (x3 : Int32) : Option (Ob) :=
 (aget (f_delLen o) x1).bind fun y198 => (if y198 < (32:Int32) then (aget (f_delLen o) x1).bind fun y200 => (aset (f_delSeq o) ((x1 * (32:Int32)) + y200) x2).bind fun y201 => (aset (f_delVal o) ((x1 * (32:Int32)) + y200) x3).bind fun y202 => (aget (f_delLen o) x1).bind fun y203 => (aset (f_delLen o) x1 (y203 + (1:Int32))).bind fun y204 => some (s_delLen (s_delVal (s_delSeq o y201) y202) y204) else some o)
theorem tF20 (Ad : QAd n0 ad) (W : QW Z a0) (s : List Int32) (o : Ob) (x1 : Int32) (x2 : Int32) (x3 : Int32) {r : Ob} (h : F20 o x1 x2 x3 = some r) : QTri l Z n0 ad 20 (0, qentry [.ref 1, .int x1, .int x2, .int x3] (pMaxL 20), [], (H0 s o)) (none : Option Value) (H0 s r) := by
 unfold F20 at h
 refine zS Ad W 3 (st' := (5, [vR 1, vI x1, vI x2, vI x3, none], [.int x1, .ref 17], (H0 s o))) rfl ?_
 obtain ⟨y198, hy198, h⟩ := bind_eq_some_iff.mp h
 refine zB Ad W (f := fun y198 => (6, [vR 1, vI x1, vI x2, vI x3, none], [.int y198], (H0 s o))) rfl hy198 ?_
 refine zS Ad W 1 (st' := (8, [vR 1, vI x1, vI x2, vI x3, none], [.int (32:Int32), .int y198], (H0 s o))) rfl ?_
 rcases qite h with ⟨hc199, h⟩ | ⟨hc199, h⟩
 ·refine zF Ad W (t := 50) (f := 11) rfl (XT.ii_ge_f hc199) ?_
  refine zS Ad W 6 (st' := (20, [vR 1, vI x1, vI x2, vI x3, none], [.int x1, .ref 17, .int (x1 * (32:Int32))], (H0 s o))) rfl ?_
  obtain ⟨y200, hy200, h⟩ := bind_eq_some_iff.mp h
  refine zB Ad W (f := fun y200 => (21, [vR 1, vI x1, vI x2, vI x3, none], [.int y200, .int (x1 * (32:Int32))], (H0 s o))) rfl hy200 ?_
  refine zS Ad W 6 (st' := (31, [vR 1, vI x1, vI x2, vI x3, vI ((x1 * (32:Int32)) + y200)], [.int x2, .int ((x1 * (32:Int32)) + y200), .ref 15], (H0 s o))) rfl ?_
  obtain ⟨y201, hy201, h⟩ := bind_eq_some_iff.mp h
  refine zB Ad W (f := fun y201 => (32, [vR 1, vI x1, vI x2, vI x3, vI ((x1 * (32:Int32)) + y200)], [], (H0x17 s o y201))) rfl hy201 ?_
  refine zS Ad W 4 (st' := (39, [vR 1, vI x1, vI x2, vI x3, vI ((x1 * (32:Int32)) + y200)], [.int x3, .int ((x1 * (32:Int32)) + y200), .ref 16], (H0x17 s o y201))) rfl ?_
  obtain ⟨y202, hy202, h⟩ := bind_eq_some_iff.mp h
  refine zB Ad W (f := fun y202 => (40, [vR 1, vI x1, vI x2, vI x3, vI ((x1 * (32:Int32)) + y200)], [], (H0x18 s o y201 y202))) rfl hy202 ?_
  refine zS Ad W 4 (st' := (46, [vR 1, vI x1, vI x2, vI x3, vI ((x1 * (32:Int32)) + y200)], [.int x1, .ref 17, .int x1, .ref 17], (H0x18 s o y201 y202))) rfl ?_
  obtain ⟨y203, hy203, h⟩ := bind_eq_some_iff.mp h
  refine zB Ad W (f := fun y203 => (47, [vR 1, vI x1, vI x2, vI x3, vI ((x1 * (32:Int32)) + y200)], [.int y203, .int x1, .ref 17], (H0x18 s o y201 y202))) rfl hy203 ?_
  refine zS Ad W 2 (st' := (49, [vR 1, vI x1, vI x2, vI x3, vI ((x1 * (32:Int32)) + y200)], [.int (y203 + (1:Int32)), .int x1, .ref 17], (H0x18 s o y201 y202))) rfl ?_
  obtain ⟨y204, hy204, h⟩ := bind_eq_some_iff.mp h
  refine zB Ad W (f := fun y204 => (50, [vR 1, vI x1, vI x2, vI x3, vI ((x1 * (32:Int32)) + y200)], [], (H0x19 s o y201 y202 y204))) rfl hy204 ?_
  have E205 : ((H0x19 s o y201 y202 y204) : QHeap) = (H0 s (s_delLen (s_delVal (s_delSeq o y201) y202) y204)) := by simp only [fs, H0, H0v, H0x19, s_delSeq, s_delVal, s_delLen]
  rw [E205]
  obtain rfl := Option.some.inj h
  exact QTri.ret0 rfl rfl
 ·refine zT Ad W (t := 50) (f := 11) rfl (XT.ii_ge_t hc199) ?_
  obtain rfl := Option.some.inj h
  exact QTri.ret0 rfl rfl
def H0x20 (s : List Int32) (o0 : Ob) (a0_7 : List Int32) : QHeap := H0v s (f_srcPayload o0) (f_pend o0) (f_queue o0) (f_stats o0) (f_state o0) (f_timer o0) (f_rxVal o0) a0_7 (f_rxLead o0) (f_rxTrail o0) (f_lossLeft o0) (f_dups o0) (f_drops o0) (f_delSeq o0) (f_delVal o0) (f_delLen o0) (f_lostLog o0) (f_lostLen o0) (f_nakBuf o0) (f_win o0) (f_back o0) (f_repair o0) (f_period o0) (f_nextSeq o0) (f_qLen o0) (f_nakLen o0)
def J16_73 (o : Ob) (x1 : Int32) (x2 : Int32) : Option (((Ob)) ⊕ (Int32 × Ob)) :=
  (aset (f_rxNext o) x1 (x2 + (1 : Int32))).bind fun y209 => some (.inr ((x2 + (1 : Int32)), (s_rxNext o y209)))
theorem tJ16_73 (Ad : QAd n0 ad) (W : QW Z a0) (s : List Int32) (o : Ob) (x1 : Int32) (x2 : Int32) {r : ((Ob)) ⊕ (Int32 × Ob)} {u : Option Value} {τ : QHeap} (h : J16_73 o x1 x2 = some r) (hx0 : ∀ x : Ob, r = .inl x → u = (none : Option Value) ∧ τ = (H0 s x)) (hc : ∀ x : Int32 × Ob, r = .inr x → QTri l Z n0 ad 16 (7, [vR 1, vI x1, vI x.1, none, none], [], (H0 s x.2)) u τ) : QTri l Z n0 ad 16 (73, [vR 1, vI x1, vI x2, none, none], [], (H0 s o)) u τ := by
 unfold J16_73 at h
 refine zS Ad W 6 (st' := (81, [vR 1, vI x1, vI x2, none, none], [.int (x2 + (1:Int32)), .int x1, .ref 9], (H0 s o))) rfl ?_
 obtain ⟨y209, hy209, h⟩ := bind_eq_some_iff.mp h
 refine zB Ad W (f := fun y209 => (82, [vR 1, vI x1, vI x2, none, none], [], (H0x20 s o y209))) rfl hy209 ?_
 refine zS Ad W 2 (st' := (7, [vR 1, vI x1, vI (x2 + (1:Int32)), none, none], [], (H0x20 s o y209))) rfl ?_
 have E210 : ((H0x20 s o y209) : QHeap) = (H0 s (s_rxNext o y209)) := by simp only [fs, H0, H0v, H0x20, s_rxNext]
 rw [E210]
 obtain rfl := Option.some.inj h
 exact zM [tt,tt,tt,ff,ff] (hc ((x2 + (1:Int32)), (s_rxNext o y209)) rfl)
def J16_48 (o : Ob) (x1 : Int32) (x2 : Int32) (x3 : Int32) (x4 : Int32) : Option (((Ob)) ⊕ (Int32 × Ob)) :=
  (if x4 = (4 : Int32) then (aget (f_rxVal o) x3).bind fun y197 => (F20 o x1 x2 y197).bind fun r206 => (aset (f_state r206) x3 (5 : Int32)).bind fun y207 => (J16_73 (s_state r206 y207) x1 x2) else (J16_73 o x1 x2))
theorem tJ16_48 (Ad : QAd n0 ad) (W : QW Z a0) (s : List Int32) (o : Ob) (x1 : Int32) (x2 : Int32) (x3 : Int32) (x4 : Int32) {r : ((Ob)) ⊕ (Int32 × Ob)} {u : Option Value} {τ : QHeap} (h : J16_48 o x1 x2 x3 x4 = some r) (hx0 : ∀ x : Ob, r = .inl x → u = (none : Option Value) ∧ τ = (H0 s x)) (hc : ∀ x : Int32 × Ob, r = .inr x → QTri l Z n0 ad 16 (7, [vR 1, vI x1, vI x.1, none, none], [], (H0 s x.2)) u τ) : QTri l Z n0 ad 16 (48, [vR 1, vI x1, vI x2, vI x3, vI x4], [], (H0 s o)) u τ := by
 unfold J16_48 at h
 refine zS Ad W 2 (st' := (51, [vR 1, vI x1, vI x2, vI x3, vI x4], [.int (4:Int32), .int x4], (H0 s o))) rfl ?_
 rcases qite h with ⟨hc196, h⟩ | ⟨hc196, h⟩
 ·refine zF Ad W (t := 73) (f := 54) rfl (XT.ii_ne_f hc196) ?_
  refine zS Ad W 6 (st' := (62, [vR 1, vI x1, vI x2, vI x3, vI x4], [.int x3, .ref 8, .int x2, .int x1, .ref 1], (H0 s o))) rfl ?_
  obtain ⟨y197, hy197, h⟩ := bind_eq_some_iff.mp h
  refine zB Ad W (f := fun y197 => (63, [vR 1, vI x1, vI x2, vI x3, vI x4], [.int y197, .int x2, .int x1, .ref 1], (H0 s o))) rfl hy197 ?_
  obtain ⟨r206, hr206, h⟩ := bind_eq_some_iff.mp h
  refine QTri.callP W (a := 1) (as := [.int x1, .int x2, .int y197]) (rest := []) (w := none) (σ₁ := (H0 s r206)) rfl rfl rfl rfl rfl rfl rfl rfl (tF20 Ad W s o x1 x2 y197 hr206) ?_
  refine zS Ad W 4 (st' := (72, [vR 1, vI x1, vI x2, vI x3, vI x4], [.int (5:Int32), .int x3, .ref 6], (H0 s r206))) rfl ?_
  obtain ⟨y207, hy207, h⟩ := bind_eq_some_iff.mp h
  refine zB Ad W (f := fun y207 => (73, [vR 1, vI x1, vI x2, vI x3, vI x4], [], (H0x11 s r206 y207))) rfl hy207 ?_
  have E208 : ((H0x11 s r206 y207) : QHeap) = (H0 s (s_state r206 y207)) := by simp only [fs, H0, H0v, H0x11, s_state]
  rw [E208]
  exact zM [tt,tt,tt,ff,ff] (tJ16_73 Ad W s (s_state r206 y207) x1 x2 h hx0 hc)
 ·refine zT Ad W (t := 73) (f := 54) rfl (XT.ii_ne_t hc196) ?_
  exact zM [tt,tt,tt,ff,ff] (tJ16_73 Ad W s o x1 x2 h hx0 hc)
def B16_7 (x1 : Int32) (v : Int32 × Ob) : Option (((Ob)) ⊕ (Int32 × Ob)) :=
  (if v.1 < (0 : Int32) then some (.inl v.2) else (if v.1 < (32 : Int32) then (aget (f_state v.2) ((x1 * (32 : Int32)) + v.1)).bind fun y194 => (if y194 = (4 : Int32) then (J16_48 v.2 x1 v.1 ((x1 * (32 : Int32)) + v.1) y194) else (if y194 = (6 : Int32) then (J16_48 v.2 x1 v.1 ((x1 * (32 : Int32)) + v.1) y194) else some (.inl v.2))) else some (.inl v.2)))
theorem tB16_7 (Ad : QAd n0 ad) (W : QW Z a0) (s : List Int32) (x1 : Int32) (v : Int32 × Ob) {r : ((Ob)) ⊕ (Int32 × Ob)} {u : Option Value} {τ : QHeap} (h : B16_7 x1 v = some r) (hx0 : ∀ x : Ob, r = .inl x → u = (none : Option Value) ∧ τ = (H0 s x)) (hc : ∀ x : Int32 × Ob, r = .inr x → QTri l Z n0 ad 16 (7, [vR 1, vI x1, vI x.1, none, none], [], (H0 s x.2)) u τ) : QTri l Z n0 ad 16 (7, [vR 1, vI x1, vI v.1, none, none], [], (H0 s v.2)) u τ := by
 unfold B16_7 at h
 refine zS Ad W 1 (st' := (8, [vR 1, vI x1, vI v.1, none, none], [.int v.1], (H0 s v.2))) rfl ?_
 rcases qite h with ⟨hc192, h⟩ | ⟨hc192, h⟩
 ·refine zT Ad W (t := 88) (f := 11) rfl (XT.i0_lt_t hc192) ?_
  obtain rfl := Option.some.inj h
  obtain ⟨rfl, rfl⟩ := hx0 v.2 rfl
  exact QTri.ret0 rfl rfl
 ·refine zF Ad W (t := 88) (f := 11) rfl (XT.i0_lt_f hc192) ?_
  refine zS Ad W 2 (st' := (14, [vR 1, vI x1, vI v.1, none, none], [.int (32:Int32), .int v.1], (H0 s v.2))) rfl ?_
  rcases qite h with ⟨hc193, h⟩ | ⟨hc193, h⟩
  ·refine zF Ad W (t := 88) (f := 17) rfl (XT.ii_ge_f hc193) ?_
   refine zS Ad W 9 (st' := (29, [vR 1, vI x1, vI v.1, vI ((x1 * (32:Int32)) + v.1), none], [.int ((x1 * (32:Int32)) + v.1), .ref 6], (H0 s v.2))) rfl ?_
   obtain ⟨y194, hy194, h⟩ := bind_eq_some_iff.mp h
   refine zB Ad W (f := fun y194 => (30, [vR 1, vI x1, vI v.1, vI ((x1 * (32:Int32)) + v.1), none], [.int y194], (H0 s v.2))) rfl hy194 ?_
   refine zS Ad W 3 (st' := (35, [vR 1, vI x1, vI v.1, vI ((x1 * (32:Int32)) + v.1), vI y194], [.int (4:Int32), .int y194], (H0 s v.2))) rfl ?_
   rcases qite h with ⟨hc195, h⟩ | ⟨hc195, h⟩
   ·refine zT Ad W (t := 48) (f := 38) rfl (XT.ii_eq_t hc195) ?_
    exact zM [tt,tt,tt,tt,tt] (tJ16_48 Ad W s v.2 x1 v.1 ((x1 * (32:Int32)) + v.1) y194 h hx0 hc)
   ·refine zF Ad W (t := 48) (f := 38) rfl (XT.ii_eq_f hc195) ?_
    refine zS Ad W 2 (st' := (42, [vR 1, vI x1, vI v.1, vI ((x1 * (32:Int32)) + v.1), vI y194], [.int (6:Int32), .int y194], (H0 s v.2))) rfl ?_
    rcases qite h with ⟨hc211, h⟩ | ⟨hc211, h⟩
    ·refine zT Ad W (t := 48) (f := 45) rfl (XT.ii_eq_t hc211) ?_
     exact zM [tt,tt,tt,tt,tt] (tJ16_48 Ad W s v.2 x1 v.1 ((x1 * (32:Int32)) + v.1) y194 h hx0 hc)
    ·refine zF Ad W (t := 48) (f := 45) rfl (XT.ii_eq_f hc211) ?_
     refine zS Ad W 1 (st' := (88, [vR 1, vI x1, vI v.1, vI ((x1 * (32:Int32)) + v.1), vI y194], [], (H0 s v.2))) rfl ?_
     obtain rfl := Option.some.inj h
     obtain ⟨rfl, rfl⟩ := hx0 v.2 rfl
     exact QTri.ret0 rfl rfl
  ·refine zT Ad W (t := 88) (f := 17) rfl (XT.ii_ge_t hc193) ?_
   obtain rfl := Option.some.inj h
   obtain ⟨rfl, rfl⟩ := hx0 v.2 rfl
   exact QTri.ret0 rfl rfl
/-- deliver(I)V -/
def F16 (o : Ob) (x1 : Int32) : Option (Ob) :=
 (aget (f_rxNext o) x1).bind fun y191 => (loopN (B16_7 x1) qN (y191, o)).bind fun e212 => some e212
theorem tF16 (Ad : QAd n0 ad) (W : QW Z a0) (s : List Int32) (o : Ob) (x1 : Int32) {r : Ob} (h : F16 o x1 = some r) : QTri l Z n0 ad 16 (0, qentry [.ref 1, .int x1] (pMaxL 16), [], (H0 s o)) (none : Option Value) (H0 s r) := by
 unfold F16 at h
 refine zS Ad W 3 (st' := (5, [vR 1, vI x1, none, none, none], [.int x1, .ref 9], (H0 s o))) rfl ?_
 obtain ⟨y191, hy191, h⟩ := bind_eq_some_iff.mp h
 refine zB Ad W (f := fun y191 => (6, [vR 1, vI x1, none, none, none], [.int y191], (H0 s o))) rfl hy191 ?_
 refine zS Ad W 1 (st' := (7, [vR 1, vI x1, vI y191, none, none], [], (H0 s o))) rfl ?_
 obtain ⟨e212, he212, h⟩ := bind_eq_some_iff.mp h
 refine zM [tt,tt,tt,ff,ff] (loopN_tri (B := B16_7 x1) (T := fun lv213 => QTri l Z n0 ad 16 (7, [vR 1, vI x1, vI lv213.1, none, none], [], (H0 s lv213.2)) (none : Option Value) (H0 s r)) (KE := fun e212a => (none : Option Value) = (none : Option Value) ∧ (H0 s r) = (H0 s e212a)) (fun lv213 r hB hE hC => tB16_7 Ad W s x1 lv213 hB (fun x q => hE _ q) (fun x q => hC x q)) qN (y191, o) e212 he212 ?_)
 obtain rfl := Option.some.inj h
 exact ⟨rfl, rfl⟩
def J18_76 (o : Ob) (x1 : Int32) (x4 : Int32) (x5 : Int32) : Option (Ob) :=
  (F14 o x1 x4).bind fun r162 => (F15 r162 x1 x5).bind fun r190 => (F16 r190 x1).bind fun r214 => some r214
theorem tJ18_76 (Ad : QAd n0 ad) (W : QW Z a0) (s : List Int32) (o : Ob) (x1 : Int32) (x4 : Int32) (x5 : Int32) {r : Ob} (h : J18_76 o x1 x4 x5 = some r) : QTri l Z n0 ad 18 (76, [vR 1, vI x1, none, none, vI x4, vI x5, none, none], [], (H0 s o)) (none : Option Value) (H0 s r) := by
 unfold J18_76 at h
 refine zS Ad W 3 (st' := (80, [vR 1, vI x1, none, none, vI x4, vI x5, none, none], [.int x4, .int x1, .ref 1], (H0 s o))) rfl ?_
 obtain ⟨r162, hr162, h⟩ := bind_eq_some_iff.mp h
 refine QTri.callP W (a := 1) (as := [.int x1, .int x4]) (rest := []) (w := none) (σ₁ := (H0 s r162)) rfl rfl rfl rfl rfl rfl rfl rfl (tF14 Ad W s o x1 x4 hr162) ?_
 refine zS Ad W 3 (st' := (87, [vR 1, vI x1, none, none, vI x4, vI x5, none, none], [.int x5, .int x1, .ref 1], (H0 s r162))) rfl ?_
 obtain ⟨r190, hr190, h⟩ := bind_eq_some_iff.mp h
 refine QTri.callP W (a := 1) (as := [.int x1, .int x5]) (rest := []) (w := none) (σ₁ := (H0 s r190)) rfl rfl rfl rfl rfl rfl rfl rfl (tF15 Ad W s r162 x1 x5 hr190) ?_
 refine zS Ad W 2 (st' := (92, [vR 1, vI x1, none, none, vI x4, vI x5, none, none], [.int x1, .ref 1], (H0 s r190))) rfl ?_
 obtain ⟨r214, hr214, h⟩ := bind_eq_some_iff.mp h
 refine QTri.callP W (a := 1) (as := [.int x1]) (rest := []) (w := none) (σ₁ := (H0 s r214)) rfl rfl rfl rfl rfl rfl rfl rfl (tF16 Ad W s r190 x1 hr214) ?_
 obtain rfl := Option.some.inj h
 exact QTri.ret0 rfl rfl
def H0x21 (s : List Int32) (o0 : Ob) (a0_4 : List Int32) (a0_6 : List Int32) : QHeap := H0v s (f_srcPayload o0) (f_pend o0) (f_queue o0) (f_stats o0) a0_4 (f_timer o0) a0_6 (f_rxNext o0) (f_rxLead o0) (f_rxTrail o0) (f_lossLeft o0) (f_dups o0) (f_drops o0) (f_delSeq o0) (f_delVal o0) (f_delLen o0) (f_lostLog o0) (f_lostLen o0) (f_nakBuf o0) (f_win o0) (f_back o0) (f_repair o0) (f_period o0) (f_nextSeq o0) (f_qLen o0) (f_nakLen o0)
def H0x22 (s : List Int32) (o0 : Ob) (a0_4 : List Int32) (a0_5 : List Int32) (a0_6 : List Int32) : QHeap := H0v s (f_srcPayload o0) (f_pend o0) (f_queue o0) (f_stats o0) a0_4 a0_5 a0_6 (f_rxNext o0) (f_rxLead o0) (f_rxTrail o0) (f_lossLeft o0) (f_dups o0) (f_drops o0) (f_delSeq o0) (f_delVal o0) (f_delLen o0) (f_lostLog o0) (f_lostLen o0) (f_nakBuf o0) (f_win o0) (f_back o0) (f_repair o0) (f_period o0) (f_nextSeq o0) (f_qLen o0) (f_nakLen o0)
def J18_39 (o : Ob) (x1 : Int32) (x3 : Int32) (x4 : Int32) (x5 : Int32) (x6 : Int32) : Option (Ob) :=
  (aset (f_state o) x6 (4 : Int32)).bind fun y217 => (aset (f_rxVal o) x6 x3).bind fun y218 => (aset (f_timer o) x6 (0 : Int32)).bind fun y219 => (J18_76 (s_timer (s_rxVal (s_state o y217) y218) y219) x1 x4 x5)
theorem tJ18_39 (Ad : QAd n0 ad) (W : QW Z a0) (s : List Int32) (o : Ob) (x1 : Int32) (x3 : Int32) (x4 : Int32) (x5 : Int32) (x6 : Int32) {r : Ob} (h : J18_39 o x1 x3 x4 x5 x6 = some r) : QTri l Z n0 ad 18 (39, [vR 1, vI x1, none, vI x3, vI x4, vI x5, vI x6, none], [], (H0 s o)) (none : Option Value) (H0 s r) := by
 unfold J18_39 at h
 refine zS Ad W 4 (st' := (46, [vR 1, vI x1, none, vI x3, vI x4, vI x5, vI x6, none], [.int (4:Int32), .int x6, .ref 6], (H0 s o))) rfl ?_
 obtain ⟨y217, hy217, h⟩ := bind_eq_some_iff.mp h
 refine zB Ad W (f := fun y217 => (47, [vR 1, vI x1, none, vI x3, vI x4, vI x5, vI x6, none], [], (H0x11 s o y217))) rfl hy217 ?_
 refine zS Ad W 4 (st' := (54, [vR 1, vI x1, none, vI x3, vI x4, vI x5, vI x6, none], [.int x3, .int x6, .ref 8], (H0x11 s o y217))) rfl ?_
 obtain ⟨y218, hy218, h⟩ := bind_eq_some_iff.mp h
 refine zB Ad W (f := fun y218 => (55, [vR 1, vI x1, none, vI x3, vI x4, vI x5, vI x6, none], [], (H0x21 s o y217 y218))) rfl hy218 ?_
 refine zS Ad W 4 (st' := (62, [vR 1, vI x1, none, vI x3, vI x4, vI x5, vI x6, none], [.int (0:Int32), .int x6, .ref 7], (H0x21 s o y217 y218))) rfl ?_
 obtain ⟨y219, hy219, h⟩ := bind_eq_some_iff.mp h
 refine zB Ad W (f := fun y219 => (63, [vR 1, vI x1, none, vI x3, vI x4, vI x5, vI x6, none], [], (H0x22 s o y217 y219 y218))) rfl hy219 ?_
 refine zS Ad W 1 (st' := (76, [vR 1, vI x1, none, vI x3, vI x4, vI x5, vI x6, none], [], (H0x22 s o y217 y219 y218))) rfl ?_
 have E220 : ((H0x22 s o y217 y219 y218) : QHeap) = (H0 s (s_timer (s_rxVal (s_state o y217) y218) y219)) := by simp only [fs, H0, H0v, H0x22, s_state, s_timer, s_rxVal]
 rw [E220]
 exact zM [tt,tt,ff,ff,tt,tt,ff,ff] (tJ18_76 Ad W s (s_timer (s_rxVal (s_state o y217) y218) y219) x1 x4 x5 h)
/-- isWaiting(I)Z -/
def F29 (x1 : Int32) : Option (Int32) :=
 (if x1 = (1:Int32) then some (1:Int32) else (if x1 = (2:Int32) then some (1:Int32) else (if x1 = (3:Int32) then some (1:Int32) else some (0:Int32))))
theorem tF29 (Ad : QAd n0 ad) (W : QW Z a0) {a : Nat} {σ : QHeap} (x1 : Int32) {r : Int32} (h : F29 x1 = some r) : QTri l Z n0 ad 29 (0, qentry [.ref a, .int x1] (pMaxL 29), [], σ) (some (Value.int r)) σ := by
 unfold F29 at h
 refine zS Ad W 2 (st' := (2, [vR a, vI x1], [.int (1:Int32), .int x1], σ)) rfl ?_
 rcases qite h with ⟨hc221, h⟩ | ⟨hc221, h⟩
 ·refine zT Ad W (t := 15) (f := 5) rfl (XT.ii_eq_t hc221) ?_
  refine zS Ad W 2 (st' := (20, [vR a, vI x1], [.int (1:Int32)], σ)) rfl ?_
  obtain rfl := Option.some.inj h
  exact QTri.retZ rfl rfl
 ·refine zF Ad W (t := 15) (f := 5) rfl (XT.ii_eq_f hc221) ?_
  refine zS Ad W 2 (st' := (7, [vR a, vI x1], [.int (2:Int32), .int x1], σ)) rfl ?_
  rcases qite h with ⟨hc222, h⟩ | ⟨hc222, h⟩
  ·refine zT Ad W (t := 15) (f := 10) rfl (XT.ii_eq_t hc222) ?_
   refine zS Ad W 2 (st' := (20, [vR a, vI x1], [.int (1:Int32)], σ)) rfl ?_
   obtain rfl := Option.some.inj h
   exact QTri.retZ rfl rfl
  ·refine zF Ad W (t := 15) (f := 10) rfl (XT.ii_eq_f hc222) ?_
   refine zS Ad W 2 (st' := (12, [vR a, vI x1], [.int (3:Int32), .int x1], σ)) rfl ?_
   rcases qite h with ⟨hc223, h⟩ | ⟨hc223, h⟩
   ·refine zF Ad W (t := 19) (f := 15) rfl (XT.ii_ne_f hc223) ?_
    refine zS Ad W 2 (st' := (20, [vR a, vI x1], [.int (1:Int32)], σ)) rfl ?_
    obtain rfl := Option.some.inj h
    exact QTri.retZ rfl rfl
   ·refine zT Ad W (t := 19) (f := 15) rfl (XT.ii_ne_t hc223) ?_
    refine zS Ad W 1 (st' := (20, [vR a, vI x1], [.int (0:Int32)], σ)) rfl ?_
    obtain rfl := Option.some.inj h
    exact QTri.retZ rfl rfl
def H0x23 (s : List Int32) (o0 : Ob) (a0_11 : List Int32) : QHeap := H0v s (f_srcPayload o0) (f_pend o0) (f_queue o0) (f_stats o0) (f_state o0) (f_timer o0) (f_rxVal o0) (f_rxNext o0) (f_rxLead o0) (f_rxTrail o0) (f_lossLeft o0) a0_11 (f_drops o0) (f_delSeq o0) (f_delVal o0) (f_delLen o0) (f_lostLog o0) (f_lostLen o0) (f_nakBuf o0) (f_win o0) (f_back o0) (f_repair o0) (f_period o0) (f_nextSeq o0) (f_qLen o0) (f_nakLen o0)
/-- applyData(IIIII)V -/
def F18 (o : Ob) (x1 : Int32) (x2 : Int32) (x3 : Int32) (x4 : Int32) (x5 : Int32) : Option (Ob) :=
 (F19 x2).bind fun r141 => (if r141 = (0:Int32) then (J18_76 o x1 x4 x5) else (aget (f_state o) ((x1 * (32:Int32)) + x2)).bind fun y215 => (if y215 = (0:Int32) then (J18_39 o x1 x3 x4 x5 ((x1 * (32:Int32)) + x2)) else (F29 y215).bind fun r224 => (if r224 = (0:Int32) then (aget (f_dups o) x1).bind fun y226 => (aset (f_dups o) x1 (y226 + (1:Int32))).bind fun y227 => (J18_76 (s_dups o y227) x1 x4 x5) else (J18_39 o x1 x3 x4 x5 ((x1 * (32:Int32)) + x2)))))
theorem tF18 (Ad : QAd n0 ad) (W : QW Z a0) (s : List Int32) (o : Ob) (x1 : Int32) (x2 : Int32) (x3 : Int32) (x4 : Int32) (x5 : Int32) {r : Ob} (h : F18 o x1 x2 x3 x4 x5 = some r) : QTri l Z n0 ad 18 (0, qentry [.ref 1, .int x1, .int x2, .int x3, .int x4, .int x5] (pMaxL 18), [], (H0 s o)) (none : Option Value) (H0 s r) := by
 unfold F18 at h
 refine zS Ad W 2 (st' := (2, [vR 1, vI x1, vI x2, vI x3, vI x4, vI x5, none, none], [.int x2, .ref 1], (H0 s o))) rfl ?_
 obtain ⟨r141, hr141, h⟩ := bind_eq_some_iff.mp h
 refine QTri.callP W (a := 1) (as := [.int x2]) (rest := []) (w := (some (.int r141))) (σ₁ := (H0 s o)) rfl rfl rfl rfl rfl rfl rfl rfl (tF19 Ad W x2 hr141) ?_
 rcases qite h with ⟨hc142, h⟩ | ⟨hc142, h⟩
 ·refine zT Ad W (t := 76) (f := 8) rfl (XT.i0_eq_t hc142) ?_
  exact zM [tt,tt,ff,ff,tt,tt,ff,ff] (tJ18_76 Ad W s o x1 x4 x5 h)
 ·refine zF Ad W (t := 76) (f := 8) rfl (XT.i0_eq_f hc142) ?_
  refine zS Ad W 9 (st' := (22, [vR 1, vI x1, vI x2, vI x3, vI x4, vI x5, vI ((x1 * (32:Int32)) + x2), none], [.int ((x1 * (32:Int32)) + x2), .ref 6], (H0 s o))) rfl ?_
  obtain ⟨y215, hy215, h⟩ := bind_eq_some_iff.mp h
  refine zB Ad W (f := fun y215 => (23, [vR 1, vI x1, vI x2, vI x3, vI x4, vI x5, vI ((x1 * (32:Int32)) + x2), none], [.int y215], (H0 s o))) rfl hy215 ?_
  refine zS Ad W 2 (st' := (27, [vR 1, vI x1, vI x2, vI x3, vI x4, vI x5, vI ((x1 * (32:Int32)) + x2), vI y215], [.int y215], (H0 s o))) rfl ?_
  rcases qite h with ⟨hc216, h⟩ | ⟨hc216, h⟩
  ·refine zT Ad W (t := 39) (f := 30) rfl (XT.i0_eq_t hc216) ?_
   exact zM [tt,tt,ff,tt,tt,tt,tt,ff] (tJ18_39 Ad W s o x1 x3 x4 x5 ((x1 * (32:Int32)) + x2) h)
  ·refine zF Ad W (t := 39) (f := 30) rfl (XT.i0_eq_f hc216) ?_
   refine zS Ad W 2 (st' := (33, [vR 1, vI x1, vI x2, vI x3, vI x4, vI x5, vI ((x1 * (32:Int32)) + x2), vI y215], [.int y215, .ref 1], (H0 s o))) rfl ?_
   obtain ⟨r224, hr224, h⟩ := bind_eq_some_iff.mp h
   refine QTri.callP W (a := 1) (as := [.int y215]) (rest := []) (w := (some (.int r224))) (σ₁ := (H0 s o)) rfl rfl rfl rfl rfl rfl rfl rfl (tF29 Ad W y215 hr224) ?_
   rcases qite h with ⟨hc225, h⟩ | ⟨hc225, h⟩
   ·refine zT Ad W (t := 66) (f := 39) rfl (XT.i0_eq_t hc225) ?_
    refine zS Ad W 4 (st' := (72, [vR 1, vI x1, vI x2, vI x3, vI x4, vI x5, vI ((x1 * (32:Int32)) + x2), vI y215], [.int x1, .ref 13, .int x1, .ref 13], (H0 s o))) rfl ?_
    obtain ⟨y226, hy226, h⟩ := bind_eq_some_iff.mp h
    refine zB Ad W (f := fun y226 => (73, [vR 1, vI x1, vI x2, vI x3, vI x4, vI x5, vI ((x1 * (32:Int32)) + x2), vI y215], [.int y226, .int x1, .ref 13], (H0 s o))) rfl hy226 ?_
    refine zS Ad W 2 (st' := (75, [vR 1, vI x1, vI x2, vI x3, vI x4, vI x5, vI ((x1 * (32:Int32)) + x2), vI y215], [.int (y226 + (1:Int32)), .int x1, .ref 13], (H0 s o))) rfl ?_
    obtain ⟨y227, hy227, h⟩ := bind_eq_some_iff.mp h
    refine zB Ad W (f := fun y227 => (76, [vR 1, vI x1, vI x2, vI x3, vI x4, vI x5, vI ((x1 * (32:Int32)) + x2), vI y215], [], (H0x23 s o y227))) rfl hy227 ?_
    have E228 : ((H0x23 s o y227) : QHeap) = (H0 s (s_dups o y227)) := by simp only [fs, H0, H0v, H0x23, s_dups]
    rw [E228]
    exact zM [tt,tt,ff,ff,tt,tt,ff,ff] (tJ18_76 Ad W s (s_dups o y227) x1 x4 x5 h)
   ·refine zF Ad W (t := 66) (f := 39) rfl (XT.i0_eq_f hc225) ?_
    exact zM [tt,tt,ff,tt,tt,tt,tt,ff] (tJ18_39 Ad W s o x1 x3 x4 x5 ((x1 * (32:Int32)) + x2) h)
def J13_50 (o : Ob) (x1 : Int32) (x3 : Int32) (x4 : Int32) (x5 : Int32) (x6 : Int32) : Option (Ob) :=
  (F18 o x1 x3 x4 x5 x6).bind fun r229 => some r229
theorem tJ13_50 (Ad : QAd n0 ad) (W : QW Z a0) (s : List Int32) (o : Ob) (x1 : Int32) (x3 : Int32) (x4 : Int32) (x5 : Int32) (x6 : Int32) {r : Ob} (h : J13_50 o x1 x3 x4 x5 x6 = some r) : QTri l Z n0 ad 13 (50, [vR 1, vI x1, none, vI x3, vI x4, vI x5, vI x6], [], (H0 s o)) (none : Option Value) (H0 s r) := by
 unfold J13_50 at h
 refine zS Ad W 6 (st' := (59, [vR 1, vI x1, none, vI x3, vI x4, vI x5, vI x6], [.int x6, .int x5, .int x4, .int x3, .int x1, .ref 1], (H0 s o))) rfl ?_
 obtain ⟨r229, hr229, h⟩ := bind_eq_some_iff.mp h
 refine QTri.callP W (a := 1) (as := [.int x1, .int x3, .int x4, .int x5, .int x6]) (rest := []) (w := none) (σ₁ := (H0 s r229)) rfl rfl rfl rfl rfl rfl rfl rfl (tF18 Ad W s o x1 x3 x4 x5 x6 hr229) ?_
 refine zS Ad W 1 (st' := (98, [vR 1, vI x1, none, vI x3, vI x4, vI x5, vI x6], [], (H0 s r229))) rfl ?_
 obtain rfl := Option.some.inj h
 exact QTri.ret0 rfl rfl
def J35_36 (o : Ob) (x3 : Int32) : Option (Ob) :=
  (aset (f_state o) x3 (3 : Int32)).bind fun y239 => (aset (f_timer o) x3 (f_repair o)).bind fun y240 => some (s_timer (s_state o y239) y240)
theorem tJ35_36 (Ad : QAd n0 ad) (W : QW Z a0) (s : List Int32) (o : Ob) (x3 : Int32) {r : Ob} (h : J35_36 o x3 = some r) : QTri l Z n0 ad 35 (36, [vR 1, none, none, vI x3, none], [], (H0 s o)) (none : Option Value) (H0 s r) := by
 unfold J35_36 at h
 refine zS Ad W 4 (st' := (42, [vR 1, none, none, vI x3, none], [.int (3:Int32), .int x3, .ref 6], (H0 s o))) rfl ?_
 obtain ⟨y239, hy239, h⟩ := bind_eq_some_iff.mp h
 refine zB Ad W (f := fun y239 => (43, [vR 1, none, none, vI x3, none], [], (H0x11 s o y239))) rfl hy239 ?_
 refine zS Ad W 5 (st' := (52, [vR 1, none, none, vI x3, none], [.int (f_repair o), .int x3, .ref 7], (H0x11 s o y239))) rfl ?_
 obtain ⟨y240, hy240, h⟩ := bind_eq_some_iff.mp h
 refine zB Ad W (f := fun y240 => (53, [vR 1, none, none, vI x3, none], [], (H0x14 s o y239 y240))) rfl hy240 ?_
 have E241 : ((H0x14 s o y239 y240) : QHeap) = (H0 s (s_timer (s_state o y239) y240)) := by simp only [fs, H0, H0v, H0x14, s_state, s_timer]
 rw [E241]
 obtain rfl := Option.some.inj h
 exact QTri.ret0 rfl rfl
/-- applyNcf(II)V -/
def F35 (o : Ob) (x1 : Int32) (x2 : Int32) : Option (Ob) :=
 (F19 x2).bind fun r235 => (if r235 = (0:Int32) then some o else (aget (f_state o) ((x1 * (32:Int32)) + x2)).bind fun y237 => (if y237 = (1:Int32) then (J35_36 o ((x1 * (32:Int32)) + x2)) else (if y237 = (2:Int32) then (J35_36 o ((x1 * (32:Int32)) + x2)) else some o)))
theorem tF35 (Ad : QAd n0 ad) (W : QW Z a0) (s : List Int32) (o : Ob) (x1 : Int32) (x2 : Int32) {r : Ob} (h : F35 o x1 x2 = some r) : QTri l Z n0 ad 35 (0, qentry [.ref 1, .int x1, .int x2] (pMaxL 35), [], (H0 s o)) (none : Option Value) (H0 s r) := by
 unfold F35 at h
 refine zS Ad W 2 (st' := (2, [vR 1, vI x1, vI x2, none, none], [.int x2, .ref 1], (H0 s o))) rfl ?_
 obtain ⟨r235, hr235, h⟩ := bind_eq_some_iff.mp h
 refine QTri.callP W (a := 1) (as := [.int x2]) (rest := []) (w := (some (.int r235))) (σ₁ := (H0 s o)) rfl rfl rfl rfl rfl rfl rfl rfl (tF19 Ad W x2 hr235) ?_
 rcases qite h with ⟨hc236, h⟩ | ⟨hc236, h⟩
 ·refine zF Ad W (t := 9) (f := 8) rfl (XT.i0_ne_f hc236) ?_
  obtain rfl := Option.some.inj h
  exact QTri.ret0 rfl rfl
 ·refine zT Ad W (t := 9) (f := 8) rfl (XT.i0_ne_t hc236) ?_
  refine zS Ad W 9 (st' := (21, [vR 1, vI x1, vI x2, vI ((x1 * (32:Int32)) + x2), none], [.int ((x1 * (32:Int32)) + x2), .ref 6], (H0 s o))) rfl ?_
  obtain ⟨y237, hy237, h⟩ := bind_eq_some_iff.mp h
  refine zB Ad W (f := fun y237 => (22, [vR 1, vI x1, vI x2, vI ((x1 * (32:Int32)) + x2), none], [.int y237], (H0 s o))) rfl hy237 ?_
  refine zS Ad W 3 (st' := (27, [vR 1, vI x1, vI x2, vI ((x1 * (32:Int32)) + x2), vI y237], [.int (1:Int32), .int y237], (H0 s o))) rfl ?_
  rcases qite h with ⟨hc238, h⟩ | ⟨hc238, h⟩
  ·refine zT Ad W (t := 36) (f := 30) rfl (XT.ii_eq_t hc238) ?_
   exact zM [tt,ff,ff,tt,ff] (tJ35_36 Ad W s o ((x1 * (32:Int32)) + x2) h)
  ·refine zF Ad W (t := 36) (f := 30) rfl (XT.ii_eq_f hc238) ?_
   refine zS Ad W 2 (st' := (33, [vR 1, vI x1, vI x2, vI ((x1 * (32:Int32)) + x2), vI y237], [.int (2:Int32), .int y237], (H0 s o))) rfl ?_
   rcases qite h with ⟨hc242, h⟩ | ⟨hc242, h⟩
   ·refine zF Ad W (t := 53) (f := 36) rfl (XT.ii_ne_f hc242) ?_
    exact zM [tt,ff,ff,tt,ff] (tJ35_36 Ad W s o ((x1 * (32:Int32)) + x2) h)
   ·refine zT Ad W (t := 53) (f := 36) rfl (XT.ii_ne_t hc242) ?_
    obtain rfl := Option.some.inj h
    exact QTri.ret0 rfl rfl
/-- copyTo(IIIIII)V -/
def F13 (o : Ob) (x1 : Int32) (x2 : Int32) (x3 : Int32) (x4 : Int32) (x5 : Int32) (x6 : Int32) : Option (Ob) :=
 (aget (f_lossLeft o) x1).bind fun y131 => (if (0:Int32) < y131 then (aget (f_lossLeft o) x1).bind fun y133 => (aset (f_lossLeft o) x1 (y133 - (1:Int32))).bind fun y134 => (aget (f_drops o) x1).bind fun y135 => (aset (f_drops o) x1 (y135 + (1:Int32))).bind fun y136 => (aget (f_stats o) (9:Int32)).bind fun y137 => (aset (f_stats o) (9:Int32) (y137 + (1:Int32))).bind fun y138 => some (s_stats (s_drops (s_lossLeft o y134) y136) y138) else (if x2 = (0:Int32) then (J13_50 o x1 x3 x4 x5 x6) else (if x2 = (1:Int32) then (J13_50 o x1 x3 x4 x5 x6) else (if x2 = (2:Int32) then (F14 o x1 x5).bind fun r232 => (F15 r232 x1 x6).bind fun r233 => (F16 r233 x1).bind fun r234 => some r234 else (F35 o x1 x3).bind fun r243 => some r243))))
theorem tF13 (Ad : QAd n0 ad) (W : QW Z a0) (s : List Int32) (o : Ob) (x1 : Int32) (x2 : Int32) (x3 : Int32) (x4 : Int32) (x5 : Int32) (x6 : Int32) {r : Ob} (h : F13 o x1 x2 x3 x4 x5 x6 = some r) : QTri l Z n0 ad 13 (0, qentry [.ref 1, .int x1, .int x2, .int x3, .int x4, .int x5, .int x6] (pMaxL 13), [], (H0 s o)) (none : Option Value) (H0 s r) := by
 unfold F13 at h
 refine zS Ad W 3 (st' := (5, [vR 1, vI x1, vI x2, vI x3, vI x4, vI x5, vI x6], [.int x1, .ref 12], (H0 s o))) rfl ?_
 obtain ⟨y131, hy131, h⟩ := bind_eq_some_iff.mp h
 refine zB Ad W (f := fun y131 => (6, [vR 1, vI x1, vI x2, vI x3, vI x4, vI x5, vI x6], [.int y131], (H0 s o))) rfl hy131 ?_
 rcases qite h with ⟨hc132, h⟩ | ⟨hc132, h⟩
 ·refine zF Ad W (t := 41) (f := 9) rfl (XT.i0_le_f hc132) ?_
  refine zS Ad W 4 (st' := (15, [vR 1, vI x1, vI x2, vI x3, vI x4, vI x5, vI x6], [.int x1, .ref 12, .int x1, .ref 12], (H0 s o))) rfl ?_
  obtain ⟨y133, hy133, h⟩ := bind_eq_some_iff.mp h
  refine zB Ad W (f := fun y133 => (16, [vR 1, vI x1, vI x2, vI x3, vI x4, vI x5, vI x6], [.int y133, .int x1, .ref 12], (H0 s o))) rfl hy133 ?_
  refine zS Ad W 2 (st' := (18, [vR 1, vI x1, vI x2, vI x3, vI x4, vI x5, vI x6], [.int (y133 - (1:Int32)), .int x1, .ref 12], (H0 s o))) rfl ?_
  obtain ⟨y134, hy134, h⟩ := bind_eq_some_iff.mp h
  refine zB Ad W (f := fun y134 => (19, [vR 1, vI x1, vI x2, vI x3, vI x4, vI x5, vI x6], [], (H0x8 s o y134))) rfl hy134 ?_
  refine zS Ad W 4 (st' := (25, [vR 1, vI x1, vI x2, vI x3, vI x4, vI x5, vI x6], [.int x1, .ref 14, .int x1, .ref 14], (H0x8 s o y134))) rfl ?_
  obtain ⟨y135, hy135, h⟩ := bind_eq_some_iff.mp h
  refine zB Ad W (f := fun y135 => (26, [vR 1, vI x1, vI x2, vI x3, vI x4, vI x5, vI x6], [.int y135, .int x1, .ref 14], (H0x8 s o y134))) rfl hy135 ?_
  refine zS Ad W 2 (st' := (28, [vR 1, vI x1, vI x2, vI x3, vI x4, vI x5, vI x6], [.int (y135 + (1:Int32)), .int x1, .ref 14], (H0x8 s o y134))) rfl ?_
  obtain ⟨y136, hy136, h⟩ := bind_eq_some_iff.mp h
  refine zB Ad W (f := fun y136 => (29, [vR 1, vI x1, vI x2, vI x3, vI x4, vI x5, vI x6], [], (H0x9 s o y134 y136))) rfl hy136 ?_
  refine zS Ad W 4 (st' := (36, [vR 1, vI x1, vI x2, vI x3, vI x4, vI x5, vI x6], [.int (9:Int32), .ref 5, .int (9:Int32), .ref 5], (H0x9 s o y134 y136))) rfl ?_
  obtain ⟨y137, hy137, h⟩ := bind_eq_some_iff.mp h
  refine zB Ad W (f := fun y137 => (37, [vR 1, vI x1, vI x2, vI x3, vI x4, vI x5, vI x6], [.int y137, .int (9:Int32), .ref 5], (H0x9 s o y134 y136))) rfl hy137 ?_
  refine zS Ad W 2 (st' := (39, [vR 1, vI x1, vI x2, vI x3, vI x4, vI x5, vI x6], [.int (y137 + (1:Int32)), .int (9:Int32), .ref 5], (H0x9 s o y134 y136))) rfl ?_
  obtain ⟨y138, hy138, h⟩ := bind_eq_some_iff.mp h
  refine zB Ad W (f := fun y138 => (40, [vR 1, vI x1, vI x2, vI x3, vI x4, vI x5, vI x6], [], (H0x10 s o y138 y134 y136))) rfl hy138 ?_
  have E139 : ((H0x10 s o y138 y134 y136) : QHeap) = (H0 s (s_stats (s_drops (s_lossLeft o y134) y136) y138)) := by simp only [fs, H0, H0v, H0x10, s_stats, s_lossLeft, s_drops]
  rw [E139]
  obtain rfl := Option.some.inj h
  exact QTri.ret0 rfl rfl
 ·refine zT Ad W (t := 41) (f := 9) rfl (XT.i0_le_t hc132) ?_
  refine zS Ad W 1 (st' := (42, [vR 1, vI x1, vI x2, vI x3, vI x4, vI x5, vI x6], [.int x2], (H0 s o))) rfl ?_
  rcases qite h with ⟨hc140, h⟩ | ⟨hc140, h⟩
  ·refine zT Ad W (t := 50) (f := 45) rfl (XT.i0_eq_t hc140) ?_
   exact zM [tt,tt,ff,tt,tt,tt,tt] (tJ13_50 Ad W s o x1 x3 x4 x5 x6 h)
  ·refine zF Ad W (t := 50) (f := 45) rfl (XT.i0_eq_f hc140) ?_
   refine zS Ad W 2 (st' := (47, [vR 1, vI x1, vI x2, vI x3, vI x4, vI x5, vI x6], [.int (1:Int32), .int x2], (H0 s o))) rfl ?_
   rcases qite h with ⟨hc230, h⟩ | ⟨hc230, h⟩
   ·refine zF Ad W (t := 65) (f := 50) rfl (XT.ii_ne_f hc230) ?_
    exact zM [tt,tt,ff,tt,tt,tt,tt] (tJ13_50 Ad W s o x1 x3 x4 x5 x6 h)
   ·refine zT Ad W (t := 65) (f := 50) rfl (XT.ii_ne_t hc230) ?_
    refine zS Ad W 2 (st' := (67, [vR 1, vI x1, vI x2, vI x3, vI x4, vI x5, vI x6], [.int (2:Int32), .int x2], (H0 s o))) rfl ?_
    rcases qite h with ⟨hc231, h⟩ | ⟨hc231, h⟩
    ·refine zF Ad W (t := 92) (f := 70) rfl (XT.ii_ne_f hc231) ?_
     refine zS Ad W 3 (st' := (74, [vR 1, vI x1, vI x2, vI x3, vI x4, vI x5, vI x6], [.int x5, .int x1, .ref 1], (H0 s o))) rfl ?_
     obtain ⟨r232, hr232, h⟩ := bind_eq_some_iff.mp h
     refine QTri.callP W (a := 1) (as := [.int x1, .int x5]) (rest := []) (w := none) (σ₁ := (H0 s r232)) rfl rfl rfl rfl rfl rfl rfl rfl (tF14 Ad W s o x1 x5 hr232) ?_
     refine zS Ad W 3 (st' := (81, [vR 1, vI x1, vI x2, vI x3, vI x4, vI x5, vI x6], [.int x6, .int x1, .ref 1], (H0 s r232))) rfl ?_
     obtain ⟨r233, hr233, h⟩ := bind_eq_some_iff.mp h
     refine QTri.callP W (a := 1) (as := [.int x1, .int x6]) (rest := []) (w := none) (σ₁ := (H0 s r233)) rfl rfl rfl rfl rfl rfl rfl rfl (tF15 Ad W s r232 x1 x6 hr233) ?_
     refine zS Ad W 2 (st' := (86, [vR 1, vI x1, vI x2, vI x3, vI x4, vI x5, vI x6], [.int x1, .ref 1], (H0 s r233))) rfl ?_
     obtain ⟨r234, hr234, h⟩ := bind_eq_some_iff.mp h
     refine QTri.callP W (a := 1) (as := [.int x1]) (rest := []) (w := none) (σ₁ := (H0 s r234)) rfl rfl rfl rfl rfl rfl rfl rfl (tF16 Ad W s r233 x1 hr234) ?_
     refine zS Ad W 1 (st' := (98, [vR 1, vI x1, vI x2, vI x3, vI x4, vI x5, vI x6], [], (H0 s r234))) rfl ?_
     obtain rfl := Option.some.inj h
     exact QTri.ret0 rfl rfl
    ·refine zT Ad W (t := 92) (f := 70) rfl (XT.ii_ne_t hc231) ?_
     refine zS Ad W 3 (st' := (95, [vR 1, vI x1, vI x2, vI x3, vI x4, vI x5, vI x6], [.int x3, .int x1, .ref 1], (H0 s o))) rfl ?_
     obtain ⟨r243, hr243, h⟩ := bind_eq_some_iff.mp h
     refine QTri.callP W (a := 1) (as := [.int x1, .int x3]) (rest := []) (w := none) (σ₁ := (H0 s r243)) rfl rfl rfl rfl rfl rfl rfl rfl (tF35 Ad W s o x1 x3 hr243) ?_
     obtain rfl := Option.some.inj h
     exact QTri.ret0 rfl rfl
def B11_23 (x1 : Int32) (x2 : Int32) (x3 : Int32) (x4 : Int32) (x5 : Int32) (v : Int32 × Ob) : Option (((Ob)) ⊕ (Int32 × Ob)) :=
  (if v.1 < (4 : Int32) then (F13 v.2 v.1 x1 x2 x3 x4 x5).bind fun r244 => some (.inr ((v.1 + (1 : Int32)), r244)) else some (.inl v.2))
theorem tB11_23 (Ad : QAd n0 ad) (W : QW Z a0) (s : List Int32) (x1 : Int32) (x2 : Int32) (x3 : Int32) (x4 : Int32) (x5 : Int32) (v : Int32 × Ob) {r : ((Ob)) ⊕ (Int32 × Ob)} {u : Option Value} {τ : QHeap} (h : B11_23 x1 x2 x3 x4 x5 v = some r) (hx0 : ∀ x : Ob, r = .inl x → u = (none : Option Value) ∧ τ = (H0 s x)) (hc : ∀ x : Int32 × Ob, r = .inr x → QTri l Z n0 ad 11 (23, [vR 1, vI x1, vI x2, vI x3, vI x4, vI x5, vI x.1], [], (H0 s x.2)) u τ) : QTri l Z n0 ad 11 (23, [vR 1, vI x1, vI x2, vI x3, vI x4, vI x5, vI v.1], [], (H0 s v.2)) u τ := by
 unfold B11_23 at h
 refine zS Ad W 2 (st' := (26, [vR 1, vI x1, vI x2, vI x3, vI x4, vI x5, vI v.1], [.int (4:Int32), .int v.1], (H0 s v.2))) rfl ?_
 rcases qite h with ⟨hc130, h⟩ | ⟨hc130, h⟩
 ·refine zF Ad W (t := 48) (f := 29) rfl (XT.ii_ge_f hc130) ?_
  refine zS Ad W 7 (st' := (39, [vR 1, vI x1, vI x2, vI x3, vI x4, vI x5, vI v.1], [.int x5, .int x4, .int x3, .int x2, .int x1, .int v.1, .ref 1], (H0 s v.2))) rfl ?_
  obtain ⟨r244, hr244, h⟩ := bind_eq_some_iff.mp h
  refine QTri.callP W (a := 1) (as := [.int v.1, .int x1, .int x2, .int x3, .int x4, .int x5]) (rest := []) (w := none) (σ₁ := (H0 s r244)) rfl rfl rfl rfl rfl rfl rfl rfl (tF13 Ad W s v.2 v.1 x1 x2 x3 x4 x5 hr244) ?_
  refine zS Ad W 2 (st' := (23, [vR 1, vI x1, vI x2, vI x3, vI x4, vI x5, vI (v.1 + (1:Int32))], [], (H0 s r244))) rfl ?_
  obtain rfl := Option.some.inj h
  exact zM [tt,tt,tt,tt,tt,tt,tt] (hc ((v.1 + (1:Int32)), r244) rfl)
 ·refine zT Ad W (t := 48) (f := 29) rfl (XT.ii_ge_t hc130) ?_
  obtain rfl := Option.some.inj h
  obtain ⟨rfl, rfl⟩ := hx0 v.2 rfl
  exact QTri.ret0 rfl rfl
/-- multicastSource(III)V -/
def F11 (o : Ob) (x1 : Int32) (x2 : Int32) (x3 : Int32) : Option (Ob) :=
 (F5 o).bind fun r114 => (F7 o).bind fun r115 => (F12 o x1 x2 r115).bind fun r129 => (loopN (B11_23 x1 x2 x3 r114 r115) qN ((0:Int32), r129)).bind fun e245 => some e245
theorem tF11 (Ad : QAd n0 ad) (W : QW Z a0) (s : List Int32) (o : Ob) (x1 : Int32) (x2 : Int32) (x3 : Int32) {r : Ob} (h : F11 o x1 x2 x3 = some r) : QTri l Z n0 ad 11 (0, qentry [.ref 1, .int x1, .int x2, .int x3] (pMaxL 11), [], (H0 s o)) (none : Option Value) (H0 s r) := by
 unfold F11 at h
 refine zS Ad W 1 (st' := (1, [vR 1, vI x1, vI x2, vI x3, none, none, none], [.ref 1], (H0 s o))) rfl ?_
 obtain ⟨r114, hr114, h⟩ := bind_eq_some_iff.mp h
 refine QTri.callP W (a := 1) (as := []) (rest := []) (w := (some (.int r114))) (σ₁ := (H0 s o)) rfl rfl rfl rfl rfl rfl rfl rfl (tF5 Ad W s o hr114) ?_
 refine zS Ad W 2 (st' := (7, [vR 1, vI x1, vI x2, vI x3, vI r114, none, none], [.ref 1], (H0 s o))) rfl ?_
 obtain ⟨r115, hr115, h⟩ := bind_eq_some_iff.mp h
 refine QTri.callP W (a := 1) (as := []) (rest := []) (w := (some (.int r115))) (σ₁ := (H0 s o)) rfl rfl rfl rfl rfl rfl rfl rfl (tF7 Ad W s o hr115) ?_
 refine zS Ad W 5 (st' := (17, [vR 1, vI x1, vI x2, vI x3, vI r114, vI r115, none], [.int r115, .int x2, .int x1, .ref 1], (H0 s o))) rfl ?_
 obtain ⟨r129, hr129, h⟩ := bind_eq_some_iff.mp h
 refine QTri.callP W (a := 1) (as := [.int x1, .int x2, .int r115]) (rest := []) (w := none) (σ₁ := (H0 s r129)) rfl rfl rfl rfl rfl rfl rfl rfl (tF12 Ad W s o x1 x2 r115 hr129) ?_
 refine zS Ad W 2 (st' := (23, [vR 1, vI x1, vI x2, vI x3, vI r114, vI r115, vI (0:Int32)], [], (H0 s r129))) rfl ?_
 obtain ⟨e245, he245, h⟩ := bind_eq_some_iff.mp h
 refine zM [tt,tt,tt,tt,tt,tt,tt] (loopN_tri (B := B11_23 x1 x2 x3 r114 r115) (T := fun lv246 => QTri l Z n0 ad 11 (23, [vR 1, vI x1, vI x2, vI x3, vI r114, vI r115, vI lv246.1], [], (H0 s lv246.2)) (none : Option Value) (H0 s r)) (KE := fun e245a => (none : Option Value) = (none : Option Value) ∧ (H0 s r) = (H0 s e245a)) (fun lv246 r hB hE hC => tB11_23 Ad W s x1 x2 x3 r114 r115 lv246 hB (fun x q => hE _ q) (fun x q => hC x q)) qN ((0:Int32), r129) e245 he245 ?_)
 obtain rfl := Option.some.inj h
 exact ⟨rfl, rfl⟩
def J26_90 (o : Ob) (x1 : Int32) (x2 : Int32) : Option (((Ob)) ⊕ (Int32 × Ob)) :=
  some (.inr ((x2 + (1 : Int32)), o))
theorem tJ26_90 (Ad : QAd n0 ad) (W : QW Z a0) (s : List Int32) (o : Ob) (x1 : Int32) (x2 : Int32) {r : ((Ob)) ⊕ (Int32 × Ob)} {u : Option Value} {τ : QHeap} (h : J26_90 o x1 x2 = some r) (hx0 : ∀ x : Ob, r = .inl x → u = (none : Option Value) ∧ τ = (H0 s x)) (hc : ∀ x : Int32 × Ob, r = .inr x → QTri l Z n0 ad 26 (7, [vR 1, vI x1, vI x.1, none, none], [], (H0 s x.2)) u τ) : QTri l Z n0 ad 26 (90, [vR 1, vI x1, vI x2, none, none], [], (H0 s o)) u τ := by
 unfold J26_90 at h
 refine zS Ad W 2 (st' := (7, [vR 1, vI x1, vI (x2 + (1:Int32)), none, none], [], (H0 s o))) rfl ?_
 obtain rfl := Option.some.inj h
 exact zM [tt,tt,tt,ff,ff] (hc ((x2 + (1:Int32)), o) rfl)
def J26_52 (o : Ob) (x1 : Int32) (x2 : Int32) (x3 : Int32) (x4 : Int32) : Option (((Ob)) ⊕ (Int32 × Ob)) :=
  (aget (f_stats o) (2 : Int32)).bind fun y250 => (aset (f_stats o) (2 : Int32) (y250 + (1 : Int32))).bind fun y251 => (F11 (s_stats o y251) (1 : Int32) x3 x4).bind fun r253 => (J26_90 r253 x1 x2)
theorem tJ26_52 (Ad : QAd n0 ad) (W : QW Z a0) (s : List Int32) (o : Ob) (x1 : Int32) (x2 : Int32) (x3 : Int32) (x4 : Int32) {r : ((Ob)) ⊕ (Int32 × Ob)} {u : Option Value} {τ : QHeap} (h : J26_52 o x1 x2 x3 x4 = some r) (hx0 : ∀ x : Ob, r = .inl x → u = (none : Option Value) ∧ τ = (H0 s x)) (hc : ∀ x : Int32 × Ob, r = .inr x → QTri l Z n0 ad 26 (7, [vR 1, vI x1, vI x.1, none, none], [], (H0 s x.2)) u τ) : QTri l Z n0 ad 26 (52, [vR 1, vI x1, vI x2, vI x3, vI x4], [], (H0 s o)) u τ := by
 unfold J26_52 at h
 refine zS Ad W 4 (st' := (58, [vR 1, vI x1, vI x2, vI x3, vI x4], [.int (2:Int32), .ref 5, .int (2:Int32), .ref 5], (H0 s o))) rfl ?_
 obtain ⟨y250, hy250, h⟩ := bind_eq_some_iff.mp h
 refine zB Ad W (f := fun y250 => (59, [vR 1, vI x1, vI x2, vI x3, vI x4], [.int y250, .int (2:Int32), .ref 5], (H0 s o))) rfl hy250 ?_
 refine zS Ad W 2 (st' := (61, [vR 1, vI x1, vI x2, vI x3, vI x4], [.int (y250 + (1:Int32)), .int (2:Int32), .ref 5], (H0 s o))) rfl ?_
 obtain ⟨y251, hy251, h⟩ := bind_eq_some_iff.mp h
 refine zB Ad W (f := fun y251 => (62, [vR 1, vI x1, vI x2, vI x3, vI x4], [], (H0x6 s o y251))) rfl hy251 ?_
 refine zS Ad W 4 (st' := (67, [vR 1, vI x1, vI x2, vI x3, vI x4], [.int x4, .int x3, .int (1:Int32), .ref 1], (H0x6 s o y251))) rfl ?_
 have E252 : ((H0x6 s o y251) : QHeap) = (H0 s (s_stats o y251)) := by simp only [fs, H0, H0v, H0x6, s_stats]
 rw [E252]
 obtain ⟨r253, hr253, h⟩ := bind_eq_some_iff.mp h
 refine QTri.callP W (a := 1) (as := [.int (1:Int32), .int x3, .int x4]) (rest := []) (w := none) (σ₁ := (H0 s r253)) rfl rfl rfl rfl rfl rfl rfl rfl (tF11 Ad W s (s_stats o y251) (1:Int32) x3 x4 hr253) ?_
 refine zS Ad W 1 (st' := (90, [vR 1, vI x1, vI x2, vI x3, vI x4], [], (H0 s r253))) rfl ?_
 exact zM [tt,tt,tt,ff,ff] (tJ26_90 Ad W s r253 x1 x2 h hx0 hc)
def H0x24 (s : List Int32) (o0 : Ob) (a0_24 : Int32) : QHeap := H0v s (f_srcPayload o0) (f_pend o0) (f_queue o0) (f_stats o0) (f_state o0) (f_timer o0) (f_rxVal o0) (f_rxNext o0) (f_rxLead o0) (f_rxTrail o0) (f_lossLeft o0) (f_dups o0) (f_drops o0) (f_delSeq o0) (f_delVal o0) (f_delLen o0) (f_lostLog o0) (f_lostLen o0) (f_nakBuf o0) (f_win o0) (f_back o0) (f_repair o0) (f_period o0) (f_nextSeq o0) a0_24 (f_nakLen o0)
def J26_96 (o : Ob) : Option (((Ob)) ⊕ (Int32 × Ob)) :=
  some (.inl (s_qLen o (0 : Int32)))
theorem tJ26_96 (Ad : QAd n0 ad) (W : QW Z a0) (s : List Int32) (x1 : Int32) (o : Ob) {r : ((Ob)) ⊕ (Int32 × Ob)} {u : Option Value} {τ : QHeap} (h : J26_96 o = some r) (hx0 : ∀ x : Ob, r = .inl x → u = (none : Option Value) ∧ τ = (H0 s x)) (hc : ∀ x : Int32 × Ob, r = .inr x → QTri l Z n0 ad 26 (7, [vR 1, vI x1, vI x.1, none, none], [], (H0 s x.2)) u τ) : QTri l Z n0 ad 26 (96, [vR 1, none, none, none, none], [], (H0 s o)) u τ := by
 unfold J26_96 at h
 refine zS Ad W 3 (st' := (101, [vR 1, none, none, none, none], [], (H0x24 s o (0:Int32)))) rfl ?_
 have E255 : ((H0x24 s o (0:Int32)) : QHeap) = (H0 s (s_qLen o (0:Int32))) := by simp only [fs, H0, H0v, H0x24, s_qLen]
 rw [E255]
 obtain rfl := Option.some.inj h
 obtain ⟨rfl, rfl⟩ := hx0 (s_qLen o (0:Int32)) rfl
 exact QTri.ret0 rfl rfl
def B26_7 (x1 : Int32) (v : Int32 × Ob) : Option (((Ob)) ⊕ (Int32 × Ob)) :=
  (if v.1 < (f_qLen v.2) then (if v.1 < (64 : Int32) then (aget (f_queue v.2) v.1).bind fun y109 => (if y109 < x1 then (aget (f_stats v.2) (3 : Int32)).bind fun y111 => (aset (f_stats v.2) (3 : Int32) (y111 + (1 : Int32))).bind fun y112 => (F11 (s_stats v.2 y112) (2 : Int32) (0 : Int32) (0 : Int32)).bind fun r247 => (J26_90 r247 x1 v.1) else (F19 y109).bind fun r248 => (if r248 = (0 : Int32) then (J26_52 v.2 x1 v.1 y109 (0 : Int32)) else (aget (f_srcPayload v.2) y109).bind fun y254 => (J26_52 v.2 x1 v.1 y109 y254))) else (J26_96 v.2)) else (J26_96 v.2))
theorem tB26_7 (Ad : QAd n0 ad) (W : QW Z a0) (s : List Int32) (x1 : Int32) (v : Int32 × Ob) {r : ((Ob)) ⊕ (Int32 × Ob)} {u : Option Value} {τ : QHeap} (h : B26_7 x1 v = some r) (hx0 : ∀ x : Ob, r = .inl x → u = (none : Option Value) ∧ τ = (H0 s x)) (hc : ∀ x : Int32 × Ob, r = .inr x → QTri l Z n0 ad 26 (7, [vR 1, vI x1, vI x.1, none, none], [], (H0 s x.2)) u τ) : QTri l Z n0 ad 26 (7, [vR 1, vI x1, vI v.1, none, none], [], (H0 s v.2)) u τ := by
 unfold B26_7 at h
 refine zS Ad W 3 (st' := (12, [vR 1, vI x1, vI v.1, none, none], [.int (f_qLen v.2), .int v.1], (H0 s v.2))) rfl ?_
 rcases qite h with ⟨hc107, h⟩ | ⟨hc107, h⟩
 ·refine zF Ad W (t := 96) (f := 15) rfl (XT.ii_ge_f hc107) ?_
  refine zS Ad W 2 (st' := (18, [vR 1, vI x1, vI v.1, none, none], [.int (64:Int32), .int v.1], (H0 s v.2))) rfl ?_
  rcases qite h with ⟨hc108, h⟩ | ⟨hc108, h⟩
  ·refine zF Ad W (t := 96) (f := 21) rfl (XT.ii_ge_f hc108) ?_
   refine zS Ad W 3 (st' := (26, [vR 1, vI x1, vI v.1, none, none], [.int v.1, .ref 4], (H0 s v.2))) rfl ?_
   obtain ⟨y109, hy109, h⟩ := bind_eq_some_iff.mp h
   refine zB Ad W (f := fun y109 => (27, [vR 1, vI x1, vI v.1, none, none], [.int y109], (H0 s v.2))) rfl hy109 ?_
   refine zS Ad W 3 (st' := (30, [vR 1, vI x1, vI v.1, vI y109, none], [.int x1, .int y109], (H0 s v.2))) rfl ?_
   rcases qite h with ⟨hc110, h⟩ | ⟨hc110, h⟩
   ·refine zT Ad W (t := 73) (f := 33) rfl (XT.ii_lt_t hc110) ?_
    refine zS Ad W 4 (st' := (79, [vR 1, vI x1, vI v.1, vI y109, none], [.int (3:Int32), .ref 5, .int (3:Int32), .ref 5], (H0 s v.2))) rfl ?_
    obtain ⟨y111, hy111, h⟩ := bind_eq_some_iff.mp h
    refine zB Ad W (f := fun y111 => (80, [vR 1, vI x1, vI v.1, vI y109, none], [.int y111, .int (3:Int32), .ref 5], (H0 s v.2))) rfl hy111 ?_
    refine zS Ad W 2 (st' := (82, [vR 1, vI x1, vI v.1, vI y109, none], [.int (y111 + (1:Int32)), .int (3:Int32), .ref 5], (H0 s v.2))) rfl ?_
    obtain ⟨y112, hy112, h⟩ := bind_eq_some_iff.mp h
    refine zB Ad W (f := fun y112 => (83, [vR 1, vI x1, vI v.1, vI y109, none], [], (H0x6 s v.2 y112))) rfl hy112 ?_
    refine zS Ad W 4 (st' := (87, [vR 1, vI x1, vI v.1, vI y109, none], [.int (0:Int32), .int (0:Int32), .int (2:Int32), .ref 1], (H0x6 s v.2 y112))) rfl ?_
    have E113 : ((H0x6 s v.2 y112) : QHeap) = (H0 s (s_stats v.2 y112)) := by simp only [fs, H0, H0v, H0x6, s_stats]
    rw [E113]
    obtain ⟨r247, hr247, h⟩ := bind_eq_some_iff.mp h
    refine QTri.callP W (a := 1) (as := [.int (2:Int32), .int (0:Int32), .int (0:Int32)]) (rest := []) (w := none) (σ₁ := (H0 s r247)) rfl rfl rfl rfl rfl rfl rfl rfl (tF11 Ad W s (s_stats v.2 y112) (2:Int32) (0:Int32) (0:Int32) hr247) ?_
    exact zM [tt,tt,tt,ff,ff] (tJ26_90 Ad W s r247 x1 v.1 h hx0 hc)
   ·refine zF Ad W (t := 73) (f := 33) rfl (XT.ii_lt_f hc110) ?_
    refine zS Ad W 4 (st' := (38, [vR 1, vI x1, vI v.1, vI y109, vI (0:Int32)], [.int y109, .ref 1], (H0 s v.2))) rfl ?_
    obtain ⟨r248, hr248, h⟩ := bind_eq_some_iff.mp h
    refine QTri.callP W (a := 1) (as := [.int y109]) (rest := []) (w := (some (.int r248))) (σ₁ := (H0 s v.2)) rfl rfl rfl rfl rfl rfl rfl rfl (tF19 Ad W y109 hr248) ?_
    rcases qite h with ⟨hc249, h⟩ | ⟨hc249, h⟩
    ·refine zT Ad W (t := 52) (f := 44) rfl (XT.i0_eq_t hc249) ?_
     exact zM [tt,tt,tt,tt,tt] (tJ26_52 Ad W s v.2 x1 v.1 y109 (0:Int32) h hx0 hc)
    ·refine zF Ad W (t := 52) (f := 44) rfl (XT.i0_eq_f hc249) ?_
     refine zS Ad W 3 (st' := (49, [vR 1, vI x1, vI v.1, vI y109, vI (0:Int32)], [.int y109, .ref 2], (H0 s v.2))) rfl ?_
     obtain ⟨y254, hy254, h⟩ := bind_eq_some_iff.mp h
     refine zB Ad W (f := fun y254 => (50, [vR 1, vI x1, vI v.1, vI y109, vI (0:Int32)], [.int y254], (H0 s v.2))) rfl hy254 ?_
     refine zS Ad W 1 (st' := (52, [vR 1, vI x1, vI v.1, vI y109, vI y254], [], (H0 s v.2))) rfl ?_
     exact zM [tt,tt,tt,tt,tt] (tJ26_52 Ad W s v.2 x1 v.1 y109 y254 h hx0 hc)
  ·refine zT Ad W (t := 96) (f := 21) rfl (XT.ii_ge_t hc108) ?_
   exact zM [tt,ff,ff,ff,ff] (tJ26_96 Ad W s x1 v.2 h hx0 hc)
 ·refine zT Ad W (t := 96) (f := 15) rfl (XT.ii_ge_t hc107) ?_
  exact zM [tt,ff,ff,ff,ff] (tJ26_96 Ad W s x1 v.2 h hx0 hc)
/-- serveQueue()V -/
def F26 (o : Ob) : Option (Ob) :=
 (F7 o).bind fun r106 => (loopN (B26_7 r106) qN ((0:Int32), o)).bind fun e256 => some e256
theorem tF26 (Ad : QAd n0 ad) (W : QW Z a0) (s : List Int32) (o : Ob) {r : Ob} (h : F26 o = some r) : QTri l Z n0 ad 26 (0, qentry [.ref 1] (pMaxL 26), [], (H0 s o)) (none : Option Value) (H0 s r) := by
 unfold F26 at h
 refine zS Ad W 1 (st' := (1, [vR 1, none, none, none, none], [.ref 1], (H0 s o))) rfl ?_
 obtain ⟨r106, hr106, h⟩ := bind_eq_some_iff.mp h
 refine QTri.callP W (a := 1) (as := []) (rest := []) (w := (some (.int r106))) (σ₁ := (H0 s o)) rfl rfl rfl rfl rfl rfl rfl rfl (tF7 Ad W s o hr106) ?_
 refine zS Ad W 3 (st' := (7, [vR 1, vI r106, vI (0:Int32), none, none], [], (H0 s o))) rfl ?_
 obtain ⟨e256, he256, h⟩ := bind_eq_some_iff.mp h
 refine zM [tt,tt,tt,ff,ff] (loopN_tri (B := B26_7 r106) (T := fun lv257 => QTri l Z n0 ad 26 (7, [vR 1, vI r106, vI lv257.1, none, none], [], (H0 s lv257.2)) (none : Option Value) (H0 s r)) (KE := fun e256a => (none : Option Value) = (none : Option Value) ∧ (H0 s r) = (H0 s e256a)) (fun lv257 r hB hE hC => tB26_7 Ad W s r106 lv257 hB (fun x q => hE _ q) (fun x q => hC x q)) qN ((0:Int32), o) e256 he256 ?_)
 obtain rfl := Option.some.inj h
 exact ⟨rfl, rfl⟩
def H0x25 (s : List Int32) (o0 : Ob) (a0_25 : Int32) : QHeap := H0v s (f_srcPayload o0) (f_pend o0) (f_queue o0) (f_stats o0) (f_state o0) (f_timer o0) (f_rxVal o0) (f_rxNext o0) (f_rxLead o0) (f_rxTrail o0) (f_lossLeft o0) (f_dups o0) (f_drops o0) (f_delSeq o0) (f_delVal o0) (f_delLen o0) (f_lostLog o0) (f_lostLen o0) (f_nakBuf o0) (f_win o0) (f_back o0) (f_repair o0) (f_period o0) (f_nextSeq o0) (f_qLen o0) a0_25
def H0x26 (s : List Int32) (o0 : Ob) (a0_4 : List Int32) (a0_5 : List Int32) (a0_18 : List Int32) : QHeap := H0v s (f_srcPayload o0) (f_pend o0) (f_queue o0) (f_stats o0) a0_4 a0_5 (f_rxVal o0) (f_rxNext o0) (f_rxLead o0) (f_rxTrail o0) (f_lossLeft o0) (f_dups o0) (f_drops o0) (f_delSeq o0) (f_delVal o0) (f_delLen o0) (f_lostLog o0) (f_lostLen o0) a0_18 (f_win o0) (f_back o0) (f_repair o0) (f_period o0) (f_nextSeq o0) (f_qLen o0) (f_nakLen o0)
def H0x27 (s : List Int32) (o0 : Ob) (a0_4 : List Int32) (a0_5 : List Int32) (a0_18 : List Int32) (a0_25 : Int32) : QHeap := H0v s (f_srcPayload o0) (f_pend o0) (f_queue o0) (f_stats o0) a0_4 a0_5 (f_rxVal o0) (f_rxNext o0) (f_rxLead o0) (f_rxTrail o0) (f_lossLeft o0) (f_dups o0) (f_drops o0) (f_delSeq o0) (f_delVal o0) (f_delLen o0) (f_lostLog o0) (f_lostLen o0) a0_18 (f_win o0) (f_back o0) (f_repair o0) (f_period o0) (f_nextSeq o0) (f_qLen o0) a0_25
def J28_102 (o : Ob) : Option (Ob) :=
  (aget (f_stats o) (4 : Int32)).bind fun y283 => (aset (f_stats o) (4 : Int32) (y283 + (1 : Int32))).bind fun y284 => some (s_stats o y284)
theorem tJ28_102 (Ad : QAd n0 ad) (W : QW Z a0) (s : List Int32) (o : Ob) {r : Ob} (h : J28_102 o = some r) : QTri l Z n0 ad 28 (102, [vR 1, none, none, none, none], [], (H0 s o)) (none : Option Value) (H0 s r) := by
 unfold J28_102 at h
 refine zS Ad W 4 (st' := (108, [vR 1, none, none, none, none], [.int (4:Int32), .ref 5, .int (4:Int32), .ref 5], (H0 s o))) rfl ?_
 obtain ⟨y283, hy283, h⟩ := bind_eq_some_iff.mp h
 refine zB Ad W (f := fun y283 => (109, [vR 1, none, none, none, none], [.int y283, .int (4:Int32), .ref 5], (H0 s o))) rfl hy283 ?_
 refine zS Ad W 2 (st' := (111, [vR 1, none, none, none, none], [.int (y283 + (1:Int32)), .int (4:Int32), .ref 5], (H0 s o))) rfl ?_
 obtain ⟨y284, hy284, h⟩ := bind_eq_some_iff.mp h
 refine zB Ad W (f := fun y284 => (112, [vR 1, none, none, none, none], [], (H0x6 s o y284))) rfl hy284 ?_
 refine zS Ad W 1 (st' := (133, [vR 1, none, none, none, none], [], (H0x6 s o y284))) rfl ?_
 have E285 : ((H0x6 s o y284) : QHeap) = (H0 s (s_stats o y284)) := by simp only [fs, H0, H0v, H0x6, s_stats]
 rw [E285]
 obtain rfl := Option.some.inj h
 exact QTri.ret0 rfl rfl
/-- stepTimer(II)V -/
def F28 (o : Ob) (x1 : Int32) (x2 : Int32) : Option (Ob) :=
 (aget (f_state o) ((x1 * (32:Int32)) + x2)).bind fun y270 => (F29 y270).bind fun r271 => (if r271 = (0:Int32) then some o else (aget (f_timer o) ((x1 * (32:Int32)) + x2)).bind fun y273 => (aset (f_timer o) ((x1 * (32:Int32)) + x2) (y273 - (1:Int32))).bind fun y274 => (aget y274 ((x1 * (32:Int32)) + x2)).bind fun y275 => (if y275 = (0:Int32) then (if y270 = (1:Int32) then (aset (f_state o) ((x1 * (32:Int32)) + x2) (2:Int32)).bind fun y278 => (aset y274 ((x1 * (32:Int32)) + x2) (f_repair o)).bind fun y279 => (if (f_nakLen o) < (128:Int32) then (aset (f_nakBuf o) (f_nakLen o) ((x1 * (32:Int32)) + x2)).bind fun y281 => (J28_102 (s_nakLen (s_nakBuf (s_timer (s_state o y278) y279) y281) ((f_nakLen o) + (1:Int32)))) else (J28_102 (s_timer (s_state o y278) y279))) else (aset (f_state o) ((x1 * (32:Int32)) + x2) (1:Int32)).bind fun y287 => (F32 (s_state (s_timer o y274) y287) x1).bind fun r289 => (aset (f_timer (s_state (s_timer o y274) y287)) ((x1 * (32:Int32)) + x2) r289).bind fun y290 => some (s_timer (s_state (s_timer o y274) y287) y290)) else some (s_timer o y274)))
theorem tF28 (Ad : QAd n0 ad) (W : QW Z a0) (s : List Int32) (o : Ob) (x1 : Int32) (x2 : Int32) {r : Ob} (h : F28 o x1 x2 = some r) : QTri l Z n0 ad 28 (0, qentry [.ref 1, .int x1, .int x2] (pMaxL 28), [], (H0 s o)) (none : Option Value) (H0 s r) := by
 unfold F28 at h
 refine zS Ad W 9 (st' := (12, [vR 1, vI x1, vI x2, vI ((x1 * (32:Int32)) + x2), none], [.int ((x1 * (32:Int32)) + x2), .ref 6], (H0 s o))) rfl ?_
 obtain ⟨y270, hy270, h⟩ := bind_eq_some_iff.mp h
 refine zB Ad W (f := fun y270 => (13, [vR 1, vI x1, vI x2, vI ((x1 * (32:Int32)) + x2), none], [.int y270], (H0 s o))) rfl hy270 ?_
 refine zS Ad W 3 (st' := (18, [vR 1, vI x1, vI x2, vI ((x1 * (32:Int32)) + x2), vI y270], [.int y270, .ref 1], (H0 s o))) rfl ?_
 obtain ⟨r271, hr271, h⟩ := bind_eq_some_iff.mp h
 refine QTri.callP W (a := 1) (as := [.int y270]) (rest := []) (w := (some (.int r271))) (σ₁ := (H0 s o)) rfl rfl rfl rfl rfl rfl rfl rfl (tF29 Ad W y270 hr271) ?_
 rcases qite h with ⟨hc272, h⟩ | ⟨hc272, h⟩
 ·refine zF Ad W (t := 25) (f := 24) rfl (XT.i0_ne_f hc272) ?_
  obtain rfl := Option.some.inj h
  exact QTri.ret0 rfl rfl
 ·refine zT Ad W (t := 25) (f := 24) rfl (XT.i0_ne_t hc272) ?_
  refine zS Ad W 6 (st' := (35, [vR 1, vI x1, vI x2, vI ((x1 * (32:Int32)) + x2), vI y270], [.int ((x1 * (32:Int32)) + x2), .ref 7, .int ((x1 * (32:Int32)) + x2), .ref 7], (H0 s o))) rfl ?_
  obtain ⟨y273, hy273, h⟩ := bind_eq_some_iff.mp h
  refine zB Ad W (f := fun y273 => (36, [vR 1, vI x1, vI x2, vI ((x1 * (32:Int32)) + x2), vI y270], [.int y273, .int ((x1 * (32:Int32)) + x2), .ref 7], (H0 s o))) rfl hy273 ?_
  refine zS Ad W 2 (st' := (38, [vR 1, vI x1, vI x2, vI ((x1 * (32:Int32)) + x2), vI y270], [.int (y273 - (1:Int32)), .int ((x1 * (32:Int32)) + x2), .ref 7], (H0 s o))) rfl ?_
  obtain ⟨y274, hy274, h⟩ := bind_eq_some_iff.mp h
  refine zB Ad W (f := fun y274 => (39, [vR 1, vI x1, vI x2, vI ((x1 * (32:Int32)) + x2), vI y270], [], (H0x12 s o y274))) rfl hy274 ?_
  refine zS Ad W 3 (st' := (44, [vR 1, vI x1, vI x2, vI ((x1 * (32:Int32)) + x2), vI y270], [.int ((x1 * (32:Int32)) + x2), .ref 7], (H0x12 s o y274))) rfl ?_
  obtain ⟨y275, hy275, h⟩ := bind_eq_some_iff.mp h
  refine zB Ad W (f := fun y275 => (45, [vR 1, vI x1, vI x2, vI ((x1 * (32:Int32)) + x2), vI y270], [.int y275], (H0x12 s o y274))) rfl hy275 ?_
  rcases qite h with ⟨hc276, h⟩ | ⟨hc276, h⟩
  ·refine zT Ad W (t := 49) (f := 48) rfl (XT.i0_eq_t hc276) ?_
   refine zS Ad W 2 (st' := (52, [vR 1, vI x1, vI x2, vI ((x1 * (32:Int32)) + x2), vI y270], [.int (1:Int32), .int y270], (H0x12 s o y274))) rfl ?_
   rcases qite h with ⟨hc277, h⟩ | ⟨hc277, h⟩
   ·refine zF Ad W (t := 115) (f := 55) rfl (XT.ii_ne_f hc277) ?_
    refine zS Ad W 4 (st' := (61, [vR 1, vI x1, vI x2, vI ((x1 * (32:Int32)) + x2), vI y270], [.int (2:Int32), .int ((x1 * (32:Int32)) + x2), .ref 6], (H0x12 s o y274))) rfl ?_
    obtain ⟨y278, hy278, h⟩ := bind_eq_some_iff.mp h
    refine zB Ad W (f := fun y278 => (62, [vR 1, vI x1, vI x2, vI ((x1 * (32:Int32)) + x2), vI y270], [], (H0x14 s o y278 y274))) rfl hy278 ?_
    refine zS Ad W 5 (st' := (71, [vR 1, vI x1, vI x2, vI ((x1 * (32:Int32)) + x2), vI y270], [.int (f_repair o), .int ((x1 * (32:Int32)) + x2), .ref 7], (H0x14 s o y278 y274))) rfl ?_
    obtain ⟨y279, hy279, h⟩ := bind_eq_some_iff.mp h
    refine zB Ad W (f := fun y279 => (72, [vR 1, vI x1, vI x2, vI ((x1 * (32:Int32)) + x2), vI y270], [], (H0x14 s o y278 y279))) rfl hy279 ?_
    refine zS Ad W 3 (st' := (79, [vR 1, vI x1, vI x2, vI ((x1 * (32:Int32)) + x2), vI y270], [.int (128:Int32), .int (f_nakLen o)], (H0x14 s o y278 y279))) rfl ?_
    rcases qite h with ⟨hc280, h⟩ | ⟨hc280, h⟩
    ·refine zF Ad W (t := 102) (f := 82) rfl (XT.ii_ge_f hc280) ?_
     refine zS Ad W 5 (st' := (91, [vR 1, vI x1, vI x2, vI ((x1 * (32:Int32)) + x2), vI y270], [.int ((x1 * (32:Int32)) + x2), .int (f_nakLen o), .ref 20], (H0x14 s o y278 y279))) rfl ?_
     obtain ⟨y281, hy281, h⟩ := bind_eq_some_iff.mp h
     refine zB Ad W (f := fun y281 => (92, [vR 1, vI x1, vI x2, vI ((x1 * (32:Int32)) + x2), vI y270], [], (H0x26 s o y278 y279 y281))) rfl hy281 ?_
     refine zS Ad W 6 (st' := (102, [vR 1, vI x1, vI x2, vI ((x1 * (32:Int32)) + x2), vI y270], [], (H0x27 s o y278 y279 y281 ((f_nakLen o) + (1:Int32))))) rfl ?_
     have E282 : ((H0x27 s o y278 y279 y281 ((f_nakLen o) + (1:Int32))) : QHeap) = (H0 s (s_nakLen (s_nakBuf (s_timer (s_state o y278) y279) y281) ((f_nakLen o) + (1:Int32)))) := by simp only [fs, H0, H0v, H0x27, s_state, s_timer, s_nakBuf, s_nakLen]
     rw [E282]
     exact zM [tt,ff,ff,ff,ff] (tJ28_102 Ad W s (s_nakLen (s_nakBuf (s_timer (s_state o y278) y279) y281) ((f_nakLen o) + (1:Int32))) h)
    ·refine zT Ad W (t := 102) (f := 82) rfl (XT.ii_ge_t hc280) ?_
     have E286 : ((H0x14 s o y278 y279) : QHeap) = (H0 s (s_timer (s_state o y278) y279)) := by simp only [fs, H0, H0v, H0x14, s_state, s_timer]
     rw [E286]
     exact zM [tt,ff,ff,ff,ff] (tJ28_102 Ad W s (s_timer (s_state o y278) y279) h)
   ·refine zT Ad W (t := 115) (f := 55) rfl (XT.ii_ne_t hc277) ?_
    refine zS Ad W 4 (st' := (121, [vR 1, vI x1, vI x2, vI ((x1 * (32:Int32)) + x2), vI y270], [.int (1:Int32), .int ((x1 * (32:Int32)) + x2), .ref 6], (H0x12 s o y274))) rfl ?_
    obtain ⟨y287, hy287, h⟩ := bind_eq_some_iff.mp h
    refine zB Ad W (f := fun y287 => (122, [vR 1, vI x1, vI x2, vI ((x1 * (32:Int32)) + x2), vI y270], [], (H0x14 s o y287 y274))) rfl hy287 ?_
    refine zS Ad W 5 (st' := (129, [vR 1, vI x1, vI x2, vI ((x1 * (32:Int32)) + x2), vI y270], [.int x1, .ref 1, .int ((x1 * (32:Int32)) + x2), .ref 7], (H0x14 s o y287 y274))) rfl ?_
    have E288 : ((H0x14 s o y287 y274) : QHeap) = (H0 s (s_state (s_timer o y274) y287)) := by simp only [fs, H0, H0v, H0x14, s_state, s_timer]
    rw [E288]
    obtain ⟨r289, hr289, h⟩ := bind_eq_some_iff.mp h
    refine QTri.callP W (a := 1) (as := [.int x1]) (rest := [.int ((x1 * (32:Int32)) + x2), .ref 7]) (w := (some (.int r289))) (σ₁ := (H0 s (s_state (s_timer o y274) y287))) rfl rfl rfl rfl rfl rfl rfl rfl (tF32 Ad W s (s_state (s_timer o y274) y287) x1 hr289) ?_
    obtain ⟨y290, hy290, h⟩ := bind_eq_some_iff.mp h
    refine zB Ad W (f := fun y290 => (133, [vR 1, vI x1, vI x2, vI ((x1 * (32:Int32)) + x2), vI y270], [], (H0x12 s (s_state (s_timer o y274) y287) y290))) rfl hy290 ?_
    have E291 : ((H0x12 s (s_state (s_timer o y274) y287) y290) : QHeap) = (H0 s (s_timer (s_state (s_timer o y274) y287) y290)) := (show ∀ b0 : Ob, ((H0x12 s b0 y290) : QHeap) = (H0 s (s_timer b0 y290)) from fun b0 => by simp only [fs, H0, H0v, H0x12, s_timer]) (s_state (s_timer o y274) y287)
    rw [E291]
    obtain rfl := Option.some.inj h
    exact QTri.ret0 rfl rfl
  ·refine zF Ad W (t := 49) (f := 48) rfl (XT.i0_eq_f hc276) ?_
   have E292 : ((H0x12 s o y274) : QHeap) = (H0 s (s_timer o y274)) := by simp only [fs, H0, H0v, H0x12, s_timer]
   rw [E292]
   obtain rfl := Option.some.inj h
   exact QTri.ret0 rfl rfl
def B27_14 (x1 : Int32) (v : Int32 × Ob) : Option (((Ob)) ⊕ (Int32 × Ob)) :=
  (if v.1 < (32 : Int32) then (F28 v.2 x1 v.1).bind fun r293 => some (.inr ((v.1 + (1 : Int32)), r293)) else some (.inl v.2))
theorem tB27_14 (Ad : QAd n0 ad) (W : QW Z a0) (s : List Int32) (x1 : Int32) (v : Int32 × Ob) {r : ((Ob)) ⊕ (Int32 × Ob)} {u : Option Value} {τ : QHeap} (h : B27_14 x1 v = some r) (hx0 : ∀ x : Ob, r = .inl x → QTri l Z n0 ad 27 (32, [vR 1, vI x1, none], [], (H0 s x)) u τ) (hc : ∀ x : Int32 × Ob, r = .inr x → QTri l Z n0 ad 27 (14, [vR 1, vI x1, vI x.1], [], (H0 s x.2)) u τ) : QTri l Z n0 ad 27 (14, [vR 1, vI x1, vI v.1], [], (H0 s v.2)) u τ := by
 unfold B27_14 at h
 refine zS Ad W 2 (st' := (17, [vR 1, vI x1, vI v.1], [.int (32:Int32), .int v.1], (H0 s v.2))) rfl ?_
 rcases qite h with ⟨hc269, h⟩ | ⟨hc269, h⟩
 ·refine zF Ad W (t := 32) (f := 20) rfl (XT.ii_ge_f hc269) ?_
  refine zS Ad W 3 (st' := (23, [vR 1, vI x1, vI v.1], [.int v.1, .int x1, .ref 1], (H0 s v.2))) rfl ?_
  obtain ⟨r293, hr293, h⟩ := bind_eq_some_iff.mp h
  refine QTri.callP W (a := 1) (as := [.int x1, .int v.1]) (rest := []) (w := none) (σ₁ := (H0 s r293)) rfl rfl rfl rfl rfl rfl rfl rfl (tF28 Ad W s v.2 x1 v.1 hr293) ?_
  refine zS Ad W 2 (st' := (14, [vR 1, vI x1, vI (v.1 + (1:Int32))], [], (H0 s r293))) rfl ?_
  obtain rfl := Option.some.inj h
  exact zM [tt,tt,tt] (hc ((v.1 + (1:Int32)), r293) rfl)
 ·refine zT Ad W (t := 32) (f := 20) rfl (XT.ii_ge_t hc269) ?_
  obtain rfl := Option.some.inj h
  exact zM [tt,tt,ff] (hx0 v.2 rfl)
def B27_7 (v : Int32 × Ob) : Option (((Ob)) ⊕ (Int32 × Ob)) :=
  (if v.1 < (4 : Int32) then (loopN (B27_14 v.1) qN ((0 : Int32), v.2)).bind fun e294 => some (.inr ((v.1 + (1 : Int32)), e294)) else some (.inl v.2))
theorem tB27_7 (Ad : QAd n0 ad) (W : QW Z a0) (s : List Int32) (v : Int32 × Ob) {r : ((Ob)) ⊕ (Int32 × Ob)} {u : Option Value} {τ : QHeap} (h : B27_7 v = some r) (hx0 : ∀ x : Ob, r = .inl x → u = (none : Option Value) ∧ τ = (H0 s x)) (hc : ∀ x : Int32 × Ob, r = .inr x → QTri l Z n0 ad 27 (7, [vR 1, vI x.1, none], [], (H0 s x.2)) u τ) : QTri l Z n0 ad 27 (7, [vR 1, vI v.1, none], [], (H0 s v.2)) u τ := by
 unfold B27_7 at h
 refine zS Ad W 2 (st' := (9, [vR 1, vI v.1, none], [.int (4:Int32), .int v.1], (H0 s v.2))) rfl ?_
 rcases qite h with ⟨hc268, h⟩ | ⟨hc268, h⟩
 ·refine zF Ad W (t := 38) (f := 12) rfl (XT.ii_ge_f hc268) ?_
  refine zS Ad W 2 (st' := (14, [vR 1, vI v.1, vI (0:Int32)], [], (H0 s v.2))) rfl ?_
  obtain ⟨e294, he294, h⟩ := bind_eq_some_iff.mp h
  refine zM [tt,tt,tt] (loopN_tri (B := B27_14 v.1) (T := fun lv295 => QTri l Z n0 ad 27 (14, [vR 1, vI v.1, vI lv295.1], [], (H0 s lv295.2)) u τ) (KE := fun e294a => QTri l Z n0 ad 27 (32, [vR 1, vI v.1, none], [], (H0 s e294a)) u τ) (fun lv295 r hB hE hC => tB27_14 Ad W s v.1 lv295 hB (fun x q => hE _ q) (fun x q => hC x q)) qN ((0:Int32), v.2) e294 he294 ?_)
  refine zS Ad W 2 (st' := (7, [vR 1, vI (v.1 + (1:Int32)), none], [], (H0 s e294))) rfl ?_
  obtain rfl := Option.some.inj h
  exact zM [tt,tt,ff] (hc ((v.1 + (1:Int32)), e294) rfl)
 ·refine zT Ad W (t := 38) (f := 12) rfl (XT.ii_ge_t hc268) ?_
  obtain rfl := Option.some.inj h
  obtain ⟨rfl, rfl⟩ := hx0 v.2 rfl
  exact QTri.ret0 rfl rfl
/-- runTimers()V -/
def F27 (o : Ob) : Option (Ob) :=
 (loopN (B27_7) qN ((0:Int32), (s_nakLen o (0:Int32)))).bind fun e296 => some e296
theorem tF27 (Ad : QAd n0 ad) (W : QW Z a0) (s : List Int32) (o : Ob) {r : Ob} (h : F27 o = some r) : QTri l Z n0 ad 27 (0, qentry [.ref 1] (pMaxL 27), [], (H0 s o)) (none : Option Value) (H0 s r) := by
 unfold F27 at h
 refine zS Ad W 3 (st' := (5, [vR 1, none, none], [], (H0x25 s o (0:Int32)))) rfl ?_
 refine zS Ad W 2 (st' := (7, [vR 1, vI (0:Int32), none], [], (H0x25 s o (0:Int32)))) rfl ?_
 have E267 : ((H0x25 s o (0:Int32)) : QHeap) = (H0 s (s_nakLen o (0:Int32))) := by simp only [fs, H0, H0v, H0x25, s_nakLen]
 rw [E267]
 obtain ⟨e296, he296, h⟩ := bind_eq_some_iff.mp h
 refine zM [tt,tt,ff] (loopN_tri (B := B27_7) (T := fun lv297 => QTri l Z n0 ad 27 (7, [vR 1, vI lv297.1, none], [], (H0 s lv297.2)) (none : Option Value) (H0 s r)) (KE := fun e296a => (none : Option Value) = (none : Option Value) ∧ (H0 s r) = (H0 s e296a)) (fun lv297 r hB hE hC => tB27_7 Ad W s lv297 hB (fun x q => hE _ q) (fun x q => hC x q)) qN ((0:Int32), (s_nakLen o (0:Int32))) e296 he296 ?_)
 obtain rfl := Option.some.inj h
 exact ⟨rfl, rfl⟩
def H0x28 (s : List Int32) (o0 : Ob) (a0_1 : List Int32) (a0_2 : List Int32) : QHeap := H0v s (f_srcPayload o0) a0_1 a0_2 (f_stats o0) (f_state o0) (f_timer o0) (f_rxVal o0) (f_rxNext o0) (f_rxLead o0) (f_rxTrail o0) (f_lossLeft o0) (f_dups o0) (f_drops o0) (f_delSeq o0) (f_delVal o0) (f_delLen o0) (f_lostLog o0) (f_lostLen o0) (f_nakBuf o0) (f_win o0) (f_back o0) (f_repair o0) (f_period o0) (f_nextSeq o0) (f_qLen o0) (f_nakLen o0)
def H0x29 (s : List Int32) (o0 : Ob) (a0_1 : List Int32) (a0_2 : List Int32) (a0_24 : Int32) : QHeap := H0v s (f_srcPayload o0) a0_1 a0_2 (f_stats o0) (f_state o0) (f_timer o0) (f_rxVal o0) (f_rxNext o0) (f_rxLead o0) (f_rxTrail o0) (f_lossLeft o0) (f_dups o0) (f_drops o0) (f_delSeq o0) (f_delVal o0) (f_delLen o0) (f_lostLog o0) (f_lostLen o0) (f_nakBuf o0) (f_win o0) (f_back o0) (f_repair o0) (f_period o0) (f_nextSeq o0) a0_24 (f_nakLen o0)
def B34_2 (x1 : Int32) (v : Int32 × Ob) : Option (((Ob)) ⊕ (Int32 × Ob)) :=
  (if v.1 < (4 : Int32) then (F13 v.2 v.1 (3 : Int32) x1 (0 : Int32) (0 : Int32) (0 : Int32)).bind fun r315 => some (.inr ((v.1 + (1 : Int32)), r315)) else some (.inl v.2))
theorem tB34_2 (Ad : QAd n0 ad) (W : QW Z a0) (s : List Int32) (x1 : Int32) (v : Int32 × Ob) {r : ((Ob)) ⊕ (Int32 × Ob)} {u : Option Value} {τ : QHeap} (h : B34_2 x1 v = some r) (hx0 : ∀ x : Ob, r = .inl x → u = (none : Option Value) ∧ τ = (H0 s x)) (hc : ∀ x : Int32 × Ob, r = .inr x → QTri l Z n0 ad 34 (2, [vR 1, vI x1, vI x.1], [], (H0 s x.2)) u τ) : QTri l Z n0 ad 34 (2, [vR 1, vI x1, vI v.1], [], (H0 s v.2)) u τ := by
 unfold B34_2 at h
 refine zS Ad W 2 (st' := (4, [vR 1, vI x1, vI v.1], [.int (4:Int32), .int v.1], (H0 s v.2))) rfl ?_
 rcases qite h with ⟨hc314, h⟩ | ⟨hc314, h⟩
 ·refine zF Ad W (t := 23) (f := 7) rfl (XT.ii_ge_f hc314) ?_
  refine zS Ad W 7 (st' := (14, [vR 1, vI x1, vI v.1], [.int (0:Int32), .int (0:Int32), .int (0:Int32), .int x1, .int (3:Int32), .int v.1, .ref 1], (H0 s v.2))) rfl ?_
  obtain ⟨r315, hr315, h⟩ := bind_eq_some_iff.mp h
  refine QTri.callP W (a := 1) (as := [.int v.1, .int (3:Int32), .int x1, .int (0:Int32), .int (0:Int32), .int (0:Int32)]) (rest := []) (w := none) (σ₁ := (H0 s r315)) rfl rfl rfl rfl rfl rfl rfl rfl (tF13 Ad W s v.2 v.1 (3:Int32) x1 (0:Int32) (0:Int32) (0:Int32) hr315) ?_
  refine zS Ad W 2 (st' := (2, [vR 1, vI x1, vI (v.1 + (1:Int32))], [], (H0 s r315))) rfl ?_
  obtain rfl := Option.some.inj h
  exact zM [tt,tt,tt] (hc ((v.1 + (1:Int32)), r315) rfl)
 ·refine zT Ad W (t := 23) (f := 7) rfl (XT.ii_ge_t hc314) ?_
  obtain rfl := Option.some.inj h
  obtain ⟨rfl, rfl⟩ := hx0 v.2 rfl
  exact QTri.ret0 rfl rfl
/-- multicastNcf(I)V -/
def F34 (o : Ob) (x1 : Int32) : Option (Ob) :=
 (loopN (B34_2 x1) qN ((0:Int32), o)).bind fun e316 => some e316
theorem tF34 (Ad : QAd n0 ad) (W : QW Z a0) (s : List Int32) (o : Ob) (x1 : Int32) {r : Ob} (h : F34 o x1 = some r) : QTri l Z n0 ad 34 (0, qentry [.ref 1, .int x1] (pMaxL 34), [], (H0 s o)) (none : Option Value) (H0 s r) := by
 unfold F34 at h
 refine zS Ad W 2 (st' := (2, [vR 1, vI x1, vI (0:Int32)], [], (H0 s o))) rfl ?_
 obtain ⟨e316, he316, h⟩ := bind_eq_some_iff.mp h
 refine zM [tt,tt,tt] (loopN_tri (B := B34_2 x1) (T := fun lv317 => QTri l Z n0 ad 34 (2, [vR 1, vI x1, vI lv317.1], [], (H0 s lv317.2)) (none : Option Value) (H0 s r)) (KE := fun e316a => (none : Option Value) = (none : Option Value) ∧ (H0 s r) = (H0 s e316a)) (fun lv317 r hB hE hC => tB34_2 Ad W s x1 lv317 hB (fun x q => hE _ q) (fun x q => hC x q)) qN ((0:Int32), o) e316 he316 ?_)
 obtain rfl := Option.some.inj h
 exact ⟨rfl, rfl⟩
def J33_78 (o : Ob) (x1 : Int32) : Option (Ob) :=
  (F34 o x1).bind fun r318 => (aget (f_stats r318) (7 : Int32)).bind fun y319 => (aset (f_stats r318) (7 : Int32) (y319 + (1 : Int32))).bind fun y320 => some (s_stats r318 y320)
theorem tJ33_78 (Ad : QAd n0 ad) (W : QW Z a0) (s : List Int32) (o : Ob) (x1 : Int32) {r : Ob} (h : J33_78 o x1 = some r) : QTri l Z n0 ad 33 (78, [vR 1, vI x1], [], (H0 s o)) (none : Option Value) (H0 s r) := by
 unfold J33_78 at h
 refine zS Ad W 2 (st' := (80, [vR 1, vI x1], [.int x1, .ref 1], (H0 s o))) rfl ?_
 obtain ⟨r318, hr318, h⟩ := bind_eq_some_iff.mp h
 refine QTri.callP W (a := 1) (as := [.int x1]) (rest := []) (w := none) (σ₁ := (H0 s r318)) rfl rfl rfl rfl rfl rfl rfl rfl (tF34 Ad W s o x1 hr318) ?_
 refine zS Ad W 4 (st' := (90, [vR 1, vI x1], [.int (7:Int32), .ref 5, .int (7:Int32), .ref 5], (H0 s r318))) rfl ?_
 obtain ⟨y319, hy319, h⟩ := bind_eq_some_iff.mp h
 refine zB Ad W (f := fun y319 => (91, [vR 1, vI x1], [.int y319, .int (7:Int32), .ref 5], (H0 s r318))) rfl hy319 ?_
 refine zS Ad W 2 (st' := (93, [vR 1, vI x1], [.int (y319 + (1:Int32)), .int (7:Int32), .ref 5], (H0 s r318))) rfl ?_
 obtain ⟨y320, hy320, h⟩ := bind_eq_some_iff.mp h
 refine zB Ad W (f := fun y320 => (94, [vR 1, vI x1], [], (H0x6 s r318 y320))) rfl hy320 ?_
 have E321 : ((H0x6 s r318 y320) : QHeap) = (H0 s (s_stats r318 y320)) := by simp only [fs, H0, H0v, H0x6, s_stats]
 rw [E321]
 obtain rfl := Option.some.inj h
 exact QTri.ret0 rfl rfl
def J33_68 (o : Ob) (x1 : Int32) : Option (Ob) :=
  (aget (f_stats o) (5 : Int32)).bind fun y311 => (aset (f_stats o) (5 : Int32) (y311 + (1 : Int32))).bind fun y312 => (J33_78 (s_stats o y312) x1)
theorem tJ33_68 (Ad : QAd n0 ad) (W : QW Z a0) (s : List Int32) (o : Ob) (x1 : Int32) {r : Ob} (h : J33_68 o x1 = some r) : QTri l Z n0 ad 33 (68, [vR 1, vI x1], [], (H0 s o)) (none : Option Value) (H0 s r) := by
 unfold J33_68 at h
 refine zS Ad W 4 (st' := (74, [vR 1, vI x1], [.int (5:Int32), .ref 5, .int (5:Int32), .ref 5], (H0 s o))) rfl ?_
 obtain ⟨y311, hy311, h⟩ := bind_eq_some_iff.mp h
 refine zB Ad W (f := fun y311 => (75, [vR 1, vI x1], [.int y311, .int (5:Int32), .ref 5], (H0 s o))) rfl hy311 ?_
 refine zS Ad W 2 (st' := (77, [vR 1, vI x1], [.int (y311 + (1:Int32)), .int (5:Int32), .ref 5], (H0 s o))) rfl ?_
 obtain ⟨y312, hy312, h⟩ := bind_eq_some_iff.mp h
 refine zB Ad W (f := fun y312 => (78, [vR 1, vI x1], [], (H0x6 s o y312))) rfl hy312 ?_
 have E313 : ((H0x6 s o y312) : QHeap) = (H0 s (s_stats o y312)) := by simp only [fs, H0, H0v, H0x6, s_stats]
 rw [E313]
 exact zM [tt,tt] (tJ33_78 Ad W s (s_stats o y312) x1 h)
/-- handleNak(I)V -/
def F33 (o : Ob) (x1 : Int32) : Option (Ob) :=
 (F19 x1).bind fun r303 => (if r303 = (0:Int32) then some o else (aget (f_pend o) x1).bind fun y305 => (if y305 = (0:Int32) then (aset (f_pend o) x1 (1:Int32)).bind fun y307 => (if (f_qLen o) < (64:Int32) then (aset (f_queue o) (f_qLen o) x1).bind fun y309 => (J33_68 (s_qLen (s_queue (s_pend o y307) y309) ((f_qLen o) + (1:Int32))) x1) else (J33_68 (s_pend o y307) x1)) else (aget (f_stats o) (6:Int32)).bind fun y323 => (aset (f_stats o) (6:Int32) (y323 + (1:Int32))).bind fun y324 => (J33_78 (s_stats o y324) x1)))
theorem tF33 (Ad : QAd n0 ad) (W : QW Z a0) (s : List Int32) (o : Ob) (x1 : Int32) {r : Ob} (h : F33 o x1 = some r) : QTri l Z n0 ad 33 (0, qentry [.ref 1, .int x1] (pMaxL 33), [], (H0 s o)) (none : Option Value) (H0 s r) := by
 unfold F33 at h
 refine zS Ad W 2 (st' := (2, [vR 1, vI x1], [.int x1, .ref 1], (H0 s o))) rfl ?_
 obtain ⟨r303, hr303, h⟩ := bind_eq_some_iff.mp h
 refine QTri.callP W (a := 1) (as := [.int x1]) (rest := []) (w := (some (.int r303))) (σ₁ := (H0 s o)) rfl rfl rfl rfl rfl rfl rfl rfl (tF19 Ad W x1 hr303) ?_
 rcases qite h with ⟨hc304, h⟩ | ⟨hc304, h⟩
 ·refine zF Ad W (t := 9) (f := 8) rfl (XT.i0_ne_f hc304) ?_
  obtain rfl := Option.some.inj h
  exact QTri.ret0 rfl rfl
 ·refine zT Ad W (t := 9) (f := 8) rfl (XT.i0_ne_t hc304) ?_
  refine zS Ad W 3 (st' := (14, [vR 1, vI x1], [.int x1, .ref 3], (H0 s o))) rfl ?_
  obtain ⟨y305, hy305, h⟩ := bind_eq_some_iff.mp h
  refine zB Ad W (f := fun y305 => (15, [vR 1, vI x1], [.int y305], (H0 s o))) rfl hy305 ?_
  rcases qite h with ⟨hc306, h⟩ | ⟨hc306, h⟩
  ·refine zT Ad W (t := 32) (f := 18) rfl (XT.i0_eq_t hc306) ?_
   refine zS Ad W 4 (st' := (38, [vR 1, vI x1], [.int (1:Int32), .int x1, .ref 3], (H0 s o))) rfl ?_
   obtain ⟨y307, hy307, h⟩ := bind_eq_some_iff.mp h
   refine zB Ad W (f := fun y307 => (39, [vR 1, vI x1], [], (H0x7 s o y307))) rfl hy307 ?_
   refine zS Ad W 3 (st' := (45, [vR 1, vI x1], [.int (64:Int32), .int (f_qLen o)], (H0x7 s o y307))) rfl ?_
   rcases qite h with ⟨hc308, h⟩ | ⟨hc308, h⟩
   ·refine zF Ad W (t := 68) (f := 48) rfl (XT.ii_ge_f hc308) ?_
    refine zS Ad W 5 (st' := (57, [vR 1, vI x1], [.int x1, .int (f_qLen o), .ref 4], (H0x7 s o y307))) rfl ?_
    obtain ⟨y309, hy309, h⟩ := bind_eq_some_iff.mp h
    refine zB Ad W (f := fun y309 => (58, [vR 1, vI x1], [], (H0x28 s o y307 y309))) rfl hy309 ?_
    refine zS Ad W 6 (st' := (68, [vR 1, vI x1], [], (H0x29 s o y307 y309 ((f_qLen o) + (1:Int32))))) rfl ?_
    have E310 : ((H0x29 s o y307 y309 ((f_qLen o) + (1:Int32))) : QHeap) = (H0 s (s_qLen (s_queue (s_pend o y307) y309) ((f_qLen o) + (1:Int32)))) := by simp only [fs, H0, H0v, H0x29, s_pend, s_queue, s_qLen]
    rw [E310]
    exact zM [tt,tt] (tJ33_68 Ad W s (s_qLen (s_queue (s_pend o y307) y309) ((f_qLen o) + (1:Int32))) x1 h)
   ·refine zT Ad W (t := 68) (f := 48) rfl (XT.ii_ge_t hc308) ?_
    have E322 : ((H0x7 s o y307) : QHeap) = (H0 s (s_pend o y307)) := by simp only [fs, H0, H0v, H0x7, s_pend]
    rw [E322]
    exact zM [tt,tt] (tJ33_68 Ad W s (s_pend o y307) x1 h)
  ·refine zF Ad W (t := 32) (f := 18) rfl (XT.i0_eq_f hc306) ?_
   refine zS Ad W 4 (st' := (25, [vR 1, vI x1], [.int (6:Int32), .ref 5, .int (6:Int32), .ref 5], (H0 s o))) rfl ?_
   obtain ⟨y323, hy323, h⟩ := bind_eq_some_iff.mp h
   refine zB Ad W (f := fun y323 => (26, [vR 1, vI x1], [.int y323, .int (6:Int32), .ref 5], (H0 s o))) rfl hy323 ?_
   refine zS Ad W 2 (st' := (28, [vR 1, vI x1], [.int (y323 + (1:Int32)), .int (6:Int32), .ref 5], (H0 s o))) rfl ?_
   obtain ⟨y324, hy324, h⟩ := bind_eq_some_iff.mp h
   refine zB Ad W (f := fun y324 => (29, [vR 1, vI x1], [], (H0x6 s o y324))) rfl hy324 ?_
   refine zS Ad W 1 (st' := (78, [vR 1, vI x1], [], (H0x6 s o y324))) rfl ?_
   have E325 : ((H0x6 s o y324) : QHeap) = (H0 s (s_stats o y324)) := by simp only [fs, H0, H0v, H0x6, s_stats]
   rw [E325]
   exact zM [tt,tt] (tJ33_78 Ad W s (s_stats o y324) x1 h)
def J30_38 (o : Ob) : Option (((Ob)) ⊕ (Int32 × Ob)) :=
  some (.inl (s_nakLen o (0 : Int32)))
theorem tJ30_38 (Ad : QAd n0 ad) (W : QW Z a0) (s : List Int32) (o : Ob) {r : ((Ob)) ⊕ (Int32 × Ob)} {u : Option Value} {τ : QHeap} (h : J30_38 o = some r) (hx0 : ∀ x : Ob, r = .inl x → u = (none : Option Value) ∧ τ = (H0 s x)) (hc : ∀ x : Int32 × Ob, r = .inr x → QTri l Z n0 ad 30 (2, [vR 1, vI x.1, none], [], (H0 s x.2)) u τ) : QTri l Z n0 ad 30 (38, [vR 1, none, none], [], (H0 s o)) u τ := by
 unfold J30_38 at h
 refine zS Ad W 3 (st' := (43, [vR 1, none, none], [], (H0x25 s o (0:Int32)))) rfl ?_
 have E327 : ((H0x25 s o (0:Int32)) : QHeap) = (H0 s (s_nakLen o (0:Int32))) := by simp only [fs, H0, H0v, H0x25, s_nakLen]
 rw [E327]
 obtain rfl := Option.some.inj h
 obtain ⟨rfl, rfl⟩ := hx0 (s_nakLen o (0:Int32)) rfl
 exact QTri.ret0 rfl rfl
def B30_2 (v : Int32 × Ob) : Option (((Ob)) ⊕ (Int32 × Ob)) :=
  (if v.1 < (f_nakLen v.2) then (if v.1 < (128 : Int32) then (aget (f_nakBuf v.2) v.1).bind fun y301 => (F33 v.2 (y301 % (32 : Int32))).bind fun r326 => some (.inr ((v.1 + (1 : Int32)), r326)) else (J30_38 v.2)) else (J30_38 v.2))
theorem tB30_2 (Ad : QAd n0 ad) (W : QW Z a0) (s : List Int32) (v : Int32 × Ob) {r : ((Ob)) ⊕ (Int32 × Ob)} {u : Option Value} {τ : QHeap} (h : B30_2 v = some r) (hx0 : ∀ x : Ob, r = .inl x → u = (none : Option Value) ∧ τ = (H0 s x)) (hc : ∀ x : Int32 × Ob, r = .inr x → QTri l Z n0 ad 30 (2, [vR 1, vI x.1, none], [], (H0 s x.2)) u τ) : QTri l Z n0 ad 30 (2, [vR 1, vI v.1, none], [], (H0 s v.2)) u τ := by
 unfold B30_2 at h
 refine zS Ad W 3 (st' := (7, [vR 1, vI v.1, none], [.int (f_nakLen v.2), .int v.1], (H0 s v.2))) rfl ?_
 rcases qite h with ⟨hc299, h⟩ | ⟨hc299, h⟩
 ·refine zF Ad W (t := 38) (f := 10) rfl (XT.ii_ge_f hc299) ?_
  refine zS Ad W 2 (st' := (14, [vR 1, vI v.1, none], [.int (128:Int32), .int v.1], (H0 s v.2))) rfl ?_
  rcases qite h with ⟨hc300, h⟩ | ⟨hc300, h⟩
  ·refine zF Ad W (t := 38) (f := 17) rfl (XT.ii_ge_f hc300) ?_
   refine zS Ad W 3 (st' := (22, [vR 1, vI v.1, none], [.int v.1, .ref 20], (H0 s v.2))) rfl ?_
   obtain ⟨y301, hy301, h⟩ := bind_eq_some_iff.mp h
   refine zB Ad W (f := fun y301 => (23, [vR 1, vI v.1, none], [.int y301], (H0 s v.2))) rfl hy301 ?_
   refine zS Ad W 5 (st' := (29, [vR 1, vI v.1, vI (y301 % (32:Int32))], [.int (y301 % (32:Int32)), .ref 1], (H0 s v.2))) rfl ?_
   obtain ⟨r326, hr326, h⟩ := bind_eq_some_iff.mp h
   refine QTri.callP W (a := 1) (as := [.int (y301 % (32:Int32))]) (rest := []) (w := none) (σ₁ := (H0 s r326)) rfl rfl rfl rfl rfl rfl rfl rfl (tF33 Ad W s v.2 (y301 % (32:Int32)) hr326) ?_
   refine zS Ad W 2 (st' := (2, [vR 1, vI (v.1 + (1:Int32)), vI (y301 % (32:Int32))], [], (H0 s r326))) rfl ?_
   obtain rfl := Option.some.inj h
   exact zM [tt,tt,ff] (hc ((v.1 + (1:Int32)), r326) rfl)
  ·refine zT Ad W (t := 38) (f := 17) rfl (XT.ii_ge_t hc300) ?_
   exact zM [tt,ff,ff] (tJ30_38 Ad W s v.2 h hx0 hc)
 ·refine zT Ad W (t := 38) (f := 10) rfl (XT.ii_ge_t hc299) ?_
  exact zM [tt,ff,ff] (tJ30_38 Ad W s v.2 h hx0 hc)
/-- handleNaks()V -/
def F30 (o : Ob) : Option (Ob) :=
 (loopN (B30_2) qN ((0:Int32), o)).bind fun e328 => some e328
theorem tF30 (Ad : QAd n0 ad) (W : QW Z a0) (s : List Int32) (o : Ob) {r : Ob} (h : F30 o = some r) : QTri l Z n0 ad 30 (0, qentry [.ref 1] (pMaxL 30), [], (H0 s o)) (none : Option Value) (H0 s r) := by
 unfold F30 at h
 refine zS Ad W 2 (st' := (2, [vR 1, vI (0:Int32), none], [], (H0 s o))) rfl ?_
 obtain ⟨e328, he328, h⟩ := bind_eq_some_iff.mp h
 refine zM [tt,tt,ff] (loopN_tri (B := B30_2) (T := fun lv329 => QTri l Z n0 ad 30 (2, [vR 1, vI lv329.1, none], [], (H0 s lv329.2)) (none : Option Value) (H0 s r)) (KE := fun e328a => (none : Option Value) = (none : Option Value) ∧ (H0 s r) = (H0 s e328a)) (fun lv329 r hB hE hC => tB30_2 Ad W s lv329 hB (fun x q => hE _ q) (fun x q => hC x q)) qN ((0:Int32), o) e328 he328 ?_)
 obtain rfl := Option.some.inj h
 exact ⟨rfl, rfl⟩
def J25_52 (o : Ob) : Option (Ob) :=
  (F27 o).bind fun r298 => (F30 r298).bind fun r330 => some r330
theorem tJ25_52 (Ad : QAd n0 ad) (W : QW Z a0) (s : List Int32) (o : Ob) {r : Ob} (h : J25_52 o = some r) : QTri l Z n0 ad 25 (52, [vR 1], [], (H0 s o)) (none : Option Value) (H0 s r) := by
 unfold J25_52 at h
 refine zS Ad W 1 (st' := (53, [vR 1], [.ref 1], (H0 s o))) rfl ?_
 obtain ⟨r298, hr298, h⟩ := bind_eq_some_iff.mp h
 refine QTri.callP W (a := 1) (as := []) (rest := []) (w := none) (σ₁ := (H0 s r298)) rfl rfl rfl rfl rfl rfl rfl rfl (tF27 Ad W s o hr298) ?_
 refine zS Ad W 1 (st' := (57, [vR 1], [.ref 1], (H0 s r298))) rfl ?_
 obtain ⟨r330, hr330, h⟩ := bind_eq_some_iff.mp h
 refine QTri.callP W (a := 1) (as := []) (rest := []) (w := none) (σ₁ := (H0 s r330)) rfl rfl rfl rfl rfl rfl rfl rfl (tF30 Ad W s r298 hr330) ?_
 obtain rfl := Option.some.inj h
 exact QTri.ret0 rfl rfl
/-- tick()V -/
def F25 (o : Ob) : Option (Ob) :=
 (aget (f_stats o) (0:Int32)).bind fun y103 => (aset (f_stats o) (0:Int32) (y103 + (1:Int32))).bind fun y104 => (F26 (s_stats o y104)).bind fun r258 => (if (0:Int32) < (f_period r258) then (aget (f_stats r258) (0:Int32)).bind fun y260 => (qrem y260 (f_period r258)).bind fun y261 => (if y261 = (0:Int32) then (aget (f_stats r258) (3:Int32)).bind fun y263 => (aset (f_stats r258) (3:Int32) (y263 + (1:Int32))).bind fun y264 => (F11 (s_stats r258 y264) (2:Int32) (0:Int32) (0:Int32)).bind fun r266 => (J25_52 r266) else (J25_52 r258)) else (J25_52 r258))
theorem tF25 (Ad : QAd n0 ad) (W : QW Z a0) (s : List Int32) (o : Ob) {r : Ob} (h : F25 o = some r) : QTri l Z n0 ad 25 (0, qentry [.ref 1] (pMaxL 25), [], (H0 s o)) (none : Option Value) (H0 s r) := by
 unfold F25 at h
 refine zS Ad W 4 (st' := (6, [vR 1], [.int (0:Int32), .ref 5, .int (0:Int32), .ref 5], (H0 s o))) rfl ?_
 obtain ⟨y103, hy103, h⟩ := bind_eq_some_iff.mp h
 refine zB Ad W (f := fun y103 => (7, [vR 1], [.int y103, .int (0:Int32), .ref 5], (H0 s o))) rfl hy103 ?_
 refine zS Ad W 2 (st' := (9, [vR 1], [.int (y103 + (1:Int32)), .int (0:Int32), .ref 5], (H0 s o))) rfl ?_
 obtain ⟨y104, hy104, h⟩ := bind_eq_some_iff.mp h
 refine zB Ad W (f := fun y104 => (10, [vR 1], [], (H0x6 s o y104))) rfl hy104 ?_
 refine zS Ad W 1 (st' := (11, [vR 1], [.ref 1], (H0x6 s o y104))) rfl ?_
 have E105 : ((H0x6 s o y104) : QHeap) = (H0 s (s_stats o y104)) := by simp only [fs, H0, H0v, H0x6, s_stats]
 rw [E105]
 obtain ⟨r258, hr258, h⟩ := bind_eq_some_iff.mp h
 refine QTri.callP W (a := 1) (as := []) (rest := []) (w := none) (σ₁ := (H0 s r258)) rfl rfl rfl rfl rfl rfl rfl rfl (tF26 Ad W s (s_stats o y104) hr258) ?_
 refine zS Ad W 2 (st' := (18, [vR 1], [.int (f_period r258)], (H0 s r258))) rfl ?_
 rcases qite h with ⟨hc259, h⟩ | ⟨hc259, h⟩
 ·refine zF Ad W (t := 52) (f := 21) rfl (XT.i0_le_f hc259) ?_
  refine zS Ad W 3 (st' := (26, [vR 1], [.int (0:Int32), .ref 5], (H0 s r258))) rfl ?_
  obtain ⟨y260, hy260, h⟩ := bind_eq_some_iff.mp h
  refine zB Ad W (f := fun y260 => (27, [vR 1], [.int y260], (H0 s r258))) rfl hy260 ?_
  refine zS Ad W 2 (st' := (31, [vR 1], [.int (f_period r258), .int y260], (H0 s r258))) rfl ?_
  obtain ⟨y261, hy261, h⟩ := bind_eq_some_iff.mp h
  refine zB Ad W (f := fun y261 => (32, [vR 1], [.int y261], (H0 s r258))) rfl hy261 ?_
  rcases qite h with ⟨hc262, h⟩ | ⟨hc262, h⟩
  ·refine zF Ad W (t := 52) (f := 35) rfl (XT.i0_ne_f hc262) ?_
   refine zS Ad W 4 (st' := (41, [vR 1], [.int (3:Int32), .ref 5, .int (3:Int32), .ref 5], (H0 s r258))) rfl ?_
   obtain ⟨y263, hy263, h⟩ := bind_eq_some_iff.mp h
   refine zB Ad W (f := fun y263 => (42, [vR 1], [.int y263, .int (3:Int32), .ref 5], (H0 s r258))) rfl hy263 ?_
   refine zS Ad W 2 (st' := (44, [vR 1], [.int (y263 + (1:Int32)), .int (3:Int32), .ref 5], (H0 s r258))) rfl ?_
   obtain ⟨y264, hy264, h⟩ := bind_eq_some_iff.mp h
   refine zB Ad W (f := fun y264 => (45, [vR 1], [], (H0x6 s r258 y264))) rfl hy264 ?_
   refine zS Ad W 4 (st' := (49, [vR 1], [.int (0:Int32), .int (0:Int32), .int (2:Int32), .ref 1], (H0x6 s r258 y264))) rfl ?_
   have E265 : ((H0x6 s r258 y264) : QHeap) = (H0 s (s_stats r258 y264)) := by simp only [fs, H0, H0v, H0x6, s_stats]
   rw [E265]
   obtain ⟨r266, hr266, h⟩ := bind_eq_some_iff.mp h
   refine QTri.callP W (a := 1) (as := [.int (2:Int32), .int (0:Int32), .int (0:Int32)]) (rest := []) (w := none) (σ₁ := (H0 s r266)) rfl rfl rfl rfl rfl rfl rfl rfl (tF11 Ad W s (s_stats r258 y264) (2:Int32) (0:Int32) (0:Int32) hr266) ?_
   exact zM [tt] (tJ25_52 Ad W s r266 h)
  ·refine zT Ad W (t := 52) (f := 35) rfl (XT.i0_ne_t hc262) ?_
   exact zM [tt] (tJ25_52 Ad W s r258 h)
 ·refine zT Ad W (t := 52) (f := 21) rfl (XT.i0_le_t hc259) ?_
  exact zM [tt] (tJ25_52 Ad W s r258 h)
def J0_304 (s : List Int32) (p0 : Ob) (x2 : Int64) (x4 : Int64) (x6 : Int64) (x8 : Int64) (x10 : Int64) (x12 : Int32) (x13 : Int32) (x14 : Int32) : Option (((Int32 × QHeap)) ⊕ (Int64 × Int64 × Int64 × Int64 × Int64 × Int32 × Ob)) :=
  (if x14 < x12 then (J0_315 s p0 x2 x4 x6 x8 x10 x12 x13 x14) else (F25 p0).bind fun r331 => (J0_315 s r331 x2 x4 x6 x8 x10 x12 x13 x14))
theorem tJ0_304 (Ad : QAd n0 ad) (W : QW Z a0) (s : List Int32) (p0 : Ob) (x2 : Int64) (x4 : Int64) (x6 : Int64) (x8 : Int64) (x10 : Int64) (x12 : Int32) (x13 : Int32) (x14 : Int32) {r : ((Int32 × QHeap)) ⊕ (Int64 × Int64 × Int64 × Int64 × Int64 × Int32 × Ob)} {u : Option Value} {τ : QHeap} (h : J0_304 s p0 x2 x4 x6 x8 x10 x12 x13 x14 = some r) (hx0 : ∀ x : Int32 × QHeap, r = .inl x → u = (some (Value.int x.1)) ∧ τ = x.2) (hc : ∀ x : Int64 × Int64 × Int64 × Int64 × Int64 × Int32 × Ob, r = .inr x → QTri l Z n0 ad 0 (90, [vR 0, vR 1, vL x.1, none, vL x.2.1, none, vL x.2.2.1, none, vL x.2.2.2.1, none, vL x.2.2.2.2.1, none, vI x12, vI x13, vI x.2.2.2.2.2.1, none, none, none, none, none, none, none, none, none, none, none, none, none, none], [], (H0 s x.2.2.2.2.2.2)) u τ) : QTri l Z n0 ad 0 (304, [vR 0, vR 1, vL x2, none, vL x4, none, vL x6, none, vL x8, none, vL x10, none, vI x12, vI x13, vI x14, none, none, none, none, none, none, none, none, none, none, none, none, none, none], [], (H0 s p0)) u τ := by
 unfold J0_304 at h
 refine zS Ad W 2 (st' := (308, [vR 0, vR 1, vL x2, none, vL x4, none, vL x6, none, vL x8, none, vL x10, none, vI x12, vI x13, vI x14, none, none, none, none, none, none, none, none, none, none, none, none, none, none], [.int x12, .int x14], (H0 s p0))) rfl ?_
 rcases qite h with ⟨hc24, h⟩ | ⟨hc24, h⟩
 ·refine zT Ad W (t := 315) (f := 311) rfl (XT.ii_lt_t hc24) ?_
  exact zM [tt,tt,tt,ff,tt,ff,tt,ff,tt,ff,tt,ff,tt,tt,tt,ff,ff,ff,ff,ff,ff,ff,ff,ff,ff,ff,ff,ff,ff] (tJ0_315 Ad W s p0 x2 x4 x6 x8 x10 x12 x13 x14 h hx0 hc)
 ·refine zF Ad W (t := 315) (f := 311) rfl (XT.ii_lt_f hc24) ?_
  refine zS Ad W 1 (st' := (312, [vR 0, vR 1, vL x2, none, vL x4, none, vL x6, none, vL x8, none, vL x10, none, vI x12, vI x13, vI x14, none, none, none, none, none, none, none, none, none, none, none, none, none, none], [.ref 1], (H0 s p0))) rfl ?_
  obtain ⟨r331, hr331, h⟩ := bind_eq_some_iff.mp h
  refine QTri.callV W (a := 1) (as := []) (rest := []) (w := none) (σ₁ := (H0 s r331)) rfl rfl rfl rfl rfl rfl rfl rfl (tF25 Ad W s p0 hr331) ?_
  exact zM [tt,tt,tt,ff,tt,ff,tt,ff,tt,ff,tt,ff,tt,tt,tt,ff,ff,ff,ff,ff,ff,ff,ff,ff,ff,ff,ff,ff,ff] (tJ0_315 Ad W s r331 x2 x4 x6 x8 x10 x12 x13 x14 h hx0 hc)
theorem tF1a1 (Ad : QAd n0 ad) (W : QW Z a0) (e0 : Ob) (s : List Int32) (x1 : Int32) {r : Int32} (h : F1 s x1 = some r) : QTri l Z n0 ad 1 (0, qentry [.ref 0, .int x1] (pMaxL 1), [], (H0 s e0)) (some (Value.int r)) (H0 s e0) := by
 unfold F1 at h
 refine zS Ad W 3 (st' := (3, [vR 0, vI x1], [.int (s.length.toInt32), .int x1], (H0 s e0))) rfl ?_
 rcases qite h with ⟨hc333, h⟩ | ⟨hc333, h⟩
 ·refine zF Ad W (t := 12) (f := 6) rfl (XT.ii_ge_f hc333) ?_
  refine zS Ad W 2 (st' := (8, [vR 0, vI x1], [.int x1, .ref 0], (H0 s e0))) rfl ?_
  obtain ⟨y334, hy334, h⟩ := bind_eq_some_iff.mp h
  refine zB Ad W (f := fun y334 => (9, [vR 0, vI x1], [.int y334], (H0 s e0))) rfl hy334 ?_
  refine zS Ad W 1 (st' := (13, [vR 0, vI x1], [.int y334], (H0 s e0))) rfl ?_
  obtain rfl := Option.some.inj h
  exact QTri.retI rfl rfl
 ·refine zT Ad W (t := 12) (f := 6) rfl (XT.ii_ge_t hc333) ?_
  refine zS Ad W 1 (st' := (13, [vR 0, vI x1], [.int (0:Int32)], (H0 s e0))) rfl ?_
  obtain rfl := Option.some.inj h
  exact QTri.retI rfl rfl
/-- spm()V -/
def F10 (o : Ob) : Option (Ob) :=
 (aget (f_stats o) (3:Int32)).bind fun y339 => (aset (f_stats o) (3:Int32) (y339 + (1:Int32))).bind fun y340 => (F11 (s_stats o y340) (2:Int32) (0:Int32) (0:Int32)).bind fun r342 => some r342
theorem tF10 (Ad : QAd n0 ad) (W : QW Z a0) (s : List Int32) (o : Ob) {r : Ob} (h : F10 o = some r) : QTri l Z n0 ad 10 (0, qentry [.ref 1] (pMaxL 10), [], (H0 s o)) (none : Option Value) (H0 s r) := by
 unfold F10 at h
 refine zS Ad W 4 (st' := (6, [vR 1], [.int (3:Int32), .ref 5, .int (3:Int32), .ref 5], (H0 s o))) rfl ?_
 obtain ⟨y339, hy339, h⟩ := bind_eq_some_iff.mp h
 refine zB Ad W (f := fun y339 => (7, [vR 1], [.int y339, .int (3:Int32), .ref 5], (H0 s o))) rfl hy339 ?_
 refine zS Ad W 2 (st' := (9, [vR 1], [.int (y339 + (1:Int32)), .int (3:Int32), .ref 5], (H0 s o))) rfl ?_
 obtain ⟨y340, hy340, h⟩ := bind_eq_some_iff.mp h
 refine zB Ad W (f := fun y340 => (10, [vR 1], [], (H0x6 s o y340))) rfl hy340 ?_
 refine zS Ad W 4 (st' := (14, [vR 1], [.int (0:Int32), .int (0:Int32), .int (2:Int32), .ref 1], (H0x6 s o y340))) rfl ?_
 have E341 : ((H0x6 s o y340) : QHeap) = (H0 s (s_stats o y340)) := by simp only [fs, H0, H0v, H0x6, s_stats]
 rw [E341]
 obtain ⟨r342, hr342, h⟩ := bind_eq_some_iff.mp h
 refine QTri.callP W (a := 1) (as := [.int (2:Int32), .int (0:Int32), .int (0:Int32)]) (rest := []) (w := none) (σ₁ := (H0 s r342)) rfl rfl rfl rfl rfl rfl rfl rfl (tF11 Ad W s (s_stats o y340) (2:Int32) (0:Int32) (0:Int32) hr342) ?_
 obtain rfl := Option.some.inj h
 exact QTri.ret0 rfl rfl
def J0_301 (s : List Int32) (p0 : Ob) (x2 : Int64) (x4 : Int64) (x6 : Int64) (x8 : Int64) (x10 : Int64) (x12 : Int32) (x13 : Int32) (x14 : Int32) : Option (((Int32 × QHeap)) ⊕ (Int64 × Int64 × Int64 × Int64 × Int64 × Int32 × Ob)) :=
  (J0_315 s p0 x2 x4 x6 x8 x10 x12 x13 x14)
theorem tJ0_301 (Ad : QAd n0 ad) (W : QW Z a0) (s : List Int32) (p0 : Ob) (x2 : Int64) (x4 : Int64) (x6 : Int64) (x8 : Int64) (x10 : Int64) (x12 : Int32) (x13 : Int32) (x14 : Int32) {r : ((Int32 × QHeap)) ⊕ (Int64 × Int64 × Int64 × Int64 × Int64 × Int32 × Ob)} {u : Option Value} {τ : QHeap} (h : J0_301 s p0 x2 x4 x6 x8 x10 x12 x13 x14 = some r) (hx0 : ∀ x : Int32 × QHeap, r = .inl x → u = (some (Value.int x.1)) ∧ τ = x.2) (hc : ∀ x : Int64 × Int64 × Int64 × Int64 × Int64 × Int32 × Ob, r = .inr x → QTri l Z n0 ad 0 (90, [vR 0, vR 1, vL x.1, none, vL x.2.1, none, vL x.2.2.1, none, vL x.2.2.2.1, none, vL x.2.2.2.2.1, none, vI x12, vI x13, vI x.2.2.2.2.2.1, none, none, none, none, none, none, none, none, none, none, none, none, none, none], [], (H0 s x.2.2.2.2.2.2)) u τ) : QTri l Z n0 ad 0 (301, [vR 0, vR 1, vL x2, none, vL x4, none, vL x6, none, vL x8, none, vL x10, none, vI x12, vI x13, vI x14, none, none, none, none, none, none, none, none, none, none, none, none, none, none], [], (H0 s p0)) u τ := by
 unfold J0_301 at h
 refine zS Ad W 1 (st' := (315, [vR 0, vR 1, vL x2, none, vL x4, none, vL x6, none, vL x8, none, vL x10, none, vI x12, vI x13, vI x14, none, none, none, none, none, none, none, none, none, none, none, none, none, none], [], (H0 s p0))) rfl ?_
 exact zM [tt,tt,tt,ff,tt,ff,tt,ff,tt,ff,tt,ff,tt,tt,tt,ff,ff,ff,ff,ff,ff,ff,ff,ff,ff,ff,ff,ff,ff] (tJ0_315 Ad W s p0 x2 x4 x6 x8 x10 x12 x13 x14 h hx0 hc)
/-- setLoss(II)Z -/
def F31 (o : Ob) (x1 : Int32) (x2 : Int32) : Option (Int32 × Ob) :=
 (F9 x1).bind fun r345 => (if r345 = (0:Int32) then some ((0:Int32), o) else (F3 x2 (0:Int32) (255:Int32)).bind fun r347 => (aset (f_lossLeft o) x1 r347).bind fun y348 => some ((1:Int32), (s_lossLeft o y348)))
theorem tF31 (Ad : QAd n0 ad) (W : QW Z a0) (s : List Int32) (o : Ob) (x1 : Int32) (x2 : Int32) {r : Int32 × Ob} (h : F31 o x1 x2 = some r) : QTri l Z n0 ad 31 (0, qentry [.ref 1, .int x1, .int x2] (pMaxL 31), [], (H0 s o)) (some (Value.int r.1)) (H0 s r.2) := by
 unfold F31 at h
 refine zS Ad W 2 (st' := (2, [vR 1, vI x1, vI x2], [.int x1, .ref 1], (H0 s o))) rfl ?_
 obtain ⟨r345, hr345, h⟩ := bind_eq_some_iff.mp h
 refine QTri.callP W (a := 1) (as := [.int x1]) (rest := []) (w := (some (.int r345))) (σ₁ := (H0 s o)) rfl rfl rfl rfl rfl rfl rfl rfl (tF9 Ad W x1 hr345) ?_
 rcases qite h with ⟨hc346, h⟩ | ⟨hc346, h⟩
 ·refine zF Ad W (t := 10) (f := 8) rfl (XT.i0_ne_f hc346) ?_
  refine zS Ad W 1 (st' := (9, [vR 1, vI x1, vI x2], [.int (0:Int32)], (H0 s o))) rfl ?_
  obtain rfl := Option.some.inj h
  exact QTri.retZ rfl rfl
 ·refine zT Ad W (t := 10) (f := 8) rfl (XT.i0_ne_t hc346) ?_
  refine zS Ad W 7 (st' := (21, [vR 1, vI x1, vI x2], [.int (255:Int32), .int (0:Int32), .int x2, .ref 1, .int x1, .ref 12], (H0 s o))) rfl ?_
  obtain ⟨r347, hr347, h⟩ := bind_eq_some_iff.mp h
  refine QTri.callP W (a := 1) (as := [.int x2, .int (0:Int32), .int (255:Int32)]) (rest := [.int x1, .ref 12]) (w := (some (.int r347))) (σ₁ := (H0 s o)) rfl rfl rfl rfl rfl rfl rfl rfl (tF3 Ad W x2 (0:Int32) (255:Int32) hr347) ?_
  obtain ⟨y348, hy348, h⟩ := bind_eq_some_iff.mp h
  refine zB Ad W (f := fun y348 => (25, [vR 1, vI x1, vI x2], [], (H0x8 s o y348))) rfl hy348 ?_
  refine zS Ad W 1 (st' := (26, [vR 1, vI x1, vI x2], [.int (1:Int32)], (H0x8 s o y348))) rfl ?_
  have E349 : ((H0x8 s o y348) : QHeap) = (H0 s (s_lossLeft o y348)) := by simp only [fs, H0, H0v, H0x8, s_lossLeft]
  rw [E349]
  obtain rfl := Option.some.inj h
  exact QTri.retZ rfl rfl
def H0x30 (s : List Int32) (o0 : Ob) (a0_0 : List Int32) : QHeap := H0v s a0_0 (f_pend o0) (f_queue o0) (f_stats o0) (f_state o0) (f_timer o0) (f_rxVal o0) (f_rxNext o0) (f_rxLead o0) (f_rxTrail o0) (f_lossLeft o0) (f_dups o0) (f_drops o0) (f_delSeq o0) (f_delVal o0) (f_delLen o0) (f_lostLog o0) (f_lostLen o0) (f_nakBuf o0) (f_win o0) (f_back o0) (f_repair o0) (f_period o0) (f_nextSeq o0) (f_qLen o0) (f_nakLen o0)
def H0x31 (s : List Int32) (o0 : Ob) (a0_0 : List Int32) (a0_23 : Int32) : QHeap := H0v s a0_0 (f_pend o0) (f_queue o0) (f_stats o0) (f_state o0) (f_timer o0) (f_rxVal o0) (f_rxNext o0) (f_rxLead o0) (f_rxTrail o0) (f_lossLeft o0) (f_dups o0) (f_drops o0) (f_delSeq o0) (f_delVal o0) (f_delLen o0) (f_lostLog o0) (f_lostLen o0) (f_nakBuf o0) (f_win o0) (f_back o0) (f_repair o0) (f_period o0) a0_23 (f_qLen o0) (f_nakLen o0)
def H0x32 (s : List Int32) (o0 : Ob) (a0_0 : List Int32) (a0_3 : List Int32) (a0_23 : Int32) : QHeap := H0v s a0_0 (f_pend o0) (f_queue o0) a0_3 (f_state o0) (f_timer o0) (f_rxVal o0) (f_rxNext o0) (f_rxLead o0) (f_rxTrail o0) (f_lossLeft o0) (f_dups o0) (f_drops o0) (f_delSeq o0) (f_delVal o0) (f_delLen o0) (f_lostLog o0) (f_lostLen o0) (f_nakBuf o0) (f_win o0) (f_back o0) (f_repair o0) (f_period o0) a0_23 (f_qLen o0) (f_nakLen o0)
/-- send(I)I -/
def F17 (o : Ob) (x1 : Int32) : Option (Int32 × Ob) :=
 (if x1 < (0:Int32) then some ((-1:Int32), o) else (if (255:Int32) < x1 then some ((-1:Int32), o) else (if (f_nextSeq o) < (32:Int32) then (aset (f_srcPayload o) (f_nextSeq o) x1).bind fun y355 => (aget (f_stats o) (1:Int32)).bind fun y356 => (aset (f_stats o) (1:Int32) (y356 + (1:Int32))).bind fun y357 => (F11 (s_stats (s_nextSeq (s_srcPayload o y355) ((f_nextSeq o) + (1:Int32))) y357) (0:Int32) (f_nextSeq o) x1).bind fun r359 => some ((f_nextSeq o), r359) else some ((-1:Int32), o))))
theorem tF17 (Ad : QAd n0 ad) (W : QW Z a0) (s : List Int32) (o : Ob) (x1 : Int32) {r : Int32 × Ob} (h : F17 o x1 = some r) : QTri l Z n0 ad 17 (0, qentry [.ref 1, .int x1] (pMaxL 17), [], (H0 s o)) (some (Value.int r.1)) (H0 s r.2) := by
 unfold F17 at h
 refine zS Ad W 1 (st' := (1, [vR 1, vI x1, none], [.int x1], (H0 s o))) rfl ?_
 rcases qite h with ⟨hc352, h⟩ | ⟨hc352, h⟩
 ·refine zT Ad W (t := 11) (f := 4) rfl (XT.i0_lt_t hc352) ?_
  refine zS Ad W 1 (st' := (12, [vR 1, vI x1, none], [.int (-1:Int32)], (H0 s o))) rfl ?_
  obtain rfl := Option.some.inj h
  exact QTri.retI rfl rfl
 ·refine zF Ad W (t := 11) (f := 4) rfl (XT.i0_lt_f hc352) ?_
  refine zS Ad W 2 (st' := (8, [vR 1, vI x1, none], [.int (255:Int32), .int x1], (H0 s o))) rfl ?_
  rcases qite h with ⟨hc353, h⟩ | ⟨hc353, h⟩
  ·refine zF Ad W (t := 13) (f := 11) rfl (XT.ii_le_f hc353) ?_
   refine zS Ad W 1 (st' := (12, [vR 1, vI x1, none], [.int (-1:Int32)], (H0 s o))) rfl ?_
   obtain rfl := Option.some.inj h
   exact QTri.retI rfl rfl
  ·refine zT Ad W (t := 13) (f := 11) rfl (XT.ii_le_t hc353) ?_
   refine zS Ad W 3 (st' := (19, [vR 1, vI x1, none], [.int (32:Int32), .int (f_nextSeq o)], (H0 s o))) rfl ?_
   rcases qite h with ⟨hc354, h⟩ | ⟨hc354, h⟩
   ·refine zT Ad W (t := 24) (f := 22) rfl (XT.ii_lt_t hc354) ?_
    refine zS Ad W 7 (st' := (35, [vR 1, vI x1, vI (f_nextSeq o)], [.int x1, .int (f_nextSeq o), .ref 2], (H0 s o))) rfl ?_
    obtain ⟨y355, hy355, h⟩ := bind_eq_some_iff.mp h
    refine zB Ad W (f := fun y355 => (36, [vR 1, vI x1, vI (f_nextSeq o)], [], (H0x30 s o y355))) rfl hy355 ?_
    refine zS Ad W 6 (st' := (46, [vR 1, vI x1, vI (f_nextSeq o)], [], (H0x31 s o y355 ((f_nextSeq o) + (1:Int32))))) rfl ?_
    refine zS Ad W 4 (st' := (52, [vR 1, vI x1, vI (f_nextSeq o)], [.int (1:Int32), .ref 5, .int (1:Int32), .ref 5], (H0x31 s o y355 ((f_nextSeq o) + (1:Int32))))) rfl ?_
    obtain ⟨y356, hy356, h⟩ := bind_eq_some_iff.mp h
    refine zB Ad W (f := fun y356 => (53, [vR 1, vI x1, vI (f_nextSeq o)], [.int y356, .int (1:Int32), .ref 5], (H0x31 s o y355 ((f_nextSeq o) + (1:Int32))))) rfl hy356 ?_
    refine zS Ad W 2 (st' := (55, [vR 1, vI x1, vI (f_nextSeq o)], [.int (y356 + (1:Int32)), .int (1:Int32), .ref 5], (H0x31 s o y355 ((f_nextSeq o) + (1:Int32))))) rfl ?_
    obtain ⟨y357, hy357, h⟩ := bind_eq_some_iff.mp h
    refine zB Ad W (f := fun y357 => (56, [vR 1, vI x1, vI (f_nextSeq o)], [], (H0x32 s o y355 y357 ((f_nextSeq o) + (1:Int32))))) rfl hy357 ?_
    refine zS Ad W 4 (st' := (60, [vR 1, vI x1, vI (f_nextSeq o)], [.int x1, .int (f_nextSeq o), .int (0:Int32), .ref 1], (H0x32 s o y355 y357 ((f_nextSeq o) + (1:Int32))))) rfl ?_
    have E358 : ((H0x32 s o y355 y357 ((f_nextSeq o) + (1:Int32))) : QHeap) = (H0 s (s_stats (s_nextSeq (s_srcPayload o y355) ((f_nextSeq o) + (1:Int32))) y357)) := by simp only [fs, H0, H0v, H0x32, s_srcPayload, s_stats, s_nextSeq]
    rw [E358]
    obtain ⟨r359, hr359, h⟩ := bind_eq_some_iff.mp h
    refine QTri.callP W (a := 1) (as := [.int (0:Int32), .int (f_nextSeq o), .int x1]) (rest := []) (w := none) (σ₁ := (H0 s r359)) rfl rfl rfl rfl rfl rfl rfl rfl (tF11 Ad W s (s_stats (s_nextSeq (s_srcPayload o y355) ((f_nextSeq o) + (1:Int32))) y357) (0:Int32) (f_nextSeq o) x1 hr359) ?_
    refine zS Ad W 1 (st' := (64, [vR 1, vI x1, vI (f_nextSeq o)], [.int (f_nextSeq o)], (H0 s r359))) rfl ?_
    obtain rfl := Option.some.inj h
    exact QTri.retI rfl rfl
   ·refine zF Ad W (t := 24) (f := 22) rfl (XT.ii_lt_f hc354) ?_
    refine zS Ad W 1 (st' := (23, [vR 1, vI x1, none], [.int (-1:Int32)], (H0 s o))) rfl ?_
    obtain rfl := Option.some.inj h
    exact QTri.retI rfl rfl
def J0_253 (s : List Int32) (p0 : Ob) (x2 : Int64) (x4 : Int64) (x6 : Int64) (x8 : Int64) (x10 : Int64) (x12 : Int32) (x13 : Int32) (x14 : Int32) : Option (((Int32 × QHeap)) ⊕ (Int64 × Int64 × Int64 × Int64 × Int64 × Int32 × Ob)) :=
  (J0_301 s p0 x2 x4 x6 x8 x10 x12 x13 x14)
theorem tJ0_253 (Ad : QAd n0 ad) (W : QW Z a0) (s : List Int32) (p0 : Ob) (x2 : Int64) (x4 : Int64) (x6 : Int64) (x8 : Int64) (x10 : Int64) (x12 : Int32) (x13 : Int32) (x14 : Int32) {r : ((Int32 × QHeap)) ⊕ (Int64 × Int64 × Int64 × Int64 × Int64 × Int32 × Ob)} {u : Option Value} {τ : QHeap} (h : J0_253 s p0 x2 x4 x6 x8 x10 x12 x13 x14 = some r) (hx0 : ∀ x : Int32 × QHeap, r = .inl x → u = (some (Value.int x.1)) ∧ τ = x.2) (hc : ∀ x : Int64 × Int64 × Int64 × Int64 × Int64 × Int32 × Ob, r = .inr x → QTri l Z n0 ad 0 (90, [vR 0, vR 1, vL x.1, none, vL x.2.1, none, vL x.2.2.1, none, vL x.2.2.2.1, none, vL x.2.2.2.2.1, none, vI x12, vI x13, vI x.2.2.2.2.2.1, none, none, none, none, none, none, none, none, none, none, none, none, none, none], [], (H0 s x.2.2.2.2.2.2)) u τ) : QTri l Z n0 ad 0 (253, [vR 0, vR 1, vL x2, none, vL x4, none, vL x6, none, vL x8, none, vL x10, none, vI x12, vI x13, vI x14, none, none, none, none, none, none, none, none, none, none, none, none, none, none], [], (H0 s p0)) u τ := by
 unfold J0_253 at h
 refine zS Ad W 1 (st' := (301, [vR 0, vR 1, vL x2, none, vL x4, none, vL x6, none, vL x8, none, vL x10, none, vI x12, vI x13, vI x14, none, none, none, none, none, none, none, none, none, none, none, none, none, none], [], (H0 s p0))) rfl ?_
 exact zM [tt,tt,tt,ff,tt,ff,tt,ff,tt,ff,tt,ff,tt,tt,tt,ff,ff,ff,ff,ff,ff,ff,ff,ff,ff,ff,ff,ff,ff] (tJ0_301 Ad W s p0 x2 x4 x6 x8 x10 x12 x13 x14 h hx0 hc)
/-- put(JII)J -/
def F21 (x0 : Int64) (x2 : Int32) (x3 : Int32) : Option (Int64) :=
 some ((x0 &&& (((255 : Int64) <<< (((x2 &&& (7:Int32)) * (8:Int32)).toInt64 &&& 63)) ^^^ (-1 : Int64))) ||| (((x3 &&& (255:Int32)).toInt64) <<< (((x2 &&& (7:Int32)) * (8:Int32)).toInt64 &&& 63)))
theorem tF21 (Ad : QAd n0 ad) (W : QW Z a0) {σ : QHeap} (x0 : Int64) (x2 : Int32) (x3 : Int32) {r : Int64} (h : F21 x0 x2 x3 = some r) : QTri l Z n0 ad 21 (0, qentry [.long x0, .int x2, .int x3] (pMaxL 21), [], σ) (some (Value.long r)) σ := by
 unfold F21 at h
 refine zS Ad W 12 (st' := (20, [vL x0, none, vI x2, vI x3, vI ((x2 &&& (7:Int32)) * (8:Int32))], [.long (((255 : Int64) <<< (((x2 &&& (7:Int32)) * (8:Int32)).toInt64 &&& 63)) ^^^ (-1 : Int64)), .long x0], σ)) rfl ?_
 refine zS Ad W 8 (st' := (31, [vL x0, none, vI x2, vI x3, vI ((x2 &&& (7:Int32)) * (8:Int32))], [.long ((x0 &&& (((255 : Int64) <<< (((x2 &&& (7:Int32)) * (8:Int32)).toInt64 &&& 63)) ^^^ (-1 : Int64))) ||| (((x3 &&& (255:Int32)).toInt64) <<< (((x2 &&& (7:Int32)) * (8:Int32)).toInt64 &&& 63)))], σ)) rfl ?_
 obtain rfl := Option.some.inj h
 exact QTri.retJ rfl rfl
def B0_90 (s : List Int32) (x12 : Int32) (x13 : Int32) (v : Int64 × Int64 × Int64 × Int64 × Int64 × Int32 × Ob) : Option (((Int32 × QHeap)) ⊕ (Int64 × Int64 × Int64 × Int64 × Int64 × Int32 × Ob)) :=
  (if v.2.2.2.2.2.1 < x13 then (if v.2.2.2.2.2.1 < (0 : Int32) then (J0_304 s v.2.2.2.2.2.2 v.1 v.2.1 v.2.2.1 v.2.2.2.1 v.2.2.2.2.1 x12 x13 v.2.2.2.2.2.1) else (if v.2.2.2.2.2.1 < x12 then (F1 s ((4 : Int32) + ((2 : Int32) * v.2.2.2.2.2.1))).bind fun r335 => (F1 s ((5 : Int32) + ((2 : Int32) * v.2.2.2.2.2.1))).bind fun r336 => (if (2 : Int32) < (r335 &&& (7 : Int32)) then (if (r335 &&& (7 : Int32)) = (3 : Int32) then (F10 v.2.2.2.2.2.2).bind fun r343 => (J0_301 s r343 v.1 v.2.1 v.2.2.1 v.2.2.2.1 v.2.2.2.2.1 x12 x13 v.2.2.2.2.2.1) else (if (r335 &&& (7 : Int32)) = (4 : Int32) then (F31 v.2.2.2.2.2.2 ((r336 &&& (7 : Int32)) - (2 : Int32)) ((XT.ushr r336 (3 : Int32)) &&& (7 : Int32))).bind fun r350 => (J0_301 s r350.2 v.1 v.2.1 v.2.2.1 v.2.2.2.1 v.2.2.2.2.1 x12 x13 v.2.2.2.2.2.1) else (F25 v.2.2.2.2.2.2).bind fun r351 => (J0_301 s r351 v.1 v.2.1 v.2.2.1 v.2.2.2.1 v.2.2.2.2.1 x12 x13 v.2.2.2.2.2.1))) else (F17 v.2.2.2.2.2.2 (r336 &&& (255 : Int32))).bind fun r360 => (if r360.1 < (0 : Int32) then (J0_253 s r360.2 v.1 v.2.1 v.2.2.1 v.2.2.2.1 v.2.2.2.2.1 x12 x13 v.2.2.2.2.2.1) else (if r360.1 < (32 : Int32) then (if (r360.1 >>> ((3 : Int32) &&& 31)) = (0 : Int32) then (F21 v.1 r360.1 (r336 &&& (255 : Int32))).bind fun r364 => (J0_253 s r360.2 r364 v.2.1 v.2.2.1 v.2.2.2.1 (v.2.2.2.2.1 ||| ((1 : Int64) <<< (r360.1.toInt64 &&& 63))) x12 x13 v.2.2.2.2.2.1) else (if (r360.1 >>> ((3 : Int32) &&& 31)) = (1 : Int32) then (F21 v.2.1 r360.1 (r336 &&& (255 : Int32))).bind fun r366 => (J0_253 s r360.2 v.1 r366 v.2.2.1 v.2.2.2.1 (v.2.2.2.2.1 ||| ((1 : Int64) <<< (r360.1.toInt64 &&& 63))) x12 x13 v.2.2.2.2.2.1) else (if (r360.1 >>> ((3 : Int32) &&& 31)) = (2 : Int32) then (F21 v.2.2.1 r360.1 (r336 &&& (255 : Int32))).bind fun r368 => (J0_253 s r360.2 v.1 v.2.1 r368 v.2.2.2.1 (v.2.2.2.2.1 ||| ((1 : Int64) <<< (r360.1.toInt64 &&& 63))) x12 x13 v.2.2.2.2.2.1) else (F21 v.2.2.2.1 r360.1 (r336 &&& (255 : Int32))).bind fun r369 => (J0_253 s r360.2 v.1 v.2.1 v.2.2.1 r369 (v.2.2.2.2.1 ||| ((1 : Int64) <<< (r360.1.toInt64 &&& 63))) x12 x13 v.2.2.2.2.2.1)))) else (J0_253 s r360.2 v.1 v.2.1 v.2.2.1 v.2.2.2.1 v.2.2.2.2.1 x12 x13 v.2.2.2.2.2.1)))) else (J0_304 s v.2.2.2.2.2.2 v.1 v.2.1 v.2.2.1 v.2.2.2.1 v.2.2.2.2.1 x12 x13 v.2.2.2.2.2.1))) else some (.inl ((1 : Int32), (H0 s v.2.2.2.2.2.2))))
theorem tB0_90 (Ad : QAd n0 ad) (W : QW Z a0) (s : List Int32) (x12 : Int32) (x13 : Int32) (v : Int64 × Int64 × Int64 × Int64 × Int64 × Int32 × Ob) {r : ((Int32 × QHeap)) ⊕ (Int64 × Int64 × Int64 × Int64 × Int64 × Int32 × Ob)} {u : Option Value} {τ : QHeap} (h : B0_90 s x12 x13 v = some r) (hx0 : ∀ x : Int32 × QHeap, r = .inl x → u = (some (Value.int x.1)) ∧ τ = x.2) (hc : ∀ x : Int64 × Int64 × Int64 × Int64 × Int64 × Int32 × Ob, r = .inr x → QTri l Z n0 ad 0 (90, [vR 0, vR 1, vL x.1, none, vL x.2.1, none, vL x.2.2.1, none, vL x.2.2.2.1, none, vL x.2.2.2.2.1, none, vI x12, vI x13, vI x.2.2.2.2.2.1, none, none, none, none, none, none, none, none, none, none, none, none, none, none], [], (H0 s x.2.2.2.2.2.2)) u τ) : QTri l Z n0 ad 0 (90, [vR 0, vR 1, vL v.1, none, vL v.2.1, none, vL v.2.2.1, none, vL v.2.2.2.1, none, vL v.2.2.2.2.1, none, vI x12, vI x13, vI v.2.2.2.2.2.1, none, none, none, none, none, none, none, none, none, none, none, none, none, none], [], (H0 s v.2.2.2.2.2.2)) u τ := by
 unfold B0_90 at h
 refine zS Ad W 2 (st' := (94, [vR 0, vR 1, vL v.1, none, vL v.2.1, none, vL v.2.2.1, none, vL v.2.2.2.1, none, vL v.2.2.2.2.1, none, vI x12, vI x13, vI v.2.2.2.2.2.1, none, none, none, none, none, none, none, none, none, none, none, none, none, none], [.int x13, .int v.2.2.2.2.2.1], (H0 s v.2.2.2.2.2.2))) rfl ?_
 rcases qite h with ⟨hc22, h⟩ | ⟨hc22, h⟩
 ·refine zF Ad W (t := 631) (f := 97) rfl (XT.ii_ge_f hc22) ?_
  refine zS Ad W 1 (st' := (99, [vR 0, vR 1, vL v.1, none, vL v.2.1, none, vL v.2.2.1, none, vL v.2.2.2.1, none, vL v.2.2.2.2.1, none, vI x12, vI x13, vI v.2.2.2.2.2.1, none, none, none, none, none, none, none, none, none, none, none, none, none, none], [.int v.2.2.2.2.2.1], (H0 s v.2.2.2.2.2.2))) rfl ?_
  rcases qite h with ⟨hc23, h⟩ | ⟨hc23, h⟩
  ·refine zT Ad W (t := 304) (f := 102) rfl (XT.i0_lt_t hc23) ?_
   exact zM [tt,tt,tt,ff,tt,ff,tt,ff,tt,ff,tt,ff,tt,tt,tt,ff,ff,ff,ff,ff,ff,ff,ff,ff,ff,ff,ff,ff,ff] (tJ0_304 Ad W s v.2.2.2.2.2.2 v.1 v.2.1 v.2.2.1 v.2.2.2.1 v.2.2.2.2.1 x12 x13 v.2.2.2.2.2.1 h hx0 hc)
  ·refine zF Ad W (t := 304) (f := 102) rfl (XT.i0_lt_f hc23) ?_
   refine zS Ad W 2 (st' := (106, [vR 0, vR 1, vL v.1, none, vL v.2.1, none, vL v.2.2.1, none, vL v.2.2.2.1, none, vL v.2.2.2.2.1, none, vI x12, vI x13, vI v.2.2.2.2.2.1, none, none, none, none, none, none, none, none, none, none, none, none, none, none], [.int x12, .int v.2.2.2.2.2.1], (H0 s v.2.2.2.2.2.2))) rfl ?_
   rcases qite h with ⟨hc332, h⟩ | ⟨hc332, h⟩
   ·refine zF Ad W (t := 304) (f := 109) rfl (XT.ii_ge_f hc332) ?_
    refine zS Ad W 6 (st' := (116, [vR 0, vR 1, vL v.1, none, vL v.2.1, none, vL v.2.2.1, none, vL v.2.2.2.1, none, vL v.2.2.2.2.1, none, vI x12, vI x13, vI v.2.2.2.2.2.1, none, none, none, none, none, none, none, none, none, none, none, none, none, none], [.int ((4:Int32) + ((2:Int32) * v.2.2.2.2.2.1)), .ref 0], (H0 s v.2.2.2.2.2.2))) rfl ?_
    obtain ⟨r335, hr335, h⟩ := bind_eq_some_iff.mp h
    refine QTri.callS W (as := [.ref 0, .int ((4:Int32) + ((2:Int32) * v.2.2.2.2.2.1))]) (rest := []) (w := (some (.int r335))) (σ₁ := (H0 s v.2.2.2.2.2.2)) rfl rfl rfl rfl rfl rfl rfl (tF1a1 Ad W v.2.2.2.2.2.2 s ((4:Int32) + ((2:Int32) * v.2.2.2.2.2.1)) hr335) ?_
    refine zS Ad W 9 (st' := (131, [vR 0, vR 1, vL v.1, none, vL v.2.1, none, vL v.2.2.1, none, vL v.2.2.2.1, none, vL v.2.2.2.2.1, none, vI x12, vI x13, vI v.2.2.2.2.2.1, vI (r335 &&& (7:Int32)), none, none, none, none, none, none, none, none, none, none, none, none, none], [.int ((5:Int32) + ((2:Int32) * v.2.2.2.2.2.1)), .ref 0], (H0 s v.2.2.2.2.2.2))) rfl ?_
    obtain ⟨r336, hr336, h⟩ := bind_eq_some_iff.mp h
    refine QTri.callS W (as := [.ref 0, .int ((5:Int32) + ((2:Int32) * v.2.2.2.2.2.1))]) (rest := []) (w := (some (.int r336))) (σ₁ := (H0 s v.2.2.2.2.2.2)) rfl rfl rfl rfl rfl rfl rfl (tF1a1 Ad W v.2.2.2.2.2.2 s ((5:Int32) + ((2:Int32) * v.2.2.2.2.2.1)) hr336) ?_
    refine zS Ad W 3 (st' := (139, [vR 0, vR 1, vL v.1, none, vL v.2.1, none, vL v.2.2.1, none, vL v.2.2.2.1, none, vL v.2.2.2.2.1, none, vI x12, vI x13, vI v.2.2.2.2.2.1, vI (r335 &&& (7:Int32)), vI r336, none, none, none, none, none, none, none, none, none, none, none, none], [.int (2:Int32), .int (r335 &&& (7:Int32))], (H0 s v.2.2.2.2.2.2))) rfl ?_
    rcases qite h with ⟨hc337, h⟩ | ⟨hc337, h⟩
    ·refine zT Ad W (t := 256) (f := 142) rfl (XT.ii_gt_t hc337) ?_
     refine zS Ad W 2 (st' := (259, [vR 0, vR 1, vL v.1, none, vL v.2.1, none, vL v.2.2.1, none, vL v.2.2.2.1, none, vL v.2.2.2.2.1, none, vI x12, vI x13, vI v.2.2.2.2.2.1, vI (r335 &&& (7:Int32)), vI r336, none, none, none, none, none, none, none, none, none, none, none, none], [.int (3:Int32), .int (r335 &&& (7:Int32))], (H0 s v.2.2.2.2.2.2))) rfl ?_
     rcases qite h with ⟨hc338, h⟩ | ⟨hc338, h⟩
     ·refine zF Ad W (t := 269) (f := 262) rfl (XT.ii_ne_f hc338) ?_
      refine zS Ad W 1 (st' := (263, [vR 0, vR 1, vL v.1, none, vL v.2.1, none, vL v.2.2.1, none, vL v.2.2.2.1, none, vL v.2.2.2.2.1, none, vI x12, vI x13, vI v.2.2.2.2.2.1, vI (r335 &&& (7:Int32)), vI r336, none, none, none, none, none, none, none, none, none, none, none, none], [.ref 1], (H0 s v.2.2.2.2.2.2))) rfl ?_
      obtain ⟨r343, hr343, h⟩ := bind_eq_some_iff.mp h
      refine QTri.callV W (a := 1) (as := []) (rest := []) (w := none) (σ₁ := (H0 s r343)) rfl rfl rfl rfl rfl rfl rfl rfl (tF10 Ad W s v.2.2.2.2.2.2 hr343) ?_
      refine zS Ad W 1 (st' := (301, [vR 0, vR 1, vL v.1, none, vL v.2.1, none, vL v.2.2.1, none, vL v.2.2.2.1, none, vL v.2.2.2.2.1, none, vI x12, vI x13, vI v.2.2.2.2.2.1, vI (r335 &&& (7:Int32)), vI r336, none, none, none, none, none, none, none, none, none, none, none, none], [], (H0 s r343))) rfl ?_
      exact zM [tt,tt,tt,ff,tt,ff,tt,ff,tt,ff,tt,ff,tt,tt,tt,ff,ff,ff,ff,ff,ff,ff,ff,ff,ff,ff,ff,ff,ff] (tJ0_301 Ad W s r343 v.1 v.2.1 v.2.2.1 v.2.2.2.1 v.2.2.2.2.1 x12 x13 v.2.2.2.2.2.1 h hx0 hc)
     ·refine zT Ad W (t := 269) (f := 262) rfl (XT.ii_ne_t hc338) ?_
      refine zS Ad W 2 (st' := (272, [vR 0, vR 1, vL v.1, none, vL v.2.1, none, vL v.2.2.1, none, vL v.2.2.2.1, none, vL v.2.2.2.2.1, none, vI x12, vI x13, vI v.2.2.2.2.2.1, vI (r335 &&& (7:Int32)), vI r336, none, none, none, none, none, none, none, none, none, none, none, none], [.int (4:Int32), .int (r335 &&& (7:Int32))], (H0 s v.2.2.2.2.2.2))) rfl ?_
      rcases qite h with ⟨hc344, h⟩ | ⟨hc344, h⟩
      ·refine zF Ad W (t := 297) (f := 275) rfl (XT.ii_ne_f hc344) ?_
       refine zS Ad W 11 (st' := (290, [vR 0, vR 1, vL v.1, none, vL v.2.1, none, vL v.2.2.1, none, vL v.2.2.2.1, none, vL v.2.2.2.2.1, none, vI x12, vI x13, vI v.2.2.2.2.2.1, vI (r335 &&& (7:Int32)), vI r336, none, none, none, none, none, none, none, none, none, none, none, none], [.int ((XT.ushr r336 (3:Int32)) &&& (7:Int32)), .int ((r336 &&& (7:Int32)) - (2:Int32)), .ref 1], (H0 s v.2.2.2.2.2.2))) rfl ?_
       obtain ⟨r350, hr350, h⟩ := bind_eq_some_iff.mp h
       refine QTri.callV W (a := 1) (as := [.int ((r336 &&& (7:Int32)) - (2:Int32)), .int ((XT.ushr r336 (3:Int32)) &&& (7:Int32))]) (rest := []) (w := (some (.int r350.1))) (σ₁ := (H0 s r350.2)) rfl rfl rfl rfl rfl rfl rfl rfl (tF31 Ad W s v.2.2.2.2.2.2 ((r336 &&& (7:Int32)) - (2:Int32)) ((XT.ushr r336 (3:Int32)) &&& (7:Int32)) hr350) ?_
       refine zS Ad W 2 (st' := (301, [vR 0, vR 1, vL v.1, none, vL v.2.1, none, vL v.2.2.1, none, vL v.2.2.2.1, none, vL v.2.2.2.2.1, none, vI x12, vI x13, vI v.2.2.2.2.2.1, vI (r335 &&& (7:Int32)), vI r336, none, none, none, none, none, none, none, none, none, none, none, none], [], (H0 s r350.2))) rfl ?_
       exact zM [tt,tt,tt,ff,tt,ff,tt,ff,tt,ff,tt,ff,tt,tt,tt,ff,ff,ff,ff,ff,ff,ff,ff,ff,ff,ff,ff,ff,ff] (tJ0_301 Ad W s r350.2 v.1 v.2.1 v.2.2.1 v.2.2.2.1 v.2.2.2.2.1 x12 x13 v.2.2.2.2.2.1 h hx0 hc)
      ·refine zT Ad W (t := 297) (f := 275) rfl (XT.ii_ne_t hc344) ?_
       refine zS Ad W 1 (st' := (298, [vR 0, vR 1, vL v.1, none, vL v.2.1, none, vL v.2.2.1, none, vL v.2.2.2.1, none, vL v.2.2.2.2.1, none, vI x12, vI x13, vI v.2.2.2.2.2.1, vI (r335 &&& (7:Int32)), vI r336, none, none, none, none, none, none, none, none, none, none, none, none], [.ref 1], (H0 s v.2.2.2.2.2.2))) rfl ?_
       obtain ⟨r351, hr351, h⟩ := bind_eq_some_iff.mp h
       refine QTri.callV W (a := 1) (as := []) (rest := []) (w := none) (σ₁ := (H0 s r351)) rfl rfl rfl rfl rfl rfl rfl rfl (tF25 Ad W s v.2.2.2.2.2.2 hr351) ?_
       exact zM [tt,tt,tt,ff,tt,ff,tt,ff,tt,ff,tt,ff,tt,tt,tt,ff,ff,ff,ff,ff,ff,ff,ff,ff,ff,ff,ff,ff,ff] (tJ0_301 Ad W s r351 v.1 v.2.1 v.2.2.1 v.2.2.2.1 v.2.2.2.2.1 x12 x13 v.2.2.2.2.2.1 h hx0 hc)
    ·refine zF Ad W (t := 256) (f := 142) rfl (XT.ii_gt_f hc337) ?_
     refine zS Ad W 6 (st' := (153, [vR 0, vR 1, vL v.1, none, vL v.2.1, none, vL v.2.2.1, none, vL v.2.2.2.1, none, vL v.2.2.2.2.1, none, vI x12, vI x13, vI v.2.2.2.2.2.1, vI (r335 &&& (7:Int32)), vI r336, vI (r336 &&& (255:Int32)), none, none, none, none, none, none, none, none, none, none, none], [.int (r336 &&& (255:Int32)), .ref 1], (H0 s v.2.2.2.2.2.2))) rfl ?_
     obtain ⟨r360, hr360, h⟩ := bind_eq_some_iff.mp h
     refine QTri.callV W (a := 1) (as := [.int (r336 &&& (255:Int32))]) (rest := []) (w := (some (.int r360.1))) (σ₁ := (H0 s r360.2)) rfl rfl rfl rfl rfl rfl rfl rfl (tF17 Ad W s v.2.2.2.2.2.2 (r336 &&& (255:Int32)) hr360) ?_
     refine zS Ad W 2 (st' := (160, [vR 0, vR 1, vL v.1, none, vL v.2.1, none, vL v.2.2.1, none, vL v.2.2.2.1, none, vL v.2.2.2.2.1, none, vI x12, vI x13, vI v.2.2.2.2.2.1, vI (r335 &&& (7:Int32)), vI r336, vI (r336 &&& (255:Int32)), vI r360.1, none, none, none, none, none, none, none, none, none, none], [.int r360.1], (H0 s r360.2))) rfl ?_
     rcases qite h with ⟨hc361, h⟩ | ⟨hc361, h⟩
     ·refine zT Ad W (t := 253) (f := 163) rfl (XT.i0_lt_t hc361) ?_
      exact zM [tt,tt,tt,ff,tt,ff,tt,ff,tt,ff,tt,ff,tt,tt,tt,ff,ff,ff,ff,ff,ff,ff,ff,ff,ff,ff,ff,ff,ff] (tJ0_253 Ad W s r360.2 v.1 v.2.1 v.2.2.1 v.2.2.2.1 v.2.2.2.2.1 x12 x13 v.2.2.2.2.2.1 h hx0 hc)
     ·refine zF Ad W (t := 253) (f := 163) rfl (XT.i0_lt_f hc361) ?_
      refine zS Ad W 2 (st' := (167, [vR 0, vR 1, vL v.1, none, vL v.2.1, none, vL v.2.2.1, none, vL v.2.2.2.1, none, vL v.2.2.2.2.1, none, vI x12, vI x13, vI v.2.2.2.2.2.1, vI (r335 &&& (7:Int32)), vI r336, vI (r336 &&& (255:Int32)), vI r360.1, none, none, none, none, none, none, none, none, none, none], [.int (32:Int32), .int r360.1], (H0 s r360.2))) rfl ?_
      rcases qite h with ⟨hc362, h⟩ | ⟨hc362, h⟩
      ·refine zF Ad W (t := 253) (f := 170) rfl (XT.ii_ge_f hc362) ?_
       refine zS Ad W 10 (st' := (185, [vR 0, vR 1, vL v.1, none, vL v.2.1, none, vL v.2.2.1, none, vL v.2.2.2.1, none, vL (v.2.2.2.2.1 ||| ((1 : Int64) <<< (r360.1.toInt64 &&& 63))), none, vI x12, vI x13, vI v.2.2.2.2.2.1, vI (r335 &&& (7:Int32)), vI r336, vI (r336 &&& (255:Int32)), vI r360.1, vI (r360.1 >>> ((3:Int32) &&& 31)), none, none, none, none, none, none, none, none, none], [], (H0 s r360.2))) rfl ?_
       refine zS Ad W 1 (st' := (187, [vR 0, vR 1, vL v.1, none, vL v.2.1, none, vL v.2.2.1, none, vL v.2.2.2.1, none, vL (v.2.2.2.2.1 ||| ((1 : Int64) <<< (r360.1.toInt64 &&& 63))), none, vI x12, vI x13, vI v.2.2.2.2.2.1, vI (r335 &&& (7:Int32)), vI r336, vI (r336 &&& (255:Int32)), vI r360.1, vI (r360.1 >>> ((3:Int32) &&& 31)), none, none, none, none, none, none, none, none, none], [.int (r360.1 >>> ((3:Int32) &&& 31))], (H0 s r360.2))) rfl ?_
       rcases qite h with ⟨hc363, h⟩ | ⟨hc363, h⟩
       ·refine zF Ad W (t := 202) (f := 190) rfl (XT.i0_ne_f hc363) ?_
        refine zS Ad W 3 (st' := (195, [vR 0, vR 1, vL v.1, none, vL v.2.1, none, vL v.2.2.1, none, vL v.2.2.2.1, none, vL (v.2.2.2.2.1 ||| ((1 : Int64) <<< (r360.1.toInt64 &&& 63))), none, vI x12, vI x13, vI v.2.2.2.2.2.1, vI (r335 &&& (7:Int32)), vI r336, vI (r336 &&& (255:Int32)), vI r360.1, vI (r360.1 >>> ((3:Int32) &&& 31)), none, none, none, none, none, none, none, none, none], [.int (r336 &&& (255:Int32)), .int r360.1, .long v.1], (H0 s r360.2))) rfl ?_
        obtain ⟨r364, hr364, h⟩ := bind_eq_some_iff.mp h
        refine QTri.callS W (as := [.long v.1, .int r360.1, .int (r336 &&& (255:Int32))]) (rest := []) (w := (some (.long r364))) (σ₁ := (H0 s r360.2)) rfl rfl rfl rfl rfl rfl rfl (tF21 Ad W v.1 r360.1 (r336 &&& (255:Int32)) hr364) ?_
        refine zS Ad W 2 (st' := (253, [vR 0, vR 1, vL r364, none, vL v.2.1, none, vL v.2.2.1, none, vL v.2.2.2.1, none, vL (v.2.2.2.2.1 ||| ((1 : Int64) <<< (r360.1.toInt64 &&& 63))), none, vI x12, vI x13, vI v.2.2.2.2.2.1, vI (r335 &&& (7:Int32)), vI r336, vI (r336 &&& (255:Int32)), vI r360.1, vI (r360.1 >>> ((3:Int32) &&& 31)), none, none, none, none, none, none, none, none, none], [], (H0 s r360.2))) rfl ?_
        exact zM [tt,tt,tt,ff,tt,ff,tt,ff,tt,ff,tt,ff,tt,tt,tt,ff,ff,ff,ff,ff,ff,ff,ff,ff,ff,ff,ff,ff,ff] (tJ0_253 Ad W s r360.2 r364 v.2.1 v.2.2.1 v.2.2.2.1 (v.2.2.2.2.1 ||| ((1 : Int64) <<< (r360.1.toInt64 &&& 63))) x12 x13 v.2.2.2.2.2.1 h hx0 hc)
       ·refine zT Ad W (t := 202) (f := 190) rfl (XT.i0_ne_t hc363) ?_
        refine zS Ad W 2 (st' := (205, [vR 0, vR 1, vL v.1, none, vL v.2.1, none, vL v.2.2.1, none, vL v.2.2.2.1, none, vL (v.2.2.2.2.1 ||| ((1 : Int64) <<< (r360.1.toInt64 &&& 63))), none, vI x12, vI x13, vI v.2.2.2.2.2.1, vI (r335 &&& (7:Int32)), vI r336, vI (r336 &&& (255:Int32)), vI r360.1, vI (r360.1 >>> ((3:Int32) &&& 31)), none, none, none, none, none, none, none, none, none], [.int (1:Int32), .int (r360.1 >>> ((3:Int32) &&& 31))], (H0 s r360.2))) rfl ?_
        rcases qite h with ⟨hc365, h⟩ | ⟨hc365, h⟩
        ·refine zF Ad W (t := 222) (f := 208) rfl (XT.ii_ne_f hc365) ?_
         refine zS Ad W 3 (st' := (214, [vR 0, vR 1, vL v.1, none, vL v.2.1, none, vL v.2.2.1, none, vL v.2.2.2.1, none, vL (v.2.2.2.2.1 ||| ((1 : Int64) <<< (r360.1.toInt64 &&& 63))), none, vI x12, vI x13, vI v.2.2.2.2.2.1, vI (r335 &&& (7:Int32)), vI r336, vI (r336 &&& (255:Int32)), vI r360.1, vI (r360.1 >>> ((3:Int32) &&& 31)), none, none, none, none, none, none, none, none, none], [.int (r336 &&& (255:Int32)), .int r360.1, .long v.2.1], (H0 s r360.2))) rfl ?_
         obtain ⟨r366, hr366, h⟩ := bind_eq_some_iff.mp h
         refine QTri.callS W (as := [.long v.2.1, .int r360.1, .int (r336 &&& (255:Int32))]) (rest := []) (w := (some (.long r366))) (σ₁ := (H0 s r360.2)) rfl rfl rfl rfl rfl rfl rfl (tF21 Ad W v.2.1 r360.1 (r336 &&& (255:Int32)) hr366) ?_
         refine zS Ad W 2 (st' := (253, [vR 0, vR 1, vL v.1, none, vL r366, none, vL v.2.2.1, none, vL v.2.2.2.1, none, vL (v.2.2.2.2.1 ||| ((1 : Int64) <<< (r360.1.toInt64 &&& 63))), none, vI x12, vI x13, vI v.2.2.2.2.2.1, vI (r335 &&& (7:Int32)), vI r336, vI (r336 &&& (255:Int32)), vI r360.1, vI (r360.1 >>> ((3:Int32) &&& 31)), none, none, none, none, none, none, none, none, none], [], (H0 s r360.2))) rfl ?_
         exact zM [tt,tt,tt,ff,tt,ff,tt,ff,tt,ff,tt,ff,tt,tt,tt,ff,ff,ff,ff,ff,ff,ff,ff,ff,ff,ff,ff,ff,ff] (tJ0_253 Ad W s r360.2 v.1 r366 v.2.2.1 v.2.2.2.1 (v.2.2.2.2.1 ||| ((1 : Int64) <<< (r360.1.toInt64 &&& 63))) x12 x13 v.2.2.2.2.2.1 h hx0 hc)
        ·refine zT Ad W (t := 222) (f := 208) rfl (XT.ii_ne_t hc365) ?_
         refine zS Ad W 2 (st' := (225, [vR 0, vR 1, vL v.1, none, vL v.2.1, none, vL v.2.2.1, none, vL v.2.2.2.1, none, vL (v.2.2.2.2.1 ||| ((1 : Int64) <<< (r360.1.toInt64 &&& 63))), none, vI x12, vI x13, vI v.2.2.2.2.2.1, vI (r335 &&& (7:Int32)), vI r336, vI (r336 &&& (255:Int32)), vI r360.1, vI (r360.1 >>> ((3:Int32) &&& 31)), none, none, none, none, none, none, none, none, none], [.int (2:Int32), .int (r360.1 >>> ((3:Int32) &&& 31))], (H0 s r360.2))) rfl ?_
         rcases qite h with ⟨hc367, h⟩ | ⟨hc367, h⟩
         ·refine zF Ad W (t := 242) (f := 228) rfl (XT.ii_ne_f hc367) ?_
          refine zS Ad W 3 (st' := (234, [vR 0, vR 1, vL v.1, none, vL v.2.1, none, vL v.2.2.1, none, vL v.2.2.2.1, none, vL (v.2.2.2.2.1 ||| ((1 : Int64) <<< (r360.1.toInt64 &&& 63))), none, vI x12, vI x13, vI v.2.2.2.2.2.1, vI (r335 &&& (7:Int32)), vI r336, vI (r336 &&& (255:Int32)), vI r360.1, vI (r360.1 >>> ((3:Int32) &&& 31)), none, none, none, none, none, none, none, none, none], [.int (r336 &&& (255:Int32)), .int r360.1, .long v.2.2.1], (H0 s r360.2))) rfl ?_
          obtain ⟨r368, hr368, h⟩ := bind_eq_some_iff.mp h
          refine QTri.callS W (as := [.long v.2.2.1, .int r360.1, .int (r336 &&& (255:Int32))]) (rest := []) (w := (some (.long r368))) (σ₁ := (H0 s r360.2)) rfl rfl rfl rfl rfl rfl rfl (tF21 Ad W v.2.2.1 r360.1 (r336 &&& (255:Int32)) hr368) ?_
          refine zS Ad W 2 (st' := (253, [vR 0, vR 1, vL v.1, none, vL v.2.1, none, vL r368, none, vL v.2.2.2.1, none, vL (v.2.2.2.2.1 ||| ((1 : Int64) <<< (r360.1.toInt64 &&& 63))), none, vI x12, vI x13, vI v.2.2.2.2.2.1, vI (r335 &&& (7:Int32)), vI r336, vI (r336 &&& (255:Int32)), vI r360.1, vI (r360.1 >>> ((3:Int32) &&& 31)), none, none, none, none, none, none, none, none, none], [], (H0 s r360.2))) rfl ?_
          exact zM [tt,tt,tt,ff,tt,ff,tt,ff,tt,ff,tt,ff,tt,tt,tt,ff,ff,ff,ff,ff,ff,ff,ff,ff,ff,ff,ff,ff,ff] (tJ0_253 Ad W s r360.2 v.1 v.2.1 r368 v.2.2.2.1 (v.2.2.2.2.1 ||| ((1 : Int64) <<< (r360.1.toInt64 &&& 63))) x12 x13 v.2.2.2.2.2.1 h hx0 hc)
         ·refine zT Ad W (t := 242) (f := 228) rfl (XT.ii_ne_t hc367) ?_
          refine zS Ad W 3 (st' := (248, [vR 0, vR 1, vL v.1, none, vL v.2.1, none, vL v.2.2.1, none, vL v.2.2.2.1, none, vL (v.2.2.2.2.1 ||| ((1 : Int64) <<< (r360.1.toInt64 &&& 63))), none, vI x12, vI x13, vI v.2.2.2.2.2.1, vI (r335 &&& (7:Int32)), vI r336, vI (r336 &&& (255:Int32)), vI r360.1, vI (r360.1 >>> ((3:Int32) &&& 31)), none, none, none, none, none, none, none, none, none], [.int (r336 &&& (255:Int32)), .int r360.1, .long v.2.2.2.1], (H0 s r360.2))) rfl ?_
          obtain ⟨r369, hr369, h⟩ := bind_eq_some_iff.mp h
          refine QTri.callS W (as := [.long v.2.2.2.1, .int r360.1, .int (r336 &&& (255:Int32))]) (rest := []) (w := (some (.long r369))) (σ₁ := (H0 s r360.2)) rfl rfl rfl rfl rfl rfl rfl (tF21 Ad W v.2.2.2.1 r360.1 (r336 &&& (255:Int32)) hr369) ?_
          refine zS Ad W 1 (st' := (253, [vR 0, vR 1, vL v.1, none, vL v.2.1, none, vL v.2.2.1, none, vL r369, none, vL (v.2.2.2.2.1 ||| ((1 : Int64) <<< (r360.1.toInt64 &&& 63))), none, vI x12, vI x13, vI v.2.2.2.2.2.1, vI (r335 &&& (7:Int32)), vI r336, vI (r336 &&& (255:Int32)), vI r360.1, vI (r360.1 >>> ((3:Int32) &&& 31)), none, none, none, none, none, none, none, none, none], [], (H0 s r360.2))) rfl ?_
          exact zM [tt,tt,tt,ff,tt,ff,tt,ff,tt,ff,tt,ff,tt,tt,tt,ff,ff,ff,ff,ff,ff,ff,ff,ff,ff,ff,ff,ff,ff] (tJ0_253 Ad W s r360.2 v.1 v.2.1 v.2.2.1 r369 (v.2.2.2.2.1 ||| ((1 : Int64) <<< (r360.1.toInt64 &&& 63))) x12 x13 v.2.2.2.2.2.1 h hx0 hc)
      ·refine zT Ad W (t := 253) (f := 170) rfl (XT.ii_ge_t hc362) ?_
       exact zM [tt,tt,tt,ff,tt,ff,tt,ff,tt,ff,tt,ff,tt,tt,tt,ff,ff,ff,ff,ff,ff,ff,ff,ff,ff,ff,ff,ff,ff] (tJ0_253 Ad W s r360.2 v.1 v.2.1 v.2.2.1 v.2.2.2.1 v.2.2.2.2.1 x12 x13 v.2.2.2.2.2.1 h hx0 hc)
   ·refine zT Ad W (t := 304) (f := 109) rfl (XT.ii_ge_t hc332) ?_
    exact zM [tt,tt,tt,ff,tt,ff,tt,ff,tt,ff,tt,ff,tt,tt,tt,ff,ff,ff,ff,ff,ff,ff,ff,ff,ff,ff,ff,ff,ff] (tJ0_304 Ad W s v.2.2.2.2.2.2 v.1 v.2.1 v.2.2.1 v.2.2.2.1 v.2.2.2.2.1 x12 x13 v.2.2.2.2.2.1 h hx0 hc)
 ·refine zT Ad W (t := 631) (f := 97) rfl (XT.ii_ge_t hc22) ?_
  refine zS Ad W 1 (st' := (632, [vR 0, vR 1, vL v.1, none, vL v.2.1, none, vL v.2.2.1, none, vL v.2.2.2.1, none, vL v.2.2.2.2.1, none, vI x12, vI x13, vI v.2.2.2.2.2.1, none, none, none, none, none, none, none, none, none, none, none, none, none, none], [.int (1:Int32)], (H0 s v.2.2.2.2.2.2))) rfl ?_
  obtain rfl := Option.some.inj h
  obtain ⟨rfl, rfl⟩ := hx0 ((1:Int32), (H0 s v.2.2.2.2.2.2)) rfl
  exact QTri.retZ rfl rfl
def J0_78 (s : List Int32) (p0 : Ob) (x2 : Int64) (x4 : Int64) (x6 : Int64) (x8 : Int64) (x10 : Int64) (w0 : Int32) : Option (Int32 × QHeap) :=
  (loopN (B0_90 s w0 (w0 + (40 : Int32))) qN (x2, x4, x6, x8, x10, (-1 : Int32), p0)).bind fun e370 => some e370
theorem tJ0_78 (Ad : QAd n0 ad) (W : QW Z a0) (s : List Int32) (p0 : Ob) (x2 : Int64) (x4 : Int64) (x6 : Int64) (x8 : Int64) (x10 : Int64) (w0 : Int32) {r : Int32 × QHeap} (h : J0_78 s p0 x2 x4 x6 x8 x10 w0 = some r) : QTri l Z n0 ad 0 (78, [vR 0, vR 1, vL x2, none, vL x4, none, vL x6, none, vL x8, none, vL x10, none, none, none, none, none, none, none, none, none, none, none, none, none, none, none, none, none, none], [.int w0], (H0 s p0)) (some (Value.int r.1)) r.2 := by
 unfold J0_78 at h
 refine zS Ad W 5 (st' := (87, [vR 0, vR 1, vL x2, none, vL x4, none, vL x6, none, vL x8, none, vL x10, none, vI w0, vI (w0 + (40:Int32)), none, none, none, none, none, none, none, none, none, none, none, none, none, none, none], [], (H0 s p0))) rfl ?_
 refine zS Ad W 2 (st' := (90, [vR 0, vR 1, vL x2, none, vL x4, none, vL x6, none, vL x8, none, vL x10, none, vI w0, vI (w0 + (40:Int32)), vI (-1:Int32), none, none, none, none, none, none, none, none, none, none, none, none, none, none], [], (H0 s p0))) rfl ?_
 obtain ⟨e370, he370, h⟩ := bind_eq_some_iff.mp h
 refine zM [tt,tt,tt,ff,tt,ff,tt,ff,tt,ff,tt,ff,tt,tt,tt,ff,ff,ff,ff,ff,ff,ff,ff,ff,ff,ff,ff,ff,ff] (loopN_tri (B := B0_90 s w0 (w0 + (40:Int32))) (T := fun lv371 => QTri l Z n0 ad 0 (90, [vR 0, vR 1, vL lv371.1, none, vL lv371.2.1, none, vL lv371.2.2.1, none, vL lv371.2.2.2.1, none, vL lv371.2.2.2.2.1, none, vI w0, vI (w0 + (40:Int32)), vI lv371.2.2.2.2.2.1, none, none, none, none, none, none, none, none, none, none, none, none, none, none], [], (H0 s lv371.2.2.2.2.2.2)) (some (Value.int r.1)) r.2) (KE := fun e370a => (some (Value.int r.1)) = (some (Value.int e370a.1)) ∧ r.2 = e370a.2) (fun lv371 r hB hE hC => tB0_90 Ad W s w0 (w0 + (40:Int32)) lv371 hB (fun x q => hE _ q) (fun x q => hC x q)) qN (x2, x4, x6, x8, x10, (-1:Int32), p0) e370 he370 ?_)
 obtain rfl := Option.some.inj h
 exact ⟨rfl, rfl⟩
/-- the law -/
def F0 (s : List Int32) : Option (Int32 × QHeap) :=
 (F1 s (0:Int32)).bind fun r3 => (F1 s (1:Int32)).bind fun r4 => (F1 s (2:Int32)).bind fun r5 => (F1 s (3:Int32)).bind fun r6 => (F2 ((r3 &&& (31:Int32)) - (4:Int32)) ((r4 &&& (15:Int32)) - (2:Int32)) ((r5 &&& (15:Int32)) - (2:Int32)) ((r6 &&& (31:Int32)) - (4:Int32))).bind fun r19 => (if (4:Int32) < (s.length.toInt32) then (J0_78 s r19 (0 : Int64) (0 : Int64) (0 : Int64) (0 : Int64) (0 : Int64) (((s.length.toInt32) - (3:Int32)) / (2:Int32))) else (J0_78 s r19 (0 : Int64) (0 : Int64) (0 : Int64) (0 : Int64) (0 : Int64) (0:Int32)))
theorem tF0 (Ad : QAd n0 ad) (W : QW Z a0) (s : List Int32) {r : Int32 × QHeap} (h : F0 s = some r) : QTri l Z n0 ad 0 (0, qentry [.ref 0] (pMaxL 0), [], [.inr (.inl (.int, s))]) (some (Value.int r.1)) r.2 := by
 unfold F0 at h
 refine zS Ad W 1 (st' := (3, [vR 0, none, none, none, none, none, none, none, none, none, none, none, none, none, none, none, none, none, none, none, none, none, none, none, none, none, none, none, none], [.ref 1], [.inr (.inl (.int, s)), .inl [.null, .null, .null, .null, .null, .null, .null, .null, .null, .null, .null, .null, .null, .null, .null, .null, .null, .null, .null, .int (f_win ob0), .int (f_back ob0), .int (f_repair ob0), .int (f_period ob0), .int (f_nextSeq ob0), .int (f_qLen ob0), .int (f_nakLen ob0)]])) rfl ?_
 refine zS Ad W 3 (st' := (6, [vR 0, none, none, none, none, none, none, none, none, none, none, none, none, none, none, none, none, none, none, none, none, none, none, none, none, none, none, none, none], [.int (0:Int32), .ref 0, .ref 1, .ref 1], [.inr (.inl (.int, s)), .inl [.null, .null, .null, .null, .null, .null, .null, .null, .null, .null, .null, .null, .null, .null, .null, .null, .null, .null, .null, .int (f_win ob0), .int (f_back ob0), .int (f_repair ob0), .int (f_period ob0), .int (f_nextSeq ob0), .int (f_qLen ob0), .int (f_nakLen ob0)]])) rfl ?_
 obtain ⟨r3, hr3, h⟩ := bind_eq_some_iff.mp h
 refine QTri.callS W (as := [.ref 0, .int (0:Int32)]) (rest := [.ref 1, .ref 1]) (w := (some (.int r3))) (σ₁ := [.inr (.inl (.int, s)), .inl [.null, .null, .null, .null, .null, .null, .null, .null, .null, .null, .null, .null, .null, .null, .null, .null, .null, .null, .null, .int (f_win ob0), .int (f_back ob0), .int (f_repair ob0), .int (f_period ob0), .int (f_nextSeq ob0), .int (f_qLen ob0), .int (f_nakLen ob0)]]) rfl rfl rfl rfl rfl rfl rfl (tF1 Ad W ob0 s (0:Int32) hr3) ?_
 refine zS Ad W 6 (st' := (16, [vR 0, none, none, none, none, none, none, none, none, none, none, none, none, none, none, none, none, none, none, none, none, none, none, none, none, none, none, none, none], [.int (1:Int32), .ref 0, .int ((r3 &&& (31:Int32)) - (4:Int32)), .ref 1, .ref 1], [.inr (.inl (.int, s)), .inl [.null, .null, .null, .null, .null, .null, .null, .null, .null, .null, .null, .null, .null, .null, .null, .null, .null, .null, .null, .int (f_win ob0), .int (f_back ob0), .int (f_repair ob0), .int (f_period ob0), .int (f_nextSeq ob0), .int (f_qLen ob0), .int (f_nakLen ob0)]])) rfl ?_
 obtain ⟨r4, hr4, h⟩ := bind_eq_some_iff.mp h
 refine QTri.callS W (as := [.ref 0, .int (1:Int32)]) (rest := [.int ((r3 &&& (31:Int32)) - (4:Int32)), .ref 1, .ref 1]) (w := (some (.int r4))) (σ₁ := [.inr (.inl (.int, s)), .inl [.null, .null, .null, .null, .null, .null, .null, .null, .null, .null, .null, .null, .null, .null, .null, .null, .null, .null, .null, .int (f_win ob0), .int (f_back ob0), .int (f_repair ob0), .int (f_period ob0), .int (f_nextSeq ob0), .int (f_qLen ob0), .int (f_nakLen ob0)]]) rfl rfl rfl rfl rfl rfl rfl (tF1 Ad W ob0 s (1:Int32) hr4) ?_
 refine zS Ad W 6 (st' := (26, [vR 0, none, none, none, none, none, none, none, none, none, none, none, none, none, none, none, none, none, none, none, none, none, none, none, none, none, none, none, none], [.int (2:Int32), .ref 0, .int ((r4 &&& (15:Int32)) - (2:Int32)), .int ((r3 &&& (31:Int32)) - (4:Int32)), .ref 1, .ref 1], [.inr (.inl (.int, s)), .inl [.null, .null, .null, .null, .null, .null, .null, .null, .null, .null, .null, .null, .null, .null, .null, .null, .null, .null, .null, .int (f_win ob0), .int (f_back ob0), .int (f_repair ob0), .int (f_period ob0), .int (f_nextSeq ob0), .int (f_qLen ob0), .int (f_nakLen ob0)]])) rfl ?_
 obtain ⟨r5, hr5, h⟩ := bind_eq_some_iff.mp h
 refine QTri.callS W (as := [.ref 0, .int (2:Int32)]) (rest := [.int ((r4 &&& (15:Int32)) - (2:Int32)), .int ((r3 &&& (31:Int32)) - (4:Int32)), .ref 1, .ref 1]) (w := (some (.int r5))) (σ₁ := [.inr (.inl (.int, s)), .inl [.null, .null, .null, .null, .null, .null, .null, .null, .null, .null, .null, .null, .null, .null, .null, .null, .null, .null, .null, .int (f_win ob0), .int (f_back ob0), .int (f_repair ob0), .int (f_period ob0), .int (f_nextSeq ob0), .int (f_qLen ob0), .int (f_nakLen ob0)]]) rfl rfl rfl rfl rfl rfl rfl (tF1 Ad W ob0 s (2:Int32) hr5) ?_
 refine zS Ad W 6 (st' := (36, [vR 0, none, none, none, none, none, none, none, none, none, none, none, none, none, none, none, none, none, none, none, none, none, none, none, none, none, none, none, none], [.int (3:Int32), .ref 0, .int ((r5 &&& (15:Int32)) - (2:Int32)), .int ((r4 &&& (15:Int32)) - (2:Int32)), .int ((r3 &&& (31:Int32)) - (4:Int32)), .ref 1, .ref 1], [.inr (.inl (.int, s)), .inl [.null, .null, .null, .null, .null, .null, .null, .null, .null, .null, .null, .null, .null, .null, .null, .null, .null, .null, .null, .int (f_win ob0), .int (f_back ob0), .int (f_repair ob0), .int (f_period ob0), .int (f_nextSeq ob0), .int (f_qLen ob0), .int (f_nakLen ob0)]])) rfl ?_
 obtain ⟨r6, hr6, h⟩ := bind_eq_some_iff.mp h
 refine QTri.callS W (as := [.ref 0, .int (3:Int32)]) (rest := [.int ((r5 &&& (15:Int32)) - (2:Int32)), .int ((r4 &&& (15:Int32)) - (2:Int32)), .int ((r3 &&& (31:Int32)) - (4:Int32)), .ref 1, .ref 1]) (w := (some (.int r6))) (σ₁ := [.inr (.inl (.int, s)), .inl [.null, .null, .null, .null, .null, .null, .null, .null, .null, .null, .null, .null, .null, .null, .null, .null, .null, .null, .null, .int (f_win ob0), .int (f_back ob0), .int (f_repair ob0), .int (f_period ob0), .int (f_nextSeq ob0), .int (f_qLen ob0), .int (f_nakLen ob0)]]) rfl rfl rfl rfl rfl rfl rfl (tF1 Ad W ob0 s (3:Int32) hr6) ?_
 refine zS Ad W 4 (st' := (44, [vR 0, none, none, none, none, none, none, none, none, none, none, none, none, none, none, none, none, none, none, none, none, none, none, none, none, none, none, none, none], [.int ((r6 &&& (31:Int32)) - (4:Int32)), .int ((r5 &&& (15:Int32)) - (2:Int32)), .int ((r4 &&& (15:Int32)) - (2:Int32)), .int ((r3 &&& (31:Int32)) - (4:Int32)), .ref 1, .ref 1], [.inr (.inl (.int, s)), .inl [.null, .null, .null, .null, .null, .null, .null, .null, .null, .null, .null, .null, .null, .null, .null, .null, .null, .null, .null, .int (f_win ob0), .int (f_back ob0), .int (f_repair ob0), .int (f_period ob0), .int (f_nextSeq ob0), .int (f_qLen ob0), .int (f_nakLen ob0)]])) rfl ?_
 obtain ⟨r19, hr19, h⟩ := bind_eq_some_iff.mp h
 refine QTri.callI W (a := 1) (as := [.int ((r3 &&& (31:Int32)) - (4:Int32)), .int ((r4 &&& (15:Int32)) - (2:Int32)), .int ((r5 &&& (15:Int32)) - (2:Int32)), .int ((r6 &&& (31:Int32)) - (4:Int32))]) (rest := [.ref 1]) (σ₁ := (H0 s r19)) rfl rfl rfl rfl rfl rfl (tF2 Ad W s ((r3 &&& (31:Int32)) - (4:Int32)) ((r4 &&& (15:Int32)) - (2:Int32)) ((r5 &&& (15:Int32)) - (2:Int32)) ((r6 &&& (31:Int32)) - (4:Int32)) hr19) ?_
 refine zS Ad W 3 (st' := (50, [vR 0, vR 1, vL (0 : Int64), none, none, none, none, none, none, none, none, none, none, none, none, none, none, none, none, none, none, none, none, none, none, none, none, none, none], [], (H0 s r19))) rfl ?_
 refine zS Ad W 4 (st' := (56, [vR 0, vR 1, vL (0 : Int64), none, vL (0 : Int64), none, vL (0 : Int64), none, none, none, none, none, none, none, none, none, none, none, none, none, none, none, none, none, none, none, none, none, none], [], (H0 s r19))) rfl ?_
 refine zS Ad W 4 (st' := (62, [vR 0, vR 1, vL (0 : Int64), none, vL (0 : Int64), none, vL (0 : Int64), none, vL (0 : Int64), none, vL (0 : Int64), none, none, none, none, none, none, none, none, none, none, none, none, none, none, none, none, none, none], [], (H0 s r19))) rfl ?_
 refine zS Ad W 3 (st' := (65, [vR 0, vR 1, vL (0 : Int64), none, vL (0 : Int64), none, vL (0 : Int64), none, vL (0 : Int64), none, vL (0 : Int64), none, none, none, none, none, none, none, none, none, none, none, none, none, none, none, none, none, none], [.int (4:Int32), .int (s.length.toInt32)], (H0 s r19))) rfl ?_
 rcases qite h with ⟨hc20, h⟩ | ⟨hc20, h⟩
 ·refine zF Ad W (t := 77) (f := 68) rfl (XT.ii_le_f hc20) ?_
  refine zS Ad W 7 (st' := (78, [vR 0, vR 1, vL (0 : Int64), none, vL (0 : Int64), none, vL (0 : Int64), none, vL (0 : Int64), none, vL (0 : Int64), none, none, none, none, none, none, none, none, none, none, none, none, none, none, none, none, none, none], [.int (((s.length.toInt32) - (3:Int32)) / (2:Int32))], (H0 s r19))) rfl ?_
  exact zM [tt,tt,tt,ff,tt,ff,tt,ff,tt,ff,tt,ff,ff,ff,ff,ff,ff,ff,ff,ff,ff,ff,ff,ff,ff,ff,ff,ff,ff] (tJ0_78 Ad W s r19 (0 : Int64) (0 : Int64) (0 : Int64) (0 : Int64) (0 : Int64) (((s.length.toInt32) - (3:Int32)) / (2:Int32)) h)
 ·refine zT Ad W (t := 77) (f := 68) rfl (XT.ii_le_t hc20) ?_
  refine zS Ad W 1 (st' := (78, [vR 0, vR 1, vL (0 : Int64), none, vL (0 : Int64), none, vL (0 : Int64), none, vL (0 : Int64), none, vL (0 : Int64), none, none, none, none, none, none, none, none, none, none, none, none, none, none, none, none, none, none], [.int (0:Int32)], (H0 s r19))) rfl ?_
  exact zM [tt,tt,tt,ff,tt,ff,tt,ff,tt,ff,tt,ff,ff,ff,ff,ff,ff,ff,ff,ff,ff,ff,ff,ff,ff,ff,ff,ff,ff] (tJ0_78 Ad W s r19 (0 : Int64) (0 : Int64) (0 : Int64) (0 : Int64) (0 : Int64) (0:Int32) h)
end Walks
theorem script_ok {s : State} {w : Value} (hfit : Fit s) (h1 : (Jvm.Cond.arrayOf (Jvm.Term.arg 0) Jvm.ClassFile.FieldType.int).value #[w] s none s [] = some true) (h2 : (Jvm.Cond.le (Jvm.Term.length (Jvm.Term.arg 0)) (Jvm.Term.int 260)).value #[w] s none s [] = some true) :
    ∃ (a : Addr) (c : Cell) (xs : List Int32), w = .ref a ∧ Arr s s.heap a c .int ∧ c.slots = (xs.map Value.int).toArray ∧ xs.length ≤ 260 := by
  obtain ⟨a, ha⟩ := arr_v h1
  obtain ⟨c, A⟩ := Arr.start ha h1
  have hw : w = .ref a := by simpa [Term.eval] using ha
  subst hw
  have hel : ∀ i, i < c.slots.size → ∃ x, c.slots[i]? = some (.int x) := fun i hi => by
    have q := hfit A.1 hi
    obtain ⟨hs, k, hk, comp, hkind⟩ := A.2.1
    have e : s.slotType? c.cls c.vm i = some .int := by
      cases hq : c.vm <;> first | exact absurd hq (hs _) | simp [State.slotType?, hk, hkind]
    have q2 : fits .int c.slots[i] = true := by simpa [State.fitsSlot, e] using q
    obtain ⟨x, hx⟩ := fit_I q2 (Or.inl rfl)
    exact ⟨x, by rw [Array.getElem?_eq_getElem hi, hx]⟩
  refine ⟨a, c, c.slots.toList.map (fun v => match v with | .int x => x | _ => 0), rfl, A, ?_, ?_⟩
  · apply Array.ext'
    rw [List.map_map]
    have : c.slots.toList.map (Value.int ∘ fun v => match v with | .int x => x | _ => 0) = c.slots.toList := by
      conv => rhs; rw [← List.map_id c.slots.toList]
      refine List.map_congr_left fun v hv => ?_
      obtain ⟨i, hi⟩ := List.mem_iff_getElem?.mp hv
      rw [Array.getElem?_toList] at hi
      obtain ⟨x, hx⟩ := hel i (Array.getElem?_eq_some_iff.mp hi).1
      rw [hi] at hx
      cases hx
      rfl
    exact this.symm
  · have hl := A.fin (Vm.Alike.refl _)
    simp only [List.length_map, Array.length_toList]
    simp only [Cond.value, Term.eval] at h2
    simp [hl] at h2
    by_cases hs : c.slots.size < 2147483648
    · rw [if_pos hs] at h2
      have h3 : c.slots.size.toInt32 ≤ 260 := by simpa using h2
      rw [Int32.le_iff_toInt_le] at h3
      have h4 : (c.slots.size.toInt32).toInt = c.slots.size := Int32.toInt_ofNat_of_lt (by omega)
      rw [h4] at h3
      have h5 : (260 : Int32).toInt = 260 := rfl
      rw [h5] at h3
      omega
    · rw [if_neg hs] at h2
      simp at h2
set_option maxHeartbeats 4000000
theorem i_lt {x y : Int32} : x < y ↔ x.toInt < y.toInt := Int32.lt_iff_toInt_lt
theorem i_eq {x y : Int32} : x = y ↔ x.toInt = y.toInt := Int32.toInt_inj.symm
theorem i_lo (x : Int32) : -2147483648 ≤ x.toInt := Int32.le_toInt x
theorem i_hi (x : Int32) : x.toInt < 2147483648 := Int32.toInt_lt x
theorem i_add {x y : Int32} (h1 : -2147483648 ≤ x.toInt + y.toInt) (h2 : x.toInt + y.toInt < 2147483648) : (x + y).toInt = x.toInt + y.toInt := XT.add32 ⟨h1, by omega⟩
theorem i_sub {x y : Int32} (h1 : -2147483648 ≤ x.toInt - y.toInt) (h2 : x.toInt - y.toInt < 2147483648) : (x - y).toInt = x.toInt - y.toInt := XT.sub32 ⟨h1, by omega⟩
theorem i_mul {x y : Int32} (h1 : -2147483648 ≤ x.toInt * y.toInt) (h2 : x.toInt * y.toInt < 2147483648) : (x * y).toInt = x.toInt * y.toInt := XT.mul32 ⟨h1, by omega⟩
theorem i_nat (x : Int32) : x.toNatClampNeg = x.toInt.toNat := rfl
theorem aget_at {α : Type} {xs : List α} {j : Int32} {n : Nat} (hj : j.toInt = n) (hn : n < xs.length) : aget xs j = some xs[n] := by
 have h0 : ¬ j < 0 := by rw [i_lt]; show ¬ j.toInt < 0; omega
 unfold aget
 rw [if_neg h0, i_nat, hj]
 simp [hn]
theorem aget_rep {α : Type} {m : Nat} {a : α} {j : Int32} (h0 : 0 ≤ j.toInt) (h1 : j.toInt < m) : aget (List.replicate m a) j = some a := by
 rw [aget_at (n := j.toInt.toNat) (by omega) (by rw [List.length_replicate]; omega)]
 simp
theorem aset_at {α : Type} {xs : List α} {j : Int32} {n : Nat} {v : α} (hj : j.toInt = n) (hn : n < xs.length) : aset xs j v = some (xs.set n v) := by
 have h0 : ¬ j < 0 := by rw [i_lt]; show ¬ j.toInt < 0; omega
 unfold aset
 have e : j.toNatClampNeg = n := by rw [i_nat, hj]; simp
 rw [if_neg h0, e, if_pos hn]
theorem rep_set {α : Type} (m k : Nat) (a : α) : (List.replicate m a).set k a = List.replicate m a := by
 apply List.ext_getElem (by simp)
 intro i h1 h2
 rw [List.getElem_set]
 split <;> simp
theorem small_cases {x : Int32} (h0 : 0 ≤ x.toInt) {n : Nat} (h1 : x.toInt < n) {P : Int32 → Prop} (h : ∀ m : Nat, m < n → P (Int32.ofInt m)) : P x := by
 have e : Int32.ofInt (x.toInt.toNat : Nat) = x := by
  rw [Int.toNat_of_nonneg h0, Int32.ofInt_toInt]
 rw [← e]
 exact h _ (by omega)
theorem bit_ne {x : Int32} (h0 : 0 ≤ x.toInt) (h1 : x.toInt < 32) : ¬ (((1 : Int32) <<< (x &&& 31)) &&& ((1 : Int32) <<< (x &&& 31))) = 0 :=
 small_cases (P := fun x => ¬ (((1 : Int32) <<< (x &&& 31)) &&& ((1 : Int32) <<< (x &&& 31))) = 0) h0 (n := 32) h1 (by decide)
def okP {α : Type} (m : Option α) (P : α → Prop) : Prop := ∃ a, m = some a ∧ P a
theorem okP.some {α : Type} {a : α} {P : α → Prop} (h : P a) : okP (some a) P := ⟨a, rfl, h⟩
theorem okP.bind {α β : Type} {m : Option α} {f : α → Option β} {P : β → Prop} (h : okP m fun a => okP (f a) P) : okP (m.bind f) P := by
 obtain ⟨a, e, b, e2, h2⟩ := h
 exact ⟨b, by rw [e]; exact e2, h2⟩
theorem okP.ite {α : Type} {c : Prop} [Decidable c] {a b : Option α} {P : α → Prop} (h1 : c → okP a P) (h2 : ¬ c → okP b P) : okP (if c then a else b) P := by
 by_cases h : c
 ·rw [if_pos h]; exact h1 h
 ·rw [if_neg h]; exact h2 h
theorem okP.mono {α : Type} {m : Option α} {P Q : α → Prop} (h : okP m P) (k : ∀ a, P a → Q a) : okP m Q := by
 obtain ⟨a, e, h⟩ := h
 exact ⟨a, e, k a h⟩
theorem okP.of {α : Type} {m : Option α} {a : α} {P : α → Prop} (e : m = Option.some a) (h : P a) : okP m P := ⟨a, e, h⟩
theorem okP.aget {α : Type} {xs : List α} {j : Int32} {P : α → Prop} (h0 : 0 ≤ j.toInt) (h1 : j.toInt < xs.length) (k : ∀ v, xs[j.toInt.toNat]? = Option.some v → P v) : okP (aget xs j) P :=
 ⟨_, aget_at (n := j.toInt.toNat) (by omega) (by omega), k _ (List.getElem?_eq_getElem _)⟩
theorem okP.aset {α : Type} {xs : List α} {j : Int32} {v : α} {P : List α → Prop} (h0 : 0 ≤ j.toInt) (h1 : j.toInt < xs.length) (k : P (xs.set j.toInt.toNat v)) : okP (aset xs j v) P :=
 ⟨_, aset_at (n := j.toInt.toNat) (by omega) (by omega), k⟩
theorem okP.loop {V E : Type} {B : V → Option (E ⊕ V)} {P : E → Prop} {n : Nat} {v : V} (I : V → Prop) (μ : V → Nat) (hv : I v) (hm : μ v < n) (hB : ∀ v, I v → okP (B v) (fun r => Sum.elim P (fun v' => I v' ∧ μ v' < μ v) r)) : okP (loopN B n v) P := by
 refine loopN_inv I P μ ?_ n v hv hm
 intro v hv
 obtain ⟨r, e, h⟩ := hB v hv
 cases r with
 | inl x => exact Or.inl ⟨x, e, h⟩
 | inr x => exact Or.inr ⟨x, e, h⟩
theorem len_i {n : Nat} (h : n ≤ 1000) : (n.toInt32).toInt = n := by
 have e : n.toInt32 = Int32.ofInt n := rfl
 rw [e, Int32.toInt_ofInt_of_le (by show _ ≤ (n : Int); omega) (by show (n : Int) < _; omega)]
theorem and1 (x : Int32) : x &&& 1 = 0 ∨ x &&& 1 = 1 := by
 have e : (x &&& 1).toBitVec = x.toBitVec &&& 1#32 := rfl
 have h := BitVec.and_one_eq_setWidth_ofBool_getLsbD (x := x.toBitVec)
 cases g : x.toBitVec.getLsbD 0
 ·left; apply Int32.toBitVec_inj.1; rw [e, h, g]; rfl
 ·right; apply Int32.toBitVec_inj.1; rw [e, h, g]; rfl
theorem okP.not {α : Type} {m : Option α} {a : α} {P : α → Prop} (h : okP m P) (e : m = Option.some a) : P a := by
 obtain ⟨b, e2, h⟩ := h
 rw [e] at e2
 exact (Option.some.inj e2) ▸ h
theorem and_rng {x m : Int32} (hm : 0 ≤ m.toInt) : 0 ≤ (x &&& m).toInt ∧ (x &&& m).toInt ≤ m.toInt := by
 have e : (x &&& m).toBitVec.toNat = x.toBitVec.toNat &&& m.toBitVec.toNat := BitVec.toNat_and ..
 have l : (x &&& m).toBitVec.toNat ≤ m.toBitVec.toNat := by rw [e]; exact Nat.and_le_right
 have c1 : m.toInt = if 2 * m.toBitVec.toNat < 2 ^ 32 then (m.toBitVec.toNat : Int) else m.toBitVec.toNat - (2 ^ 32 : Nat) := BitVec.toInt_eq_toNat_cond m.toBitVec
 have c2 : (x &&& m).toInt = if 2 * (x &&& m).toBitVec.toNat < 2 ^ 32 then ((x &&& m).toBitVec.toNat : Int) else (x &&& m).toBitVec.toNat - (2 ^ 32 : Nat) := BitVec.toInt_eq_toNat_cond (x &&& m).toBitVec
 have b : m.toBitVec.toNat < 2 ^ 32 := m.toBitVec.isLt
 by_cases h : 2 * m.toBitVec.toNat < 2 ^ 32
 ·rw [if_pos h] at c1
  rw [if_pos (by omega)] at c2
  omega
 ·rw [if_neg h] at c1
  omega
theorem mod_rng {x m : Int32} (hx : 0 ≤ x.toInt) (hm : 0 < m.toInt) : 0 ≤ (x % m).toInt ∧ (x % m).toInt < m.toInt := by
 rw [Int32.toInt_mod, Int.tmod_eq_emod_of_nonneg hx]
 exact ⟨Int.emod_nonneg _ (by omega), Int.emod_lt_of_pos _ hm⟩
def sFit (s : List Int32) (τ : QHeap) : Prop := τ.length - List.length ([Sum.inr (Sum.inl (FieldType.int, s))] : QHeap) ≤ room_1.cells ∧ qhs τ - qhs [Sum.inr (Sum.inl (FieldType.int, s))] ≤ room_1.slots
theorem mskbit {w : Nat} (hw : w < 64) (i : Nat) : (BitVec.ofNat 64 (2 ^ w - 1)).getLsbD i = decide (i < w) := by
 rw [BitVec.getLsbD_ofNat, Nat.testBit_two_pow_sub_one]
 by_cases h : i < w
 ·have : i < 64 := by omega
  simp [h, this]
 ·simp [h]
theorem small_bit {V : BitVec 64} {w : Nat} (h : V.toNat < 2 ^ w) {i : Nat} (hi : w ≤ i) : V.getLsbD i = false := by
 rw [BitVec.getLsbD]
 exact Nat.testBit_lt_two_pow (Nat.lt_of_lt_of_le h (Nat.pow_le_pow_right (by decide) hi))
theorem onesbit (i : Nat) : (-1#64).getLsbD i = decide (i < 64) := by
 by_cases h : i < 64
 ·have : ∀ j : Fin 64, (-1#64).getLsbD j.1 = decide (j.1 < 64) := by decide
  exact this ⟨i, h⟩
 ·rw [BitVec.getLsbD_of_ge _ _ (by omega)]
  simp; omega
theorem putB (w : Nat) (X V : BitVec 64) (hV : V.toNat < 2 ^ w) (s t : Nat) (hw : w < 64) (hs : s + w ≤ 64) (ht : t + w ≤ 64) (d : s = t ∨ s + w ≤ t ∨ t + w ≤ s) :
  (((X &&& ((BitVec.ofNat 64 (2 ^ w - 1) <<< s) ^^^ (-1#64))) ||| (V <<< s)) >>> t) &&& BitVec.ofNat 64 (2 ^ w - 1) = if s = t then V else (X >>> t) &&& BitVec.ofNat 64 (2 ^ w - 1) := by
 have mb := mskbit hw
 apply BitVec.eq_of_getLsbD_eq
 intro i hi
 by_cases e : s = t
 ·subst e
  rw [if_pos rfl]
  simp only [BitVec.getLsbD_and, BitVec.getLsbD_or, BitVec.getLsbD_xor, BitVec.getLsbD_shiftLeft, BitVec.getLsbD_ushiftRight, mb, onesbit]
  by_cases c : i < w
  ·have a1 : s + i < 64 := by omega
   have a2 : ¬ (s + i < s) := by omega
   have a3 : s + i - s = i := by omega
   simp [a1, a2, a3, c]
  ·have := small_bit (w := w) hV (i := i) (by omega)
   simp [c, this]
 ·rw [if_neg e]
  simp only [BitVec.getLsbD_and, BitVec.getLsbD_or, BitVec.getLsbD_xor, BitVec.getLsbD_shiftLeft, BitVec.getLsbD_ushiftRight, mb, onesbit]
  by_cases c : i < w
  ·have a1 : t + i < 64 := by omega
   by_cases a2 : t + i < s
   ·simp [a1, a2, c]
   ·have a3 : ¬ (t + i - s < w) := by omega
    have := small_bit (w := w) hV (i := t + i - s) (by omega)
    simp [a1, a2, a3, c, this]
  ·simp [c]
theorem ofI {x : Int32} {n : Nat} (h : x.toInt = n) : x = Int32.ofInt n := by rw [← h, Int32.ofInt_toInt]
theorem shl64 (v : Int64) {y : Int32} {n : Nat} (h : y.toInt = n) (hn : n < 64) : (v <<< (y.toInt64 &&& 63)).toBitVec = v.toBitVec <<< n := by
 have : ∀ n : Fin 64, (((Int32.ofInt n.1).toInt64 &&& 63).toBitVec.smod 64) = BitVec.ofNat 64 n.1 := by decide
 rw [ofI h]
 show v.toBitVec <<< (((Int32.ofInt n).toInt64 &&& 63).toBitVec.smod 64) = _
 rw [this ⟨n, hn⟩, BitVec.shiftLeft_eq']
 congr 1
 simp; omega
theorem ushr64 (v : Int64) {y : Int32} {n : Nat} (h : y.toInt = n) (hn : n < 64) : (XT.ushrL v y).toBitVec = v.toBitVec >>> n := by
 have : ∀ n : Fin 64, (((Int32.ofInt n.1).toInt64.toUInt64 &&& Int64.toUInt64 63) % 64).toBitVec = BitVec.ofNat 64 n.1 := by decide
 rw [ofI h]
 show v.toBitVec >>> (((Int32.ofInt n).toInt64.toUInt64 &&& Int64.toUInt64 63) % 64).toBitVec = _
 rw [this ⟨n, hn⟩, BitVec.ushiftRight_eq']
 congr 1
 simp; omega
theorem clrB (w v : Nat) (X : BitVec 64) (s t : Nat) (hw : w < 64) (hv : v < 64) (hs : s + w ≤ 64) (ht : t + v ≤ 64) (d : (s ≤ t ∧ t + v ≤ s + w) ∨ s + w ≤ t ∨ t + v ≤ s) :
  ((X &&& ((BitVec.ofNat 64 (2 ^ w - 1) <<< s) ^^^ (-1#64))) >>> t) &&& BitVec.ofNat 64 (2 ^ v - 1) = if s ≤ t ∧ t + v ≤ s + w then 0#64 else (X >>> t) &&& BitVec.ofNat 64 (2 ^ v - 1) := by
 have mb := mskbit hw
 have mv := mskbit hv
 apply BitVec.eq_of_getLsbD_eq
 intro i hi
 by_cases e : s ≤ t ∧ t + v ≤ s + w
 ·rw [if_pos e]
  simp only [BitVec.getLsbD_and, BitVec.getLsbD_xor, BitVec.getLsbD_shiftLeft, BitVec.getLsbD_ushiftRight, mb, mv, onesbit]
  by_cases c : i < v
  ·have a1 : t + i < 64 := by omega
   have a2 : ¬ (t + i < s) := by omega
   have a3 : t + i - s < w := by omega
   simp [a1, a2, a3, c]
  ·simp [c]
 ·rw [if_neg e]
  simp only [BitVec.getLsbD_and, BitVec.getLsbD_xor, BitVec.getLsbD_shiftLeft, BitVec.getLsbD_ushiftRight, mb, mv, onesbit]
  by_cases c : i < v
  ·have a1 : t + i < 64 := by omega
   by_cases a2 : t + i < s
   ·simp [a1, a2, c]
   ·have a3 : ¬ (t + i - s < w) := by omega
    simp [a1, a2, a3, c]
  ·simp [c]
theorem shl32 (v : Int32) {y : Int32} {n : Nat} (h : y.toInt = n) (hn : n < 32) : (v <<< (y &&& 31)).toBitVec = v.toBitVec <<< n := by
 have : ∀ n : Fin 32, ((Int32.ofInt n.1 &&& 31).toBitVec.smod 32) = BitVec.ofNat 32 n.1 := by decide
 rw [ofI h]
 show v.toBitVec <<< ((Int32.ofInt n &&& 31).toBitVec.smod 32) = _
 rw [this ⟨n, hn⟩, BitVec.shiftLeft_eq']
 congr 1
 simp; omega
theorem shr32 (v : Int32) {y : Int32} {n : Nat} (h : y.toInt = n) (hn : n < 32) : (v >>> (y &&& 31)).toBitVec = v.toBitVec.sshiftRight n := by
 have : ∀ n : Fin 32, ((Int32.ofInt n.1 &&& 31).toBitVec.smod 32) = BitVec.ofNat 32 n.1 := by decide
 rw [ofI h]
 show v.toBitVec.sshiftRight' ((Int32.ofInt n &&& 31).toBitVec.smod 32) = _
 rw [this ⟨n, hn⟩, BitVec.sshiftRight_eq']
 congr 1
 simp; omega
def bt (x : Int32) (n : Nat) : Bool := x.toBitVec.getLsbD n
theorem bt_shr (x : Int32) {y : Int32} {n : Nat} (h : y.toInt = n) (hn : n < 32) : (x >>> (y &&& 31)) &&& 1 = if bt x n then 1 else 0 := by
 apply Int32.toBitVec_inj.1
 show (x >>> (y &&& 31)).toBitVec &&& 1#32 = _
 rw [shr32 x h hn, BitVec.and_one_eq_setWidth_ofBool_getLsbD]
 have e : (x.toBitVec.sshiftRight n).getLsbD 0 = bt x n := by
  rw [BitVec.getLsbD_sshiftRight]
  simp [hn, bt]
 rw [e]
 cases bt x n <;> rfl
theorem bt_or (x y : Int32) (n : Nat) : bt (x ||| y) n = (bt x n || bt y n) := by
 show (x.toBitVec ||| y.toBitVec).getLsbD n = _
 rw [BitVec.getLsbD_or]; rfl
theorem bt_andn (x y : Int32) {n : Nat} (hn : n < 32) : bt (x &&& (y ^^^ (-1))) n = (bt x n && !bt y n) := by
 show (x.toBitVec &&& (y.toBitVec ^^^ (-1#32))).getLsbD n = _
 have : ∀ i : Fin 32, (-1#32).getLsbD i.1 = true := by decide
 rw [BitVec.getLsbD_and, BitVec.getLsbD_xor, this ⟨n, hn⟩, Bool.xor_true]; rfl
theorem bt_one {y : Int32} {k : Nat} (h : y.toInt = k) (hk : k < 32) {n : Nat} (hn : n < 32) : bt ((1 : Int32) <<< (y &&& 31)) n = decide (n = k) := by
 have : ∀ k : Fin 32, ∀ n : Fin 32, bt ((1 : Int32) <<< (Int32.ofInt k.1 &&& 31)) n.1 = decide (n.1 = k.1) := by decide +kernel
 rw [ofI h]
 exact this ⟨k, hk⟩ ⟨n, hn⟩
theorem bt_0 (n : Nat) : bt 0 n = false := by
 show (0#32).getLsbD n = false
 simp
theorem mskbit32 {w : Nat} (hw : w < 32) (i : Nat) : (BitVec.ofNat 32 (2 ^ w - 1)).getLsbD i = decide (i < w) := by
 rw [BitVec.getLsbD_ofNat, Nat.testBit_two_pow_sub_one]
 by_cases h : i < w
 ·have : i < 32 := by omega
  simp [h, this]
 ·simp [h]
theorem onesbit32 (i : Nat) : (-1#32).getLsbD i = decide (i < 32) := by
 by_cases h : i < 32
 ·have : ∀ j : Fin 32, (-1#32).getLsbD j.1 = decide (j.1 < 32) := by decide
  exact this ⟨i, h⟩
 ·rw [BitVec.getLsbD_of_ge _ _ (by omega)]
  simp; omega
theorem small_bit32 {V : BitVec 32} {w : Nat} (h : V.toNat < 2 ^ w) {i : Nat} (hi : w ≤ i) : V.getLsbD i = false := by
 rw [BitVec.getLsbD]
 exact Nat.testBit_lt_two_pow (Nat.lt_of_lt_of_le h (Nat.pow_le_pow_right (by decide) hi))
theorem putB32 (w : Nat) (X V : BitVec 32) (hV : V.toNat < 2 ^ w) (s t : Nat) (hw : w < 32) (hs : s + w ≤ 32) (ht : t + w ≤ 32) (d : s = t ∨ s + w ≤ t ∨ t + w ≤ s) :
  (((X &&& ((BitVec.ofNat 32 (2 ^ w - 1) <<< s) ^^^ (-1#32))) ||| (V <<< s)).sshiftRight t) &&& BitVec.ofNat 32 (2 ^ w - 1) = if s = t then V else (X.sshiftRight t) &&& BitVec.ofNat 32 (2 ^ w - 1) := by
 have mb := mskbit32 hw
 apply BitVec.eq_of_getLsbD_eq
 intro i hi
 by_cases e : s = t
 ·subst e
  rw [if_pos rfl]
  simp only [BitVec.getLsbD_and, BitVec.getLsbD_or, BitVec.getLsbD_xor, BitVec.getLsbD_shiftLeft, BitVec.getLsbD_sshiftRight, mb, onesbit32]
  by_cases c : i < w
  ·have a1 : s + i < 32 := by omega
   have a2 : ¬ (s + i < s) := by omega
   have a3 : s + i - s = i := by omega
   have a4 : ¬ (32 ≤ i) := by omega
   simp [a1, a2, a3, a4, c]
  ·have := small_bit32 (w := w) hV (i := i) (by omega)
   simp [c, this]
 ·rw [if_neg e]
  simp only [BitVec.getLsbD_and, BitVec.getLsbD_or, BitVec.getLsbD_xor, BitVec.getLsbD_shiftLeft, BitVec.getLsbD_sshiftRight, mb, onesbit32]
  by_cases c : i < w
  ·have a1 : t + i < 32 := by omega
   have a4 : ¬ (32 ≤ i) := by omega
   by_cases a2 : t + i < s
   ·simp [a1, a2, a4, c]
   ·have a3 : ¬ (t + i - s < w) := by omega
    have := small_bit32 (w := w) hV (i := t + i - s) (by omega)
    simp [a1, a2, a3, a4, c, this]
  ·simp [c]
theorem fput (w : Nat) (M : Int64) (hM : M.toBitVec = BitVec.ofNat 64 (2 ^ w - 1)) (x V : Int64) (hV : V.toBitVec.toNat < 2 ^ w) {a b : Int32} {s t : Nat} (ha : a.toInt = s) (hb : b.toInt = t) (hw : w < 64) (hw0 : 0 < w) (hs : s + w ≤ 64) (ht : t + w ≤ 64) (d : s = t ∨ s + w ≤ t ∨ t + w ≤ s) : (XT.ushrL ((x &&& ((M <<< (a.toInt64 &&& 63)) ^^^ (-1 : Int64))) ||| (V <<< (a.toInt64 &&& 63))) b) &&& M = if s = t then V else (XT.ushrL x b) &&& M := by
 apply Int64.toBitVec_inj.1
 have e1 : ((XT.ushrL ((x &&& ((M <<< (a.toInt64 &&& 63)) ^^^ (-1 : Int64))) ||| (V <<< (a.toInt64 &&& 63))) b) &&& M).toBitVec = ((((x.toBitVec &&& ((BitVec.ofNat 64 (2 ^ w - 1) <<< s) ^^^ (-1#64))) ||| (V.toBitVec <<< s)) >>> t) &&& BitVec.ofNat 64 (2 ^ w - 1)) := by
  show (XT.ushrL ((x &&& ((M <<< (a.toInt64 &&& 63)) ^^^ (-1 : Int64))) ||| (V <<< (a.toInt64 &&& 63))) b).toBitVec &&& M.toBitVec = _
  rw [ushr64 _ hb (by omega), hM]
  show (((x.toBitVec &&& ((M <<< (a.toInt64 &&& 63)).toBitVec ^^^ (-1#64))) ||| (V <<< (a.toInt64 &&& 63)).toBitVec) >>> t) &&& _ = _
  rw [shl64 _ ha (by omega), shl64 _ ha (by omega), hM]
 rw [e1, putB w x.toBitVec V.toBitVec hV s t hw hs ht d]
 by_cases c : s = t
 ·rw [if_pos c, if_pos c]
 ·rw [if_neg c, if_neg c]
  show _ = (XT.ushrL x b).toBitVec &&& M.toBitVec
  rw [ushr64 _ hb (by omega), hM]
theorem ushr32 (v : Int32) {y : Int32} {n : Nat} (h : y.toInt = n) (hn : n < 32) : (XT.ushr v y).toBitVec = v.toBitVec >>> n := by
 have : ∀ n : Fin 32, ((Int32.ofInt n.1 &&& 31).toUInt32 % 32).toBitVec = BitVec.ofNat 32 n.1 := by decide
 rw [ofI h]
 show v.toBitVec >>> ((Int32.ofInt n &&& 31).toUInt32 % 32).toBitVec = _
 rw [this ⟨n, hn⟩, BitVec.ushiftRight_eq']
 congr 1
 simp; omega
theorem bt_ushr (x : Int32) {y : Int32} {n : Nat} (h : y.toInt = n) (hn : n < 32) : XT.ushr x y &&& 1 = if bt x n then 1 else 0 := by
 apply Int32.toBitVec_inj.1
 show (XT.ushr x y).toBitVec &&& 1#32 = _
 rw [ushr32 x h hn, BitVec.and_one_eq_setWidth_ofBool_getLsbD]
 have e : (x.toBitVec >>> n).getLsbD 0 = bt x n := by
  rw [BitVec.getLsbD_ushiftRight]; rfl
 rw [e]
 cases bt x n <;> rfl
theorem bt_ext {x y : Int32} (h : ∀ n, n < 32 → bt x n = bt y n) : x = y := by
 apply Int32.toBitVec_inj.1
 apply BitVec.eq_of_getLsbD_eq
 intro i hi
 exact h i hi
theorem bt_and (x y : Int32) (n : Nat) : bt (x &&& y) n = (bt x n && bt y n) := by
 show (x.toBitVec &&& y.toBitVec).getLsbD n = _
 rw [BitVec.getLsbD_and]; rfl
theorem bt_test (x : Int32) {y : Int32} {k : Nat} (h : y.toInt = k) (hk : k < 32) : (x &&& ((1 : Int32) <<< (y &&& 31))) = 0 ↔ bt x k = false := by
 constructor
 ·intro e
  have := congrArg (fun z => bt z k) e
  simp only [bt_and, bt_one h hk hk, bt_0, decide_true, Bool.and_true] at this
  exact this
 ·intro e
  apply bt_ext
  intro n hn
  rw [bt_and, bt_one h hk hn, bt_0]
  by_cases c : n = k
  ·rw [c, e, Bool.false_and]
  ·rw [decide_eq_false c, Bool.and_false]
theorem bt_same {x y : Int32} {k : Nat} (h : y.toInt = k) (hk : k < 32) (e : bt x k = true) : x ||| ((1 : Int32) <<< (y &&& 31)) = x := by
 apply bt_ext
 intro n hn
 rw [bt_or, bt_one h hk hn]
 by_cases c : n = k
 ·rw [c, e, Bool.true_or]
 ·rw [decide_eq_false c, Bool.or_false]

abbrev Fm := List Int32 × Int32 × Int32 × List Int32 × Int32 × List Int32 × List Int32 × List Int32 × Int32
def Sh (F : Fm) (o : Ob) : Prop := (f_pend o).length = 32 ∧ (f_state o).length = 128 ∧ (f_timer o).length = 128 ∧ (f_rxVal o).length = 128 ∧ (f_rxNext o).length = 4 ∧ (f_rxLead o).length = 4 ∧ (f_rxTrail o).length = 4 ∧ (f_dups o).length = 4 ∧ (f_delSeq o).length = 128 ∧ (f_delVal o).length = 128 ∧ (f_delLen o).length = 4 ∧ (f_lostLog o).length = 128 ∧ (f_lostLen o).length = 4 ∧ (f_nakBuf o).length = 128 ∧ (f_srcPayload o, f_nextSeq o, f_win o, f_queue o, f_qLen o, f_stats o, f_lossLeft o, f_drops o, f_period o) = F
theorem Sh_pend {F : Fm} {o : Ob} {x : List Int32} (h : Sh F o) (hx : x.length = 32) : Sh F (s_pend o x) := by
 dsimp only [Sh, f_srcPayload, f_pend, f_queue, f_stats, f_state, f_timer, f_rxVal, f_rxNext, f_rxLead, f_rxTrail, f_lossLeft, f_dups, f_drops, f_delSeq, f_delVal, f_delLen, f_lostLog, f_lostLen, f_nakBuf, f_win, f_period, f_nextSeq, f_qLen, s_pend] at h ⊢
 exact ⟨hx, h.2.1, h.2.2.1, h.2.2.2.1, h.2.2.2.2.1, h.2.2.2.2.2.1, h.2.2.2.2.2.2.1, h.2.2.2.2.2.2.2.1, h.2.2.2.2.2.2.2.2.1, h.2.2.2.2.2.2.2.2.2.1, h.2.2.2.2.2.2.2.2.2.2.1, h.2.2.2.2.2.2.2.2.2.2.2.1, h.2.2.2.2.2.2.2.2.2.2.2.2.1, h.2.2.2.2.2.2.2.2.2.2.2.2.2.1, h.2.2.2.2.2.2.2.2.2.2.2.2.2.2⟩
theorem Sh_l_pend {F : Fm} {o : Ob} (h : Sh F o) : (f_pend o).length = 32 := h.1
theorem Sh_state {F : Fm} {o : Ob} {x : List Int32} (h : Sh F o) (hx : x.length = 128) : Sh F (s_state o x) := by
 dsimp only [Sh, f_srcPayload, f_pend, f_queue, f_stats, f_state, f_timer, f_rxVal, f_rxNext, f_rxLead, f_rxTrail, f_lossLeft, f_dups, f_drops, f_delSeq, f_delVal, f_delLen, f_lostLog, f_lostLen, f_nakBuf, f_win, f_period, f_nextSeq, f_qLen, s_state] at h ⊢
 exact ⟨h.1, hx, h.2.2.1, h.2.2.2.1, h.2.2.2.2.1, h.2.2.2.2.2.1, h.2.2.2.2.2.2.1, h.2.2.2.2.2.2.2.1, h.2.2.2.2.2.2.2.2.1, h.2.2.2.2.2.2.2.2.2.1, h.2.2.2.2.2.2.2.2.2.2.1, h.2.2.2.2.2.2.2.2.2.2.2.1, h.2.2.2.2.2.2.2.2.2.2.2.2.1, h.2.2.2.2.2.2.2.2.2.2.2.2.2.1, h.2.2.2.2.2.2.2.2.2.2.2.2.2.2⟩
theorem Sh_l_state {F : Fm} {o : Ob} (h : Sh F o) : (f_state o).length = 128 := h.2.1
theorem Sh_timer {F : Fm} {o : Ob} {x : List Int32} (h : Sh F o) (hx : x.length = 128) : Sh F (s_timer o x) := by
 dsimp only [Sh, f_srcPayload, f_pend, f_queue, f_stats, f_state, f_timer, f_rxVal, f_rxNext, f_rxLead, f_rxTrail, f_lossLeft, f_dups, f_drops, f_delSeq, f_delVal, f_delLen, f_lostLog, f_lostLen, f_nakBuf, f_win, f_period, f_nextSeq, f_qLen, s_timer] at h ⊢
 exact ⟨h.1, h.2.1, hx, h.2.2.2.1, h.2.2.2.2.1, h.2.2.2.2.2.1, h.2.2.2.2.2.2.1, h.2.2.2.2.2.2.2.1, h.2.2.2.2.2.2.2.2.1, h.2.2.2.2.2.2.2.2.2.1, h.2.2.2.2.2.2.2.2.2.2.1, h.2.2.2.2.2.2.2.2.2.2.2.1, h.2.2.2.2.2.2.2.2.2.2.2.2.1, h.2.2.2.2.2.2.2.2.2.2.2.2.2.1, h.2.2.2.2.2.2.2.2.2.2.2.2.2.2⟩
theorem Sh_l_timer {F : Fm} {o : Ob} (h : Sh F o) : (f_timer o).length = 128 := h.2.2.1
theorem Sh_rxVal {F : Fm} {o : Ob} {x : List Int32} (h : Sh F o) (hx : x.length = 128) : Sh F (s_rxVal o x) := by
 dsimp only [Sh, f_srcPayload, f_pend, f_queue, f_stats, f_state, f_timer, f_rxVal, f_rxNext, f_rxLead, f_rxTrail, f_lossLeft, f_dups, f_drops, f_delSeq, f_delVal, f_delLen, f_lostLog, f_lostLen, f_nakBuf, f_win, f_period, f_nextSeq, f_qLen, s_rxVal] at h ⊢
 exact ⟨h.1, h.2.1, h.2.2.1, hx, h.2.2.2.2.1, h.2.2.2.2.2.1, h.2.2.2.2.2.2.1, h.2.2.2.2.2.2.2.1, h.2.2.2.2.2.2.2.2.1, h.2.2.2.2.2.2.2.2.2.1, h.2.2.2.2.2.2.2.2.2.2.1, h.2.2.2.2.2.2.2.2.2.2.2.1, h.2.2.2.2.2.2.2.2.2.2.2.2.1, h.2.2.2.2.2.2.2.2.2.2.2.2.2.1, h.2.2.2.2.2.2.2.2.2.2.2.2.2.2⟩
theorem Sh_l_rxVal {F : Fm} {o : Ob} (h : Sh F o) : (f_rxVal o).length = 128 := h.2.2.2.1
theorem Sh_rxNext {F : Fm} {o : Ob} {x : List Int32} (h : Sh F o) (hx : x.length = 4) : Sh F (s_rxNext o x) := by
 dsimp only [Sh, f_srcPayload, f_pend, f_queue, f_stats, f_state, f_timer, f_rxVal, f_rxNext, f_rxLead, f_rxTrail, f_lossLeft, f_dups, f_drops, f_delSeq, f_delVal, f_delLen, f_lostLog, f_lostLen, f_nakBuf, f_win, f_period, f_nextSeq, f_qLen, s_rxNext] at h ⊢
 exact ⟨h.1, h.2.1, h.2.2.1, h.2.2.2.1, hx, h.2.2.2.2.2.1, h.2.2.2.2.2.2.1, h.2.2.2.2.2.2.2.1, h.2.2.2.2.2.2.2.2.1, h.2.2.2.2.2.2.2.2.2.1, h.2.2.2.2.2.2.2.2.2.2.1, h.2.2.2.2.2.2.2.2.2.2.2.1, h.2.2.2.2.2.2.2.2.2.2.2.2.1, h.2.2.2.2.2.2.2.2.2.2.2.2.2.1, h.2.2.2.2.2.2.2.2.2.2.2.2.2.2⟩
theorem Sh_l_rxNext {F : Fm} {o : Ob} (h : Sh F o) : (f_rxNext o).length = 4 := h.2.2.2.2.1
theorem Sh_rxLead {F : Fm} {o : Ob} {x : List Int32} (h : Sh F o) (hx : x.length = 4) : Sh F (s_rxLead o x) := by
 dsimp only [Sh, f_srcPayload, f_pend, f_queue, f_stats, f_state, f_timer, f_rxVal, f_rxNext, f_rxLead, f_rxTrail, f_lossLeft, f_dups, f_drops, f_delSeq, f_delVal, f_delLen, f_lostLog, f_lostLen, f_nakBuf, f_win, f_period, f_nextSeq, f_qLen, s_rxLead] at h ⊢
 exact ⟨h.1, h.2.1, h.2.2.1, h.2.2.2.1, h.2.2.2.2.1, hx, h.2.2.2.2.2.2.1, h.2.2.2.2.2.2.2.1, h.2.2.2.2.2.2.2.2.1, h.2.2.2.2.2.2.2.2.2.1, h.2.2.2.2.2.2.2.2.2.2.1, h.2.2.2.2.2.2.2.2.2.2.2.1, h.2.2.2.2.2.2.2.2.2.2.2.2.1, h.2.2.2.2.2.2.2.2.2.2.2.2.2.1, h.2.2.2.2.2.2.2.2.2.2.2.2.2.2⟩
theorem Sh_l_rxLead {F : Fm} {o : Ob} (h : Sh F o) : (f_rxLead o).length = 4 := h.2.2.2.2.2.1
theorem Sh_rxTrail {F : Fm} {o : Ob} {x : List Int32} (h : Sh F o) (hx : x.length = 4) : Sh F (s_rxTrail o x) := by
 dsimp only [Sh, f_srcPayload, f_pend, f_queue, f_stats, f_state, f_timer, f_rxVal, f_rxNext, f_rxLead, f_rxTrail, f_lossLeft, f_dups, f_drops, f_delSeq, f_delVal, f_delLen, f_lostLog, f_lostLen, f_nakBuf, f_win, f_period, f_nextSeq, f_qLen, s_rxTrail] at h ⊢
 exact ⟨h.1, h.2.1, h.2.2.1, h.2.2.2.1, h.2.2.2.2.1, h.2.2.2.2.2.1, hx, h.2.2.2.2.2.2.2.1, h.2.2.2.2.2.2.2.2.1, h.2.2.2.2.2.2.2.2.2.1, h.2.2.2.2.2.2.2.2.2.2.1, h.2.2.2.2.2.2.2.2.2.2.2.1, h.2.2.2.2.2.2.2.2.2.2.2.2.1, h.2.2.2.2.2.2.2.2.2.2.2.2.2.1, h.2.2.2.2.2.2.2.2.2.2.2.2.2.2⟩
theorem Sh_l_rxTrail {F : Fm} {o : Ob} (h : Sh F o) : (f_rxTrail o).length = 4 := h.2.2.2.2.2.2.1
theorem Sh_dups {F : Fm} {o : Ob} {x : List Int32} (h : Sh F o) (hx : x.length = 4) : Sh F (s_dups o x) := by
 dsimp only [Sh, f_srcPayload, f_pend, f_queue, f_stats, f_state, f_timer, f_rxVal, f_rxNext, f_rxLead, f_rxTrail, f_lossLeft, f_dups, f_drops, f_delSeq, f_delVal, f_delLen, f_lostLog, f_lostLen, f_nakBuf, f_win, f_period, f_nextSeq, f_qLen, s_dups] at h ⊢
 exact ⟨h.1, h.2.1, h.2.2.1, h.2.2.2.1, h.2.2.2.2.1, h.2.2.2.2.2.1, h.2.2.2.2.2.2.1, hx, h.2.2.2.2.2.2.2.2.1, h.2.2.2.2.2.2.2.2.2.1, h.2.2.2.2.2.2.2.2.2.2.1, h.2.2.2.2.2.2.2.2.2.2.2.1, h.2.2.2.2.2.2.2.2.2.2.2.2.1, h.2.2.2.2.2.2.2.2.2.2.2.2.2.1, h.2.2.2.2.2.2.2.2.2.2.2.2.2.2⟩
theorem Sh_l_dups {F : Fm} {o : Ob} (h : Sh F o) : (f_dups o).length = 4 := h.2.2.2.2.2.2.2.1
theorem Sh_delSeq {F : Fm} {o : Ob} {x : List Int32} (h : Sh F o) (hx : x.length = 128) : Sh F (s_delSeq o x) := by
 dsimp only [Sh, f_srcPayload, f_pend, f_queue, f_stats, f_state, f_timer, f_rxVal, f_rxNext, f_rxLead, f_rxTrail, f_lossLeft, f_dups, f_drops, f_delSeq, f_delVal, f_delLen, f_lostLog, f_lostLen, f_nakBuf, f_win, f_period, f_nextSeq, f_qLen, s_delSeq] at h ⊢
 exact ⟨h.1, h.2.1, h.2.2.1, h.2.2.2.1, h.2.2.2.2.1, h.2.2.2.2.2.1, h.2.2.2.2.2.2.1, h.2.2.2.2.2.2.2.1, hx, h.2.2.2.2.2.2.2.2.2.1, h.2.2.2.2.2.2.2.2.2.2.1, h.2.2.2.2.2.2.2.2.2.2.2.1, h.2.2.2.2.2.2.2.2.2.2.2.2.1, h.2.2.2.2.2.2.2.2.2.2.2.2.2.1, h.2.2.2.2.2.2.2.2.2.2.2.2.2.2⟩
theorem Sh_l_delSeq {F : Fm} {o : Ob} (h : Sh F o) : (f_delSeq o).length = 128 := h.2.2.2.2.2.2.2.2.1
theorem Sh_delVal {F : Fm} {o : Ob} {x : List Int32} (h : Sh F o) (hx : x.length = 128) : Sh F (s_delVal o x) := by
 dsimp only [Sh, f_srcPayload, f_pend, f_queue, f_stats, f_state, f_timer, f_rxVal, f_rxNext, f_rxLead, f_rxTrail, f_lossLeft, f_dups, f_drops, f_delSeq, f_delVal, f_delLen, f_lostLog, f_lostLen, f_nakBuf, f_win, f_period, f_nextSeq, f_qLen, s_delVal] at h ⊢
 exact ⟨h.1, h.2.1, h.2.2.1, h.2.2.2.1, h.2.2.2.2.1, h.2.2.2.2.2.1, h.2.2.2.2.2.2.1, h.2.2.2.2.2.2.2.1, h.2.2.2.2.2.2.2.2.1, hx, h.2.2.2.2.2.2.2.2.2.2.1, h.2.2.2.2.2.2.2.2.2.2.2.1, h.2.2.2.2.2.2.2.2.2.2.2.2.1, h.2.2.2.2.2.2.2.2.2.2.2.2.2.1, h.2.2.2.2.2.2.2.2.2.2.2.2.2.2⟩
theorem Sh_l_delVal {F : Fm} {o : Ob} (h : Sh F o) : (f_delVal o).length = 128 := h.2.2.2.2.2.2.2.2.2.1
theorem Sh_delLen {F : Fm} {o : Ob} {x : List Int32} (h : Sh F o) (hx : x.length = 4) : Sh F (s_delLen o x) := by
 dsimp only [Sh, f_srcPayload, f_pend, f_queue, f_stats, f_state, f_timer, f_rxVal, f_rxNext, f_rxLead, f_rxTrail, f_lossLeft, f_dups, f_drops, f_delSeq, f_delVal, f_delLen, f_lostLog, f_lostLen, f_nakBuf, f_win, f_period, f_nextSeq, f_qLen, s_delLen] at h ⊢
 exact ⟨h.1, h.2.1, h.2.2.1, h.2.2.2.1, h.2.2.2.2.1, h.2.2.2.2.2.1, h.2.2.2.2.2.2.1, h.2.2.2.2.2.2.2.1, h.2.2.2.2.2.2.2.2.1, h.2.2.2.2.2.2.2.2.2.1, hx, h.2.2.2.2.2.2.2.2.2.2.2.1, h.2.2.2.2.2.2.2.2.2.2.2.2.1, h.2.2.2.2.2.2.2.2.2.2.2.2.2.1, h.2.2.2.2.2.2.2.2.2.2.2.2.2.2⟩
theorem Sh_l_delLen {F : Fm} {o : Ob} (h : Sh F o) : (f_delLen o).length = 4 := h.2.2.2.2.2.2.2.2.2.2.1
theorem Sh_lostLog {F : Fm} {o : Ob} {x : List Int32} (h : Sh F o) (hx : x.length = 128) : Sh F (s_lostLog o x) := by
 dsimp only [Sh, f_srcPayload, f_pend, f_queue, f_stats, f_state, f_timer, f_rxVal, f_rxNext, f_rxLead, f_rxTrail, f_lossLeft, f_dups, f_drops, f_delSeq, f_delVal, f_delLen, f_lostLog, f_lostLen, f_nakBuf, f_win, f_period, f_nextSeq, f_qLen, s_lostLog] at h ⊢
 exact ⟨h.1, h.2.1, h.2.2.1, h.2.2.2.1, h.2.2.2.2.1, h.2.2.2.2.2.1, h.2.2.2.2.2.2.1, h.2.2.2.2.2.2.2.1, h.2.2.2.2.2.2.2.2.1, h.2.2.2.2.2.2.2.2.2.1, h.2.2.2.2.2.2.2.2.2.2.1, hx, h.2.2.2.2.2.2.2.2.2.2.2.2.1, h.2.2.2.2.2.2.2.2.2.2.2.2.2.1, h.2.2.2.2.2.2.2.2.2.2.2.2.2.2⟩
theorem Sh_l_lostLog {F : Fm} {o : Ob} (h : Sh F o) : (f_lostLog o).length = 128 := h.2.2.2.2.2.2.2.2.2.2.2.1
theorem Sh_lostLen {F : Fm} {o : Ob} {x : List Int32} (h : Sh F o) (hx : x.length = 4) : Sh F (s_lostLen o x) := by
 dsimp only [Sh, f_srcPayload, f_pend, f_queue, f_stats, f_state, f_timer, f_rxVal, f_rxNext, f_rxLead, f_rxTrail, f_lossLeft, f_dups, f_drops, f_delSeq, f_delVal, f_delLen, f_lostLog, f_lostLen, f_nakBuf, f_win, f_period, f_nextSeq, f_qLen, s_lostLen] at h ⊢
 exact ⟨h.1, h.2.1, h.2.2.1, h.2.2.2.1, h.2.2.2.2.1, h.2.2.2.2.2.1, h.2.2.2.2.2.2.1, h.2.2.2.2.2.2.2.1, h.2.2.2.2.2.2.2.2.1, h.2.2.2.2.2.2.2.2.2.1, h.2.2.2.2.2.2.2.2.2.2.1, h.2.2.2.2.2.2.2.2.2.2.2.1, hx, h.2.2.2.2.2.2.2.2.2.2.2.2.2.1, h.2.2.2.2.2.2.2.2.2.2.2.2.2.2⟩
theorem Sh_l_lostLen {F : Fm} {o : Ob} (h : Sh F o) : (f_lostLen o).length = 4 := h.2.2.2.2.2.2.2.2.2.2.2.2.1
theorem Sh_nakBuf {F : Fm} {o : Ob} {x : List Int32} (h : Sh F o) (hx : x.length = 128) : Sh F (s_nakBuf o x) := by
 dsimp only [Sh, f_srcPayload, f_pend, f_queue, f_stats, f_state, f_timer, f_rxVal, f_rxNext, f_rxLead, f_rxTrail, f_lossLeft, f_dups, f_drops, f_delSeq, f_delVal, f_delLen, f_lostLog, f_lostLen, f_nakBuf, f_win, f_period, f_nextSeq, f_qLen, s_nakBuf] at h ⊢
 exact ⟨h.1, h.2.1, h.2.2.1, h.2.2.2.1, h.2.2.2.2.1, h.2.2.2.2.2.1, h.2.2.2.2.2.2.1, h.2.2.2.2.2.2.2.1, h.2.2.2.2.2.2.2.2.1, h.2.2.2.2.2.2.2.2.2.1, h.2.2.2.2.2.2.2.2.2.2.1, h.2.2.2.2.2.2.2.2.2.2.2.1, h.2.2.2.2.2.2.2.2.2.2.2.2.1, hx, h.2.2.2.2.2.2.2.2.2.2.2.2.2.2⟩
theorem Sh_l_nakBuf {F : Fm} {o : Ob} (h : Sh F o) : (f_nakBuf o).length = 128 := h.2.2.2.2.2.2.2.2.2.2.2.2.2.1
theorem Sh_back {F : Fm} {o : Ob} {x : Int32} (h : Sh F o) : Sh F (s_back o x) := by
 dsimp only [Sh, f_srcPayload, f_pend, f_queue, f_stats, f_state, f_timer, f_rxVal, f_rxNext, f_rxLead, f_rxTrail, f_lossLeft, f_dups, f_drops, f_delSeq, f_delVal, f_delLen, f_lostLog, f_lostLen, f_nakBuf, f_win, f_period, f_nextSeq, f_qLen, s_back] at h ⊢
 exact h
theorem Sh_repair {F : Fm} {o : Ob} {x : Int32} (h : Sh F o) : Sh F (s_repair o x) := by
 dsimp only [Sh, f_srcPayload, f_pend, f_queue, f_stats, f_state, f_timer, f_rxVal, f_rxNext, f_rxLead, f_rxTrail, f_lossLeft, f_dups, f_drops, f_delSeq, f_delVal, f_delLen, f_lostLog, f_lostLen, f_nakBuf, f_win, f_period, f_nextSeq, f_qLen, s_repair] at h ⊢
 exact h
theorem Sh_nakLen {F : Fm} {o : Ob} {x : Int32} (h : Sh F o) : Sh F (s_nakLen o x) := by
 dsimp only [Sh, f_srcPayload, f_pend, f_queue, f_stats, f_state, f_timer, f_rxVal, f_rxNext, f_rxLead, f_rxTrail, f_lossLeft, f_dups, f_drops, f_delSeq, f_delVal, f_delLen, f_lostLog, f_lostLen, f_nakBuf, f_win, f_period, f_nextSeq, f_qLen, s_nakLen] at h ⊢
 exact h
theorem inc1 {x : Int32} (h : x.toInt < 2147483647) : (x + 1).toInt = x.toInt + 1 := by
 have := i_lo x
 have e1 : (1 : Int32).toInt = 1 := rfl
 rw [i_add (by omega) (by omega), e1]
theorem g0 {l : List Int32} {x v : Int32} (h0 : 0 ≤ x.toInt) (h : l[x.toInt.toNat]? = some v) : aget l x = some v := by
 unfold aget
 rw [if_neg (by rw [i_lt]; show ¬ x.toInt < 0; omega)]
 exact h
theorem g1 {l : List Int32} {x v : Int32} {n : Nat} (h0 : x.toInt = n) (h : l[n]? = some v) : aget l x = some v := g0 (by omega) (by rw [h0, Int.toNat_natCast]; exact h)
theorem z32 : (32 : Int32).toInt = 32 := rfl
theorem r32 {r k : Int32} (h0 : 0 ≤ r.toInt) (h4 : r.toInt < 4) {q : Nat} (k0 : k.toInt = q) (k1 : q < 32) : (r * 32 + k).toInt = (r.toInt.toNat * 32 + q : Nat) := by
 have e : (r * 32).toInt = r.toInt * 32 := i_mul (by rw [z32]; omega) (by rw [z32]; omega)
 rw [i_add (by omega) (by omega), e]; omega
theorem vs {x : Int32} {q : Nat} (h : x.toInt = q) (hq : q < 32) : F19 x = some 1 := by
 unfold F19
 rw [if_neg (by rw [i_lt]; show ¬ x.toInt < 0; omega), if_pos (by rw [i_lt, z32]; omega)]
def Log (ds dv dl : List Int32) (r : Nat) (D : List Nat) (P : List Int32) : Prop := (∃ n : Int32, dl[r]? = some n ∧ n.toInt = D.length) ∧ ∀ i q : Nat, D[i]? = some q → ds[r * 32 + i]? = some (Int32.ofInt q) ∧ dv[r * 32 + i]? = P[q]?
def LogL (ds dl : List Int32) (r : Nat) (E : List Nat) : Prop := (∃ n : Int32, dl[r]? = some n ∧ n.toInt = E.length) ∧ ∀ i q : Nat, E[i]? = some q → ds[r * 32 + i]? = some (Int32.ofInt q)
def pk (st : Nat → Int32) (v : Int32) (n : Nat) : List Nat := (List.range n).filter (fun q => st q == v)
theorem pk_s (st : Nat → Int32) (v : Int32) (n : Nat) : pk st v (n + 1) = if st n = v then pk st v n ++ [n] else pk st v n := by
 unfold pk
 rw [List.range_succ, List.filter_append]
 by_cases h : st n = v
 ·rw [if_pos h, List.filter_cons_of_pos (by rw [h]; simp)]; rfl
 ·rw [if_neg h, List.filter_cons_of_neg (by simp [h])]; simp
theorem pk_len (st : Nat → Int32) (v : Int32) (n : Nat) : (pk st v n).length ≤ n := by
 have := List.length_filter_le (fun q => st q == v) (List.range n)
 rw [List.length_range] at this
 exact this
def up (st : Nat → Int32) (k : Nat) (v : Int32) : Nat → Int32 := fun q => if k = q then v else st q
theorem up_self (st : Nat → Int32) (k : Nat) (v : Int32) : up st k v k = v := if_pos rfl
theorem up_ne {st : Nat → Int32} {k q : Nat} {v : Int32} (h : k ≠ q) : up st k v q = st q := if_neg h
theorem pk_up {st : Nat → Int32} {v w : Int32} {k n : Nat} (h : n ≤ k ∨ (st k ≠ v ∧ w ≠ v)) : pk (up st k w) v n = pk st v n := by
 unfold pk
 apply List.filter_congr
 intro q hq
 rw [List.mem_range] at hq
 by_cases e : k = q
 ·subst e
  rw [up_self]
  rcases h with h | h
  ·omega
  ·rw [beq_false_of_ne h.1, beq_false_of_ne h.2]
 ·rw [up_ne e]
def GI (o : Ob) (r N Q L B T : Nat) (P : List Int32) : Prop :=
 (∃ n : Int32, (f_rxNext o)[r]? = some n ∧ n.toInt = N) ∧ (∃ l : Int32, (f_rxLead o)[r]? = some l ∧ l.toInt + 1 = L) ∧ (∃ t : Int32, (f_rxTrail o)[r]? = some t ∧ t.toInt = T) ∧ (N ≤ Q ∧ Q ≤ 32 ∧ L ≤ 32 ∧ B ≤ 32) ∧
 ∃ st : Nat → Int32, (∀ q, q < 32 → (f_state o)[r * 32 + q]? = some (st q)) ∧ (∀ q, q < N → st q = 5 ∨ st q = 6) ∧ (∀ q, N ≤ q → q < Q → st q = 4 ∨ st q = 6) ∧ (∀ q, Q ≤ q → q < 32 → st q ≠ 5 ∧ st q ≠ 6) ∧ (∀ q, B ≤ q → q < 32 → st q = 0) ∧ (∀ q, q < 32 → st q = 6 → q < T) ∧ (∀ q, q < 32 → st q = 4 → (f_rxVal o)[r * 32 + q]? = P[q]?) ∧ Log (f_delSeq o) (f_delVal o) (f_delLen o) r (pk st 5 N) P ∧ LogL (f_lostLog o) (f_lostLen o) r (pk st 6 Q)
def Kp (o p : Ob) (r : Nat) : Prop := (f_rxNext p)[r]? = (f_rxNext o)[r]? ∧ (f_rxLead p)[r]? = (f_rxLead o)[r]? ∧ (f_rxTrail p)[r]? = (f_rxTrail o)[r]? ∧ (f_delLen p)[r]? = (f_delLen o)[r]? ∧ (f_lostLen p)[r]? = (f_lostLen o)[r]? ∧ ∀ k, r * 32 ≤ k → k < r * 32 + 32 → (f_state p)[k]? = (f_state o)[k]? ∧ (f_rxVal p)[k]? = (f_rxVal o)[k]? ∧ (f_delSeq p)[k]? = (f_delSeq o)[k]? ∧ (f_delVal p)[k]? = (f_delVal o)[k]? ∧ (f_lostLog p)[k]? = (f_lostLog o)[k]?
theorem Kp.refl (o : Ob) (r : Nat) : Kp o o r := ⟨rfl, rfl, rfl, rfl, rfl, fun _ _ _ => ⟨rfl, rfl, rfl, rfl, rfl⟩⟩
theorem Kp.trans {o p u : Ob} {r : Nat} (h : Kp o p r) (g : Kp p u r) : Kp o u r := by
 obtain ⟨h1, h2, h3, h4, h5, h6⟩ := h
 obtain ⟨g1, g2, g3, g4, g5, g6⟩ := g
 refine ⟨g1.trans h1, g2.trans h2, g3.trans h3, g4.trans h4, g5.trans h5, fun k a b => ?_⟩
 obtain ⟨x1, x2, x3, x4, x5⟩ := h6 k a b
 obtain ⟨y1, y2, y3, y4, y5⟩ := g6 k a b
 exact ⟨y1.trans x1, y2.trans x2, y3.trans x3, y4.trans x4, y5.trans x5⟩
theorem GI.keep {o p : Ob} {r N Q L B T : Nat} {P : List Int32} (g : GI o r N Q L B T P) (k : Kp o p r) : GI p r N Q L B T P := by
 obtain ⟨k1, k2, k3, k4, k5, k6⟩ := k
 obtain ⟨g1, g2, g3, g4, st, s1, s2, s3, s4, s5, s6, s7, s8, s9⟩ := g
 have ln := pk_len st 5 N
 have lq := pk_len st 6 Q
 refine ⟨by rw [k1]; exact g1, by rw [k2]; exact g2, by rw [k3]; exact g3, g4, st, fun q hq => ?_, s2, s3, s4, s5, s6, fun q hq h4 => ?_, ⟨by rw [k4]; exact s8.1, fun i q hi => ?_⟩, ⟨by rw [k5]; exact s9.1, fun i q hi => ?_⟩⟩
 ·rw [(k6 _ (by omega) (by omega)).1]; exact s1 q hq
 ·rw [(k6 _ (by omega) (by omega)).2.1]; exact s7 q hq h4
 ·obtain ⟨l, _⟩ := List.getElem?_eq_some_iff.1 hi
  have := k6 (r * 32 + i) (by omega) (by omega)
  rw [this.2.2.1, this.2.2.2.1]
  exact s8.2 i q hi
 ·obtain ⟨l, _⟩ := List.getElem?_eq_some_iff.1 hi
  rw [(k6 (r * 32 + i) (by omega) (by omega)).2.2.2.2]
  exact s9.2 i q hi
theorem Kp_of {o p : Ob} (h : (f_rxNext p, f_rxLead p, f_rxTrail p, f_delLen p, f_lostLen p, f_state p, f_rxVal p, f_delSeq p, f_delVal p, f_lostLog p) = (f_rxNext o, f_rxLead o, f_rxTrail o, f_delLen o, f_lostLen o, f_state o, f_rxVal o, f_delSeq o, f_delVal o, f_lostLog o)) (r : Nat) : Kp o p r := by
 simp only [Prod.mk.injEq] at h
 obtain ⟨h1, h2, h3, h4, h5, h6, h7, h8, h9, h10⟩ := h
 unfold Kp
 rw [h1, h2, h3, h4, h5, h6, h7, h8, h9, h10]
 exact ⟨rfl, rfl, rfl, rfl, rfl, fun _ _ _ => ⟨rfl, rfl, rfl, rfl, rfl⟩⟩
theorem Kp_st {o : Ob} {x k r : Nat} {S V : List Int32} {tm : List Int32} (hS : ∀ j, j ≠ k → S[j]? = (f_state o)[j]?) (hV : ∀ j, j ≠ k → V[j]? = (f_rxVal o)[j]?) (hk : x * 32 ≤ k ∧ k < x * 32 + 32) (hr : r ≠ x) : Kp o (s_timer (s_rxVal (s_state o S) V) tm) r := by
 dsimp only [Kp, f_srcPayload, f_pend, f_queue, f_stats, f_state, f_timer, f_rxVal, f_rxNext, f_rxLead, f_rxTrail, f_lossLeft, f_dups, f_drops, f_delSeq, f_delVal, f_delLen, f_lostLog, f_lostLen, f_nakBuf, f_win, f_back, f_repair, f_period, f_nextSeq, f_qLen, f_nakLen, s_timer, s_rxVal, s_state] at hS hV ⊢
 exact ⟨rfl, rfl, rfl, rfl, rfl, fun j a b => ⟨hS j (by omega), hV j (by omega), rfl, rfl, rfl⟩⟩
theorem GI_st {o p : Ob} {r N Q L B B' T : Nat} {P : List Int32} (g : GI o r N Q L B T P) {k : Nat} {v : Int32} (hk : k < 32) (hQ : ∀ w, (f_state o)[r * 32 + k]? = some w → w ≠ 4 ∧ w ≠ 5 ∧ w ≠ 6) (hv : v ≠ 5 ∧ v ≠ 6) (hB : B ≤ B' ∧ k < B' ∧ B' ≤ 32) (h1 : (f_rxNext p)[r]? = (f_rxNext o)[r]?) (h2 : (f_rxLead p)[r]? = (f_rxLead o)[r]?) (h3 : (f_rxTrail p)[r]? = (f_rxTrail o)[r]?) (h4 : ∀ q, q < 32 → (f_state p)[r * 32 + q]? = if k = q then some v else (f_state o)[r * 32 + q]?) (h5 : ∀ q, q < 32 → k ≠ q → (f_rxVal p)[r * 32 + q]? = (f_rxVal o)[r * 32 + q]?) (h6 : v = 4 → (f_rxVal p)[r * 32 + k]? = P[k]?) (h7 : (f_delSeq p, f_delVal p, f_delLen p, f_lostLog p, f_lostLen p) = (f_delSeq o, f_delVal o, f_delLen o, f_lostLog o, f_lostLen o)) : GI p r N Q L B' T P := by
 simp only [Prod.mk.injEq] at h7
 obtain ⟨e1, e2, e3, e4, e5⟩ := h7
 obtain ⟨a1, a2, a3, a4, st, s1, s2, s3, s4, s5, s6, s7, s8, s9⟩ := g
 obtain ⟨w4, w5, w6⟩ := hQ _ (s1 k hk)
 have kQ : Q ≤ k := by
  by_cases c : Q ≤ k
  ·exact c
  ·by_cases d : k < N
   ·rcases s2 k d with q | q
    ·exact absurd q w5
    ·exact absurd q w6
   ·rcases s3 k (by omega) (by omega) with q | q
    ·exact absurd q w4
    ·exact absurd q w6
 refine ⟨by rw [h1]; exact a1, by rw [h2]; exact a2, by rw [h3]; exact a3, ⟨a4.1, a4.2.1, a4.2.2.1, hB.2.2⟩, up st k v, fun q hq => ?_, fun q hq => ?_, fun q q1 q2 => ?_, fun q q1 q2 => ?_, fun q q1 q2 => ?_, fun q q1 q2 => ?_, fun q q1 q2 => ?_, ?_, ?_⟩
 ·rw [h4 q hq]
  by_cases e : k = q
  ·rw [if_pos e, e, up_self]
  ·rw [if_neg e, up_ne e]; exact s1 q hq
 ·rw [up_ne (by omega)]; exact s2 q hq
 ·rw [up_ne (by omega)]; exact s3 q q1 q2
 ·by_cases e : k = q
  ·rw [e, up_self]; exact hv
  ·rw [up_ne e]; exact s4 q q1 q2
 ·rw [up_ne (by omega)]; exact s5 q (by omega) q2
 ·by_cases e : k = q
  ·rw [e, up_self] at q2; exact absurd q2 hv.2
  ·rw [up_ne e] at q2; exact s6 q q1 q2
 ·by_cases e : k = q
  ·rw [e, up_self] at q2
   rw [← e]; exact h6 q2
  ·rw [up_ne e] at q2
   rw [h5 q q1 e]; exact s7 q q1 q2
 ·rw [e1, e2, e3, pk_up (Or.inl (by omega))]; exact s8
 ·rw [e4, e5, pk_up (Or.inl kQ)]; exact s9
theorem lead_m {F : Fm} {o : Ob} (h : Sh F o) {x : Int32} (x0 : 0 ≤ x.toInt) (x4 : x.toInt < 4) {N Q L B T : Nat} {P : List Int32} (g : GI o x.toInt.toNat N Q L B T P) {l : Int32} {M : Nat} (hl : l.toInt + 1 = M) (hM : M ≤ 32) (hB : B ≤ (if L ≤ M then M else L)) (hQ : Q ≤ L) : okP (F14 o x l) (fun p => Sh F p ∧ GI p x.toInt.toNat N Q (if L ≤ M then M else L) (if L ≤ M then M else L) T P ∧ ∀ r, r ≠ x.toInt.toNat → Kp o p r) := by
 have z0 : (0 : Int32).toInt = 0 := rfl
 have z1 : (1 : Int32).toInt = 1 := rfl
 obtain ⟨W, hW⟩ : ∃ W, W = if L ≤ M then M else L := ⟨_, rfl⟩
 have W1 : L ≤ W ∧ M ≤ W ∧ W ≤ 32 := by
  obtain ⟨_, _, _, a4, _⟩ := id g
  rw [hW]; split <;> omega
 rw [← hW] at hB ⊢
 have g' : GI o x.toInt.toNat N Q L W T P := by
  obtain ⟨a1, a2, a3, a4, st, s1, s2, s3, s4, s5, s6⟩ := g
  exact ⟨a1, a2, a3, ⟨a4.1, a4.2.1, a4.2.2.1, W1.2.2⟩, st, s1, s2, s3, s4, fun q q1 q2 => s5 q (by omega) q2, s6⟩
 unfold F14
 obtain ⟨_, ⟨y, hy, hL⟩, _, a4, _⟩ := id g
 rw [g0 x0 hy]
 simp only [Option.bind_some]
 have y1 : (y + 1).toInt = y.toInt + 1 := inc1 (by omega)
 rw [if_neg (show ¬ y + 1 < 0 by rw [i_lt, z0]; omega)]
 have lp : okP (loopN (B14_18 x l) qN (y + 1, o)) (fun p => Sh F p ∧ GI p x.toInt.toNat N Q L W T P ∧ ∀ r, r ≠ x.toInt.toNat → Kp o p r) := by
  refine okP.loop (fun v => (L : Int) ≤ v.1.toInt ∧ v.1.toInt ≤ 33 ∧ Sh F v.2 ∧ GI v.2 x.toInt.toNat N Q L W T P ∧ ∀ r, r ≠ x.toInt.toNat → Kp o v.2 r) (fun v => (33 - v.1.toInt).toNat) ⟨by show (L : Int) ≤ (y + 1).toInt; omega, by show (y + 1).toInt ≤ 33; omega, h, g', fun r _ => Kp.refl _ _⟩ (by show (33 - (y + 1).toInt).toNat < 4000; omega) ?_
  rintro ⟨q, p⟩ ⟨q0, q1, hp, gp, kp⟩
  simp only at q0 q1 hp gp kp
  unfold B14_18
  simp only
  refine okP.ite (fun _ => okP.some ⟨hp, gp, kp⟩) (fun c1 => ?_)
  rw [i_lt] at c1
  refine okP.ite (fun c2 => ?_) (fun _ => okP.some ⟨hp, gp, kp⟩)
  rw [i_lt, z32] at c2
  have e1 : (q + 1).toInt = q.toInt + 1 := inc1 (by omega)
  have qn : q.toInt = (q.toInt.toNat : Nat) := by omega
  have e := r32 x0 x4 qn (by omega)
  have l1 := Sh_l_state hp
  have l2 := Sh_l_timer hp
  have sg : ∃ w, (f_state p)[x.toInt.toNat * 32 + q.toInt.toNat]? = some w := ⟨_, List.getElem?_eq_getElem (by omega)⟩
  obtain ⟨w, sw⟩ := sg
  rw [g1 e sw]
  simp only [Option.bind_some]
  unfold J14_70
  refine okP.ite (fun w0 => ?_) (fun w0 => ?_)
  ·subst w0
   rw [aset_at e (by omega)]
   simp only [Option.bind_some]
   unfold F32
   simp only [Option.bind_some]
   have tl : f_timer (s_state p ((f_state p).set (x.toInt.toNat * 32 + q.toInt.toNat) 1)) = f_timer p := by dsimp only [f_srcPayload, f_pend, f_queue, f_stats, f_state, f_timer, f_rxVal, f_rxNext, f_rxLead, f_rxTrail, f_lossLeft, f_dups, f_drops, f_delSeq, f_delVal, f_delLen, f_lostLog, f_lostLen, f_nakBuf, f_win, f_back, f_repair, f_period, f_nextSeq, f_qLen, f_nakLen, s_state]
   rw [tl, aset_at e (by omega)]
   simp only [Option.bind_some]
   have hp2 := Sh_timer (Sh_state hp (x := (f_state p).set (x.toInt.toNat * 32 + q.toInt.toNat) 1) (by rw [List.length_set]; exact l1)) (x := (f_timer p).set (x.toInt.toNat * 32 + q.toInt.toNat) (f_back (s_state p ((f_state p).set (x.toInt.toNat * 32 + q.toInt.toNat) 1)) + x)) (by rw [List.length_set]; exact l2)
   obtain ⟨u, hu⟩ : ∃ u, u = s_timer (s_state p ((f_state p).set (x.toInt.toNat * 32 + q.toInt.toNat) 1)) ((f_timer p).set (x.toInt.toNat * 32 + q.toInt.toNat) (f_back (s_state p ((f_state p).set (x.toInt.toNat * 32 + q.toInt.toNat) 1)) + x)) := ⟨_, rfl⟩
   rw [← hu] at hp2 ⊢
   have b1 : f_state u = (f_state p).set (x.toInt.toNat * 32 + q.toInt.toNat) 1 := by rw [hu]; dsimp only [f_srcPayload, f_pend, f_queue, f_stats, f_state, f_timer, f_rxVal, f_rxNext, f_rxLead, f_rxTrail, f_lossLeft, f_dups, f_drops, f_delSeq, f_delVal, f_delLen, f_lostLog, f_lostLen, f_nakBuf, f_win, f_back, f_repair, f_period, f_nextSeq, f_qLen, f_nakLen, s_timer, s_state]
   have b2 : (f_rxNext u, f_rxLead u, f_rxTrail u, f_delLen u, f_lostLen u, f_rxVal u, f_delSeq u, f_delVal u, f_lostLog u) = (f_rxNext p, f_rxLead p, f_rxTrail p, f_delLen p, f_lostLen p, f_rxVal p, f_delSeq p, f_delVal p, f_lostLog p) := by rw [hu]; dsimp only [f_srcPayload, f_pend, f_queue, f_stats, f_state, f_timer, f_rxVal, f_rxNext, f_rxLead, f_rxTrail, f_lossLeft, f_dups, f_drops, f_delSeq, f_delVal, f_delLen, f_lostLog, f_lostLen, f_nakBuf, f_win, f_back, f_repair, f_period, f_nextSeq, f_qLen, f_nakLen, s_timer, s_state]
   clear hu
   simp only [Prod.mk.injEq] at b2
   obtain ⟨n1, n2, n3, n4, n5, n6, n7, n8, n9⟩ := b2
   refine okP.some ⟨⟨by simp only; omega, by simp only; omega, hp2, ?_, ?_⟩, by simp only; omega⟩
   ·refine GI_st gp (k := q.toInt.toNat) (v := 1) (by omega) (fun w hw => ?_) (by decide) ⟨Nat.le_refl _, by omega, by omega⟩ (by rw [n1]) (by rw [n2]) (by rw [n3]) (fun k hk => ?_) (fun k _ _ => by rw [n6]) (fun e => absurd e (by decide)) (by rw [n4, n5, n7, n8, n9])
    ·rw [sw] at hw
     cases hw
     decide
    ·rw [b1]
     by_cases e : q.toInt.toNat = k
     ·rw [if_pos e, e, List.getElem?_set_self (by omega)]
     ·rw [if_neg e, List.getElem?_set_ne (by omega)]
   ·intro r hr
    refine (kp r hr).trans ?_
    unfold Kp
    rw [n1, n2, n3, n4, n5, n6, n7, n8, n9, b1]
    exact ⟨rfl, rfl, rfl, rfl, rfl, fun k a b => ⟨List.getElem?_set_ne (by omega), rfl, rfl, rfl, rfl⟩⟩
  ·exact okP.some ⟨⟨by simp only; omega, by simp only; omega, hp, gp, kp⟩, by simp only; omega⟩
 apply okP.bind
 refine okP.mono lp ?_
 rintro p ⟨hp, gp, kp⟩
 obtain ⟨b1, ⟨z, hz, zL⟩, b3, b4, b5⟩ := id gp
 have l3 := Sh_l_rxLead hp
 unfold J14_76
 rw [g0 x0 hz]
 simp only [Option.bind_some]
 refine okP.ite (fun c => ?_) (fun c => ?_)
 ·rw [i_lt] at c
  rw [aset_at (n := x.toInt.toNat) (by omega) (by omega)]
  simp only [Option.bind_some]
  have hp2 := Sh_rxLead hp (x := (f_rxLead p).set x.toInt.toNat l) (by rw [List.length_set]; exact l3)
  have WM : W = M := by rw [hW, if_pos (by omega)]
  refine okP.some ⟨hp2, ⟨b1, ⟨l, ?_, by omega⟩, b3, ⟨b4.1, b4.2.1, by omega, b4.2.2.2⟩, b5⟩, fun r hr => (kp r hr).trans ?_⟩
  ·show ((f_rxLead p).set x.toInt.toNat l)[x.toInt.toNat]? = some l
   rw [List.getElem?_set_self (by omega)]
  ·dsimp only [Kp, f_srcPayload, f_pend, f_queue, f_stats, f_state, f_timer, f_rxVal, f_rxNext, f_rxLead, f_rxTrail, f_lossLeft, f_dups, f_drops, f_delSeq, f_delVal, f_delLen, f_lostLog, f_lostLen, f_nakBuf, f_win, f_back, f_repair, f_period, f_nextSeq, f_qLen, f_nakLen, s_rxLead]
   exact ⟨rfl, List.getElem?_set_ne (fun e => hr e.symm), rfl, rfl, rfl, fun _ _ _ => ⟨rfl, rfl, rfl, rfl, rfl⟩⟩
 ·rw [i_lt] at c
  have WL : W = L := by rw [hW]; split <;> omega
  rw [WL] at gp ⊢
  exact okP.some ⟨hp, gp, kp⟩
theorem ofN {q : Int32} {n : Nat} (h : q.toInt = n) : q = Int32.ofInt n := by rw [← h, Int32.ofInt_toInt]
theorem Log_app {l : List Nat} {i q k : Nat} (h : (l ++ [k])[i]? = some q) : (i < l.length ∧ l[i]? = some q) ∨ (i = l.length ∧ q = k) := by
 obtain ⟨hl, _⟩ := List.getElem?_eq_some_iff.1 h
 rw [List.length_append] at hl
 have : [k].length = 1 := rfl
 by_cases c : i < l.length
 ·rw [List.getElem?_append_left c] at h
  exact Or.inl ⟨c, h⟩
 ·have e : i = l.length := by omega
  subst e
  rw [List.getElem?_append_right (Nat.le_refl _), Nat.sub_self] at h
  cases h
  exact Or.inr ⟨rfl, rfl⟩
theorem trail_m {F : Fm} {o : Ob} (h : Sh F o) {x : Int32} (x0 : 0 ≤ x.toInt) (x4 : x.toInt < 4) {N L T : Nat} {P : List Int32} (g : GI o x.toInt.toNat N N L L T P) (tn : T ≤ N) {t : Int32} {U : Nat} (ht : t.toInt = U) (hU : U ≤ L) : okP (F15 o x t) (fun p => Sh F p ∧ (∃ Q, GI p x.toInt.toNat N Q L L (if T < U then U else T) P ∧ (if T < U then U else T) ≤ Q) ∧ ∀ r, r ≠ x.toInt.toNat → Kp o p r) := by
 have z0 : (0 : Int32).toInt = 0 := rfl
 unfold F15
 obtain ⟨⟨n, hn, nN⟩, a2, ⟨y, hy, yT⟩, a4, a5⟩ := id g
 rw [g0 x0 hy]
 simp only [Option.bind_some]
 refine okP.ite (fun c => ?_) (fun c => ?_)
 ·rw [i_lt] at c
  have e0 : (if T < U then U else T) = U := if_pos (by omega)
  rw [e0]
  have l3 := Sh_l_rxTrail h
  rw [aset_at (n := x.toInt.toNat) (by omega) (by omega)]
  simp only [Option.bind_some]
  rw [g0 x0 hn]
  simp only [Option.bind_some]
  rw [if_neg (show ¬ n < 0 by rw [i_lt, z0]; omega)]
  have h1 := Sh_rxTrail h (x := (f_rxTrail o).set x.toInt.toNat t) (by rw [List.length_set]; exact l3)
  have gt : GI (s_rxTrail o ((f_rxTrail o).set x.toInt.toNat t)) x.toInt.toNat N N L L U P := by
   obtain ⟨b1, b2, b3, b4, st, s1, s2, s3, s4, s5, s6, s7⟩ := g
   refine ⟨b1, b2, ⟨t, ?_, ht⟩, b4, st, s1, s2, s3, s4, s5, fun q q1 q2 => ?_, s7⟩
   ·show ((f_rxTrail o).set x.toInt.toNat t)[x.toInt.toNat]? = some t
    rw [List.getElem?_set_self (by omega)]
   ·have := s6 q q1 q2; omega
  have kt : ∀ r, r ≠ x.toInt.toNat → Kp o (s_rxTrail o ((f_rxTrail o).set x.toInt.toNat t)) r := by
   intro r hr
   dsimp only [Kp, f_srcPayload, f_pend, f_queue, f_stats, f_state, f_timer, f_rxVal, f_rxNext, f_rxLead, f_rxTrail, f_lossLeft, f_dups, f_drops, f_delSeq, f_delVal, f_delLen, f_lostLog, f_lostLen, f_nakBuf, f_win, f_back, f_repair, f_period, f_nextSeq, f_qLen, f_nakLen, s_rxTrail]
   exact ⟨rfl, rfl, List.getElem?_set_ne (fun e => hr e.symm), rfl, rfl, fun _ _ _ => ⟨rfl, rfl, rfl, rfl, rfl⟩⟩
  apply okP.bind
  refine okP.mono (P := fun p => Sh F p ∧ (∃ Q, GI p x.toInt.toNat N Q L L U P ∧ U ≤ Q) ∧ ∀ r, r ≠ x.toInt.toNat → Kp o p r) ?_ (fun p hp => okP.some hp)
  refine okP.loop (fun v => (N : Int) ≤ v.1.toInt ∧ v.1.toInt ≤ (if N ≤ U then U else N) ∧ Sh F v.2 ∧ GI v.2 x.toInt.toNat N v.1.toInt.toNat L L U P ∧ ∀ r, r ≠ x.toInt.toNat → Kp o v.2 r) (fun v => (33 - v.1.toInt).toNat) ⟨by show (N : Int) ≤ n.toInt; omega, by show n.toInt ≤ _; split <;> omega, h1, by show GI _ _ N n.toInt.toNat L L U P; rw [show n.toInt.toNat = N by omega]; exact gt, kt⟩ (by show (33 - n.toInt).toNat < 4000; omega) ?_
  rintro ⟨q, p⟩ ⟨q0, q1, hp, gp, kp⟩
  simp only at q0 q1 hp gp kp
  have q32 : q.toInt ≤ 32 := by
   have : (if N ≤ U then U else N) ≤ 32 := by split <;> omega
   omega
  unfold B15_34
  simp only
  refine okP.ite (fun c1 => ?_) (fun c1 => okP.some ⟨hp, ⟨_, gp, by rw [i_lt] at c1; omega⟩, kp⟩)
  rw [i_lt] at c1
  have NU : N ≤ U := by omega
  rw [if_pos NU] at q1 ⊢
  rw [if_pos (by rw [i_lt, z32]; omega)]
  have e1 : (q + 1).toInt = q.toInt + 1 := inc1 (by omega)
  have en : (q + 1).toInt.toNat = q.toInt.toNat + 1 := by omega
  have qn : q.toInt = (q.toInt.toNat : Nat) := by omega
  have e := r32 x0 x4 qn (by omega)
  have l1 := Sh_l_state hp
  have l2 := Sh_l_timer hp
  obtain ⟨b1, b2, b3, b4, st, s1, s2, s3, s4, s5, s6, s7, s8, s9⟩ := id gp
  obtain ⟨n5, n6⟩ := s4 q.toInt.toNat (Nat.le_refl _) (by omega)
  rw [g1 e (s1 q.toInt.toNat (by omega))]
  simp only [Option.bind_some]
  unfold J15_108
  by_cases w4 : st q.toInt.toNat = 4
  ·rw [if_pos w4]
   refine okP.some ⟨⟨by simp only; omega, by simp only; omega, hp, ?_, kp⟩, by simp only; omega⟩
   simp only [en]
   refine ⟨b1, b2, b3, ⟨by omega, by omega, b4.2.2.1, b4.2.2.2⟩, st, s1, s2, fun k k1 k2 => ?_, fun k k1 k2 => s4 k (by omega) k2, s5, s6, s7, s8, ?_⟩
   ·by_cases ek : k = q.toInt.toNat
    ·rw [ek]; exact Or.inl w4
    ·exact s3 k k1 (by omega)
   ·rw [pk_s, if_neg (by rw [w4]; decide)]; exact s9
  rw [if_neg w4, if_neg n5, if_neg n6, aset_at e (by omega)]
  simp only [Option.bind_some]
  rw [aset_at e (by omega)]
  simp only [Option.bind_some]
  have hp2 := Sh_timer (Sh_state hp (x := (f_state p).set (x.toInt.toNat * 32 + q.toInt.toNat) 6) (by rw [List.length_set]; exact l1)) (x := (f_timer p).set (x.toInt.toNat * 32 + q.toInt.toNat) 0) (by rw [List.length_set]; exact l2)
  obtain ⟨u, hu⟩ : ∃ u, u = s_timer (s_state p ((f_state p).set (x.toInt.toNat * 32 + q.toInt.toNat) 6)) ((f_timer p).set (x.toInt.toNat * 32 + q.toInt.toNat) 0) := ⟨_, rfl⟩
  rw [← hu] at hp2 ⊢
  have c1' : f_state u = (f_state p).set (x.toInt.toNat * 32 + q.toInt.toNat) 6 := by rw [hu]; dsimp only [f_srcPayload, f_pend, f_queue, f_stats, f_state, f_timer, f_rxVal, f_rxNext, f_rxLead, f_rxTrail, f_lossLeft, f_dups, f_drops, f_delSeq, f_delVal, f_delLen, f_lostLog, f_lostLen, f_nakBuf, f_win, f_back, f_repair, f_period, f_nextSeq, f_qLen, f_nakLen, s_timer, s_state]
  have c2' : (f_rxNext u, f_rxLead u, f_rxTrail u, f_delLen u, f_lostLen u, f_rxVal u, f_delSeq u, f_delVal u, f_lostLog u) = (f_rxNext p, f_rxLead p, f_rxTrail p, f_delLen p, f_lostLen p, f_rxVal p, f_delSeq p, f_delVal p, f_lostLog p) := by rw [hu]; dsimp only [f_srcPayload, f_pend, f_queue, f_stats, f_state, f_timer, f_rxVal, f_rxNext, f_rxLead, f_rxTrail, f_lossLeft, f_dups, f_drops, f_delSeq, f_delVal, f_delLen, f_lostLog, f_lostLen, f_nakBuf, f_win, f_back, f_repair, f_period, f_nextSeq, f_qLen, f_nakLen, s_timer, s_state]
  clear hu
  simp only [Prod.mk.injEq] at c2'
  obtain ⟨n1, n2, n3, n4, n5', n6', n7, n8, n9⟩ := c2'
  obtain ⟨⟨m, hm, mE⟩, s9'⟩ := s9
  have lE := pk_len st 6 q.toInt.toNat
  have l4 := Sh_l_lostLen hp2
  have l5 := Sh_l_lostLog hp2
  have em := r32 x0 x4 (k := m) (q := (pk st 6 q.toInt.toNat).length) mE (by omega)
  have m1 : (m + 1).toInt = m.toInt + 1 := inc1 (by omega)
  have hm' : aget (f_lostLen u) x = some m := by rw [n5']; exact g0 x0 hm
  have al : F36 u x q = some (s_lostLen (s_lostLog u ((f_lostLog u).set (x.toInt.toNat * 32 + (pk st 6 q.toInt.toNat).length) q)) ((f_lostLen u).set x.toInt.toNat (m + 1))) := by
   unfold F36
   rw [hm']
   simp only [Option.bind_some]
   rw [if_pos (by rw [i_lt, z32]; omega), aset_at em (by omega)]
   simp only [Option.bind_some]
   rw [aset_at (n := x.toInt.toNat) (by omega) (by omega)]
   rfl
  rw [al]
  simp only [Option.bind_some]
  have hp3 := Sh_lostLen (Sh_lostLog hp2 (x := (f_lostLog u).set (x.toInt.toNat * 32 + (pk st 6 q.toInt.toNat).length) q) (by rw [List.length_set]; exact l5)) (x := (f_lostLen u).set x.toInt.toNat (m + 1)) (by rw [List.length_set]; exact l4)
  obtain ⟨v, hv⟩ : ∃ v, v = s_lostLen (s_lostLog u ((f_lostLog u).set (x.toInt.toNat * 32 + (pk st 6 q.toInt.toNat).length) q)) ((f_lostLen u).set x.toInt.toNat (m + 1)) := ⟨_, rfl⟩
  rw [← hv] at hp3 ⊢
  have d1 : f_lostLog v = (f_lostLog u).set (x.toInt.toNat * 32 + (pk st 6 q.toInt.toNat).length) q := by rw [hv]; dsimp only [f_srcPayload, f_pend, f_queue, f_stats, f_state, f_timer, f_rxVal, f_rxNext, f_rxLead, f_rxTrail, f_lossLeft, f_dups, f_drops, f_delSeq, f_delVal, f_delLen, f_lostLog, f_lostLen, f_nakBuf, f_win, f_back, f_repair, f_period, f_nextSeq, f_qLen, f_nakLen, s_lostLen, s_lostLog]
  have d2 : f_lostLen v = (f_lostLen u).set x.toInt.toNat (m + 1) := by rw [hv]; dsimp only [f_srcPayload, f_pend, f_queue, f_stats, f_state, f_timer, f_rxVal, f_rxNext, f_rxLead, f_rxTrail, f_lossLeft, f_dups, f_drops, f_delSeq, f_delVal, f_delLen, f_lostLog, f_lostLen, f_nakBuf, f_win, f_back, f_repair, f_period, f_nextSeq, f_qLen, f_nakLen, s_lostLen, s_lostLog]
  have d3 : (f_rxNext v, f_rxLead v, f_rxTrail v, f_delLen v, f_rxVal v, f_delSeq v, f_delVal v, f_state v) = (f_rxNext u, f_rxLead u, f_rxTrail u, f_delLen u, f_rxVal u, f_delSeq u, f_delVal u, f_state u) := by rw [hv]; dsimp only [f_srcPayload, f_pend, f_queue, f_stats, f_state, f_timer, f_rxVal, f_rxNext, f_rxLead, f_rxTrail, f_lossLeft, f_dups, f_drops, f_delSeq, f_delVal, f_delLen, f_lostLog, f_lostLen, f_nakBuf, f_win, f_back, f_repair, f_period, f_nextSeq, f_qLen, f_nakLen, s_lostLen, s_lostLog]
  clear hv
  simp only [Prod.mk.injEq] at d3
  obtain ⟨o1, o2, o3, o4, o5, o6, o7, o8⟩ := d3
  rw [n9] at l5 d1
  rw [n5'] at l4 d2
  refine okP.some ⟨⟨by simp only; omega, by simp only; omega, hp3, ?_, ?_⟩, by simp only; omega⟩
  ·simp only [en]
   refine ⟨by rw [o1, n1]; exact b1, by rw [o2, n2]; exact b2, by rw [o3, n3]; exact b3, ⟨by omega, by omega, b4.2.2.1, b4.2.2.2⟩, up st q.toInt.toNat 6, fun k hk => ?_, fun k hk => ?_, fun k k1 k2 => ?_, fun k k1 k2 => ?_, fun k k1 k2 => ?_, fun k k1 k2 => ?_, fun k k1 k2 => ?_, ?_, ?_⟩
   ·rw [o8, c1']
    by_cases ek : q.toInt.toNat = k
    ·rw [ek, up_self, List.getElem?_set_self (by omega)]
    ·rw [up_ne ek, List.getElem?_set_ne (by omega)]; exact s1 k hk
   ·rw [up_ne (by omega)]; exact s2 k hk
   ·by_cases ek : q.toInt.toNat = k
    ·rw [ek, up_self]; exact Or.inr rfl
    ·rw [up_ne ek]; exact s3 k k1 (by omega)
   ·rw [up_ne (by omega)]; exact s4 k (by omega) k2
   ·rw [up_ne (by omega)]; exact s5 k k1 k2
   ·by_cases ek : q.toInt.toNat = k
    ·omega
    ·rw [up_ne ek] at k2; exact s6 k k1 k2
   ·rw [o5, n6']
    by_cases ek : q.toInt.toNat = k
    ·rw [ek, up_self] at k2; exact absurd k2 (by decide)
    ·rw [up_ne ek] at k2; exact s7 k k1 k2
   ·rw [o4, o6, o7, n4, n7, n8, pk_up (Or.inl (by omega))]; exact s8
   ·rw [pk_s, up_self, if_pos rfl, pk_up (Or.inl (Nat.le_refl _))]
    refine ⟨⟨m + 1, ?_, by rw [m1, mE, List.length_append]; rfl⟩, fun i k hi => ?_⟩
    ·rw [d2, List.getElem?_set_self (by omega)]
    ·rw [d1]
     rcases Log_app hi with ⟨i1, i2⟩ | ⟨i1, i2⟩
     ·rw [List.getElem?_set_ne (by omega)]; exact s9' i k i2
     ·rw [i1, i2, List.getElem?_set_self (by omega), ← ofN qn]
  ·intro r hr
   refine (kp r hr).trans ?_
   unfold Kp
   rw [o1, o2, o3, o4, o5, o6, o7, o8, n1, n2, n3, n4, n6', n7, n8, c1', d1, d2]
   exact ⟨rfl, rfl, rfl, rfl, List.getElem?_set_ne (fun e => hr e.symm), fun k a b => ⟨List.getElem?_set_ne (by omega), rfl, rfl, rfl, List.getElem?_set_ne (by omega)⟩⟩
 ·rw [i_lt] at c
  have e0 : (if T < U then U else T) = T := if_neg (by omega)
  rw [e0]
  exact okP.some ⟨h, ⟨N, g, tn⟩, fun r _ => Kp.refl _ _⟩
theorem del_stop {p : Ob} {r N Q L T : Nat} {P : List Int32} (g : GI p r N Q L L T P) (hTQ : T ≤ Q) (hNL : N ≤ L) (hs : N < 32 → ∀ w, (f_state p)[r * 32 + N]? = some w → w ≠ 4 ∧ w ≠ 6) : ∃ N', GI p r N' N' L L T P ∧ T ≤ N' ∧ N' ≤ L := by
 obtain ⟨b1, b2, b3, b4, st, s1, s2, s3, s4, s5⟩ := id g
 have : Q = N := by
  by_cases c : N < Q
  ·obtain ⟨e1, e2⟩ := hs (by omega) _ (s1 N (by omega))
   rcases s3 N (Nat.le_refl _) c with w | w
   ·exact absurd w e1
   ·exact absurd w e2
  ·omega
 subst this
 exact ⟨_, g, hTQ, hNL⟩
theorem deliver_m {F : Fm} {o : Ob} (h : Sh F o) {x : Int32} (x0 : 0 ≤ x.toInt) (x4 : x.toInt < 4) {N Q L T : Nat} {P : List Int32} (g : GI o x.toInt.toNat N Q L L T P) (hT : T ≤ Q) (hNL : N ≤ L) : okP (F16 o x) (fun p => Sh F p ∧ (∃ N', GI p x.toInt.toNat N' N' L L T P ∧ T ≤ N' ∧ N' ≤ L) ∧ ∀ r, r ≠ x.toInt.toNat → Kp o p r) := by
 have z0 : (0 : Int32).toInt = 0 := rfl
 unfold F16
 obtain ⟨⟨n, hn, nN⟩, a2, a3, a4, a5⟩ := id g
 rw [g0 x0 hn]
 simp only [Option.bind_some]
 apply okP.bind
 refine okP.mono (P := fun p => Sh F p ∧ (∃ N', GI p x.toInt.toNat N' N' L L T P ∧ T ≤ N' ∧ N' ≤ L) ∧ ∀ r, r ≠ x.toInt.toNat → Kp o p r) ?_ (fun p hp => okP.some hp)
 refine okP.loop (fun v => 0 ≤ v.1.toInt ∧ v.1.toInt ≤ L ∧ Sh F v.2 ∧ (∃ Q, GI v.2 x.toInt.toNat v.1.toInt.toNat Q L L T P ∧ T ≤ Q) ∧ ∀ r, r ≠ x.toInt.toNat → Kp o v.2 r) (fun v => (33 - v.1.toInt).toNat) ⟨by show 0 ≤ n.toInt; omega, by show n.toInt ≤ _; omega, h, ⟨Q, by show GI _ _ n.toInt.toNat Q L L T P; rw [show n.toInt.toNat = N by omega]; exact g, hT⟩, fun r _ => Kp.refl _ _⟩ (by show (33 - n.toInt).toNat < 4000; omega) ?_
 rintro ⟨q, p⟩ ⟨q0, q1, hp, ⟨Q, gp, hTQ⟩, kp⟩
 simp only at q0 q1 hp gp kp
 obtain ⟨b1, b2, b3, b4, st, s1, s2, s3, s4, s5, s6, s7, s8, s9⟩ := id gp
 unfold B16_7
 simp only
 rw [if_neg (by rw [i_lt, z0]; omega)]
 refine okP.ite (fun c1 => ?_) (fun c1 => okP.some ⟨hp, del_stop gp hTQ (by omega) (fun q' => by rw [i_lt, z32] at c1; omega), kp⟩)
 rw [i_lt, z32] at c1
 have e1 : (q + 1).toInt = q.toInt + 1 := inc1 (by omega)
 have en : (q + 1).toInt.toNat = q.toInt.toNat + 1 := by omega
 have qn : q.toInt = (q.toInt.toNat : Nat) := by omega
 have e := r32 x0 x4 qn (by omega)
 rw [g1 e (s1 q.toInt.toNat (by omega))]
 simp only [Option.bind_some]
 have qL : st q.toInt.toNat ≠ 0 → q.toInt + 1 ≤ L := by
  intro w
  by_cases c : L ≤ q.toInt.toNat
  ·exact absurd (s5 _ c (by omega)) w
  ·omega
 have l1 := Sh_l_state hp
 have l6 := Sh_l_rxNext hp
 unfold J16_48 J16_73
 by_cases w4 : st q.toInt.toNat = 4
 ·have qL' := qL (by rw [w4]; decide)
  rw [if_pos w4, if_pos w4]
  obtain ⟨⟨m, hm, mD⟩, s8'⟩ := s8
  have lD := pk_len st 5 q.toInt.toNat
  have m1 : (m + 1).toInt = m.toInt + 1 := inc1 (by omega)
  have em := r32 x0 x4 (k := m) (q := (pk st 5 q.toInt.toNat).length) mD (by omega)
  have l2 := Sh_l_rxVal hp
  have l3 := Sh_l_delSeq hp
  have l4 := Sh_l_delVal hp
  have l5 := Sh_l_delLen hp
  obtain ⟨va, hva⟩ : ∃ va, (f_rxVal p)[x.toInt.toNat * 32 + q.toInt.toNat]? = some va := ⟨_, List.getElem?_eq_getElem (by omega)⟩
  have pv := s7 _ (by omega) w4
  rw [hva] at pv
  rw [g1 e hva]
  simp only [Option.bind_some]
  have ad : F20 p x q va = some (s_delLen (s_delVal (s_delSeq p ((f_delSeq p).set (x.toInt.toNat * 32 + (pk st 5 q.toInt.toNat).length) q)) ((f_delVal p).set (x.toInt.toNat * 32 + (pk st 5 q.toInt.toNat).length) va)) ((f_delLen p).set x.toInt.toNat (m + 1))) := by
   unfold F20
   rw [g0 x0 hm]
   simp only [Option.bind_some]
   rw [if_pos (by rw [i_lt, z32]; omega), aset_at em (by omega)]
   simp only [Option.bind_some]
   rw [aset_at em (by omega)]
   simp only [Option.bind_some]
   rw [aset_at (n := x.toInt.toNat) (by omega) (by omega)]
   rfl
  rw [ad]
  simp only [Option.bind_some]
  have hp1 := Sh_delLen (Sh_delVal (Sh_delSeq hp (x := (f_delSeq p).set (x.toInt.toNat * 32 + (pk st 5 q.toInt.toNat).length) q) (by rw [List.length_set]; exact l3)) (x := (f_delVal p).set (x.toInt.toNat * 32 + (pk st 5 q.toInt.toNat).length) va) (by rw [List.length_set]; exact l4)) (x := (f_delLen p).set x.toInt.toNat (m + 1)) (by rw [List.length_set]; exact l5)
  obtain ⟨u, hu⟩ : ∃ u, u = s_delLen (s_delVal (s_delSeq p ((f_delSeq p).set (x.toInt.toNat * 32 + (pk st 5 q.toInt.toNat).length) q)) ((f_delVal p).set (x.toInt.toNat * 32 + (pk st 5 q.toInt.toNat).length) va)) ((f_delLen p).set x.toInt.toNat (m + 1)) := ⟨_, rfl⟩
  rw [← hu] at hp1 ⊢
  have c1' : f_delSeq u = (f_delSeq p).set (x.toInt.toNat * 32 + (pk st 5 q.toInt.toNat).length) q := by rw [hu]; dsimp only [f_srcPayload, f_pend, f_queue, f_stats, f_state, f_timer, f_rxVal, f_rxNext, f_rxLead, f_rxTrail, f_lossLeft, f_dups, f_drops, f_delSeq, f_delVal, f_delLen, f_lostLog, f_lostLen, f_nakBuf, f_win, f_back, f_repair, f_period, f_nextSeq, f_qLen, f_nakLen, s_delLen, s_delVal, s_delSeq]
  have c2' : f_delVal u = (f_delVal p).set (x.toInt.toNat * 32 + (pk st 5 q.toInt.toNat).length) va := by rw [hu]; dsimp only [f_srcPayload, f_pend, f_queue, f_stats, f_state, f_timer, f_rxVal, f_rxNext, f_rxLead, f_rxTrail, f_lossLeft, f_dups, f_drops, f_delSeq, f_delVal, f_delLen, f_lostLog, f_lostLen, f_nakBuf, f_win, f_back, f_repair, f_period, f_nextSeq, f_qLen, f_nakLen, s_delLen, s_delVal, s_delSeq]
  have c3' : f_delLen u = (f_delLen p).set x.toInt.toNat (m + 1) := by rw [hu]; dsimp only [f_srcPayload, f_pend, f_queue, f_stats, f_state, f_timer, f_rxVal, f_rxNext, f_rxLead, f_rxTrail, f_lossLeft, f_dups, f_drops, f_delSeq, f_delVal, f_delLen, f_lostLog, f_lostLen, f_nakBuf, f_win, f_back, f_repair, f_period, f_nextSeq, f_qLen, f_nakLen, s_delLen, s_delVal, s_delSeq]
  have c4' : (f_rxNext u, f_rxLead u, f_rxTrail u, f_lostLen u, f_rxVal u, f_lostLog u, f_state u) = (f_rxNext p, f_rxLead p, f_rxTrail p, f_lostLen p, f_rxVal p, f_lostLog p, f_state p) := by rw [hu]; dsimp only [f_srcPayload, f_pend, f_queue, f_stats, f_state, f_timer, f_rxVal, f_rxNext, f_rxLead, f_rxTrail, f_lossLeft, f_dups, f_drops, f_delSeq, f_delVal, f_delLen, f_lostLog, f_lostLen, f_nakBuf, f_win, f_back, f_repair, f_period, f_nextSeq, f_qLen, f_nakLen, s_delLen, s_delVal, s_delSeq]
  clear hu
  simp only [Prod.mk.injEq] at c4'
  obtain ⟨n1, n2, n3, n4, n5, n6, n7⟩ := c4'
  rw [n7, aset_at e (by omega)]
  simp only [Option.bind_some]
  have hp2 := Sh_state hp1 (x := (f_state p).set (x.toInt.toNat * 32 + q.toInt.toNat) 5) (by rw [List.length_set]; exact l1)
  have nx : f_rxNext (s_state u ((f_state p).set (x.toInt.toNat * 32 + q.toInt.toNat) 5)) = f_rxNext p := by rw [← n1]; dsimp only [f_srcPayload, f_pend, f_queue, f_stats, f_state, f_timer, f_rxVal, f_rxNext, f_rxLead, f_rxTrail, f_lossLeft, f_dups, f_drops, f_delSeq, f_delVal, f_delLen, f_lostLog, f_lostLen, f_nakBuf, f_win, f_back, f_repair, f_period, f_nextSeq, f_qLen, f_nakLen, s_state]
  rw [nx, aset_at (n := x.toInt.toNat) (by omega) (by omega)]
  simp only [Option.bind_some]
  have hp3 := Sh_rxNext hp2 (x := (f_rxNext p).set x.toInt.toNat (q + 1)) (by rw [List.length_set]; exact l6)
  obtain ⟨v, hv⟩ : ∃ v, v = s_rxNext (s_state u ((f_state p).set (x.toInt.toNat * 32 + q.toInt.toNat) 5)) ((f_rxNext p).set x.toInt.toNat (q + 1)) := ⟨_, rfl⟩
  rw [← hv] at hp3 ⊢
  have d1 : f_rxNext v = (f_rxNext p).set x.toInt.toNat (q + 1) := by rw [hv]; dsimp only [f_srcPayload, f_pend, f_queue, f_stats, f_state, f_timer, f_rxVal, f_rxNext, f_rxLead, f_rxTrail, f_lossLeft, f_dups, f_drops, f_delSeq, f_delVal, f_delLen, f_lostLog, f_lostLen, f_nakBuf, f_win, f_back, f_repair, f_period, f_nextSeq, f_qLen, f_nakLen, s_rxNext, s_state]
  have d2 : f_state v = (f_state p).set (x.toInt.toNat * 32 + q.toInt.toNat) 5 := by rw [hv]; dsimp only [f_srcPayload, f_pend, f_queue, f_stats, f_state, f_timer, f_rxVal, f_rxNext, f_rxLead, f_rxTrail, f_lossLeft, f_dups, f_drops, f_delSeq, f_delVal, f_delLen, f_lostLog, f_lostLen, f_nakBuf, f_win, f_back, f_repair, f_period, f_nextSeq, f_qLen, f_nakLen, s_rxNext, s_state]
  have d3 : (f_rxLead v, f_rxTrail v, f_lostLen v, f_rxVal v, f_lostLog v, f_delSeq v, f_delVal v, f_delLen v) = (f_rxLead u, f_rxTrail u, f_lostLen u, f_rxVal u, f_lostLog u, f_delSeq u, f_delVal u, f_delLen u) := by rw [hv]; dsimp only [f_srcPayload, f_pend, f_queue, f_stats, f_state, f_timer, f_rxVal, f_rxNext, f_rxLead, f_rxTrail, f_lossLeft, f_dups, f_drops, f_delSeq, f_delVal, f_delLen, f_lostLog, f_lostLen, f_nakBuf, f_win, f_back, f_repair, f_period, f_nextSeq, f_qLen, f_nakLen, s_rxNext, s_state]
  clear hv
  simp only [Prod.mk.injEq] at d3
  obtain ⟨o2, o3, o4, o5, o6, o7, o8, o9⟩ := d3
  refine okP.some ⟨⟨by simp only; omega, by simp only; omega, hp3, ⟨if Q ≤ q.toInt.toNat then q.toInt.toNat + 1 else Q, ?_, by split <;> omega⟩, ?_⟩, by simp only; omega⟩
  ·simp only [en]
   have Qc : q.toInt.toNat + 1 ≤ (if Q ≤ q.toInt.toNat then q.toInt.toNat + 1 else Q) ∧ (if Q ≤ q.toInt.toNat then q.toInt.toNat + 1 else Q) ≤ 32 ∧ Q ≤ (if Q ≤ q.toInt.toNat then q.toInt.toNat + 1 else Q) := by split <;> omega
   have pQ : pk (up st q.toInt.toNat 5) 6 (if Q ≤ q.toInt.toNat then q.toInt.toNat + 1 else Q) = pk st 6 Q := by
    by_cases c : Q ≤ q.toInt.toNat
    ·have eQ : Q = q.toInt.toNat := by omega
     rw [if_pos c, pk_s, up_self, if_neg (by decide), pk_up (Or.inl (Nat.le_refl _)), eQ]
    ·rw [if_neg c, pk_up (Or.inr ⟨by rw [w4]; decide, by decide⟩)]
   refine ⟨⟨q + 1, ?_, by omega⟩, by rw [o2, n2]; exact b2, by rw [o3, n3]; exact b3, ⟨Qc.1, Qc.2.1, b4.2.2.1, b4.2.2.2⟩, up st q.toInt.toNat 5, fun k hk => ?_, fun k hk => ?_, fun k k1 k2 => ?_, fun k k1 k2 => ?_, fun k k1 k2 => ?_, fun k k1 k2 => ?_, fun k k1 k2 => ?_, ?_, ?_⟩
   ·rw [d1, List.getElem?_set_self (by omega)]
   ·rw [d2]
    by_cases ek : q.toInt.toNat = k
    ·rw [ek, up_self, List.getElem?_set_self (by omega)]
    ·rw [up_ne ek, List.getElem?_set_ne (by omega)]; exact s1 k hk
   ·by_cases ek : q.toInt.toNat = k
    ·rw [ek, up_self]; exact Or.inl rfl
    ·rw [up_ne ek]; exact s2 k (by omega)
   ·rw [up_ne (by omega)]
    refine s3 k (by omega) ?_
    by_cases c : Q ≤ q.toInt.toNat
    ·rw [if_pos c] at k2; omega
    ·rw [if_neg c] at k2; exact k2
   ·rw [up_ne (by omega)]; exact s4 k (by omega) k2
   ·rw [up_ne (by omega)]; exact s5 k k1 k2
   ·by_cases ek : q.toInt.toNat = k
    ·rw [ek, up_self] at k2; exact absurd k2 (by decide)
    ·rw [up_ne ek] at k2; exact s6 k k1 k2
   ·rw [o5, n5]
    by_cases ek : q.toInt.toNat = k
    ·rw [ek, up_self] at k2; exact absurd k2 (by decide)
    ·rw [up_ne ek] at k2; exact s7 k k1 k2
   ·rw [pk_s, up_self, if_pos rfl, pk_up (Or.inl (Nat.le_refl _)), o7, o8, o9, c1', c2', c3']
    refine ⟨⟨m + 1, by rw [List.getElem?_set_self (by omega)], by rw [m1, mD, List.length_append]; rfl⟩, fun i k hi => ?_⟩
    rcases Log_app hi with ⟨i1, i2⟩ | ⟨i1, i2⟩
    ·rw [List.getElem?_set_ne (by omega), List.getElem?_set_ne (by omega)]; exact s8' i k i2
    ·rw [i1, i2, List.getElem?_set_self (by omega), List.getElem?_set_self (by omega), ← ofN qn]
     exact ⟨rfl, pv⟩
   ·rw [pQ, o4, o6, n4, n6]; exact s9
  ·intro r hr
   refine (kp r hr).trans ?_
   unfold Kp
   rw [d1, d2, o2, o3, o4, o5, o6, o7, o8, o9, n2, n3, n4, n5, n6, c1', c2', c3']
   exact ⟨List.getElem?_set_ne (fun e => hr e.symm), rfl, rfl, List.getElem?_set_ne (fun e => hr e.symm), rfl, fun k a b => ⟨List.getElem?_set_ne (by omega), rfl, List.getElem?_set_ne (by omega), List.getElem?_set_ne (by omega), rfl⟩⟩
 ·rw [if_neg w4]
  by_cases w6 : st q.toInt.toNat = 6
  ·have qL' := qL (by rw [w6]; decide)
   have qQ : q.toInt.toNat < Q := by
    by_cases c : Q ≤ q.toInt.toNat
    ·exact absurd w6 (s4 _ c (by omega)).2
    ·omega
   rw [if_pos w6, if_neg w4, aset_at (n := x.toInt.toNat) (by omega) (by omega)]
   simp only [Option.bind_some]
   have hp3 := Sh_rxNext hp (x := (f_rxNext p).set x.toInt.toNat (q + 1)) (by rw [List.length_set]; exact l6)
   refine okP.some ⟨⟨by simp only; omega, by simp only; omega, hp3, ⟨Q, ?_, hTQ⟩, fun r hr => (kp r hr).trans ?_⟩, by simp only; omega⟩
   ·simp only [en]
    refine ⟨⟨q + 1, ?_, by omega⟩, b2, b3, ⟨by omega, b4.2⟩, st, s1, fun k hk => ?_, fun k k1 k2 => s3 k (by omega) k2, s4, s5, s6, s7, ?_, s9⟩
    ·show ((f_rxNext p).set x.toInt.toNat (q + 1))[x.toInt.toNat]? = some (q + 1)
     rw [List.getElem?_set_self (by omega)]
    ·by_cases ek : k = q.toInt.toNat
     ·rw [ek]; exact Or.inr w6
     ·exact s2 k (by omega)
    ·rw [pk_s, if_neg (by rw [w6]; decide)]; exact s8
   ·dsimp only [Kp, f_srcPayload, f_pend, f_queue, f_stats, f_state, f_timer, f_rxVal, f_rxNext, f_rxLead, f_rxTrail, f_lossLeft, f_dups, f_drops, f_delSeq, f_delVal, f_delLen, f_lostLog, f_lostLen, f_nakBuf, f_win, f_back, f_repair, f_period, f_nextSeq, f_qLen, f_nakLen, s_rxNext]
    exact ⟨List.getElem?_set_ne (fun e => hr e.symm), rfl, rfl, rfl, rfl, fun _ _ _ => ⟨rfl, rfl, rfl, rfl, rfl⟩⟩
  ·rw [if_neg w6]
   exact okP.some ⟨hp, del_stop gp hTQ (by omega) (fun _ w hw => by rw [s1 _ (by omega)] at hw; cases hw; exact ⟨w4, w6⟩), kp⟩
def eP (F : Fm) : List Int32 := F.1
def eM (F : Fm) : Int32 := F.2.1
def eW (F : Fm) : Int32 := F.2.2.1
def eQ (F : Fm) : List Int32 := F.2.2.2.1
def eL (F : Fm) : Int32 := F.2.2.2.2.1
def eS (F : Fm) : List Int32 := F.2.2.2.2.2.1
def eO (F : Fm) : List Int32 := F.2.2.2.2.2.2.1
def eD (F : Fm) : List Int32 := F.2.2.2.2.2.2.2.1
def eT (F : Fm) : Int32 := F.2.2.2.2.2.2.2.2
theorem Sh.fr {F : Fm} {o : Ob} (h : Sh F o) : (f_srcPayload o, f_nextSeq o, f_win o, f_queue o, f_qLen o, f_stats o, f_lossLeft o, f_drops o, f_period o) = F := h.2.2.2.2.2.2.2.2.2.2.2.2.2.2
theorem Sh.P {F : Fm} {o : Ob} (h : Sh F o) : f_srcPayload o = eP F := by rw [← h.fr]; rfl
theorem Sh.M {F : Fm} {o : Ob} (h : Sh F o) : f_nextSeq o = eM F := by rw [← h.fr]; rfl
theorem Sh.W {F : Fm} {o : Ob} (h : Sh F o) : f_win o = eW F := by rw [← h.fr]; rfl
theorem Sh.Q {F : Fm} {o : Ob} (h : Sh F o) : f_queue o = eQ F := by rw [← h.fr]; rfl
theorem Sh.L {F : Fm} {o : Ob} (h : Sh F o) : f_qLen o = eL F := by rw [← h.fr]; rfl
theorem Sh.S {F : Fm} {o : Ob} (h : Sh F o) : f_stats o = eS F := by rw [← h.fr]; rfl
theorem Sh.O {F : Fm} {o : Ob} (h : Sh F o) : f_lossLeft o = eO F := by rw [← h.fr]; rfl
theorem Sh.D {F : Fm} {o : Ob} (h : Sh F o) : f_drops o = eD F := by rw [← h.fr]; rfl
theorem Sh.T {F : Fm} {o : Ob} (h : Sh F o) : f_period o = eT F := by rw [← h.fr]; rfl
def Fw (F : Fm) : Prop := (eP F).length = 32 ∧ (eQ F).length = 64 ∧ (eS F).length = 10 ∧ (eO F).length = 4 ∧ (eD F).length = 4
def DS (F : Fm) : Prop := ∃ a b c d : Int32, (eD F)[0]? = some a ∧ (eD F)[1]? = some b ∧ (eD F)[2]? = some c ∧ (eD F)[3]? = some d ∧ (eS F)[9]? = some (a + b + c + d)
def LB (F : Fm) (b : Nat → Int32) : Prop := ∀ r, r < 4 → ∃ l d : Int32, (eO F)[r]? = some l ∧ (eD F)[r]? = some d ∧ 0 ≤ l.toInt ∧ l + d = b r
def CFr (F F' : Fm) : Prop := (eP F', eM F', eW F', eQ F', eL F', eT F') = (eP F, eM F, eW F, eQ F, eL F, eT F) ∧ (∀ k, k < 9 → (eS F')[k]? = (eS F)[k]?) ∧ (DS F → DS F') ∧ (∀ b, LB F b → LB F' b) ∧ (Fw F → Fw F')
theorem CFr.refl (F : Fm) : CFr F F := ⟨rfl, fun _ _ => rfl, id, fun _ => id, id⟩
theorem CFr.trans {F G H : Fm} (a : CFr F G) (b : CFr G H) : CFr F H := ⟨b.1.trans a.1, fun k hk => (b.2.1 k hk).trans (a.2.1 k hk), fun x => b.2.2.1 (a.2.2.1 x), fun c x => b.2.2.2.1 c (a.2.2.2.1 c x), fun x => b.2.2.2.2 (a.2.2.2.2 x)⟩
theorem CFr.P {F G : Fm} (a : CFr F G) : eP G = eP F := by have := a.1; simp only [Prod.mk.injEq] at this; exact this.1
theorem CFr.M {F G : Fm} (a : CFr F G) : eM G = eM F := by have := a.1; simp only [Prod.mk.injEq] at this; exact this.2.1
theorem CFr.W {F G : Fm} (a : CFr F G) : eW G = eW F := by have := a.1; simp only [Prod.mk.injEq] at this; exact this.2.2.1
theorem CFr.Q {F G : Fm} (a : CFr F G) : eQ G = eQ F := by have := a.1; simp only [Prod.mk.injEq] at this; exact this.2.2.2.1
theorem CFr.L {F G : Fm} (a : CFr F G) : eL G = eL F := by have := a.1; simp only [Prod.mk.injEq] at this; exact this.2.2.2.2.1
theorem CFr.T {F G : Fm} (a : CFr F G) : eT G = eT F := by have := a.1; simp only [Prod.mk.injEq] at this; exact this.2.2.2.2.2
def RI (o : Ob) (r M U : Nat) (P : List Int32) : Prop := ∃ N L T, GI o r N N L L T P ∧ T ≤ N ∧ N ≤ L ∧ L ≤ M ∧ T ≤ U
theorem RI.keep {o p : Ob} {r M U : Nat} {P : List Int32} (h : RI o r M U P) (k : Kp o p r) : RI p r M U P := by
 obtain ⟨N, L, T, g, q⟩ := h
 exact ⟨N, L, T, g.keep k, q⟩
theorem RI.mono {o : Ob} {r M U M' U' : Nat} {P P' : List Int32} (h : RI o r M U P) (hM : M ≤ M') (hU : U ≤ U') (hP : ∀ q, q < M → P'[q]? = P[q]?) : RI o r M' U' P' := by
 obtain ⟨N, L, T, ⟨a1, a2, a3, a4, st, s1, s2, s3, s4, s5, s6, s7, s8, s9⟩, q1, q2, q3, q4⟩ := h
 refine ⟨N, L, T, ⟨a1, a2, a3, a4, st, s1, s2, s3, s4, s5, s6, fun q h1 h2 => ?_, ⟨s8.1, fun i q hi => ?_⟩, s9⟩, q1, q2, by omega, by omega⟩
 ·have : q < L := by
   by_cases c : L ≤ q
   ·rw [s5 q c h1] at h2; exact absurd h2 (by decide)
   ·omega
  rw [hP q (by omega)]
  exact s7 q h1 h2
 ·have m : q ∈ pk st 5 N := by
   obtain ⟨l, e⟩ := List.getElem?_eq_some_iff.1 hi
   exact e ▸ List.getElem_mem l
  unfold pk at m
  rw [List.mem_filter, List.mem_range] at m
  rw [hP q (by omega)]
  exact s8.2 i q hi
theorem ltd_m {F : Fm} {o : Ob} (h : Sh F o) {x : Int32} (x0 : 0 ≤ x.toInt) (x4 : x.toInt < 4) {N L B T M U : Nat} {P : List Int32} (g : GI o x.toInt.toNat N N L B T P) (q1 : T ≤ N) (q2 : N ≤ L) (q3 : L ≤ M) (q4 : T ≤ U) (hB : B ≤ M) (hM : M ≤ 32) (hU : U ≤ M) {l t : Int32} (hl : l.toInt + 1 = M) (ht : t.toInt = U) {f : Ob → Option Ob} (hf : ∀ p, f p = (F14 p x l).bind fun a => (F15 a x t).bind fun b => (F16 b x).bind fun c => some c) : okP (f o) (fun p => Sh F p ∧ RI p x.toInt.toNat M U P ∧ ∀ r, r ≠ x.toInt.toNat → Kp o p r) := by
 rw [hf]
 apply okP.bind
 refine okP.mono (lead_m h x0 x4 g hl hM (by rw [if_pos q3]; exact hB) q2) ?_
 rintro p ⟨hp, gp, kp⟩
 rw [if_pos q3] at gp
 apply okP.bind
 refine okP.mono (trail_m hp x0 x4 gp q1 ht hU) ?_
 rintro p2 ⟨hp2, ⟨Q, gp2, hQ⟩, kp2⟩
 apply okP.bind
 refine okP.mono (deliver_m hp2 x0 x4 gp2 hQ (by omega)) ?_
 rintro p3 ⟨hp3, ⟨N', gp3, e1, e2⟩, kp3⟩
 exact okP.some ⟨hp3, ⟨N', M, _, gp3, e1, e2, Nat.le_refl _, by split <;> omega⟩, fun r hr => ((kp r hr).trans (kp2 r hr)).trans (kp3 r hr)⟩
theorem data_m {F : Fm} {o : Ob} (h : Sh F o) {x : Int32} (x0 : 0 ≤ x.toInt) (x4 : x.toInt < 4) {M U : Nat} {P : List Int32} (R : RI o x.toInt.toNat M U P) (hM : M ≤ 32) (hU : U ≤ M) {s v l t : Int32} {sn : Nat} (hs : s.toInt = sn) (sM : sn < M) (hv : P[sn]? = some v) (hl : l.toInt + 1 = M) (ht : t.toInt = U) : okP (F18 o x s v l t) (fun p => Sh F p ∧ RI p x.toInt.toNat M U P ∧ ∀ r, r ≠ x.toInt.toNat → Kp o p r) := by
 obtain ⟨N, L, T, g, q1, q2, q3, q4⟩ := R
 have l1 := Sh_l_state h
 have l2 := Sh_l_timer h
 have l3 := Sh_l_rxVal h
 have l4 := Sh_l_dups h
 have e := r32 x0 x4 hs (by omega)
 have en : (x * 32 + s).toInt = (x.toInt.toNat * 32 + sn : Nat) := e
 unfold F18
 rw [vs hs (by omega)]
 simp only [Option.bind_some]
 rw [if_neg (by decide)]
 obtain ⟨_, _, _, _, st, s1, s2, s3, s4, s5, _⟩ := id g
 rw [g1 e (s1 sn (by omega))]
 simp only [Option.bind_some]
 have put : st sn ≠ 4 → st sn ≠ 5 → st sn ≠ 6 → okP (J18_39 o x v l t (x * 32 + s)) (fun p => Sh F p ∧ RI p x.toInt.toNat M U P ∧ ∀ r, r ≠ x.toInt.toNat → Kp o p r) := by
  intro n4 n5 n6
  unfold J18_39
  rw [aset_at e (by omega), aset_at e (by omega), aset_at e (by omega)]
  simp only [Option.bind_some]
  have h2 := Sh_timer (Sh_rxVal (Sh_state h (x := (f_state o).set (x.toInt.toNat * 32 + sn) 4) (by rw [List.length_set]; exact l1)) (x := (f_rxVal o).set (x.toInt.toNat * 32 + sn) v) (by rw [List.length_set]; exact l3)) (x := (f_timer o).set (x.toInt.toNat * 32 + sn) 0) (by rw [List.length_set]; exact l2)
  obtain ⟨u, hu⟩ : ∃ u, u = s_timer (s_rxVal (s_state o ((f_state o).set (x.toInt.toNat * 32 + sn) 4)) ((f_rxVal o).set (x.toInt.toNat * 32 + sn) v)) ((f_timer o).set (x.toInt.toNat * 32 + sn) 0) := ⟨_, rfl⟩
  rw [← hu] at h2 ⊢
  have b1 : f_state u = (f_state o).set (x.toInt.toNat * 32 + sn) 4 := by rw [hu]; dsimp only [f_srcPayload, f_pend, f_queue, f_stats, f_state, f_timer, f_rxVal, f_rxNext, f_rxLead, f_rxTrail, f_lossLeft, f_dups, f_drops, f_delSeq, f_delVal, f_delLen, f_lostLog, f_lostLen, f_nakBuf, f_win, f_back, f_repair, f_period, f_nextSeq, f_qLen, f_nakLen, s_timer, s_rxVal, s_state]
  have b3 : f_rxVal u = (f_rxVal o).set (x.toInt.toNat * 32 + sn) v := by rw [hu]; dsimp only [f_srcPayload, f_pend, f_queue, f_stats, f_state, f_timer, f_rxVal, f_rxNext, f_rxLead, f_rxTrail, f_lossLeft, f_dups, f_drops, f_delSeq, f_delVal, f_delLen, f_lostLog, f_lostLen, f_nakBuf, f_win, f_back, f_repair, f_period, f_nextSeq, f_qLen, f_nakLen, s_timer, s_rxVal, s_state]
  have b2 : (f_rxNext u, f_rxLead u, f_rxTrail u, f_delLen u, f_lostLen u, f_delSeq u, f_delVal u, f_lostLog u) = (f_rxNext o, f_rxLead o, f_rxTrail o, f_delLen o, f_lostLen o, f_delSeq o, f_delVal o, f_lostLog o) := by rw [hu]; dsimp only [f_srcPayload, f_pend, f_queue, f_stats, f_state, f_timer, f_rxVal, f_rxNext, f_rxLead, f_rxTrail, f_lossLeft, f_dups, f_drops, f_delSeq, f_delVal, f_delLen, f_lostLog, f_lostLen, f_nakBuf, f_win, f_back, f_repair, f_period, f_nextSeq, f_qLen, f_nakLen, s_timer, s_rxVal, s_state]
  clear hu
  simp only [Prod.mk.injEq] at b2
  obtain ⟨n1, n2, n3, n4', n5', n7, n8, n9⟩ := b2
  have gu : GI u x.toInt.toNat N N L (if L ≤ sn then sn + 1 else L) T P := by
   refine GI_st g (k := sn) (v := 4) (by omega) (fun w hw => ?_) (by decide) (by split <;> omega) (by rw [n1]) (by rw [n2]) (by rw [n3]) (fun k hk => ?_) (fun k _ ek => by rw [b3, List.getElem?_set_ne (by omega)]) (fun _ => by rw [b3, List.getElem?_set_self (by omega), hv]) (by rw [n4', n5', n7, n8, n9])
   ·rw [s1 sn (by omega)] at hw
    cases hw
    exact ⟨n4, n5, n6⟩
   ·rw [b1]
    by_cases ek : sn = k
    ·rw [if_pos ek, ek, List.getElem?_set_self (by omega)]
    ·rw [if_neg ek, List.getElem?_set_ne (by omega)]
  refine okP.mono (ltd_m h2 x0 x4 gu q1 q2 q3 q4 (by split <;> omega) hM hU hl ht (f := fun p => J18_76 p x l t) (fun p => rfl)) ?_
  rintro p ⟨hp, Rp, kp⟩
  refine ⟨hp, Rp, fun r hr => Kp.trans ?_ (kp r hr)⟩
  unfold Kp
  rw [n1, n2, n3, n4', n5', n7, n8, n9, b1, b3]
  exact ⟨rfl, rfl, rfl, rfl, rfl, fun k a b => ⟨List.getElem?_set_ne (by omega), List.getElem?_set_ne (by omega), rfl, rfl, rfl⟩⟩
 by_cases w0 : st sn = 0
 ·rw [if_pos w0]
  exact put (by rw [w0]; decide) (by rw [w0]; decide) (by rw [w0]; decide)
 rw [if_neg w0]
 have iw : F29 (st sn) = some (if st sn = 1 ∨ st sn = 2 ∨ st sn = 3 then 1 else 0) := by
  unfold F29
  by_cases c1 : st sn = 1
  ·rw [if_pos c1, if_pos (Or.inl c1)]
  rw [if_neg c1]
  by_cases c2 : st sn = 2
  ·rw [if_pos c2, if_pos (Or.inr (Or.inl c2))]
  rw [if_neg c2]
  by_cases c3 : st sn = 3
  ·rw [if_pos c3, if_pos (Or.inr (Or.inr c3))]
  rw [if_neg c3, if_neg (fun q => q.elim c1 (fun q => q.elim c2 c3))]
 rw [iw]
 simp only [Option.bind_some]
 by_cases w : st sn = 1 ∨ st sn = 2 ∨ st sn = 3
 ·rw [if_pos w, if_neg (by decide)]
  rcases w with w | w | w <;> exact put (by rw [w]; decide) (by rw [w]; decide) (by rw [w]; decide)
 ·rw [if_neg w, if_pos rfl]
  apply okP.bind
  refine okP.aget x0 (by omega) (fun y _ => ?_)
  rw [aset_at (n := x.toInt.toNat) (by omega) (by omega)]
  simp only [Option.bind_some]
  have h2 := Sh_dups h (x := (f_dups o).set x.toInt.toNat (y + 1)) (by rw [List.length_set]; exact l4)
  have kd : ∀ r, Kp o (s_dups o ((f_dups o).set x.toInt.toNat (y + 1))) r := fun r => Kp_of (by dsimp only [f_srcPayload, f_pend, f_queue, f_stats, f_state, f_timer, f_rxVal, f_rxNext, f_rxLead, f_rxTrail, f_lossLeft, f_dups, f_drops, f_delSeq, f_delVal, f_delLen, f_lostLog, f_lostLen, f_nakBuf, f_win, f_back, f_repair, f_period, f_nextSeq, f_qLen, f_nakLen, s_dups]) r
  refine okP.mono (ltd_m h2 x0 x4 (g.keep (kd _)) q1 q2 q3 q4 q3 hM hU hl ht (f := fun p => J18_76 p x l t) (fun p => rfl)) ?_
  rintro p ⟨hp, Rp, kp⟩
  exact ⟨hp, Rp, fun r hr => (kd r).trans (kp r hr)⟩
theorem st_any {F : Fm} {o : Ob} (h : Sh F o) {x : Int32} (x0 : 0 ≤ x.toInt) (x4 : x.toInt < 4) {M U : Nat} {P : List Int32} (R : RI o x.toInt.toNat M U P) {sn : Nat} (hn : sn < 32) {w v : Int32} (hw : (f_state o)[x.toInt.toNat * 32 + sn]? = some w) (w1 : w = 1 ∨ w = 2 ∨ w = 3) (hv : v = 1 ∨ v = 2 ∨ v = 3) {p : Ob} (b1 : f_state p = (f_state o).set (x.toInt.toNat * 32 + sn) v) (b2 : (f_rxNext p, f_rxLead p, f_rxTrail p, f_delLen p, f_lostLen p, f_rxVal p, f_delSeq p, f_delVal p, f_lostLog p) = (f_rxNext o, f_rxLead o, f_rxTrail o, f_delLen o, f_lostLen o, f_rxVal o, f_delSeq o, f_delVal o, f_lostLog o)) : RI p x.toInt.toNat M U P ∧ sn < M ∧ ∀ r, r ≠ x.toInt.toNat → Kp o p r := by
 obtain ⟨N, L, T, g, q1, q2, q3, q4⟩ := R
 have l1 := Sh_l_state h
 simp only [Prod.mk.injEq] at b2
 obtain ⟨n1, n2, n3, n4, n5, n6, n7, n8, n9⟩ := b2
 obtain ⟨_, _, _, a4, st, s1, s2, s3, s4, s5, _⟩ := id g
 have ew : st sn = w := by
  have := s1 sn hn
  rw [hw] at this
  exact (Option.some.inj this).symm
 have w46 : w ≠ 0 ∧ w ≠ 4 ∧ w ≠ 5 ∧ w ≠ 6 := by rcases w1 with e | e | e <;> rw [e] <;> decide
 have v56 : v ≠ 5 ∧ v ≠ 6 ∧ v ≠ 4 := by rcases hv with e | e | e <;> rw [e] <;> decide
 have sL : sn < L := by
  by_cases c : L ≤ sn
  ·exact absurd (ew ▸ s5 sn c hn) w46.1
  ·omega
 refine ⟨⟨N, L, T, ?_, q1, q2, q3, q4⟩, by omega, fun r hr => ?_⟩
 ·refine GI_st g (k := sn) (v := v) hn (fun u hu => ?_) ⟨v56.1, v56.2.1⟩ ⟨Nat.le_refl _, sL, a4.2.2.1⟩ (by rw [n1]) (by rw [n2]) (by rw [n3]) (fun k hk => ?_) (fun k _ _ => by rw [n6]) (fun e => absurd e v56.2.2) (by rw [n4, n5, n7, n8, n9])
  ·rw [hw] at hu
   cases hu
   exact ⟨w46.2.1, w46.2.2.1, w46.2.2.2⟩
  ·rw [b1]
   by_cases ek : sn = k
   ·rw [if_pos ek, ek, List.getElem?_set_self (by omega)]
   ·rw [if_neg ek, List.getElem?_set_ne (by omega)]
 ·unfold Kp
  rw [n1, n2, n3, n4, n5, n6, n7, n8, n9, b1]
  exact ⟨rfl, rfl, rfl, rfl, rfl, fun k a b => ⟨List.getElem?_set_ne (by omega), rfl, rfl, rfl, rfl⟩⟩
theorem ncf_m {F : Fm} {o : Ob} (h : Sh F o) {x : Int32} (x0 : 0 ≤ x.toInt) (x4 : x.toInt < 4) {M U : Nat} {P : List Int32} (R : RI o x.toInt.toNat M U P) (s : Int32) : okP (F35 o x s) (fun p => Sh F p ∧ RI p x.toInt.toNat M U P ∧ ∀ r, r ≠ x.toInt.toNat → Kp o p r) := by
 have z0 : (0 : Int32).toInt = 0 := rfl
 have l1 := Sh_l_state h
 have l2 := Sh_l_timer h
 unfold F35
 by_cases c : 0 ≤ s.toInt ∧ s.toInt < 32
 ·have hs : s.toInt = (s.toInt.toNat : Nat) := by omega
  have e := r32 x0 x4 hs (by omega)
  rw [vs hs (by omega)]
  simp only [Option.bind_some]
  rw [if_neg (by decide)]
  obtain ⟨w, hw⟩ : ∃ w, (f_state o)[x.toInt.toNat * 32 + s.toInt.toNat]? = some w := ⟨_, List.getElem?_eq_getElem (by omega)⟩
  rw [g1 e hw]
  simp only [Option.bind_some]
  have put : (w = 1 ∨ w = 2 ∨ w = 3) → okP (J35_36 o (x * 32 + s)) (fun p => Sh F p ∧ RI p x.toInt.toNat M U P ∧ ∀ r, r ≠ x.toInt.toNat → Kp o p r) := by
   intro w1
   unfold J35_36
   rw [aset_at e (by omega), aset_at e (by omega)]
   simp only [Option.bind_some]
   have h2 := Sh_timer (Sh_state h (x := (f_state o).set (x.toInt.toNat * 32 + s.toInt.toNat) 3) (by rw [List.length_set]; exact l1)) (x := (f_timer o).set (x.toInt.toNat * 32 + s.toInt.toNat) (f_repair o)) (by rw [List.length_set]; exact l2)
   obtain ⟨a, _, b⟩ := st_any h x0 x4 R (by omega) hw w1 (v := 3) (Or.inr (Or.inr rfl)) (p := s_timer (s_state o ((f_state o).set (x.toInt.toNat * 32 + s.toInt.toNat) 3)) ((f_timer o).set (x.toInt.toNat * 32 + s.toInt.toNat) (f_repair o))) (by dsimp only [f_srcPayload, f_pend, f_queue, f_stats, f_state, f_timer, f_rxVal, f_rxNext, f_rxLead, f_rxTrail, f_lossLeft, f_dups, f_drops, f_delSeq, f_delVal, f_delLen, f_lostLog, f_lostLen, f_nakBuf, f_win, f_back, f_repair, f_period, f_nextSeq, f_qLen, f_nakLen, s_timer, s_state]) (by dsimp only [f_srcPayload, f_pend, f_queue, f_stats, f_state, f_timer, f_rxVal, f_rxNext, f_rxLead, f_rxTrail, f_lossLeft, f_dups, f_drops, f_delSeq, f_delVal, f_delLen, f_lostLog, f_lostLen, f_nakBuf, f_win, f_back, f_repair, f_period, f_nextSeq, f_qLen, f_nakLen, s_timer, s_state])
   exact okP.some ⟨h2, a, b⟩
  refine okP.ite (fun q => put (Or.inl q)) (fun _ => ?_)
  exact okP.ite (fun q => put (Or.inr (Or.inl q))) (fun _ => okP.some ⟨h, R, fun r _ => Kp.refl _ _⟩)
 ·have e : F19 s = some 0 := by
   unfold F19
   by_cases a : s < 0
   ·rw [if_pos a]
   ·rw [if_neg a]
    rw [i_lt, z0] at a
    rw [if_neg (by rw [i_lt, z32]; omega)]
  rw [e]
  simp only [Option.bind_some, if_true]
  exact okP.some ⟨h, R, fun r _ => Kp.refl _ _⟩
def All (o : Ob) (M U : Nat) (P : List Int32) : Prop := ∀ r, r < 4 → RI o r M U P
theorem All.step {o p : Ob} {M U : Nat} {P : List Int32} (h : All o M U P) {x : Nat} (hx : RI p x M U P) (k : ∀ r, r ≠ x → Kp o p r) : All p M U P := by
 intro r hr
 by_cases e : r = x
 ·rw [e]; exact hx
 ·exact (h r hr).keep (k r e)
theorem All.of {o p : Ob} {M U : Nat} {P : List Int32} (h : All o M U P) (k : ∀ r, Kp o p r) : All p M U P := fun r hr => (h r hr).keep (k r)
def Msg (M : Nat) (P : List Int32) (ty s v : Int32) : Prop := ((ty = 0 ∨ ty = 1) ∧ ∃ sn : Nat, s.toInt = sn ∧ sn < M ∧ P[sn]? = some v) ∨ ty = 2
theorem drop_m {F : Fm} {o : Ob} (h : Sh F o) (fw : Fw F) {r : Nat} (hr : r < 4) {l d c : Int32} (hl : (eO F)[r]? = some l) (hd : (eD F)[r]? = some d) (hc : (eS F)[9]? = some c) (l1 : 0 < l.toInt) : ∃ F', Sh F' (s_stats (s_drops (s_lossLeft o ((eO F).set r (l - 1))) ((eD F).set r (d + 1))) ((eS F).set 9 (c + 1))) ∧ CFr F F' := by
 obtain ⟨f1, f2, f3, f4, f5⟩ := fw
 have z1 : (1 : Int32).toInt = 1 := rfl
 refine ⟨(eP F, eM F, eW F, eQ F, eL F, (eS F).set 9 (c + 1), (eO F).set r (l - 1), (eD F).set r (d + 1), eT F), ?_, rfl, fun k hk => ?_, ?_, ?_, ?_⟩
 ·have e1 := h.P
  have e2 := h.M
  have e3 := h.W
  have e4 := h.Q
  have e5 := h.L
  have e6 := h.T
  dsimp only [Sh, f_srcPayload, f_pend, f_queue, f_stats, f_state, f_timer, f_rxVal, f_rxNext, f_rxLead, f_rxTrail, f_lossLeft, f_dups, f_drops, f_delSeq, f_delVal, f_delLen, f_lostLog, f_lostLen, f_nakBuf, f_win, f_back, f_repair, f_period, f_nextSeq, f_qLen, f_nakLen, s_stats, s_drops, s_lossLeft] at h e1 e2 e3 e4 e5 e6 ⊢
  obtain ⟨y1, y2, y3, y4, y5, y6, y7, y8, y9, y10, y11, y12, y13, y14, y15⟩ := h
  exact ⟨y1, y2, y3, y4, y5, y6, y7, y8, y9, y10, y11, y12, y13, y14, by rw [e1, e2, e3, e4, e5, e6]⟩
 ·show ((eS F).set 9 (c + 1))[k]? = (eS F)[k]?
  rw [List.getElem?_set_ne (by omega)]
 ·rintro ⟨a0, a1, a2, a3, h0, h1, h2, h3, hs⟩
  rw [hc] at hs
  have hs' := Option.some.inj hs
  have rr : r = 0 ∨ r = 1 ∨ r = 2 ∨ r = 3 := by omega
  have s9 : ((eS F).set 9 (c + 1))[9]? = some (c + 1) := List.getElem?_set_self (by omega)
  rcases rr with e | e | e | e <;> subst e
  ·rw [h0] at hd
   cases hd
   exact ⟨d + 1, a1, a2, a3, List.getElem?_set_self (by omega), (List.getElem?_set_ne (by decide)).trans h1, (List.getElem?_set_ne (by decide)).trans h2, (List.getElem?_set_ne (by decide)).trans h3, s9.trans (by rw [hs']; congr 1; grind)⟩
  ·rw [h1] at hd
   cases hd
   exact ⟨a0, d + 1, a2, a3, (List.getElem?_set_ne (by decide)).trans h0, List.getElem?_set_self (by omega), (List.getElem?_set_ne (by decide)).trans h2, (List.getElem?_set_ne (by decide)).trans h3, s9.trans (by rw [hs']; congr 1; grind)⟩
  ·rw [h2] at hd
   cases hd
   exact ⟨a0, a1, d + 1, a3, (List.getElem?_set_ne (by decide)).trans h0, (List.getElem?_set_ne (by decide)).trans h1, List.getElem?_set_self (by omega), (List.getElem?_set_ne (by decide)).trans h3, s9.trans (by rw [hs']; congr 1; grind)⟩
  ·rw [h3] at hd
   cases hd
   exact ⟨a0, a1, a2, d + 1, (List.getElem?_set_ne (by decide)).trans h0, (List.getElem?_set_ne (by decide)).trans h1, (List.getElem?_set_ne (by decide)).trans h2, List.getElem?_set_self (by omega), s9.trans (by rw [hs']; congr 1; grind)⟩
 ·intro b hb k hk
  obtain ⟨l', d', q1, q2, q3, q4⟩ := hb k hk
  by_cases e : r = k
  ·subst e
   rw [hl] at q1
   rw [hd] at q2
   cases q1
   cases q2
   refine ⟨l - 1, d + 1, List.getElem?_set_self (by omega), List.getElem?_set_self (by omega), ?_, by rw [← q4]; grind⟩
   have := i_hi l
   rw [i_sub (by omega) (by omega), z1]; omega
  ·exact ⟨l', d', (List.getElem?_set_ne e).trans q1, (List.getElem?_set_ne e).trans q2, q3, q4⟩
 ·intro _
  exact ⟨f1, f2, by show ((eS F).set 9 (c + 1)).length = 10; rw [List.length_set]; exact f3, by show ((eO F).set r (l - 1)).length = 4; rw [List.length_set]; exact f4, by show ((eD F).set r (d + 1)).length = 4; rw [List.length_set]; exact f5⟩
theorem copy_m {F : Fm} {o : Ob} (h : Sh F o) (fw : Fw F) {x : Int32} (x0 : 0 ≤ x.toInt) (x4 : x.toInt < 4) {M U : Nat} {P : List Int32} (R : All o M U P) (hM : M ≤ 32) (hU : U ≤ M) {ty s v l t : Int32} (hm : (Msg M P ty s v ∧ l.toInt + 1 = M ∧ t.toInt = U) ∨ ty = 3) : okP (F13 o x ty s v l t) (fun p => ∃ F', Sh F' p ∧ CFr F F' ∧ All p M U P) := by
 have z0 : (0 : Int32).toInt = 0 := rfl
 obtain ⟨f1, f2, f3, f4, f5⟩ := id fw
 unfold F13
 rw [h.O, h.D, h.S]
 obtain ⟨y, hy⟩ : ∃ y, (eO F)[x.toInt.toNat]? = some y := ⟨_, List.getElem?_eq_getElem (by omega)⟩
 obtain ⟨d, hd⟩ : ∃ d, (eD F)[x.toInt.toNat]? = some d := ⟨_, List.getElem?_eq_getElem (by omega)⟩
 obtain ⟨c, hc⟩ : ∃ c, (eS F)[9]? = some c := ⟨_, List.getElem?_eq_getElem (by omega)⟩
 rw [g0 x0 hy]
 simp only [Option.bind_some]
 refine okP.ite (fun c0 => ?_) (fun _ => ?_)
 ·rw [i_lt, z0] at c0
  rw [aset_at (n := x.toInt.toNat) (by omega) (by omega)]
  simp only [Option.bind_some]
  rw [g0 x0 hd]
  simp only [Option.bind_some]
  rw [aset_at (n := x.toInt.toNat) (by omega) (by omega)]
  simp only [Option.bind_some]
  rw [g1 (x := 9) (n := 9) rfl hc]
  simp only [Option.bind_some]
  rw [aset_at (j := 9) (n := 9) rfl (by omega)]
  simp only [Option.bind_some]
  obtain ⟨F', h', cf⟩ := drop_m h fw (r := x.toInt.toNat) (by omega) hy hd hc c0
  refine okP.some ⟨F', h', cf, R.of (fun r => Kp_of (by dsimp only [f_srcPayload, f_pend, f_queue, f_stats, f_state, f_timer, f_rxVal, f_rxNext, f_rxLead, f_rxTrail, f_lossLeft, f_dups, f_drops, f_delSeq, f_delVal, f_delLen, f_lostLog, f_lostLen, f_nakBuf, f_win, f_back, f_repair, f_period, f_nextSeq, f_qLen, f_nakLen, s_stats, s_drops, s_lossLeft]) r)⟩
 ·have Rx := R x.toInt.toNat (by omega)
  have fin : ∀ {f : Option Ob}, okP f (fun p => Sh F p ∧ RI p x.toInt.toNat M U P ∧ ∀ r, r ≠ x.toInt.toNat → Kp o p r) → okP (f.bind fun p => some p) (fun p => ∃ F', Sh F' p ∧ CFr F F' ∧ All p M U P) := by
   intro f hf
   apply okP.bind
   refine okP.mono hf ?_
   rintro p ⟨hp, rp, kp⟩
   exact okP.some ⟨F, hp, CFr.refl F, R.step rp kp⟩
  unfold J13_50
  rcases hm with ⟨⟨hty, sn, e1, e2, e3⟩ | hty, hl, ht⟩ | hty
  ·have dt := fin (data_m h x0 x4 Rx hM hU e1 e2 e3 hl ht)
   rcases hty with e | e
   ·rw [if_pos e]; exact dt
   ·rw [if_neg (by rw [e]; decide), if_pos e]; exact dt
  ·rw [if_neg (by rw [hty]; decide), if_neg (by rw [hty]; decide), if_pos hty]
   obtain ⟨N, L, T, g, q1, q2, q3, q4⟩ := Rx
   have := ltd_m h x0 x4 g q1 q2 q3 q4 q3 hM hU hl ht (f := fun p => (F14 p x l).bind fun a => (F15 a x t).bind fun b => (F16 b x).bind fun c => some c) (fun _ => rfl)
   refine okP.mono this ?_
   rintro p ⟨hp, rp, kp⟩
   exact ⟨F, hp, CFr.refl F, R.step rp kp⟩
  ·rw [if_neg (by rw [hty]; decide), if_neg (by rw [hty]; decide), if_neg (by rw [hty]; decide)]
   exact fin (ncf_m h x0 x4 Rx s)
theorem agg_m {F : Fm} {o : Ob} (h : Sh F o) (a b c : Int32) : okP (F12 o a b c) (fun p => Sh F p ∧ ∀ r, Kp o p r) := by
 have z0 : (0 : Int32).toInt = 0 := rfl
 have tail : ∀ {u : Ob}, Sh F u → (∀ r, Kp o u r) → okP (J12_20 u c) (fun p => Sh F p ∧ ∀ r, Kp o p r) := by
  intro u hu ku
  unfold J12_20
  apply okP.bind
  refine okP.mono (P := fun p => Sh F p ∧ ∀ r, Kp o p r) ?_ (fun p hp => okP.some hp)
  refine okP.loop (fun v => 0 ≤ v.1.toInt ∧ v.1.toInt ≤ 32 ∧ Sh F v.2 ∧ ∀ r, Kp o v.2 r) (fun v => (32 - v.1.toInt).toNat) ⟨by show (0 : Int) ≤ 0; decide, by show (0 : Int) ≤ 32; decide, hu, ku⟩ (by show (32 - (0 : Int)).toNat < 4000; decide) ?_
  rintro ⟨q, p⟩ ⟨q0, q1, hp, kp⟩
  simp only at q0 q1 hp kp
  unfold B12_23
  simp only
  refine okP.ite (fun _ => ?_) (fun _ => okP.some ⟨hp, kp⟩)
  refine okP.ite (fun c2 => ?_) (fun _ => okP.some ⟨hp, kp⟩)
  rw [i_lt, z32] at c2
  have l := Sh_l_pend hp
  have e1 : (q + 1).toInt = q.toInt + 1 := inc1 (by omega)
  apply okP.bind
  refine okP.aset q0 (by omega) ?_
  exact okP.some ⟨⟨by simp only; omega, by simp only; omega, Sh_pend hp (by rw [List.length_set]; exact l), fun r => (kp r).trans (Kp_of (by dsimp only [f_srcPayload, f_pend, f_queue, f_stats, f_state, f_timer, f_rxVal, f_rxNext, f_rxLead, f_rxTrail, f_lossLeft, f_dups, f_drops, f_delSeq, f_delVal, f_delLen, f_lostLog, f_lostLen, f_nakBuf, f_win, f_back, f_repair, f_period, f_nextSeq, f_qLen, f_nakLen, s_pend]) r)⟩, by simp only; omega⟩
 unfold F12
 refine okP.ite (fun _ => ?_) (fun _ => tail h (fun r => Kp.refl _ _))
 have l := Sh_l_pend h
 by_cases c1 : 0 ≤ b.toInt ∧ b.toInt < 32
 ·rw [vs (q := b.toInt.toNat) (by omega) (by omega)]
  simp only [Option.bind_some]
  rw [if_neg (by decide)]
  apply okP.bind
  refine okP.aset c1.1 (by omega) ?_
  exact tail (Sh_pend h (by rw [List.length_set]; exact l)) (fun r => Kp_of (by dsimp only [f_srcPayload, f_pend, f_queue, f_stats, f_state, f_timer, f_rxVal, f_rxNext, f_rxLead, f_rxTrail, f_lossLeft, f_dups, f_drops, f_delSeq, f_delVal, f_delLen, f_lostLog, f_lostLen, f_nakBuf, f_win, f_back, f_repair, f_period, f_nextSeq, f_qLen, f_nakLen, s_pend]) r)
 ·have e : F19 b = some 0 := by
   unfold F19
   by_cases a : b < 0
   ·rw [if_pos a]
   ·rw [if_neg a]
    rw [i_lt, z0] at a
    rw [if_neg (by rw [i_lt, z32]; omega)]
  rw [e]
  simp only [Option.bind_some, if_true]
  exact tail h (fun r => Kp.refl _ _)
def Fn (F : Fm) (M U : Nat) : Prop := Fw F ∧ (eM F).toInt = M ∧ M ≤ 32 ∧ (2 ≤ (eW F).toInt ∧ (eW F).toInt ≤ 16) ∧ U = M - (eW F).toInt.toNat
theorem CFr.fn {F G : Fm} (c : CFr F G) {M U : Nat} (h : Fn F M U) : Fn G M U := by
 obtain ⟨h1, h2, h3, h4, h5⟩ := h
 exact ⟨c.2.2.2.2 h1, by rw [c.M]; exact h2, h3, by rw [c.W]; exact h4, by rw [c.W]; exact h5⟩
theorem trl_m {F : Fm} {o : Ob} (h : Sh F o) {M U : Nat} (fn : Fn F M U) : ∃ t : Int32, F7 o = some t ∧ t.toInt = U := by
 obtain ⟨fw, hM, M32, hW, hU⟩ := fn
 have z0 : (0 : Int32).toInt = 0 := rfl
 have e : (eM F - eW F).toInt = M - (eW F).toInt := by rw [i_sub (by omega) (by omega), hM]
 unfold F7
 rw [h.M, h.W]
 by_cases c : eM F - eW F < 0
 ·rw [if_pos c]
  rw [i_lt, e, z0] at c
  exact ⟨0, rfl, by rw [z0, hU]; omega⟩
 ·rw [if_neg c]
  rw [i_lt, e, z0] at c
  exact ⟨_, rfl, by rw [e, hU]; omega⟩
theorem multi_m {F : Fm} {o : Ob} (h : Sh F o) {M U : Nat} (fn : Fn F M U) (R : All o M U (eP F)) {ty s v : Int32} (hm : Msg M (eP F) ty s v) : okP (F11 o ty s v) (fun p => ∃ F', Sh F' p ∧ CFr F F' ∧ All p M U (eP F)) := by
 obtain ⟨fw, hM, M32, hW, hU⟩ := id fn
 have z1 : (1 : Int32).toInt = 1 := rfl
 have z4 : (4 : Int32).toInt = 4 := rfl
 obtain ⟨t, ht, tU⟩ := trl_m h fn
 unfold F11
 have hl : F5 o = some (eM F - 1) := by unfold F5; rw [h.M]
 have lM : (eM F - 1).toInt + 1 = M := by rw [i_sub (by omega) (by omega), z1]; omega
 rw [hl, ht]
 simp only [Option.bind_some]
 apply okP.bind
 refine okP.mono (agg_m h ty s t) ?_
 rintro p ⟨hp, kp⟩
 apply okP.bind
 refine okP.mono (P := fun p => ∃ F', Sh F' p ∧ CFr F F' ∧ All p M U (eP F)) ?_ (fun p hp => okP.some hp)
 refine okP.loop (fun v => 0 ≤ v.1.toInt ∧ v.1.toInt ≤ 4 ∧ ∃ F', Sh F' v.2 ∧ CFr F F' ∧ All v.2 M U (eP F)) (fun v => (4 - v.1.toInt).toNat) ⟨by show (0 : Int) ≤ 0; decide, by show (0 : Int) ≤ 4; decide, F, hp, CFr.refl F, R.of kp⟩ (by show (4 - (0 : Int)).toNat < 4000; decide) ?_
 rintro ⟨x, u⟩ ⟨x0, x1, F', hu, cf, Ru⟩
 simp only at x0 x1 hu Ru
 unfold B11_23
 simp only
 refine okP.ite (fun c => ?_) (fun _ => okP.some ⟨F', hu, cf, Ru⟩)
 rw [i_lt, z4] at c
 have e1 : (x + 1).toInt = x.toInt + 1 := inc1 (by omega)
 apply okP.bind
 refine okP.mono (copy_m hu (cf.2.2.2.2 fw) x0 c Ru M32 (by omega) (Or.inl ⟨hm, lM, tU⟩)) ?_
 rintro u2 ⟨F2, hu2, cf2, Ru2⟩
 exact okP.some ⟨⟨by simp only; omega, by simp only; omega, F2, hu2, cf.trans cf2, Ru2⟩, by simp only; omega⟩
theorem mncf_m {F : Fm} {o : Ob} (h : Sh F o) {M U : Nat} (fn : Fn F M U) (R : All o M U (eP F)) (s : Int32) : okP (F34 o s) (fun p => ∃ F', Sh F' p ∧ CFr F F' ∧ All p M U (eP F)) := by
 obtain ⟨fw, hM, M32, hW, hU⟩ := id fn
 have z4 : (4 : Int32).toInt = 4 := rfl
 unfold F34
 apply okP.bind
 refine okP.mono (P := fun p => ∃ F', Sh F' p ∧ CFr F F' ∧ All p M U (eP F)) ?_ (fun p hp => okP.some hp)
 refine okP.loop (fun v => 0 ≤ v.1.toInt ∧ v.1.toInt ≤ 4 ∧ ∃ F', Sh F' v.2 ∧ CFr F F' ∧ All v.2 M U (eP F)) (fun v => (4 - v.1.toInt).toNat) ⟨by show (0 : Int) ≤ 0; decide, by show (0 : Int) ≤ 4; decide, F, h, CFr.refl F, R⟩ (by show (4 - (0 : Int)).toNat < 4000; decide) ?_
 rintro ⟨x, u⟩ ⟨x0, x1, F', hu, cf, Ru⟩
 simp only at x0 x1 hu Ru
 unfold B34_2
 simp only
 refine okP.ite (fun c => ?_) (fun _ => okP.some ⟨F', hu, cf, Ru⟩)
 rw [i_lt, z4] at c
 have e1 : (x + 1).toInt = x.toInt + 1 := inc1 (by omega)
 apply okP.bind
 refine okP.mono (copy_m hu (cf.2.2.2.2 fw) x0 c Ru M32 (by omega) (Or.inr rfl)) ?_
 rintro u2 ⟨F2, hu2, cf2, Ru2⟩
 exact okP.some ⟨⟨by simp only; omega, by simp only; omega, F2, hu2, cf.trans cf2, Ru2⟩, by simp only; omega⟩
def SV (F : Fm) (k : Nat) : Int32 := ((eS F)[k]?).getD 0
def wS (F : Fm) (S : List Int32) : Fm := (eP F, eM F, eW F, eQ F, eL F, S, eO F, eD F, eT F)
theorem Sh.wS {F : Fm} {o : Ob} (h : Sh F o) (S : List Int32) : Sh (wS F S) (s_stats o S) := by
 have e1 := h.P
 have e2 := h.M
 have e3 := h.W
 have e4 := h.Q
 have e5 := h.L
 have e6 := h.T
 have e7 := h.O
 have e8 := h.D
 dsimp only [Sh, f_srcPayload, f_pend, f_queue, f_stats, f_state, f_timer, f_rxVal, f_rxNext, f_rxLead, f_rxTrail, f_lossLeft, f_dups, f_drops, f_delSeq, f_delVal, f_delLen, f_lostLog, f_lostLen, f_nakBuf, f_win, f_back, f_repair, f_period, f_nextSeq, f_qLen, f_nakLen, s_stats] at h e1 e2 e3 e4 e5 e6 e7 e8 ⊢
 obtain ⟨y1, y2, y3, y4, y5, y6, y7, y8, y9, y10, y11, y12, y13, y14, y15⟩ := h
 exact ⟨y1, y2, y3, y4, y5, y6, y7, y8, y9, y10, y11, y12, y13, y14, by rw [e1, e2, e3, e4, e5, e6, e7, e8]; rfl⟩
def SR (F F' : Fm) (X : Nat → Int32) : Prop := (eP F', eM F', eW F', eQ F', eL F', eT F') = (eP F, eM F, eW F, eQ F, eL F, eT F) ∧ (∀ k, k < 9 → SV F' k = SV F k + X k) ∧ (DS F → DS F') ∧ (∀ b, LB F b → LB F' b) ∧ (Fw F → Fw F')
def x0' : Nat → Int32 := fun _ => 0
def x1' (j : Nat) : Nat → Int32 := fun k => if j = k then 1 else 0
theorem CFr.sr {F F' : Fm} (c : CFr F F') : SR F F' x0' := ⟨c.1, fun k hk => by unfold SV x0'; rw [c.2.1 k hk, Int32.add_zero], c.2.2⟩
theorem SR.trans {F G H : Fm} {X Y : Nat → Int32} (a : SR F G X) (b : SR G H Y) : SR F H (fun k => X k + Y k) := ⟨b.1.trans a.1, fun k hk => by rw [b.2.1 k hk, a.2.1 k hk, Int32.add_assoc], fun x => b.2.2.1 (a.2.2.1 x), fun c x => b.2.2.2.1 c (a.2.2.2.1 c x), fun x => b.2.2.2.2 (a.2.2.2.2 x)⟩
theorem SR.P {F G : Fm} {X : Nat → Int32} (a : SR F G X) : eP G = eP F := by have := a.1; simp only [Prod.mk.injEq] at this; exact this.1
theorem SR.M {F G : Fm} {X : Nat → Int32} (a : SR F G X) : eM G = eM F := by have := a.1; simp only [Prod.mk.injEq] at this; exact this.2.1
theorem SR.W {F G : Fm} {X : Nat → Int32} (a : SR F G X) : eW G = eW F := by have := a.1; simp only [Prod.mk.injEq] at this; exact this.2.2.1
theorem SR.Q {F G : Fm} {X : Nat → Int32} (a : SR F G X) : eQ G = eQ F := by have := a.1; simp only [Prod.mk.injEq] at this; exact this.2.2.2.1
theorem SR.L {F G : Fm} {X : Nat → Int32} (a : SR F G X) : eL G = eL F := by have := a.1; simp only [Prod.mk.injEq] at this; exact this.2.2.2.2.1
theorem SR.T {F G : Fm} {X : Nat → Int32} (a : SR F G X) : eT G = eT F := by have := a.1; simp only [Prod.mk.injEq] at this; exact this.2.2.2.2.2
theorem SR.fn {F G : Fm} {X : Nat → Int32} (c : SR F G X) {M U : Nat} (h : Fn F M U) : Fn G M U := by
 obtain ⟨h1, h2, h3, h4, h5⟩ := h
 exact ⟨c.2.2.2.2 h1, by rw [c.M]; exact h2, h3, by rw [c.W]; exact h4, by rw [c.W]; exact h5⟩
theorem wS_sr {F : Fm} (fw : Fw F) {j : Nat} (hj : j < 9) {y : Int32} (hy : (eS F)[j]? = some y) : SR F (wS F ((eS F).set j (y + 1))) (x1' j) := by
 obtain ⟨f1, f2, f3, f4, f5⟩ := id fw
 refine ⟨rfl, fun k hk => ?_, ?_, fun b hb => hb, fun _ => ⟨f1, f2, by show ((eS F).set j (y + 1)).length = 10; rw [List.length_set]; exact f3, f4, f5⟩⟩
 ·unfold SV x1'
  show (((eS F).set j (y + 1))[k]?).getD 0 = _
  by_cases e : j = k
  ·subst e
   rw [List.getElem?_set_self (by omega), hy, if_pos rfl]; rfl
  ·rw [List.getElem?_set_ne e, if_neg e, Int32.add_zero]
 ·rintro ⟨a, b, c, d, h1, h2, h3, h4, h5⟩
  exact ⟨a, b, c, d, h1, h2, h3, h4, by show ((eS F).set j (y + 1))[9]? = _; rw [List.getElem?_set_ne (by omega)]; exact h5⟩
theorem bump {F : Fm} {o : Ob} (h : Sh F o) (fw : Fw F) {j : Int32} {n : Nat} (hj : j.toInt = n) (hn : n < 9) {β : Type} {f : List Int32 → Option β} {Q : β → Prop} (hf : ∀ S, Sh (wS F S) (s_stats o S) → SR F (wS F S) (x1' n) → (∀ r, Kp o (s_stats o S) r) → okP (f S) Q) : okP ((aget (f_stats o) j).bind fun y => (aset (f_stats o) j (y + 1)).bind f) Q := by
 obtain ⟨f1, f2, f3, f4, f5⟩ := id fw
 rw [h.S]
 obtain ⟨y, hy⟩ : ∃ y, (eS F)[n]? = some y := ⟨_, List.getElem?_eq_getElem (by omega)⟩
 rw [g1 hj hy]
 simp only [Option.bind_some]
 rw [aset_at hj (by omega)]
 simp only [Option.bind_some]
 exact hf _ (h.wS _) (wS_sr fw hn hy) (fun r => Kp_of (by dsimp only [f_srcPayload, f_pend, f_queue, f_stats, f_state, f_timer, f_rxVal, f_rxNext, f_rxLead, f_rxTrail, f_lossLeft, f_dups, f_drops, f_delSeq, f_delVal, f_delLen, f_lostLog, f_lostLen, f_nakBuf, f_win, f_back, f_repair, f_period, f_nextSeq, f_qLen, f_nakLen, s_stats]) r)
theorem multi_sr {F : Fm} {o : Ob} (h : Sh F o) {M U : Nat} (fn : Fn F M U) (R : All o M U (eP F)) {ty s v : Int32} (hm : Msg M (eP F) ty s v) : okP (F11 o ty s v) (fun p => ∃ F', Sh F' p ∧ SR F F' x0' ∧ All p M U (eP F)) := by
 refine okP.mono (multi_m h fn R hm) ?_
 rintro p ⟨F', a, b, c⟩
 exact ⟨F', a, b.sr, c⟩
theorem spm_m {F : Fm} {o : Ob} (h : Sh F o) {M U : Nat} (fn : Fn F M U) (R : All o M U (eP F)) : okP (F10 o) (fun p => ∃ F', Sh F' p ∧ SR F F' (fun k => x1' 3 k + x0' k) ∧ All p M U (eP F)) := by
 unfold F10
 refine bump h fn.1 (n := 3) rfl (by decide) (fun S hS sr kS => ?_)
 apply okP.bind
 refine okP.mono (multi_sr hS (sr.fn fn) (R.of kS) (ty := 2) (s := 0) (v := 0) (Or.inr rfl)) ?_
 rintro p ⟨F', a, b, c⟩
 exact okP.some ⟨F', a, sr.trans b, c⟩
theorem send_m {F : Fm} {o : Ob} (h : Sh F o) {M U : Nat} (fn : Fn F M U) (R : All o M U (eP F)) (v : Int32) : okP (F17 o v) (fun z => (z = (-1, o) ∧ ¬ ((0 ≤ v.toInt ∧ v.toInt ≤ 255) ∧ M < 32)) ∨ ((0 ≤ v.toInt ∧ v.toInt ≤ 255) ∧ M < 32 ∧ z.1 = eM F ∧ ∃ F', Sh F' z.2 ∧ SR ((eP F).set M v, eM F + 1, eW F, eQ F, eL F, eS F, eO F, eD F, eT F) F' (fun k => x1' 1 k + x0' k) ∧ Fn F' (M + 1) (M + 1 - (eW F).toInt.toNat) ∧ All z.2 (M + 1) (M + 1 - (eW F).toInt.toNat) ((eP F).set M v))) := by
 have z0 : (0 : Int32).toInt = 0 := rfl
 have z255 : (255 : Int32).toInt = 255 := rfl
 obtain ⟨fw, hM, M32, hW, hU⟩ := id fn
 obtain ⟨f1, f2, f3, f4, f5⟩ := id fw
 unfold F17
 refine okP.ite (fun c => okP.some (Or.inl ⟨rfl, fun q => ?_⟩)) (fun c => ?_)
 ·rw [i_lt, z0] at c; omega
 rw [i_lt, z0] at c
 refine okP.ite (fun c2 => okP.some (Or.inl ⟨rfl, fun q => ?_⟩)) (fun c2 => ?_)
 ·rw [i_lt, z255] at c2; omega
 rw [i_lt, z255] at c2
 rw [h.M]
 refine okP.ite (fun c3 => ?_) (fun c3 => okP.some (Or.inl ⟨rfl, fun q => ?_⟩))
 ·rw [i_lt, z32] at c3
  have m1 : (eM F + 1).toInt = M + 1 := by rw [inc1 (by omega)]; omega
  rw [h.P, aset_at (n := M) hM (by omega)]
  simp only [Option.bind_some]
  obtain ⟨F1, hF1⟩ : ∃ F1 : Fm, F1 = ((eP F).set M v, eM F + 1, eW F, eQ F, eL F, eS F, eO F, eD F, eT F) := ⟨_, rfl⟩
  rw [← hF1]
  have h1 : Sh F1 (s_nextSeq (s_srcPayload o ((eP F).set M v)) (eM F + 1)) := by
   have e3 := h.W
   have e4 := h.Q
   have e5 := h.L
   have e6 := h.T
   have e7 := h.O
   have e8 := h.D
   have e9 := h.S
   dsimp only [Sh, f_srcPayload, f_pend, f_queue, f_stats, f_state, f_timer, f_rxVal, f_rxNext, f_rxLead, f_rxTrail, f_lossLeft, f_dups, f_drops, f_delSeq, f_delVal, f_delLen, f_lostLog, f_lostLen, f_nakBuf, f_win, f_back, f_repair, f_period, f_nextSeq, f_qLen, f_nakLen, s_nextSeq, s_srcPayload] at h e3 e4 e5 e6 e7 e8 e9 ⊢
   obtain ⟨y1, y2, y3, y4, y5, y6, y7, y8, y9, y10, y11, y12, y13, y14, y15⟩ := h
   exact ⟨y1, y2, y3, y4, y5, y6, y7, y8, y9, y10, y11, y12, y13, y14, by rw [e3, e4, e5, e6, e7, e8, e9, hF1]⟩
  have fn1 : Fn F1 (M + 1) (M + 1 - (eW F).toInt.toNat) := by
   rw [hF1]
   exact ⟨⟨by show ((eP F).set M v).length = 32; rw [List.length_set]; exact f1, f2, f3, f4, f5⟩, m1, by omega, hW, rfl⟩
  have P1 : eP F1 = (eP F).set M v := by rw [hF1]; rfl
  have R1 : All (s_nextSeq (s_srcPayload o ((eP F).set M v)) (eM F + 1)) (M + 1) (M + 1 - (eW F).toInt.toNat) (eP F1) := by
   intro r hr
   refine ((R r hr).keep (Kp_of (by dsimp only [f_srcPayload, f_pend, f_queue, f_stats, f_state, f_timer, f_rxVal, f_rxNext, f_rxLead, f_rxTrail, f_lossLeft, f_dups, f_drops, f_delSeq, f_delVal, f_delLen, f_lostLog, f_lostLen, f_nakBuf, f_win, f_back, f_repair, f_period, f_nextSeq, f_qLen, f_nakLen, s_nextSeq, s_srcPayload]) r)).mono (by omega) (by omega) (fun q hq => ?_)
   rw [P1, List.getElem?_set_ne (by omega)]
  have st1 : f_stats (s_nextSeq (s_srcPayload o ((eP F).set M v)) (eM F + 1)) = f_stats o := by dsimp only [f_srcPayload, f_pend, f_queue, f_stats, f_state, f_timer, f_rxVal, f_rxNext, f_rxLead, f_rxTrail, f_lossLeft, f_dups, f_drops, f_delSeq, f_delVal, f_delLen, f_lostLog, f_lostLen, f_nakBuf, f_win, f_back, f_repair, f_period, f_nextSeq, f_qLen, f_nakLen, s_nextSeq, s_srcPayload]
  have bp := bump h1 fn1.1 (j := 1) (n := 1) rfl (by decide) (f := fun S => (F11 (s_stats (s_nextSeq (s_srcPayload o ((eP F).set M v)) (eM F + 1)) S) 0 (eM F) v).bind fun r => some (eM F, r)) (Q := fun z => z.1 = eM F ∧ ∃ F', Sh F' z.2 ∧ SR F1 F' (fun k => x1' 1 k + x0' k) ∧ Fn F' (M + 1) (M + 1 - (eW F).toInt.toNat) ∧ All z.2 (M + 1) (M + 1 - (eW F).toInt.toNat) (eP F1)) (fun S hS sr kS => ?_)
  ·rw [st1] at bp
   refine okP.mono bp ?_
   rintro z ⟨q1, F', q2, q3, q4, q5⟩
   rw [P1] at q5
   exact Or.inr ⟨⟨by omega, by omega⟩, by omega, q1, F', q2, q3, q4, q5⟩
  ·apply okP.bind
   refine okP.mono (multi_sr hS (sr.fn fn1) (R1.of kS) (ty := 0) (s := eM F) (v := v) (Or.inl ⟨Or.inl rfl, M, hM, by omega, ?_⟩)) ?_
   ·show (eP F1)[M]? = some v
    rw [P1, List.getElem?_set_self (by omega)]
   ·rintro p ⟨F', a, b, c'⟩
    exact okP.some ⟨rfl, F', a, sr.trans b, b.fn (sr.fn fn1), c'⟩
 ·rw [i_lt, z32] at c3; omega
theorem clampI {a b c : Int32} (h : b.toInt ≤ c.toInt) : ∃ r : Int32, F3 a b c = some r ∧ b.toInt ≤ r.toInt ∧ r.toInt ≤ c.toInt ∧ r = (if a < b then b else if c < a then c else a) := by
 unfold F3
 by_cases q : a < b
 ·rw [if_pos q, if_pos q]
  exact ⟨b, rfl, by omega, h, rfl⟩
 ·rw [if_neg q, if_neg q]
  rw [i_lt] at q
  by_cases p : c < a
  ·rw [if_pos p, if_pos p]
   exact ⟨c, rfl, h, by omega, rfl⟩
  ·rw [if_neg p, if_neg p]
   rw [i_lt] at p
   exact ⟨a, rfl, by omega, by omega, rfl⟩
theorem vr {x : Int32} : F9 x = some (if 0 ≤ x.toInt ∧ x.toInt < 4 then 1 else 0) := by
 have z0 : (0 : Int32).toInt = 0 := rfl
 have z4 : (4 : Int32).toInt = 4 := rfl
 unfold F9
 by_cases a : x < 0
 ·rw [if_pos a, if_neg (by rw [i_lt, z0] at a; omega)]
 rw [if_neg a]
 rw [i_lt, z0] at a
 by_cases b : x < 4
 ·rw [if_pos b, if_pos (by rw [i_lt, z4] at b; omega)]
 ·rw [if_neg b, if_neg (by rw [i_lt, z4] at b; omega)]
theorem loss_m {F : Fm} {o : Ob} (h : Sh F o) {M U : Nat} (fn : Fn F M U) (R : All o M U (eP F)) (x k : Int32) : okP (F31 o x k) (fun z => if 0 ≤ x.toInt ∧ x.toInt < 4 then z.1 = 1 ∧ ∃ kk : Int32, kk = (if k < 0 then 0 else if 255 < k then 255 else k) ∧ (0 ≤ kk.toInt ∧ kk.toInt ≤ 255) ∧ Sh (eP F, eM F, eW F, eQ F, eL F, eS F, (eO F).set x.toInt.toNat kk, eD F, eT F) z.2 ∧ Fn (eP F, eM F, eW F, eQ F, eL F, eS F, (eO F).set x.toInt.toNat kk, eD F, eT F) M U ∧ All z.2 M U (eP F) else z = (0, o)) := by
 obtain ⟨fw, hM, M32, hW, hU⟩ := id fn
 obtain ⟨f1, f2, f3, f4, f5⟩ := id fw
 unfold F31
 rw [vr]
 simp only [Option.bind_some]
 by_cases c : 0 ≤ x.toInt ∧ x.toInt < 4
 ·rw [if_pos c, if_neg (by decide)]
  obtain ⟨r, hr, r1, r2, r3⟩ := clampI (a := k) (b := 0) (c := 255) (by decide)
  rw [hr]
  simp only [Option.bind_some]
  rw [h.O, aset_at (n := x.toInt.toNat) (by omega) (by omega)]
  simp only [Option.bind_some]
  refine okP.some ?_
  rw [if_pos c]
  refine ⟨rfl, r, r3, ⟨r1, r2⟩, ?_, ⟨⟨f1, f2, f3, by show ((eO F).set x.toInt.toNat r).length = 4; rw [List.length_set]; exact f4, f5⟩, hM, M32, hW, hU⟩, R.of (fun r' => Kp_of (by dsimp only [f_srcPayload, f_pend, f_queue, f_stats, f_state, f_timer, f_rxVal, f_rxNext, f_rxLead, f_rxTrail, f_lossLeft, f_dups, f_drops, f_delSeq, f_delVal, f_delLen, f_lostLog, f_lostLen, f_nakBuf, f_win, f_back, f_repair, f_period, f_nextSeq, f_qLen, f_nakLen, s_lossLeft]) r')⟩
  have e1 := h.P
  have e2 := h.M
  have e3 := h.W
  have e4 := h.Q
  have e5 := h.L
  have e6 := h.T
  have e8 := h.D
  have e9 := h.S
  dsimp only [Sh, f_srcPayload, f_pend, f_queue, f_stats, f_state, f_timer, f_rxVal, f_rxNext, f_rxLead, f_rxTrail, f_lossLeft, f_dups, f_drops, f_delSeq, f_delVal, f_delLen, f_lostLog, f_lostLen, f_nakBuf, f_win, f_back, f_repair, f_period, f_nextSeq, f_qLen, f_nakLen, s_lossLeft] at h e1 e2 e3 e4 e5 e6 e8 e9 ⊢
  obtain ⟨y1, y2, y3, y4, y5, y6, y7, y8, y9, y10, y11, y12, y13, y14, y15⟩ := h
  exact ⟨y1, y2, y3, y4, y5, y6, y7, y8, y9, y10, y11, y12, y13, y14, by rw [e1, e2, e3, e4, e5, e6, e8, e9]⟩
 ·rw [if_neg c, if_pos rfl]
  exact okP.some (by rw [if_neg c])
def wL (F : Fm) (l : Int32) : Fm := (eP F, eM F, eW F, eQ F, l, eS F, eO F, eD F, eT F)
theorem Sh.wL {F : Fm} {o : Ob} (h : Sh F o) (l : Int32) : Sh (wL F l) (s_qLen o l) := by
 have e1 := h.P
 have e2 := h.M
 have e3 := h.W
 have e4 := h.Q
 have e6 := h.T
 have e7 := h.O
 have e8 := h.D
 have e9 := h.S
 dsimp only [Sh, f_srcPayload, f_pend, f_queue, f_stats, f_state, f_timer, f_rxVal, f_rxNext, f_rxLead, f_rxTrail, f_lossLeft, f_dups, f_drops, f_delSeq, f_delVal, f_delLen, f_lostLog, f_lostLen, f_nakBuf, f_win, f_back, f_repair, f_period, f_nextSeq, f_qLen, f_nakLen, s_qLen] at h e1 e2 e3 e4 e6 e7 e8 e9 ⊢
 obtain ⟨y1, y2, y3, y4, y5, y6, y7, y8, y9, y10, y11, y12, y13, y14, y15⟩ := h
 exact ⟨y1, y2, y3, y4, y5, y6, y7, y8, y9, y10, y11, y12, y13, y14, by rw [e1, e2, e3, e4, e6, e7, e8, e9]; rfl⟩
def QI (F : Fm) (M : Nat) : Prop := (0 ≤ (eL F).toInt ∧ (eL F).toInt ≤ 64) ∧ ∀ k : Nat, k < (eL F).toInt.toNat → ∃ s : Int32, (eQ F)[k]? = some s ∧ 0 ≤ s.toInt ∧ s.toInt < M
def Sum23 (X : Nat → Int32) (n : Int32) : Prop := X 2 + X 3 = n ∧ ∀ k, k < 9 → k ≠ 2 → k ≠ 3 → X k = 0
theorem serve_m {F : Fm} {o : Ob} (h : Sh F o) {M U : Nat} (fn : Fn F M U) (R : All o M U (eP F)) (qi : QI F M) : okP (F26 o) (fun p => ∃ F' X, Sh (wL F' 0) p ∧ SR F F' X ∧ Sum23 X (eL F) ∧ All p M U (eP F)) := by
 have z0 : (0 : Int32).toInt = 0 := rfl
 have z64 : (64 : Int32).toInt = 64 := rfl
 obtain ⟨fw, hM, M32, hW, hU⟩ := id fn
 obtain ⟨f1, f2, f3, f4, f5⟩ := id fw
 obtain ⟨ql, hq⟩ := qi
 unfold F26
 obtain ⟨t, ht, tU⟩ := trl_m h fn
 rw [ht]
 simp only [Option.bind_some]
 apply okP.bind
 refine okP.mono (P := fun p => ∃ F' X, Sh (wL F' 0) p ∧ SR F F' X ∧ Sum23 X (eL F) ∧ All p M U (eP F)) ?_ (fun p hp => okP.some hp)
 refine okP.loop (fun v => 0 ≤ v.1.toInt ∧ v.1.toInt ≤ (eL F).toInt ∧ ∃ F' X, Sh F' v.2 ∧ SR F F' X ∧ Sum23 X v.1 ∧ All v.2 M U (eP F)) (fun v => (64 - v.1.toInt).toNat) ⟨by show (0 : Int) ≤ 0; decide, ql.1, F, x0', h, (CFr.refl F).sr, ⟨rfl, fun _ _ _ _ => rfl⟩, R⟩ (by show (64 - (0 : Int)).toNat < 4000; decide) ?_
 rintro ⟨k, p⟩ ⟨k0, k1, F', X, hp, sr, sm, Rp⟩
 simp only at k0 k1 hp sm Rp
 have fn' := sr.fn fn
 have k1' : (k + 1).toInt = k.toInt + 1 := inc1 (by omega)
 have done : ¬ k.toInt < (eL F).toInt → ∃ F' X, Sh (wL F' 0) (s_qLen p 0) ∧ SR F F' X ∧ Sum23 X (eL F) ∧ All (s_qLen p 0) M U (eP F) := by
  intro c
  have : k = eL F := by rw [i_eq]; omega
  rw [this] at sm
  exact ⟨F', X, hp.wL 0, sr, sm, Rp.of (fun r => Kp_of (by dsimp only [f_srcPayload, f_pend, f_queue, f_stats, f_state, f_timer, f_rxVal, f_rxNext, f_rxLead, f_rxTrail, f_lossLeft, f_dups, f_drops, f_delSeq, f_delVal, f_delLen, f_lostLog, f_lostLen, f_nakBuf, f_win, f_back, f_repair, f_period, f_nextSeq, f_qLen, f_nakLen, s_qLen]) r)⟩
 unfold B26_7
 simp only
 rw [hp.L, sr.L]
 unfold J26_96
 refine okP.ite (fun c => ?_) (fun c => okP.some (done (by rw [i_lt] at c; exact c)))
 rw [i_lt] at c
 rw [if_pos (by rw [i_lt, z64]; omega), hp.Q, sr.Q]
 obtain ⟨s, hs, s0, sM⟩ := hq k.toInt.toNat (by omega)
 rw [g0 k0 hs]
 simp only [Option.bind_some]
 clear done
 have more : ∀ {p2 : Ob} {F2 : Fm} {j : Nat}, (j = 2 ∨ j = 3) → Sh F2 p2 → SR F' F2 (fun i => x1' j i + x0' i) → All p2 M U (eP F) → ∃ F' X, Sh F' p2 ∧ SR F F' X ∧ Sum23 X (k + 1) ∧ All p2 M U (eP F) := by
  intro p2 F2 j hj a b c'
  refine ⟨F2, _, a, sr.trans b, ⟨?_, fun i hi i2 i3 => ?_⟩, c'⟩
  ·unfold x1' x0'
   rw [← sm.1]
   rcases hj with e | e <;> subst e
   ·simp only [if_true, if_neg (show ¬ (2 : Nat) = 3 by decide)]
    grind
   ·simp only [if_true, if_neg (show ¬ (3 : Nat) = 2 by decide)]
    grind
  ·simp only
   unfold x1' x0'
   rw [sm.2 i hi i2 i3]
   rcases hj with e | e <;> subst e
   ·rw [if_neg (fun e => i2 e.symm)]; rfl
   ·rw [if_neg (fun e => i3 e.symm)]; rfl
 have RP : All p M U (eP F') := by rw [sr.P]; exact Rp
 refine okP.ite (fun _ => ?_) (fun _ => ?_)
 ·refine bump hp fn'.1 (n := 3) rfl (by decide) (fun S hS sS kS => ?_)
  apply okP.bind
  refine okP.mono (multi_sr hS (sS.fn fn') (RP.of kS) (ty := 2) (s := 0) (v := 0) (Or.inr rfl)) ?_
  rintro p2 ⟨F2, a, b, c'⟩
  unfold J26_90
  have c2 : All p2 M U (eP F) := by rw [← sr.P]; exact c'
  exact okP.some ⟨⟨by simp only; omega, by simp only; omega, more (Or.inr rfl) a (sS.trans b) c2⟩, by simp only; omega⟩
 ·rw [vs (q := s.toInt.toNat) (by omega) (by omega)]
  simp only [Option.bind_some]
  rw [if_neg (by decide), hp.P, sr.P]
  obtain ⟨v, hv⟩ : ∃ v, (eP F)[s.toInt.toNat]? = some v := ⟨_, List.getElem?_eq_getElem (by omega)⟩
  rw [g0 s0 hv]
  simp only [Option.bind_some]
  unfold J26_52
  refine bump hp fn'.1 (n := 2) rfl (by decide) (fun S hS sS kS => ?_)
  apply okP.bind
  refine okP.mono (multi_sr hS (sS.fn fn') (RP.of kS) (ty := 1) (s := s) (v := v) (Or.inl ⟨Or.inr rfl, s.toInt.toNat, by omega, by omega, ?_⟩)) ?_
  ·show (eP F')[s.toInt.toNat]? = some v
   rw [sr.P]; exact hv
  rintro p2 ⟨F2, a, b, c'⟩
  unfold J26_90
  have c2 : All p2 M U (eP F) := by rw [← sr.P]; exact c'
  exact okP.some ⟨⟨by simp only; omega, by simp only; omega, more (Or.inl rfl) a (sS.trans b) c2⟩, by simp only; omega⟩
def NB (o : Ob) (M : Nat) : Prop := ∀ k : Nat, k < (f_nakLen o).toInt.toNat → ∃ y : Int32, (f_nakBuf o)[k]? = some y ∧ 0 ≤ y.toInt ∧ y.toInt.toNat % 32 < M
theorem Sh_nl {F : Fm} {o : Ob} (h : Sh F o) (x : Int32) : Sh F (s_nakLen o x) := by
 dsimp only [Sh, f_srcPayload, f_pend, f_queue, f_stats, f_state, f_timer, f_rxVal, f_rxNext, f_rxLead, f_rxTrail, f_lossLeft, f_dups, f_drops, f_delSeq, f_delVal, f_delLen, f_lostLog, f_lostLen, f_nakBuf, f_win, f_back, f_repair, f_period, f_nextSeq, f_qLen, f_nakLen, s_nakLen] at h ⊢
 exact h
theorem step_m {F : Fm} {o : Ob} (h : Sh F o) {M U : Nat} (fn : Fn F M U) (R : All o M U (eP F)) {x : Int32} (x0 : 0 ≤ x.toInt) (x4 : x.toInt < 4) {s : Int32} (s0 : 0 ≤ s.toInt) (s1 : s.toInt < 32) (nb : NB o M) (n0 : 0 ≤ (f_nakLen o).toInt) (n1 : (f_nakLen o).toInt < 128) : okP (F28 o x s) (fun p => ∃ F' d, (d = 0 ∨ d = 1) ∧ Sh F' p ∧ SR F F' (fun k => if k = 4 then d else 0) ∧ All p M U (eP F) ∧ NB p M ∧ f_nakLen p = f_nakLen o + d) := by
 have z1 : (1 : Int32).toInt = 1 := rfl
 have z128 : (128 : Int32).toInt = 128 := rfl
 have l1 := Sh_l_state h
 have l2 := Sh_l_timer h
 have l3 := Sh_l_nakBuf h
 have hs : s.toInt = (s.toInt.toNat : Nat) := by omega
 have e := r32 x0 x4 hs (by omega)
 have same : SR F F (fun k => if k = 4 then (0 : Int32) else 0) := ⟨rfl, fun k _ => by simp, id, fun _ => id, id⟩
 unfold F28
 obtain ⟨w, hw⟩ : ∃ w, (f_state o)[x.toInt.toNat * 32 + s.toInt.toNat]? = some w := ⟨_, List.getElem?_eq_getElem (by omega)⟩
 rw [g1 e hw]
 simp only [Option.bind_some]
 have iw : F29 w = some (if w = 1 ∨ w = 2 ∨ w = 3 then 1 else 0) := by
  unfold F29
  by_cases c1 : w = 1
  ·rw [if_pos c1, if_pos (Or.inl c1)]
  rw [if_neg c1]
  by_cases c2 : w = 2
  ·rw [if_pos c2, if_pos (Or.inr (Or.inl c2))]
  rw [if_neg c2]
  by_cases c3 : w = 3
  ·rw [if_pos c3, if_pos (Or.inr (Or.inr c3))]
  rw [if_neg c3, if_neg (fun q => q.elim c1 (fun q => q.elim c2 c3))]
 rw [iw]
 simp only [Option.bind_some]
 by_cases w1 : w = 1 ∨ w = 2 ∨ w = 3
 ·rw [if_pos w1, if_neg (by decide)]
  obtain ⟨tv, htv⟩ : ∃ tv, (f_timer o)[x.toInt.toNat * 32 + s.toInt.toNat]? = some tv := ⟨_, List.getElem?_eq_getElem (by omega)⟩
  rw [g1 e htv]
  simp only [Option.bind_some]
  rw [aset_at e (by omega)]
  simp only [Option.bind_some]
  have tg : aget ((f_timer o).set (x.toInt.toNat * 32 + s.toInt.toNat) (tv - 1)) (x * 32 + s) = some (tv - 1) := g1 e (List.getElem?_set_self (by omega))
  rw [tg]
  simp only [Option.bind_some]
  refine okP.ite (fun _ => ?_) (fun _ => ?_)
  ·refine okP.ite (fun we => ?_) (fun we => ?_)
   ·rw [aset_at e (by omega)]
    simp only [Option.bind_some]
    rw [aset_at e (by rw [List.length_set]; omega)]
    simp only [Option.bind_some]
    rw [if_pos (by rw [i_lt, z128]; exact n1), aset_at (n := (f_nakLen o).toInt.toNat) (by omega) (by omega)]
    simp only [Option.bind_some]
    obtain ⟨tm, htm⟩ : ∃ tm, tm = ((f_timer o).set (x.toInt.toNat * 32 + s.toInt.toNat) (tv - 1)).set (x.toInt.toNat * 32 + s.toInt.toNat) (f_repair o) := ⟨_, rfl⟩
    have ltm : tm.length = 128 := by rw [htm]; simp only [List.length_set]; exact l2
    rw [← htm]
    clear htm
    have h2 : Sh F (s_nakLen (s_nakBuf (s_timer (s_state o ((f_state o).set (x.toInt.toNat * 32 + s.toInt.toNat) 2)) tm) ((f_nakBuf o).set (f_nakLen o).toInt.toNat (x * 32 + s))) (f_nakLen o + 1)) := Sh_nl (Sh_nakBuf (Sh_timer (Sh_state h (x := (f_state o).set (x.toInt.toNat * 32 + s.toInt.toNat) 2) (by rw [List.length_set]; exact l1)) (x := tm) ltm) (x := (f_nakBuf o).set (f_nakLen o).toInt.toNat (x * 32 + s)) (by rw [List.length_set]; exact l3)) _
    obtain ⟨u, hu⟩ : ∃ u, u = s_nakLen (s_nakBuf (s_timer (s_state o ((f_state o).set (x.toInt.toNat * 32 + s.toInt.toNat) 2)) tm) ((f_nakBuf o).set (f_nakLen o).toInt.toNat (x * 32 + s))) (f_nakLen o + 1) := ⟨_, rfl⟩
    obtain ⟨Ru, sM, ku⟩ := st_any h x0 x4 (R x.toInt.toNat (by omega)) (by omega) hw w1 (v := 2) (Or.inr (Or.inl rfl)) (p := u) (by rw [hu]; dsimp only [f_srcPayload, f_pend, f_queue, f_stats, f_state, f_timer, f_rxVal, f_rxNext, f_rxLead, f_rxTrail, f_lossLeft, f_dups, f_drops, f_delSeq, f_delVal, f_delLen, f_lostLog, f_lostLen, f_nakBuf, f_win, f_back, f_repair, f_period, f_nextSeq, f_qLen, f_nakLen, s_nakLen, s_nakBuf, s_timer, s_state]) (by rw [hu]; dsimp only [f_srcPayload, f_pend, f_queue, f_stats, f_state, f_timer, f_rxVal, f_rxNext, f_rxLead, f_rxTrail, f_lossLeft, f_dups, f_drops, f_delSeq, f_delVal, f_delLen, f_lostLog, f_lostLen, f_nakBuf, f_win, f_back, f_repair, f_period, f_nextSeq, f_qLen, f_nakLen, s_nakLen, s_nakBuf, s_timer, s_state])
    have u1 : f_nakLen u = f_nakLen o + 1 := by rw [hu]; dsimp only [f_srcPayload, f_pend, f_queue, f_stats, f_state, f_timer, f_rxVal, f_rxNext, f_rxLead, f_rxTrail, f_lossLeft, f_dups, f_drops, f_delSeq, f_delVal, f_delLen, f_lostLog, f_lostLen, f_nakBuf, f_win, f_back, f_repair, f_period, f_nextSeq, f_qLen, f_nakLen, s_nakLen, s_nakBuf, s_timer, s_state]
    have u2 : f_nakBuf u = (f_nakBuf o).set (f_nakLen o).toInt.toNat (x * 32 + s) := by rw [hu]; dsimp only [f_srcPayload, f_pend, f_queue, f_stats, f_state, f_timer, f_rxVal, f_rxNext, f_rxLead, f_rxTrail, f_lossLeft, f_dups, f_drops, f_delSeq, f_delVal, f_delLen, f_lostLog, f_lostLen, f_nakBuf, f_win, f_back, f_repair, f_period, f_nextSeq, f_qLen, f_nakLen, s_nakLen, s_nakBuf, s_timer, s_state]
    rw [← hu] at h2 ⊢
    clear hu
    have Au : All u M U (eP F) := R.step Ru ku
    unfold J28_102
    refine bump h2 fn.1 (n := 4) rfl (by decide) (fun S hS sS kS => ?_)
    have v1 : f_nakLen (s_stats u S) = f_nakLen u := by dsimp only [f_srcPayload, f_pend, f_queue, f_stats, f_state, f_timer, f_rxVal, f_rxNext, f_rxLead, f_rxTrail, f_lossLeft, f_dups, f_drops, f_delSeq, f_delVal, f_delLen, f_lostLog, f_lostLen, f_nakBuf, f_win, f_back, f_repair, f_period, f_nextSeq, f_qLen, f_nakLen, s_stats]
    have v2 : f_nakBuf (s_stats u S) = f_nakBuf u := by dsimp only [f_srcPayload, f_pend, f_queue, f_stats, f_state, f_timer, f_rxVal, f_rxNext, f_rxLead, f_rxTrail, f_lossLeft, f_dups, f_drops, f_delSeq, f_delVal, f_delLen, f_lostLog, f_lostLen, f_nakBuf, f_win, f_back, f_repair, f_period, f_nextSeq, f_qLen, f_nakLen, s_stats]
    have ni : (f_nakLen o + 1).toInt = (f_nakLen o).toInt + 1 := inc1 (by omega)
    refine okP.some ⟨_, 1, Or.inr rfl, hS, ?_, Au.of kS, fun k hk => ?_, by rw [v1, u1]⟩
    ·refine ⟨sS.1, fun k hk => ?_, sS.2.2⟩
     rw [sS.2.1 k hk]
     show SV F k + (if 4 = k then 1 else 0) = SV F k + (if k = 4 then 1 else 0)
     by_cases ek : k = 4
     ·rw [if_pos ek.symm, if_pos ek]
     ·rw [if_neg (fun e => ek e.symm), if_neg ek]
    ·rw [v1, u1] at hk
     rw [v2, u2]
     by_cases ek : (f_nakLen o).toInt.toNat = k
     ·rw [ek, List.getElem?_set_self (by omega)]
      refine ⟨_, rfl, by omega, ?_⟩
      rw [e, Int.toNat_natCast]
      omega
     ·rw [List.getElem?_set_ne ek]
      exact nb k (by omega)
   ·rw [aset_at e (by omega)]
    simp only [Option.bind_some]
    unfold F32
    simp only [Option.bind_some]
    have tl : f_timer (s_state (s_timer o ((f_timer o).set (x.toInt.toNat * 32 + s.toInt.toNat) (tv - 1))) ((f_state o).set (x.toInt.toNat * 32 + s.toInt.toNat) 1)) = (f_timer o).set (x.toInt.toNat * 32 + s.toInt.toNat) (tv - 1) := by dsimp only [f_srcPayload, f_pend, f_queue, f_stats, f_state, f_timer, f_rxVal, f_rxNext, f_rxLead, f_rxTrail, f_lossLeft, f_dups, f_drops, f_delSeq, f_delVal, f_delLen, f_lostLog, f_lostLen, f_nakBuf, f_win, f_back, f_repair, f_period, f_nextSeq, f_qLen, f_nakLen, s_state, s_timer]
    rw [tl, aset_at e (by rw [List.length_set]; omega)]
    simp only [Option.bind_some]
    obtain ⟨tm, htm⟩ : ∃ tm, tm = ((f_timer o).set (x.toInt.toNat * 32 + s.toInt.toNat) (tv - 1)).set (x.toInt.toNat * 32 + s.toInt.toNat) (f_back (s_state (s_timer o ((f_timer o).set (x.toInt.toNat * 32 + s.toInt.toNat) (tv - 1))) ((f_state o).set (x.toInt.toNat * 32 + s.toInt.toNat) 1)) + x) := ⟨_, rfl⟩
    have ltm : tm.length = 128 := by rw [htm]; simp only [List.length_set]; exact l2
    rw [← htm]
    clear htm
    have h2 := Sh_timer (Sh_state (Sh_timer h (x := (f_timer o).set (x.toInt.toNat * 32 + s.toInt.toNat) (tv - 1)) (by rw [List.length_set]; exact l2)) (x := (f_state o).set (x.toInt.toNat * 32 + s.toInt.toNat) 1) (by rw [List.length_set]; exact l1)) (x := tm) ltm
    obtain ⟨u, hu⟩ : ∃ u, u = s_timer (s_state (s_timer o ((f_timer o).set (x.toInt.toNat * 32 + s.toInt.toNat) (tv - 1))) ((f_state o).set (x.toInt.toNat * 32 + s.toInt.toNat) 1)) tm := ⟨_, rfl⟩
    obtain ⟨Ru, sM, ku⟩ := st_any h x0 x4 (R x.toInt.toNat (by omega)) (by omega) hw w1 (v := 1) (Or.inl rfl) (p := u) (by rw [hu]; dsimp only [f_srcPayload, f_pend, f_queue, f_stats, f_state, f_timer, f_rxVal, f_rxNext, f_rxLead, f_rxTrail, f_lossLeft, f_dups, f_drops, f_delSeq, f_delVal, f_delLen, f_lostLog, f_lostLen, f_nakBuf, f_win, f_back, f_repair, f_period, f_nextSeq, f_qLen, f_nakLen, s_timer, s_state]) (by rw [hu]; dsimp only [f_srcPayload, f_pend, f_queue, f_stats, f_state, f_timer, f_rxVal, f_rxNext, f_rxLead, f_rxTrail, f_lossLeft, f_dups, f_drops, f_delSeq, f_delVal, f_delLen, f_lostLog, f_lostLen, f_nakBuf, f_win, f_back, f_repair, f_period, f_nextSeq, f_qLen, f_nakLen, s_timer, s_state])
    have u1 : f_nakLen u = f_nakLen o := by rw [hu]; dsimp only [f_srcPayload, f_pend, f_queue, f_stats, f_state, f_timer, f_rxVal, f_rxNext, f_rxLead, f_rxTrail, f_lossLeft, f_dups, f_drops, f_delSeq, f_delVal, f_delLen, f_lostLog, f_lostLen, f_nakBuf, f_win, f_back, f_repair, f_period, f_nextSeq, f_qLen, f_nakLen, s_timer, s_state]
    have u2 : f_nakBuf u = f_nakBuf o := by rw [hu]; dsimp only [f_srcPayload, f_pend, f_queue, f_stats, f_state, f_timer, f_rxVal, f_rxNext, f_rxLead, f_rxTrail, f_lossLeft, f_dups, f_drops, f_delSeq, f_delVal, f_delLen, f_lostLog, f_lostLen, f_nakBuf, f_win, f_back, f_repair, f_period, f_nextSeq, f_qLen, f_nakLen, s_timer, s_state]
    rw [← hu] at h2 ⊢
    clear hu
    refine okP.some ⟨F, 0, Or.inl rfl, h2, same, R.step Ru ku, fun k hk => ?_, by rw [u1, Int32.add_zero]⟩
    rw [u1] at hk
    rw [u2]
    exact nb k hk
  ·have h2 := Sh_timer h (x := (f_timer o).set (x.toInt.toNat * 32 + s.toInt.toNat) (tv - 1)) (by rw [List.length_set]; exact l2)
   have u1 : f_nakLen (s_timer o ((f_timer o).set (x.toInt.toNat * 32 + s.toInt.toNat) (tv - 1))) = f_nakLen o := by dsimp only [f_srcPayload, f_pend, f_queue, f_stats, f_state, f_timer, f_rxVal, f_rxNext, f_rxLead, f_rxTrail, f_lossLeft, f_dups, f_drops, f_delSeq, f_delVal, f_delLen, f_lostLog, f_lostLen, f_nakBuf, f_win, f_back, f_repair, f_period, f_nextSeq, f_qLen, f_nakLen, s_timer]
   have u2 : f_nakBuf (s_timer o ((f_timer o).set (x.toInt.toNat * 32 + s.toInt.toNat) (tv - 1))) = f_nakBuf o := by dsimp only [f_srcPayload, f_pend, f_queue, f_stats, f_state, f_timer, f_rxVal, f_rxNext, f_rxLead, f_rxTrail, f_lossLeft, f_dups, f_drops, f_delSeq, f_delVal, f_delLen, f_lostLog, f_lostLen, f_nakBuf, f_win, f_back, f_repair, f_period, f_nextSeq, f_qLen, f_nakLen, s_timer]
   refine okP.some ⟨F, 0, Or.inl rfl, h2, same, R.of (fun r => Kp_of (by dsimp only [f_srcPayload, f_pend, f_queue, f_stats, f_state, f_timer, f_rxVal, f_rxNext, f_rxLead, f_rxTrail, f_lossLeft, f_dups, f_drops, f_delSeq, f_delVal, f_delLen, f_lostLog, f_lostLen, f_nakBuf, f_win, f_back, f_repair, f_period, f_nextSeq, f_qLen, f_nakLen, s_timer]) r), fun k hk => ?_, by rw [u1, Int32.add_zero]⟩
   rw [u1] at hk
   rw [u2]
   exact nb k hk
 ·rw [if_neg w1, if_pos rfl]
  exact okP.some ⟨F, 0, Or.inl rfl, h, same, R, nb, by rw [Int32.add_zero]⟩

def e4 (n : Int32) : Nat → Int32 := fun k => if k = 4 then n else 0
theorem SR.e4 {F G H : Fm} {a b : Int32} (x : SR F G (e4 a)) (y : SR G H (fun k => if k = 4 then b else 0)) : SR F H (e4 (a + b)) := by
 have z := x.trans y
 refine ⟨z.1, fun k hk => ?_, z.2.2⟩
 rw [z.2.1 k hk]
 show SV F k + ((if k = 4 then a else 0) + (if k = 4 then b else 0)) = SV F k + (if k = 4 then a + b else 0)
 by_cases c : k = 4
 ·rw [if_pos c, if_pos c, if_pos c]
 ·rw [if_neg c, if_neg c, if_neg c, Int32.add_zero]
theorem timers_m {F : Fm} {o : Ob} (h : Sh F o) {M U : Nat} (fn : Fn F M U) (R : All o M U (eP F)) : okP (F27 o) (fun p => ∃ F', Sh F' p ∧ SR F F' (e4 (f_nakLen p)) ∧ All p M U (eP F) ∧ NB p M ∧ 0 ≤ (f_nakLen p).toInt ∧ (f_nakLen p).toInt ≤ 128) := by
 have z0 : (0 : Int32).toInt = 0 := rfl
 have z4 : (4 : Int32).toInt = 4 := rfl
 have e40 : SR F F (e4 0) := ⟨rfl, fun k _ => by show _ = SV F k + (if k = 4 then (0 : Int32) else 0); simp, id, fun _ => id, id⟩
 have n0 : f_nakLen (s_nakLen o 0) = 0 := by dsimp only [f_srcPayload, f_pend, f_queue, f_stats, f_state, f_timer, f_rxVal, f_rxNext, f_rxLead, f_rxTrail, f_lossLeft, f_dups, f_drops, f_delSeq, f_delVal, f_delLen, f_lostLog, f_lostLen, f_nakBuf, f_win, f_back, f_repair, f_period, f_nextSeq, f_qLen, f_nakLen, s_nakLen]
 unfold F27
 apply okP.bind
 refine okP.mono (P := fun p => ∃ F', Sh F' p ∧ SR F F' (e4 (f_nakLen p)) ∧ All p M U (eP F) ∧ NB p M ∧ 0 ≤ (f_nakLen p).toInt ∧ (f_nakLen p).toInt ≤ 128) ?_ (fun p hp => okP.some hp)
 refine okP.loop (fun v => 0 ≤ v.1.toInt ∧ v.1.toInt ≤ 4 ∧ ∃ F', Sh F' v.2 ∧ SR F F' (e4 (f_nakLen v.2)) ∧ All v.2 M U (eP F) ∧ NB v.2 M ∧ 0 ≤ (f_nakLen v.2).toInt ∧ (f_nakLen v.2).toInt ≤ v.1.toInt * 32) (fun v => (4 - v.1.toInt).toNat) ⟨by show (0 : Int) ≤ 0; decide, by show (0 : Int) ≤ 4; decide, F, Sh_nl h 0, by show SR F F (e4 (f_nakLen (s_nakLen o 0))); rw [n0]; exact e40, R.of (fun r => Kp_of (by dsimp only [f_srcPayload, f_pend, f_queue, f_stats, f_state, f_timer, f_rxVal, f_rxNext, f_rxLead, f_rxTrail, f_lossLeft, f_dups, f_drops, f_delSeq, f_delVal, f_delLen, f_lostLog, f_lostLen, f_nakBuf, f_win, f_back, f_repair, f_period, f_nextSeq, f_qLen, f_nakLen, s_nakLen]) r), fun k hk => ?_, ?_, ?_⟩ (by show (4 - (0 : Int)).toNat < 4000; decide) ?_
 ·simp only [n0] at hk
  exact absurd hk (Nat.not_lt_zero _)
 ·show 0 ≤ (f_nakLen (s_nakLen o 0)).toInt
  rw [n0]; decide
 ·show (f_nakLen (s_nakLen o 0)).toInt ≤ (0 : Int) * 32
  rw [n0]; decide
 rintro ⟨x, p⟩ ⟨x0, x1, F', hp, sr, Rp, nb, m0, m1⟩
 simp only at x0 x1 hp sr Rp nb m0 m1
 unfold B27_7
 simp only
 refine okP.ite (fun c => ?_) (fun c => okP.some ⟨F', hp, sr, Rp, nb, m0, by omega⟩)
 rw [i_lt, z4] at c
 have e1 : (x + 1).toInt = x.toInt + 1 := inc1 (by omega)
 apply okP.bind
 refine okP.mono (P := fun u => ∃ F', Sh F' u ∧ SR F F' (e4 (f_nakLen u)) ∧ All u M U (eP F) ∧ NB u M ∧ 0 ≤ (f_nakLen u).toInt ∧ (f_nakLen u).toInt ≤ x.toInt * 32 + 32) ?_ ?_
 ·refine okP.loop (fun v => 0 ≤ v.1.toInt ∧ v.1.toInt ≤ 32 ∧ ∃ F', Sh F' v.2 ∧ SR F F' (e4 (f_nakLen v.2)) ∧ All v.2 M U (eP F) ∧ NB v.2 M ∧ 0 ≤ (f_nakLen v.2).toInt ∧ (f_nakLen v.2).toInt ≤ x.toInt * 32 + v.1.toInt) (fun v => (32 - v.1.toInt).toNat) ⟨by show (0 : Int) ≤ 0; decide, by show (0 : Int) ≤ 32; decide, F', hp, sr, Rp, nb, m0, by show (f_nakLen p).toInt ≤ x.toInt * 32 + 0; omega⟩ (by show (32 - (0 : Int)).toNat < 4000; decide) ?_
  rintro ⟨s, u⟩ ⟨s0, s1, F2, hu, sr2, Ru, nb2, k0, k1⟩
  simp only at s0 s1 hu sr2 Ru nb2 k0 k1
  unfold B27_14
  simp only
  refine okP.ite (fun c2 => ?_) (fun c2 => okP.some ⟨F2, hu, sr2, Ru, nb2, k0, by omega⟩)
  rw [i_lt, z32] at c2
  have e2 : (s + 1).toInt = s.toInt + 1 := inc1 (by omega)
  apply okP.bind
  refine okP.mono (step_m hu (sr2.fn fn) (by rw [sr2.P]; exact Ru) x0 c s0 c2 nb2 k0 (by omega)) ?_
  rintro u2 ⟨F3, d, hd, hu2, sr3, Ru2, nb3, nl⟩
  rw [sr2.P] at Ru2
  have n3 : (f_nakLen u2).toInt = (f_nakLen u).toInt + d.toInt := by
   rw [nl]
   rcases hd with e | e <;> subst e
   ·rw [Int32.add_zero, z0]; omega
   ·rw [inc1 (by omega)]; rfl
  have d1 : 0 ≤ d.toInt ∧ d.toInt ≤ 1 := by rcases hd with e | e <;> subst e <;> decide
  refine okP.some ⟨⟨by simp only; omega, by simp only; omega, F3, hu2, ?_, Ru2, nb3, by simp only; omega, by simp only; omega⟩, by simp only; omega⟩
  simp only
  rw [nl]
  exact sr2.e4 sr3
 ·rintro u ⟨F2, hu, sr2, Ru, nb2, k0, k1⟩
  exact okP.some ⟨⟨by simp only; omega, by simp only; omega, F2, hu, sr2, Ru, nb2, k0, by simp only; omega⟩, by simp only; omega⟩
def ones (l : List Int32) : Nat := (l.filter (fun v => v != 0)).length
theorem ones_le (l : List Int32) : ones l ≤ l.length := List.length_filter_le _ _
theorem ones_set : ∀ {l : List Int32} {k : Nat}, l[k]? = some 0 → ones (l.set k 1) = ones l + 1
 | [], k, h => by simp at h
 | a :: l, 0, h => by
  simp at h
  subst h
  rfl
 | a :: l, k + 1, h => by
  rw [List.getElem?_cons_succ] at h
  have := ones_set h
  show ones (a :: l.set k 1) = ones (a :: l) + 1
  unfold ones at this ⊢
  by_cases c : (a != 0) = true
  ·rw [List.filter_cons_of_pos (p := fun v => v != 0) c, List.filter_cons_of_pos (p := fun v => v != 0) c, List.length_cons, List.length_cons, this]
  ·rw [List.filter_cons_of_neg (p := fun v => v != 0) c, List.filter_cons_of_neg (p := fun v => v != 0) c, this]
def Nk (F F' : Fm) (n : Int32) : Prop := (eP F', eM F', eW F', eT F') = (eP F, eM F, eW F, eT F) ∧ (∀ k, k < 5 → SV F' k = SV F k) ∧ SV F' 5 + SV F' 6 = SV F 5 + SV F 6 + n ∧ SV F' 7 = SV F 7 + n ∧ eL F' = eL F + (SV F' 5 - SV F 5) ∧ (DS F → DS F') ∧ (∀ b, LB F b → LB F' b) ∧ (Fw F → Fw F')
theorem Nk.refl (F : Fm) : Nk F F 0 := ⟨rfl, fun _ _ => rfl, by rw [Int32.add_zero], by rw [Int32.add_zero], by grind, id, fun _ => id, id⟩
theorem Nk.fn {F G : Fm} {n : Int32} (c : Nk F G n) {M U : Nat} (h : Fn F M U) : Fn G M U := by
 have e := c.1
 simp only [Prod.mk.injEq] at e
 obtain ⟨h1, h2, h3, h4, h5⟩ := h
 exact ⟨c.2.2.2.2.2.2.2 h1, by rw [e.2.1]; exact h2, h3, by rw [e.2.2.1]; exact h4, by rw [e.2.2.1]; exact h5⟩
theorem Nk.P {F G : Fm} {n : Int32} (c : Nk F G n) : eP G = eP F := by have e := c.1; simp only [Prod.mk.injEq] at e; exact e.1
def wQ (F : Fm) (q : List Int32) (l : Int32) : Fm := (eP F, eM F, eW F, q, l, eS F, eO F, eD F, eT F)
def prP {α : Type} (m : Option α) (P : α → Prop) : Prop := ∀ a, m = some a → P a
theorem prP.some {α : Type} {a : α} {P : α → Prop} (h : P a) : prP (some a) P := fun b e => by cases e; exact h
theorem prP.bind {α β : Type} {m : Option α} {f : α → Option β} {P : β → Prop} (h : ∀ a, m = Option.some a → prP (f a) P) : prP (m.bind f) P := by
 intro b e
 cases hm : m with
 | none => rw [hm] at e; cases e
 | some a => rw [hm] at e; exact h a hm b e
theorem prP.ite {α : Type} {c : Prop} [Decidable c] {a b : Option α} {P : α → Prop} (h1 : c → prP a P) (h2 : ¬ c → prP b P) : prP (if c then a else b) P := by
 by_cases h : c
 ·rw [if_pos h]; exact h1 h
 ·rw [if_neg h]; exact h2 h
theorem prP.loop {V E : Type} {B : V → Option (E ⊕ V)} {P : E → Prop} (I : V → Prop) (hB : ∀ v, I v → prP (B v) (fun r => Sum.elim P I r)) : ∀ (n : Nat) (v : V), I v → prP (loopN B n v) P
 | 0, v, _ => fun a e => by simp [loopN] at e
 | n + 1, v, hv => by
  intro a e
  simp only [loopN] at e
  cases hb : B v with
  | none => rw [hb] at e; cases e
  | some r =>
   rw [hb] at e
   have := hB v hv r hb
   cases r with
   | inl x => simp only at e; cases e; exact this
   | inr x => exact prP.loop I hB n x this a e
theorem okP.and {α : Type} {m : Option α} {P Q : α → Prop} (h : okP m P) (g : prP m Q) : okP m (fun a => P a ∧ Q a) := by
 obtain ⟨a, e, p⟩ := h
 exact ⟨a, e, p, g a e⟩
def ps (o : Ob) : List Int32 × Int32 × List Int32 := (f_pend o, f_nakLen o, f_nakBuf o)
theorem ncf_ps (o : Ob) (x s : Int32) : prP (F35 o x s) (fun p => ps p = ps o) := by
 have j : ∀ k : Int32, prP (J35_36 o k) (fun p => ps p = ps o) := by
  intro k
  unfold J35_36
  refine prP.bind (fun y _ => prP.bind (fun z _ => prP.some ?_))
  dsimp only [ps, f_srcPayload, f_pend, f_queue, f_stats, f_state, f_timer, f_rxVal, f_rxNext, f_rxLead, f_rxTrail, f_lossLeft, f_dups, f_drops, f_delSeq, f_delVal, f_delLen, f_lostLog, f_lostLen, f_nakBuf, f_win, f_back, f_repair, f_period, f_nextSeq, f_qLen, f_nakLen, s_timer, s_state]
 unfold F35
 refine prP.bind (fun r _ => prP.ite (fun _ => prP.some rfl) (fun _ => prP.bind (fun y _ => prP.ite (fun _ => j _) (fun _ => prP.ite (fun _ => j _) (fun _ => prP.some rfl)))))
theorem copy3_ps (o : Ob) (x s : Int32) : prP (F13 o x 3 s 0 0 0) (fun p => ps p = ps o) := by
 unfold F13
 refine prP.bind (fun y _ => prP.ite (fun _ => ?_) (fun _ => ?_))
 ·refine prP.bind (fun _ _ => prP.bind (fun _ _ => prP.bind (fun _ _ => prP.bind (fun _ _ => prP.bind (fun _ _ => prP.bind (fun _ _ => prP.some ?_))))))
  dsimp only [ps, f_srcPayload, f_pend, f_queue, f_stats, f_state, f_timer, f_rxVal, f_rxNext, f_rxLead, f_rxTrail, f_lossLeft, f_dups, f_drops, f_delSeq, f_delVal, f_delLen, f_lostLog, f_lostLen, f_nakBuf, f_win, f_back, f_repair, f_period, f_nextSeq, f_qLen, f_nakLen, s_stats, s_drops, s_lossLeft]
 ·rw [if_neg (by decide), if_neg (by decide), if_neg (by decide)]
  exact prP.bind (fun p hp => prP.some (ncf_ps o x s p hp))
theorem mncf_ps (o : Ob) (s : Int32) : prP (F34 o s) (fun p => ps p = ps o) := by
 unfold F34
 refine prP.bind (fun p hp => prP.some ?_)
 refine prP.loop (P := fun p => ps p = ps o) (fun v => ps v.2 = ps o) ?_ qN _ rfl p hp
 rintro ⟨x, u⟩ hu
 unfold B34_2
 simp only
 refine prP.ite (fun _ => prP.bind (fun r hr => prP.some ?_)) (fun _ => prP.some hu)
 exact (copy3_ps u x s r hr).trans hu
theorem nak_m {F : Fm} {o : Ob} (h : Sh F o) {M U : Nat} (fn : Fn F M U) (R : All o M U (eP F)) (qi : QI F M) (ql : (eL F).toInt ≤ ones (f_pend o)) {s : Int32} {sn : Nat} (hs : s.toInt = sn) (sM : sn < M) : okP (F33 o s) (fun p => ∃ F', Sh F' p ∧ Nk F F' 1 ∧ All p M U (eP F) ∧ QI F' M ∧ (eL F').toInt ≤ ones (f_pend p) ∧ f_nakLen p = f_nakLen o ∧ f_nakBuf p = f_nakBuf o) := by
 have z64 : (64 : Int32).toInt = 64 := rfl
 obtain ⟨fw, hM, M32, hW, hU⟩ := id fn
 obtain ⟨f1, f2, f3, f4, f5⟩ := id fw
 have lp := Sh_l_pend h
 unfold F33
 rw [vs hs (by omega)]
 simp only [Option.bind_some]
 rw [if_neg (by decide)]
 obtain ⟨y, hy⟩ : ∃ y, (f_pend o)[sn]? = some y := ⟨_, List.getElem?_eq_getElem (by omega)⟩
 rw [g1 hs hy]
 simp only [Option.bind_some]
 have tail : ∀ {u : Ob} {G : Fm} {X5 X6 : Int32}, Sh G u → Fn G M U → All u M U (eP F) → eP G = eP F → (∀ G', CFr G (G' : Fm) → ∀ S, SR G' (wS G' S) (x1' 7) → Nk F (wS G' S) 1) → QI G M → (eL G).toInt ≤ ones (f_pend u) → f_nakLen u = f_nakLen o → f_nakBuf u = f_nakBuf o → okP (J33_78 u s) (fun p => ∃ F', Sh F' p ∧ Nk F F' 1 ∧ All p M U (eP F) ∧ QI F' M ∧ (eL F').toInt ≤ ones (f_pend p) ∧ f_nakLen p = f_nakLen o ∧ f_nakBuf p = f_nakBuf o) := by
  intro u G X5 X6 hu fG Ru eG nk qG qo nl nb
  unfold J33_78
  apply okP.bind
  refine okP.mono ((mncf_m hu fG (by rw [eG]; exact Ru) s).and (mncf_ps u s)) ?_
  rintro p ⟨⟨G', hp, cf, Rp⟩, hps⟩
  rw [eG] at Rp
  simp only [ps, Prod.mk.injEq] at hps
  obtain ⟨p1, p2, p3⟩ := hps
  refine bump hp (cf.fn fG).1 (n := 7) rfl (by decide) (fun S hS sS kS => ?_)
  have q1 : f_pend (s_stats p S) = f_pend p := by dsimp only [f_srcPayload, f_pend, f_queue, f_stats, f_state, f_timer, f_rxVal, f_rxNext, f_rxLead, f_rxTrail, f_lossLeft, f_dups, f_drops, f_delSeq, f_delVal, f_delLen, f_lostLog, f_lostLen, f_nakBuf, f_win, f_back, f_repair, f_period, f_nextSeq, f_qLen, f_nakLen, s_stats]
  have q2 : f_nakLen (s_stats p S) = f_nakLen p := by dsimp only [f_srcPayload, f_pend, f_queue, f_stats, f_state, f_timer, f_rxVal, f_rxNext, f_rxLead, f_rxTrail, f_lossLeft, f_dups, f_drops, f_delSeq, f_delVal, f_delLen, f_lostLog, f_lostLen, f_nakBuf, f_win, f_back, f_repair, f_period, f_nextSeq, f_qLen, f_nakLen, s_stats]
  have q3 : f_nakBuf (s_stats p S) = f_nakBuf p := by dsimp only [f_srcPayload, f_pend, f_queue, f_stats, f_state, f_timer, f_rxVal, f_rxNext, f_rxLead, f_rxTrail, f_lossLeft, f_dups, f_drops, f_delSeq, f_delVal, f_delLen, f_lostLog, f_lostLen, f_nakBuf, f_win, f_back, f_repair, f_period, f_nextSeq, f_qLen, f_nakLen, s_stats]
  have L1 : eL (wS G' S) = eL G := cf.L
  have Q1 : eQ (wS G' S) = eQ G := cf.Q
  refine okP.some ⟨_, hS, nk G' cf S sS, Rp.of kS, ?_, by rw [L1, q1, p1]; exact qo, by rw [q2, p2, nl], by rw [q3, p3, nb]⟩
  unfold QI
  rw [L1, Q1]
  exact qG
 have svn : ∀ {G G' : Fm} {S : List Int32}, CFr G G' → SR G' (wS G' S) (x1' 7) → ∀ k, k < 9 → SV (wS G' S) k = SV G k + (if 7 = k then 1 else 0) := by
  intro G G' S cf sS k hk
  rw [sS.2.1 k hk, cf.sr.2.1 k hk]
  show SV G k + 0 + _ = _
  rw [Int32.add_zero]; rfl
 refine okP.ite (fun y0 => ?_) (fun y0 => ?_)
 ·subst y0
  rw [aset_at hs (by omega)]
  simp only [Option.bind_some]
  have on := ones_set hy
  have ol := ones_le ((f_pend o).set sn 1)
  rw [List.length_set] at ol
  have q64 : (eL F).toInt < 64 := by omega
  rw [h.L, if_pos (by rw [i_lt, z64]; exact q64), h.Q, aset_at (n := (eL F).toInt.toNat) (by have := qi.1; omega) (by have := qi.1; omega)]
  simp only [Option.bind_some]
  have l1 : (eL F + 1).toInt = (eL F).toInt + 1 := inc1 (by omega)
  obtain ⟨G, hG⟩ : ∃ G, G = wQ F ((eQ F).set (eL F).toInt.toNat s) (eL F + 1) := ⟨_, rfl⟩
  have h1 : Sh G (s_qLen (s_queue (s_pend o ((f_pend o).set sn 1)) ((eQ F).set (eL F).toInt.toNat s)) (eL F + 1)) := by
   have e1 := h.P
   have e2 := h.M
   have e3 := h.W
   have e6 := h.T
   have e7 := h.O
   have e8 := h.D
   have e9 := h.S
   dsimp only [Sh, f_srcPayload, f_pend, f_queue, f_stats, f_state, f_timer, f_rxVal, f_rxNext, f_rxLead, f_rxTrail, f_lossLeft, f_dups, f_drops, f_delSeq, f_delVal, f_delLen, f_lostLog, f_lostLen, f_nakBuf, f_win, f_back, f_repair, f_period, f_nextSeq, f_qLen, f_nakLen, s_qLen, s_queue, s_pend] at h e1 e2 e3 e6 e7 e8 e9 ⊢
   obtain ⟨y1, y2, y3, y4, y5, y6, y7, y8, y9, y10, y11, y12, y13, y14, y15⟩ := h
   exact ⟨by rw [List.length_set]; exact y1, y2, y3, y4, y5, y6, y7, y8, y9, y10, y11, y12, y13, y14, by rw [e1, e2, e3, e6, e7, e8, e9, hG]; rfl⟩
  obtain ⟨u, hu⟩ : ∃ u, u = s_qLen (s_queue (s_pend o ((f_pend o).set sn 1)) ((eQ F).set (eL F).toInt.toNat s)) (eL F + 1) := ⟨_, rfl⟩
  have u1 : f_pend u = (f_pend o).set sn 1 := by rw [hu]; dsimp only [f_srcPayload, f_pend, f_queue, f_stats, f_state, f_timer, f_rxVal, f_rxNext, f_rxLead, f_rxTrail, f_lossLeft, f_dups, f_drops, f_delSeq, f_delVal, f_delLen, f_lostLog, f_lostLen, f_nakBuf, f_win, f_back, f_repair, f_period, f_nextSeq, f_qLen, f_nakLen, s_qLen, s_queue, s_pend]
  have u2 : f_nakLen u = f_nakLen o := by rw [hu]; dsimp only [f_srcPayload, f_pend, f_queue, f_stats, f_state, f_timer, f_rxVal, f_rxNext, f_rxLead, f_rxTrail, f_lossLeft, f_dups, f_drops, f_delSeq, f_delVal, f_delLen, f_lostLog, f_lostLen, f_nakBuf, f_win, f_back, f_repair, f_period, f_nextSeq, f_qLen, f_nakLen, s_qLen, s_queue, s_pend]
  have u3 : f_nakBuf u = f_nakBuf o := by rw [hu]; dsimp only [f_srcPayload, f_pend, f_queue, f_stats, f_state, f_timer, f_rxVal, f_rxNext, f_rxLead, f_rxTrail, f_lossLeft, f_dups, f_drops, f_delSeq, f_delVal, f_delLen, f_lostLog, f_lostLen, f_nakBuf, f_win, f_back, f_repair, f_period, f_nextSeq, f_qLen, f_nakLen, s_qLen, s_queue, s_pend]
  have u4 : ∀ r, Kp o u r := fun r => Kp_of (by rw [hu]; dsimp only [f_srcPayload, f_pend, f_queue, f_stats, f_state, f_timer, f_rxVal, f_rxNext, f_rxLead, f_rxTrail, f_lossLeft, f_dups, f_drops, f_delSeq, f_delVal, f_delLen, f_lostLog, f_lostLen, f_nakBuf, f_win, f_back, f_repair, f_period, f_nextSeq, f_qLen, f_nakLen, s_qLen, s_queue, s_pend]) r
  rw [← hu] at h1 ⊢
  clear hu
  have fwG : Fw G := by rw [hG]; exact ⟨f1, by show ((eQ F).set (eL F).toInt.toNat s).length = 64; rw [List.length_set]; exact f2, f3, f4, f5⟩
  have fG : Fn G M U := by rw [hG] at fwG ⊢; exact ⟨fwG, hM, M32, hW, hU⟩
  have SG : ∀ k, SV G k = SV F k := by intro k; rw [hG]; rfl
  unfold J33_68
  refine bump h1 fwG (n := 5) rfl (by decide) (fun S hS sS kS => ?_)
  have v1 : f_pend (s_stats u S) = f_pend u := by dsimp only [f_srcPayload, f_pend, f_queue, f_stats, f_state, f_timer, f_rxVal, f_rxNext, f_rxLead, f_rxTrail, f_lossLeft, f_dups, f_drops, f_delSeq, f_delVal, f_delLen, f_lostLog, f_lostLen, f_nakBuf, f_win, f_back, f_repair, f_period, f_nextSeq, f_qLen, f_nakLen, s_stats]
  have v2 : f_nakLen (s_stats u S) = f_nakLen u := by dsimp only [f_srcPayload, f_pend, f_queue, f_stats, f_state, f_timer, f_rxVal, f_rxNext, f_rxLead, f_rxTrail, f_lossLeft, f_dups, f_drops, f_delSeq, f_delVal, f_delLen, f_lostLog, f_lostLen, f_nakBuf, f_win, f_back, f_repair, f_period, f_nextSeq, f_qLen, f_nakLen, s_stats]
  have v3 : f_nakBuf (s_stats u S) = f_nakBuf u := by dsimp only [f_srcPayload, f_pend, f_queue, f_stats, f_state, f_timer, f_rxVal, f_rxNext, f_rxLead, f_rxTrail, f_lossLeft, f_dups, f_drops, f_delSeq, f_delVal, f_delLen, f_lostLog, f_lostLen, f_nakBuf, f_win, f_back, f_repair, f_period, f_nextSeq, f_qLen, f_nakLen, s_stats]
  have LG : eL (wS G S) = eL F + 1 := by rw [hG]; rfl
  have QG : eQ (wS G S) = (eQ F).set (eL F).toInt.toNat s := by rw [hG]; rfl
  refine tail (X5 := 0) (X6 := 0) hS (sS.fn fG) ((R.of u4).of kS) (by rw [hG]; rfl) (fun G' cf S' sS' => ?_) ?_ ?_ (by rw [v2, u2]) (by rw [v3, u3])
  ·have sv := svn cf sS'
   have sw : ∀ k, k < 9 → SV (wS G S) k = SV F k + (if 5 = k then 1 else 0) := fun k hk => by rw [sS.2.1 k hk, SG]; rfl
   have ss : ∀ k, k < 9 → SV (wS G' S') k = SV F k + (if 5 = k then 1 else 0) + (if 7 = k then 1 else 0) := fun k hk => by rw [sv k hk, sw k hk]
   have c1 := cf.1
   refine ⟨?_, fun k hk => ?_, ?_, ?_, ?_, ?_, ?_, ?_⟩
   ·simp only [Prod.mk.injEq] at c1 ⊢
    refine ⟨c1.1.trans (by rw [hG]; rfl), c1.2.1.trans (by rw [hG]; rfl), c1.2.2.1.trans (by rw [hG]; rfl), c1.2.2.2.2.2.trans (by rw [hG]; rfl)⟩
   ·rw [ss k (by omega), if_neg (by omega), if_neg (by omega), Int32.add_zero, Int32.add_zero]
   ·rw [ss 5 (by decide), ss 6 (by decide)]
    simp only [if_true, if_neg (show ¬ (7 : Nat) = 5 by decide), if_neg (show ¬ (5 : Nat) = 6 by decide), if_neg (show ¬ (7 : Nat) = 6 by decide)]
    grind
   ·rw [ss 7 (by decide)]
    simp only [if_true, if_neg (show ¬ (5 : Nat) = 7 by decide), Int32.add_zero]
   ·have : eL (wS G' S') = eL (wS G S) := cf.L
    rw [this, LG, ss 5 (by decide)]
    simp only [if_true, if_neg (show ¬ (7 : Nat) = 5 by decide)]
    grind
   ·intro ds
    exact sS'.2.2.1 (cf.2.2.1 (sS.2.2.1 (by rw [hG]; exact ds)))
   ·intro b lb
    exact sS'.2.2.2.1 b (cf.2.2.2.1 b (sS.2.2.2.1 b (by rw [hG]; exact lb)))
   ·intro _
    exact sS'.2.2.2.2 (cf.2.2.2.2 (sS.2.2.2.2 fwG))
  ·unfold QI
   rw [LG, QG]
   have q0 := qi.1
   refine ⟨by omega, fun k hk => ?_⟩
   by_cases ek : (eL F).toInt.toNat = k
   ·rw [ek, List.getElem?_set_self (by omega)]
    exact ⟨s, rfl, by omega, by omega⟩
   ·rw [List.getElem?_set_ne ek]
    exact qi.2 k (by omega)
  ·rw [LG, v1, u1, on, l1]; omega
 ·refine bump h fw (n := 6) rfl (by decide) (fun S hS sS kS => ?_)
  have v1 : f_pend (s_stats o S) = f_pend o := by dsimp only [f_srcPayload, f_pend, f_queue, f_stats, f_state, f_timer, f_rxVal, f_rxNext, f_rxLead, f_rxTrail, f_lossLeft, f_dups, f_drops, f_delSeq, f_delVal, f_delLen, f_lostLog, f_lostLen, f_nakBuf, f_win, f_back, f_repair, f_period, f_nextSeq, f_qLen, f_nakLen, s_stats]
  have v2 : f_nakLen (s_stats o S) = f_nakLen o := by dsimp only [f_srcPayload, f_pend, f_queue, f_stats, f_state, f_timer, f_rxVal, f_rxNext, f_rxLead, f_rxTrail, f_lossLeft, f_dups, f_drops, f_delSeq, f_delVal, f_delLen, f_lostLog, f_lostLen, f_nakBuf, f_win, f_back, f_repair, f_period, f_nextSeq, f_qLen, f_nakLen, s_stats]
  have v3 : f_nakBuf (s_stats o S) = f_nakBuf o := by dsimp only [f_srcPayload, f_pend, f_queue, f_stats, f_state, f_timer, f_rxVal, f_rxNext, f_rxLead, f_rxTrail, f_lossLeft, f_dups, f_drops, f_delSeq, f_delVal, f_delLen, f_lostLog, f_lostLen, f_nakBuf, f_win, f_back, f_repair, f_period, f_nextSeq, f_qLen, f_nakLen, s_stats]
  refine tail (X5 := 0) (X6 := 0) hS (sS.fn fn) (R.of kS) rfl (fun G' cf S' sS' => ?_) qi (by rw [v1]; exact ql) v2 v3
  have sv := svn cf sS'
  have sw : ∀ k, k < 9 → SV (wS F S) k = SV F k + (if 6 = k then 1 else 0) := fun k hk => by rw [sS.2.1 k hk]; rfl
  have ss : ∀ k, k < 9 → SV (wS G' S') k = SV F k + (if 6 = k then 1 else 0) + (if 7 = k then 1 else 0) := fun k hk => by rw [sv k hk, sw k hk]
  have c1 := cf.1
  refine ⟨?_, fun k hk => ?_, ?_, ?_, ?_, ?_, ?_, ?_⟩
  ·simp only [Prod.mk.injEq] at c1 ⊢
   exact ⟨c1.1, c1.2.1, c1.2.2.1, c1.2.2.2.2.2⟩
  ·rw [ss k (by omega), if_neg (by omega), if_neg (by omega), Int32.add_zero, Int32.add_zero]
  ·rw [ss 5 (by decide), ss 6 (by decide)]
   simp only [if_true, if_neg (show ¬ (7 : Nat) = 5 by decide), if_neg (show ¬ (6 : Nat) = 5 by decide), if_neg (show ¬ (7 : Nat) = 6 by decide)]
   grind
  ·rw [ss 7 (by decide)]
   simp only [if_true, if_neg (show ¬ (6 : Nat) = 7 by decide), Int32.add_zero]
  ·have : eL (wS G' S') = eL F := cf.L
   rw [this, ss 5 (by decide)]
   simp only [if_neg (show ¬ (7 : Nat) = 5 by decide), if_neg (show ¬ (6 : Nat) = 5 by decide)]
   grind
  ·exact fun ds => sS'.2.2.1 (cf.2.2.1 (sS.2.2.1 ds))
  ·exact fun b lb => sS'.2.2.2.1 b (cf.2.2.2.1 b (sS.2.2.2.1 b lb))
  ·exact fun q => sS'.2.2.2.2 (cf.2.2.2.2 (sS.2.2.2.2 q))
theorem Nk.trans {F G H : Fm} {a b : Int32} (x : Nk F G a) (y : Nk G H b) : Nk F H (a + b) := by
 obtain ⟨x1, x2, x3, x4, x5, x6, x7, x8⟩ := x
 obtain ⟨y1, y2, y3, y4, y5, y6, y7, y8⟩ := y
 refine ⟨y1.trans x1, fun k hk => (y2 k hk).trans (x2 k hk), ?_, ?_, ?_, fun d => y6 (x6 d), fun c d => y7 c (x7 c d), fun d => y8 (x8 d)⟩
 ·rw [y3, x3]; grind
 ·rw [y4, x4]; grind
 ·rw [y5, x5]; grind
theorem naks_m {F : Fm} {o : Ob} (h : Sh F o) {M U : Nat} (fn : Fn F M U) (R : All o M U (eP F)) (qi : QI F M) (ql : (eL F).toInt ≤ ones (f_pend o)) (nb : NB o M) (n0 : 0 ≤ (f_nakLen o).toInt) (n1 : (f_nakLen o).toInt ≤ 128) : okP (F30 o) (fun p => ∃ F', Sh F' p ∧ Nk F F' (f_nakLen o) ∧ All p M U (eP F) ∧ QI F' M) := by
 have z128 : (128 : Int32).toInt = 128 := rfl
 obtain ⟨fw, hM, M32, hW, hU⟩ := id fn
 obtain ⟨L, hL⟩ : ∃ L, L = f_nakLen o := ⟨_, rfl⟩
 rw [← hL]
 rw [← hL] at n0 n1
 unfold F30
 apply okP.bind
 refine okP.mono (P := fun p => ∃ F', Sh F' p ∧ Nk F F' L ∧ All p M U (eP F) ∧ QI F' M) ?_ (fun p hp => okP.some hp)
 refine okP.loop (fun v => 0 ≤ v.1.toInt ∧ v.1.toInt ≤ L.toInt ∧ f_nakLen v.2 = L ∧ f_nakBuf v.2 = f_nakBuf o ∧ ∃ F', Sh F' v.2 ∧ Nk F F' v.1 ∧ All v.2 M U (eP F) ∧ QI F' M ∧ (eL F').toInt ≤ ones (f_pend v.2)) (fun v => (128 - v.1.toInt).toNat) ⟨by show (0 : Int) ≤ 0; decide, n0, hL.symm, rfl, F, h, Nk.refl F, R, qi, ql⟩ (by show (128 - (0 : Int)).toNat < 4000; decide) ?_
 rintro ⟨k, p⟩ ⟨k0, k1, nl, nbf, F', hp, nk, Rp, qp, op⟩
 simp only at k0 k1 nl nbf hp nk Rp op
 unfold B30_2
 simp only
 rw [nl]
 have k1' : (k + 1).toInt = k.toInt + 1 := inc1 (by omega)
 unfold J30_38
 refine okP.ite (fun c => ?_) (fun c => ?_)
 ·rw [i_lt] at c
  rw [if_pos (by rw [i_lt, z128]; omega), nbf]
  obtain ⟨y, hy, y0, yM⟩ := nb k.toInt.toNat (by rw [← hL]; omega)
  rw [g0 k0 hy]
  simp only [Option.bind_some]
  have e : (y % 32).toInt = (y.toInt.toNat % 32 : Nat) := by
   rw [Int32.toInt_mod, z32, Int.tmod_eq_emod_of_nonneg y0]
   omega
  apply okP.bind
  refine okP.mono (nak_m hp (nk.fn fn) (by rw [nk.P]; exact Rp) qp op e yM) ?_
  rintro p2 ⟨F2, hp2, nk2, Rp2, qp2, op2, nl2, nb2⟩
  rw [nk.P] at Rp2
  exact okP.some ⟨⟨by simp only; omega, by simp only; omega, nl2.trans nl, nb2.trans nbf, F2, hp2, nk.trans nk2, Rp2, qp2, op2⟩, by simp only; omega⟩
 ·rw [i_lt] at c
  have : k = L := by rw [i_eq]; omega
  rw [this] at nk
  exact okP.some ⟨F', Sh_nl hp 0, nk, Rp.of (fun r => Kp_of (by dsimp only [f_srcPayload, f_pend, f_queue, f_stats, f_state, f_timer, f_rxVal, f_rxNext, f_rxLead, f_rxTrail, f_lossLeft, f_dups, f_drops, f_delSeq, f_delVal, f_delLen, f_lostLog, f_lostLen, f_nakBuf, f_win, f_back, f_repair, f_period, f_nextSeq, f_qLen, f_nakLen, s_nakLen]) r), qp⟩
def Tk (F F' : Fm) : Prop := (eP F', eM F', eW F', eT F') = (eP F, eM F, eW F, eT F) ∧ SV F' 0 = SV F 0 + 1 ∧ SV F' 1 = SV F 1 ∧ (eT F = 0 → SV F' 2 + SV F' 3 = SV F 2 + SV F 3 + eL F) ∧ (∃ n, SV F' 4 = SV F 4 + n ∧ SV F' 7 = SV F 7 + n ∧ SV F' 5 + SV F' 6 = SV F 5 + SV F 6 + n) ∧ eL F' = SV F' 5 - SV F 5 ∧ (DS F → DS F') ∧ (∀ b, LB F b → LB F' b)
theorem tick_m {F : Fm} {o : Ob} (h : Sh F o) {M U : Nat} (fn : Fn F M U) (R : All o M U (eP F)) (qi : QI F M) (t0 : 0 ≤ (eT F).toInt) : okP (F25 o) (fun p => ∃ F', Sh F' p ∧ Tk F F' ∧ Fn F' M U ∧ All p M U (eP F) ∧ QI F' M) := by
 have z0 : (0 : Int32).toInt = 0 := rfl
 obtain ⟨fw, hM, M32, hW, hU⟩ := id fn
 unfold F25
 refine bump h fw (n := 0) rfl (by decide) (fun S hS sS kS => ?_)
 apply okP.bind
 have qi1 : QI (wS F S) M := qi
 refine okP.mono (serve_m hS (sS.fn fn) (R.of kS) qi1) ?_
 rintro p ⟨F1, X, hp, sr1, sm1, Rp⟩
 have sA := sS.trans sr1
 have fn1 : Fn (wL F1 0) M U := by
  obtain ⟨a1, a2, a3, a4, a5⟩ := sr1.fn (sS.fn fn)
  exact ⟨a1, a2, a3, a4, a5⟩
 have P1 : eP (wL F1 0) = eP F := sr1.P
 have Rp' : All p M U (eP (wL F1 0)) := by rw [P1]; exact Rp
 have E1 : eL (wS F S) = eL F := rfl
 rw [E1] at sm1
 have tail : ∀ {u : Ob} {G : Fm} {Y : Nat → Int32}, Sh G u → SR (wL F1 0) G Y → (eT F = 0 → Y 2 + Y 3 = 0) → (∀ k, k < 9 → k ≠ 2 → k ≠ 3 → Y k = 0) → All u M U (eP F) → okP (J25_52 u) (fun p => ∃ F', Sh F' p ∧ Tk F F' ∧ Fn F' M U ∧ All p M U (eP F) ∧ QI F' M) := by
  intro u G Y hu srG y23 yk Ru
  have fG := srG.fn fn1
  have PG : eP G = eP F := srG.P.trans P1
  unfold J25_52
  apply okP.bind
  refine okP.mono (timers_m hu fG (by rw [PG]; exact Ru)) ?_
  rintro p2 ⟨F2, hp2, sr2, Rp2, nb, m0, m1⟩
  have LG : eL F2 = 0 := sr2.L.trans srG.L
  have P2 : eP F2 = eP F := sr2.P.trans PG
  apply okP.bind
  refine okP.mono (naks_m hp2 (sr2.fn fG) (by rw [P2, ← PG]; exact Rp2) ⟨by rw [LG]; decide, fun k hk => by rw [LG] at hk; exact absurd hk (Nat.not_lt_zero _)⟩ (by rw [LG, z0]; omega) nb m0 m1) ?_
  rintro p3 ⟨F3, hp3, nk, Rp3, q3⟩
  rw [P2] at Rp3
  refine okP.some ⟨F3, hp3, ?_, nk.fn (sr2.fn fG), Rp3, q3⟩
  have v1 : ∀ k, k < 9 → SV F1 k = SV F k + (if 0 = k then 1 else 0) + X k := fun k hk => by rw [sr1.2.1 k hk, sS.2.1 k hk]; rfl
  have v2 : ∀ k, k < 9 → SV G k = SV F k + (if 0 = k then 1 else 0) + X k + Y k := fun k hk => by
   rw [srG.2.1 k hk]
   show SV F1 k + Y k = _
   rw [v1 k hk]
  have v3 : ∀ k, k < 9 → SV F2 k = SV F k + (if 0 = k then 1 else 0) + X k + Y k + (if k = 4 then f_nakLen p2 else 0) := fun k hk => by
   rw [sr2.2.1 k hk, v2 k hk]; rfl
  have X0 := sm1.2 0 (by decide) (by decide) (by decide)
  have X1 := sm1.2 1 (by decide) (by decide) (by decide)
  have X4 := sm1.2 4 (by decide) (by decide) (by decide)
  have X5 := sm1.2 5 (by decide) (by decide) (by decide)
  have X6 := sm1.2 6 (by decide) (by decide) (by decide)
  have X7 := sm1.2 7 (by decide) (by decide) (by decide)
  have Y0 := yk 0 (by decide) (by decide) (by decide)
  have Y1 := yk 1 (by decide) (by decide) (by decide)
  have Y4 := yk 4 (by decide) (by decide) (by decide)
  have Y5 := yk 5 (by decide) (by decide) (by decide)
  have Y6 := yk 6 (by decide) (by decide) (by decide)
  have Y7 := yk 7 (by decide) (by decide) (by decide)
  have w0 := v3 0 (by decide)
  have w1 := v3 1 (by decide)
  have w2 := v3 2 (by decide)
  have w3 := v3 3 (by decide)
  have w4 := v3 4 (by decide)
  have w5 := v3 5 (by decide)
  have w6 := v3 6 (by decide)
  have w7 := v3 7 (by decide)
  rw [X0, Y0, if_pos rfl, if_neg (by decide)] at w0
  rw [X1, Y1, if_neg (by decide), if_neg (by decide)] at w1
  rw [if_neg (by decide), if_neg (by decide)] at w2 w3
  rw [X4, Y4, if_neg (by decide), if_pos rfl] at w4
  rw [X5, Y5, if_neg (by decide), if_neg (by decide)] at w5
  rw [X6, Y6, if_neg (by decide), if_neg (by decide)] at w6
  rw [X7, Y7, if_neg (by decide), if_neg (by decide)] at w7
  obtain ⟨k1, k2, k3, k4, k5, k6, k7, k8⟩ := nk
  have sm := sm1.1
  refine ⟨?_, ?_, ?_, fun e0 => ?_, ⟨f_nakLen p2, ?_, ?_, ?_⟩, ?_, fun ds => k6 (sr2.2.2.1 (srG.2.2.1 (sA.2.2.1 ds))), fun b lb => k7 b (sr2.2.2.2.1 b (srG.2.2.2.1 b (sA.2.2.2.1 b lb)))⟩
  ·simp only [Prod.mk.injEq] at k1 ⊢
   refine ⟨k1.1.trans P2, k1.2.1.trans (sr2.M.trans (srG.M.trans sA.M)), k1.2.2.1.trans (sr2.W.trans (srG.W.trans sA.W)), k1.2.2.2.trans (sr2.T.trans (srG.T.trans sA.T))⟩
  ·rw [k2 0 (by decide), w0]; grind
  ·rw [k2 1 (by decide), w1]; grind
  ·have := y23 e0
   rw [k2 2 (by decide), k2 3 (by decide), w2, w3, ← sm]; grind
  ·rw [k2 4 (by decide), w4]; grind
  ·rw [k4, w7]; grind
  ·rw [k3, w5, w6]; grind
  ·rw [k5, LG, w5]; grind
 have TT : eT (wL F1 0) = eT F := sr1.T
 rw [hp.T, TT]
 refine okP.ite (fun c => ?_) (fun c => ?_)
 ·rw [i_lt, z0] at c
  have ne : ¬ eT F = 0 := by rw [i_eq, z0]; omega
  rw [hp.S]
  have f3 : (eS F1).length = 10 := fn1.1.2.2.1
  obtain ⟨y, hy⟩ : ∃ y, (eS (wL F1 0))[0]? = some y := ⟨_, List.getElem?_eq_getElem (by show 0 < (eS F1).length; omega)⟩
  rw [g1 (x := 0) (n := 0) rfl hy]
  simp only [Option.bind_some]
  have qe : qrem y (eT F) = some (y % eT F) := by
   unfold qrem
   rw [if_neg ne]
  rw [qe]
  simp only [Option.bind_some]
  have same : SR (wL F1 0) (wL F1 0) (fun _ => 0) := ⟨rfl, fun k _ => by rw [Int32.add_zero], id, fun _ => id, id⟩
  refine okP.ite (fun _ => ?_) (fun _ => tail hp same (fun e => absurd e ne) (fun _ _ _ _ => rfl) Rp)
  rw [← hp.S]
  refine bump hp fn1.1 (n := 3) rfl (by decide) (fun S2 hS2 sS2 kS2 => ?_)
  apply okP.bind
  refine okP.mono (multi_sr hS2 (sS2.fn fn1) (Rp'.of kS2) (ty := 2) (s := 0) (v := 0) (Or.inr rfl)) ?_
  rintro u ⟨G, hu, sG, Ru⟩
  have Ru' : All u M U (eP F) := by rw [← P1]; exact Ru
  refine tail hu (sS2.trans sG) (fun e => absurd e ne) (fun k _ k2 k3 => ?_) Ru'
  show x1' 3 k + x0' k = 0
  unfold x1' x0'
  rw [if_neg (fun e => k3 e.symm)]; rfl
 ·have same : SR (wL F1 0) (wL F1 0) (fun _ => 0) := ⟨rfl, fun k _ => by rw [Int32.add_zero], id, fun _ => id, id⟩
  exact tail hp same (fun _ => rfl) (fun _ _ _ _ => rfl) Rp
theorem init_m {a b c d : Int32} : okP (F2 a b c d) (fun o => ∃ F, Sh F o ∧ (∃ U, Fn F 0 U ∧ All o 0 U (eP F)) ∧ QI F 0 ∧ DS F ∧ LB F (fun _ => 0) ∧ (∀ k, k < 9 → SV F k = 0) ∧ eL F = 0 ∧ eT F = (if d < 0 then 0 else if 16 < d then 16 else d) ∧ eW F = (if a < 2 then 2 else if 16 < a then 16 else a) ∧ 0 ≤ (eT F).toInt) := by
 have z4 : (4 : Int32).toInt = 4 := rfl
 unfold F2
 obtain ⟨w, hw, w1, w2, w3⟩ := clampI (a := a) (b := 2) (c := 16) (by decide)
 obtain ⟨b', hb', _⟩ := clampI (a := b) (b := 1) (c := 8) (by decide)
 obtain ⟨c', hc', _⟩ := clampI (a := c) (b := 1) (c := 8) (by decide)
 obtain ⟨t, ht, t1, t2, t3⟩ := clampI (a := d) (b := 0) (c := 16) (by decide)
 rw [hw, hb', hc', ht]
 simp only [Option.bind_some]
 have z : ∀ n m : Nat, m < n → (List.replicate n (0 : Int32))[m]? = some 0 := fun n m h => by rw [List.getElem?_replicate, if_pos h]
 obtain ⟨F, hF⟩ : ∃ F : Fm, F = (List.replicate 32 0, 0, w, List.replicate 64 0, 0, List.replicate 10 0, List.replicate 4 0, List.replicate 4 0, t) := ⟨_, rfl⟩
 have fnF : ∃ U, Fn F 0 U := by
  refine ⟨0 - w.toInt.toNat, ?_⟩
  rw [hF]
  exact ⟨⟨List.length_replicate, List.length_replicate, List.length_replicate, List.length_replicate, List.length_replicate⟩, rfl, by decide, ⟨w1, w2⟩, rfl⟩
 obtain ⟨U, fn⟩ := fnF
 refine okP.mono (P := fun o => Sh F o ∧ All o 0 U (eP F)) ?_ ?_
 ·obtain ⟨p0, hp0⟩ : ∃ p0, p0 = s_period (s_repair (s_back (s_win (s_nakBuf (s_lostLen (s_lostLog (s_delLen (s_delVal (s_delSeq (s_drops (s_dups (s_lossLeft (s_rxTrail (s_rxLead (s_rxNext (s_rxVal (s_timer (s_state (s_stats (s_queue (s_pend (s_srcPayload ob0 (List.replicate 32 0)) (List.replicate 32 0)) (List.replicate 64 0)) (List.replicate 10 0)) (List.replicate 128 0)) (List.replicate 128 0)) (List.replicate 128 0)) (List.replicate 4 0)) (List.replicate 4 0)) (List.replicate 4 0)) (List.replicate 4 0)) (List.replicate 4 0)) (List.replicate 4 0)) (List.replicate 128 0)) (List.replicate 128 0)) (List.replicate 4 0)) (List.replicate 128 0)) (List.replicate 4 0)) (List.replicate 128 0)) w) b') c') t := ⟨_, rfl⟩
  rw [← hp0]
  have h0 : Sh F p0 := by
   rw [hp0, hF]
   dsimp only [Sh, f_srcPayload, f_pend, f_queue, f_stats, f_state, f_timer, f_rxVal, f_rxNext, f_rxLead, f_rxTrail, f_lossLeft, f_dups, f_drops, f_delSeq, f_delVal, f_delLen, f_lostLog, f_lostLen, f_nakBuf, f_win, f_back, f_repair, f_period, f_nextSeq, f_qLen, f_nakLen, s_srcPayload, s_pend, s_queue, s_stats, s_state, s_timer, s_rxVal, s_rxNext, s_rxLead, s_rxTrail, s_lossLeft, s_dups, s_drops, s_delSeq, s_delVal, s_delLen, s_lostLog, s_lostLen, s_nakBuf, s_win, s_back, s_repair, s_period, s_nextSeq, s_qLen, s_nakLen]
   refine ⟨List.length_replicate, List.length_replicate, List.length_replicate, List.length_replicate, List.length_replicate, List.length_replicate, List.length_replicate, List.length_replicate, List.length_replicate, List.length_replicate, List.length_replicate, List.length_replicate, List.length_replicate, List.length_replicate, rfl⟩
  have g0' : (f_rxNext p0, f_rxTrail p0, f_delLen p0, f_lostLen p0, f_state p0, f_rxLead p0) = (List.replicate 4 0, List.replicate 4 0, List.replicate 4 0, List.replicate 4 0, List.replicate 128 0, List.replicate 4 0) := by
   rw [hp0]
   dsimp only [f_srcPayload, f_pend, f_queue, f_stats, f_state, f_timer, f_rxVal, f_rxNext, f_rxLead, f_rxTrail, f_lossLeft, f_dups, f_drops, f_delSeq, f_delVal, f_delLen, f_lostLog, f_lostLen, f_nakBuf, f_win, f_back, f_repair, f_period, f_nextSeq, f_qLen, f_nakLen, s_srcPayload, s_pend, s_queue, s_stats, s_state, s_timer, s_rxVal, s_rxNext, s_rxLead, s_rxTrail, s_lossLeft, s_dups, s_drops, s_delSeq, s_delVal, s_delLen, s_lostLog, s_lostLen, s_nakBuf, s_win, s_back, s_repair, s_period, s_nextSeq, s_qLen, s_nakLen]
  clear hp0
  apply okP.bind
  refine okP.mono (P := fun p => Sh F p ∧ All p 0 U (eP F)) ?_ (fun p hp => okP.some hp)
  refine okP.loop (fun v => 0 ≤ v.1.toInt ∧ v.1.toInt ≤ 4 ∧ Sh F v.2 ∧ (f_rxNext v.2, f_rxTrail v.2, f_delLen v.2, f_lostLen v.2, f_state v.2) = (List.replicate 4 0, List.replicate 4 0, List.replicate 4 0, List.replicate 4 0, List.replicate 128 0) ∧ ∀ r : Nat, r < v.1.toInt.toNat → (f_rxLead v.2)[r]? = some (-1)) (fun v => (4 - v.1.toInt).toNat) ⟨by show (0 : Int) ≤ 0; decide, by show (0 : Int) ≤ 4; decide, h0, ?_, fun r hr => absurd hr (Nat.not_lt_zero _)⟩ (by show (4 - (0 : Int)).toNat < 4000; decide) ?_
  ·simp only [Prod.mk.injEq] at g0' ⊢
   exact ⟨g0'.1, g0'.2.1, g0'.2.2.1, g0'.2.2.2.1, g0'.2.2.2.2.1⟩
  rintro ⟨x, p⟩ ⟨x0, x1, hp, gp, lp⟩
  simp only at x0 x1 hp gp lp
  have l := Sh_l_rxLead hp
  unfold B2_207
  simp only
  refine okP.ite (fun c => ?_) (fun c => ?_)
  ·rw [i_lt, z4] at c
   have e1 : (x + 1).toInt = x.toInt + 1 := inc1 (by omega)
   apply okP.bind
   refine okP.aset x0 (by omega) ?_
   refine okP.some ⟨⟨by simp only; omega, by simp only; omega, Sh_rxLead hp (by rw [List.length_set]; exact l), by dsimp only [f_srcPayload, f_pend, f_queue, f_stats, f_state, f_timer, f_rxVal, f_rxNext, f_rxLead, f_rxTrail, f_lossLeft, f_dups, f_drops, f_delSeq, f_delVal, f_delLen, f_lostLog, f_lostLen, f_nakBuf, f_win, f_back, f_repair, f_period, f_nextSeq, f_qLen, f_nakLen, s_rxLead] at gp ⊢; exact gp, fun r hr => ?_⟩, by simp only; omega⟩
   simp only at hr
   show ((f_rxLead p).set x.toInt.toNat (-1))[r]? = some (-1)
   by_cases e : x.toInt.toNat = r
   ·rw [e, List.getElem?_set_self (by omega)]
   ·rw [List.getElem?_set_ne e]; exact lp r (by omega)
  ·rw [i_lt, z4] at c
   simp only [Prod.mk.injEq] at gp
   obtain ⟨a1, a2, a3, a4, a5⟩ := gp
   refine okP.some ⟨hp, fun r hr => ⟨0, 0, 0, ⟨⟨0, by rw [a1]; exact z 4 r hr, rfl⟩, ⟨-1, lp r (by omega), rfl⟩, ⟨0, by rw [a2]; exact z 4 r hr, rfl⟩, by omega, fun _ => 0, fun q hq => by rw [a5]; exact z 128 _ (by omega), fun q hq => absurd hq (Nat.not_lt_zero _), fun q _ hq => absurd hq (Nat.not_lt_zero _), fun q _ _ => by show (0 : Int32) ≠ 5 ∧ (0 : Int32) ≠ 6; decide, fun q _ _ => rfl, fun q _ hq => absurd hq (by show ¬ (0 : Int32) = 6; decide), fun q _ hq => absurd hq (by show ¬ (0 : Int32) = 4; decide), ⟨⟨0, by rw [a3]; exact z 4 r hr, rfl⟩, fun i q hi => absurd hi (by simp [pk])⟩, ⟨⟨0, by rw [a4]; exact z 4 r hr, rfl⟩, fun i q hi => absurd hi (by simp [pk])⟩⟩, by omega, by omega, by omega, by omega⟩⟩
 ·rintro o ⟨h, R⟩
  refine ⟨F, h, ⟨U, fn, R⟩, ?_, ?_, ?_, ?_, by rw [hF]; rfl, by rw [hF]; exact t3, by rw [hF]; exact w3, by rw [hF]; exact t1⟩
  ·rw [hF]
   exact ⟨by show 0 ≤ (0 : Int32).toInt ∧ (0 : Int32).toInt ≤ 64; decide, fun k hk => absurd hk (Nat.not_lt_zero _)⟩
  ·rw [hF]
   exact ⟨0, 0, 0, 0, z 4 0 (by decide), z 4 1 (by decide), z 4 2 (by decide), z 4 3 (by decide), z 10 9 (by decide)⟩
  ·rw [hF]
   exact fun r hr => ⟨0, 0, z 4 r hr, z 4 r hr, by decide, rfl⟩
  ·rw [hF]
   intro k hk
   unfold SV
   show ((List.replicate 10 (0 : Int32))[k]?).getD 0 = 0
   rw [z 10 k (by omega)]; rfl
theorem pk_sum {st : Nat → Int32} : ∀ {n : Nat}, (∀ q, q < n → st q = 5 ∨ st q = 6) → (pk st 5 n).length + (pk st 6 n).length = n
 | 0, _ => rfl
 | n + 1, h => by
  have ih := pk_sum (n := n) (fun q hq => h q (by omega))
  rw [pk_s, pk_s]
  rcases h n (by omega) with e | e
  ·rw [if_pos e, if_neg (by rw [e]; decide), List.length_append]
   show _ + 1 + _ = _
   omega
  ·rw [if_pos e, if_neg (by rw [e]; decide), List.length_append]
   show _ + (_ + 1) = _
   omega
theorem info_m {F : Fm} {o : Ob} (h : Sh F o) {M U : Nat} {P : List Int32} (hM : M ≤ 32) {x : Int32} (x0 : 0 ≤ x.toInt) (x4 : x.toInt < 4) (R : RI o x.toInt.toNat M U P) : ∃ n l t d e : Int32, F8 o x 0 = some n ∧ F8 o x 1 = some l ∧ F8 o x 2 = some t ∧ F8 o x 3 = some d ∧ F8 o x 4 = some e ∧ d + e = n ∧ 0 ≤ d.toInt ∧ 0 ≤ e.toInt ∧ 0 ≤ t.toInt ∧ t.toInt ≤ n.toInt ∧ n.toInt ≤ l.toInt + 1 ∧ l.toInt + 1 ≤ M ∧ t.toInt ≤ U := by
 obtain ⟨N, L, T, ⟨⟨n, hn, nN⟩, ⟨l, hl, lL⟩, ⟨t, ht, tT⟩, a4, st, s1, s2, s3, s4, s5, s6, s7, ⟨⟨d, hd, dD⟩, _⟩, ⟨⟨e, he, eE⟩, _⟩⟩, q1, q2, q3, q4⟩ := R
 have sm := pk_sum s2
 refine ⟨n, l, t, d, e, ?_, ?_, ?_, ?_, ?_, ?_, by omega, by omega, by omega, by omega, by omega, by omega, by omega⟩
 ·unfold F8
  rw [vr, if_pos ⟨x0, x4⟩]
  rw [Option.bind_some, if_neg (by decide), if_pos rfl, g0 x0 hn]; rfl
 ·unfold F8
  rw [vr, if_pos ⟨x0, x4⟩]
  rw [Option.bind_some, if_neg (by decide), if_neg (by decide), if_pos rfl, g0 x0 hl]; rfl
 ·unfold F8
  rw [vr, if_pos ⟨x0, x4⟩]
  rw [Option.bind_some, if_neg (by decide), if_neg (by decide), if_neg (by decide), if_pos rfl, g0 x0 ht]; rfl
 ·unfold F8
  rw [vr, if_pos ⟨x0, x4⟩]
  rw [Option.bind_some, if_neg (by decide), if_neg (by decide), if_neg (by decide), if_neg (by decide), if_pos rfl, g0 x0 hd]; rfl
 ·unfold F8
  rw [vr, if_pos ⟨x0, x4⟩]
  rw [Option.bind_some, if_neg (by decide), if_neg (by decide), if_neg (by decide), if_neg (by decide), if_neg (by decide), if_pos rfl, g0 x0 he]; rfl
 ·rw [i_eq, i_add (by omega) (by omega)]; omega
theorem info5 {F : Fm} {o : Ob} (h : Sh F o) (fw : Fw F) {x : Int32} (x0 : 0 ≤ x.toInt) (x4 : x.toInt < 4) : ∃ l d : Int32, F8 o x 5 = some l ∧ F8 o x 7 = some d ∧ (eO F)[x.toInt.toNat]? = some l ∧ (eD F)[x.toInt.toNat]? = some d := by
 obtain ⟨f1, f2, f3, f4, f5⟩ := fw
 refine ⟨_, _, ?_, ?_, List.getElem?_eq_getElem (by omega), List.getElem?_eq_getElem (by omega)⟩
 ·unfold F8
  rw [vr, if_pos ⟨x0, x4⟩]
  rw [Option.bind_some, if_neg (by decide), if_neg (by decide), if_neg (by decide), if_neg (by decide), if_neg (by decide), if_neg (by decide), if_pos rfl, h.O, g0 x0 (List.getElem?_eq_getElem (by omega))]; rfl
 ·unfold F8
  rw [vr, if_pos ⟨x0, x4⟩]
  rw [Option.bind_some, if_neg (by decide), if_neg (by decide), if_neg (by decide), if_neg (by decide), if_neg (by decide), if_neg (by decide), if_neg (by decide), if_neg (by decide), if_pos rfl, h.D, g0 x0 (List.getElem?_eq_getElem (by omega))]; rfl
def Ok (F : Fm) (M U : Nat) (o : Ob) : Prop := Sh F o ∧ Fn F M U ∧ All o M U (eP F) ∧ QI F M ∧ DS F ∧ 0 ≤ (eT F).toInt
theorem Ok.sr {F F' : Fm} {M U : Nat} {o p : Ob} {X : Nat → Int32} (h : Ok F M U o) (hp : Sh F' p) (s : SR F F' X) (R : All p M U (eP F)) : Ok F' M U p := by
 obtain ⟨h1, h2, h3, h4, h5, h6⟩ := h
 refine ⟨hp, s.fn h2, by rw [s.P]; exact R, ?_, s.2.2.1 h5, by rw [s.T]; exact h6⟩
 unfold QI
 rw [s.L, s.Q]
 exact h4
theorem Ok.send {F : Fm} {M U : Nat} {o : Ob} (h : Ok F M U o) (v : Int32) : okP (F17 o v) (fun z => (z = (-1, o) ∧ ¬ ((0 ≤ v.toInt ∧ v.toInt ≤ 255) ∧ M < 32)) ∨ ((0 ≤ v.toInt ∧ v.toInt ≤ 255) ∧ M < 32 ∧ z.1 = eM F ∧ ∃ F', Ok F' (M + 1) (M + 1 - (eW F).toInt.toNat) z.2 ∧ SR ((eP F).set M v, eM F + 1, eW F, eQ F, eL F, eS F, eO F, eD F, eT F) F' (fun k => x1' 1 k + x0' k))) := by
 obtain ⟨h1, h2, h3, h4, h5, h6⟩ := h
 refine okP.mono (send_m h1 h2 h3 v) ?_
 rintro z (q | ⟨q1, q2, q3, F', q4, q5, q6, q7⟩)
 ·exact Or.inl q
 ·refine Or.inr ⟨q1, q2, q3, F', ⟨q4, q6, ?_, ?_, q5.2.2.1 h5, by rw [q5.T]; exact h6⟩, q5⟩
  ·rw [q5.P]; exact q7
  ·unfold QI
   rw [q5.L, q5.Q]
   refine ⟨h4.1, fun k hk => ?_⟩
   obtain ⟨s, a, b, c⟩ := h4.2 k hk
   exact ⟨s, a, b, by omega⟩
theorem Ok.spm {F : Fm} {M U : Nat} {o : Ob} (h : Ok F M U o) : okP (F10 o) (fun p => ∃ F', Ok F' M U p ∧ SR F F' (fun k => x1' 3 k + x0' k)) := by
 refine okP.mono (spm_m h.1 h.2.1 h.2.2.1) ?_
 rintro p ⟨F', a, b, c⟩
 exact ⟨F', h.sr a b c, b⟩
theorem Ok.tick {F : Fm} {M U : Nat} {o : Ob} (h : Ok F M U o) : okP (F25 o) (fun p => ∃ F', Ok F' M U p ∧ Tk F F') := by
 obtain ⟨h1, h2, h3, h4, h5, h6⟩ := h
 refine okP.mono (tick_m h1 h2 h3 h4 h6) ?_
 rintro p ⟨F', a, b, c, d, e⟩
 have t := b.1
 simp only [Prod.mk.injEq] at t
 exact ⟨F', ⟨a, c, by rw [t.1]; exact d, e, b.2.2.2.2.2.2.1 h5, by rw [t.2.2.2]; exact h6⟩, b⟩
theorem Ok.loss {F : Fm} {M U : Nat} {o : Ob} (h : Ok F M U o) (x k : Int32) : okP (F31 o x k) (fun z => if 0 ≤ x.toInt ∧ x.toInt < 4 then z.1 = 1 ∧ ∃ kk : Int32, kk = (if k < 0 then 0 else if 255 < k then 255 else k) ∧ (0 ≤ kk.toInt ∧ kk.toInt ≤ 255) ∧ Ok (eP F, eM F, eW F, eQ F, eL F, eS F, (eO F).set x.toInt.toNat kk, eD F, eT F) M U z.2 else z = (0, o)) := by
 obtain ⟨h1, h2, h3, h4, h5, h6⟩ := h
 refine okP.mono (loss_m h1 h2 h3 x k) ?_
 intro z hz
 by_cases c : 0 ≤ x.toInt ∧ x.toInt < 4
 ·rw [if_pos c] at hz ⊢
  obtain ⟨a, kk, b, b2, d, e, f⟩ := hz
  exact ⟨a, kk, b, b2, d, e, f, h4, h5, h6⟩
 ·rw [if_neg c] at hz ⊢
  exact hz
theorem Ok.siz {F : Fm} {M U : Nat} {o : Ob} (h : Ok F M U o) : (f_srcPayload o).length = 32 ∧ (f_pend o).length = 32 ∧ (f_queue o).length = 64 ∧ (f_stats o).length = 10 ∧ (f_state o).length = 128 ∧ (f_timer o).length = 128 ∧ (f_rxVal o).length = 128 ∧ (f_rxNext o).length = 4 ∧ (f_rxLead o).length = 4 ∧ (f_rxTrail o).length = 4 ∧ (f_lossLeft o).length = 4 ∧ (f_dups o).length = 4 ∧ (f_drops o).length = 4 ∧ (f_delSeq o).length = 128 ∧ (f_delVal o).length = 128 ∧ (f_delLen o).length = 4 ∧ (f_lostLog o).length = 128 ∧ (f_lostLen o).length = 4 ∧ (f_nakBuf o).length = 128 := by
 obtain ⟨h1, ⟨⟨f1, f2, f3, f4, f5⟩, _⟩, _⟩ := h
 exact ⟨by rw [h1.P]; exact f1, Sh_l_pend h1, by rw [h1.Q]; exact f2, by rw [h1.S]; exact f3, Sh_l_state h1, Sh_l_timer h1, Sh_l_rxVal h1, Sh_l_rxNext h1, Sh_l_rxLead h1, Sh_l_rxTrail h1, by rw [h1.O]; exact f4, Sh_l_dups h1, by rw [h1.D]; exact f5, Sh_l_delSeq h1, Sh_l_delVal h1, Sh_l_delLen h1, Sh_l_lostLog h1, Sh_l_lostLen h1, Sh_l_nakBuf h1⟩

def bt6 (x : Int64) (n : Nat) : Bool := x.toBitVec.getLsbD n
theorem bt6_or (x y : Int64) (n : Nat) : bt6 (x ||| y) n = (bt6 x n || bt6 y n) := by
 show (x.toBitVec ||| y.toBitVec).getLsbD n = _
 rw [BitVec.getLsbD_or]; rfl
theorem bt6_one {y : Int32} {k : Nat} (h : y.toInt = k) (hk : k < 32) : bt6 ((1 : Int64) <<< (y.toInt64 &&& 63)) k = true := by
 have : ∀ k : Fin 32, bt6 ((1 : Int64) <<< ((Int32.ofInt k.1).toInt64 &&& 63)) k.1 = true := by decide +kernel
 rw [ofI h]
 exact this ⟨k, hk⟩
theorem bt6_ushr (x : Int64) {y : Int32} {n : Nat} (h : y.toInt = n) (hn : n < 64) (e : bt6 x n = true) : ¬ (XT.ushrL x y &&& 1 = 0) := by
 intro c
 have c1 := congrArg Int64.toBitVec c
 have c2 : (XT.ushrL x y).toBitVec &&& 1#64 = 0#64 := c1
 rw [ushr64 x h hn, BitVec.and_one_eq_setWidth_ofBool_getLsbD] at c2
 have e2 : (x.toBitVec >>> n).getLsbD 0 = bt6 x n := by
  rw [BitVec.getLsbD_ushiftRight]; rfl
 rw [e2, e] at c2
 exact absurd c2 (by decide)
def Fl (w : Int64) (k : Nat) (v : Int32) : Prop := ∀ b : Int32, b.toInt = (k * 8 : Nat) → (XT.ushrL w b) &&& 255 = v.toInt64
theorem m8 {x : Int32} {q : Nat} (h : x.toInt = q) (hq : q < 32) : ((x &&& 7) * 8).toInt = (q % 8 * 8 : Nat) ∧ x >>> ((3 : Int32) &&& 31) = Int32.ofInt (q / 8 : Nat) := by
 have a : ∀ n : Fin 32, ((Int32.ofInt n.1 &&& 7) * 8).toInt = (n.1 % 8 * 8 : Nat) := by decide
 have b : ∀ n : Fin 32, Int32.ofInt n.1 >>> ((3 : Int32) &&& 31) = Int32.ofInt (n.1 / 8 : Nat) := by decide
 rw [ofI h]
 exact ⟨a ⟨q, hq⟩, b ⟨q, hq⟩⟩
theorem v8 {v : Int32} (h0 : 0 ≤ v.toInt) (h1 : v.toInt ≤ 255) : v &&& 255 = v ∧ v.toInt64.toBitVec.toNat < 2 ^ 8 :=
 small_cases (P := fun v => v &&& 255 = v ∧ v.toInt64.toBitVec.toNat < 2 ^ 8) h0 (n := 256) (by omega) (by decide +kernel)
theorem put_m (w : Int64) {x v : Int32} {q : Nat} (h : x.toInt = q) (hq : q < 32) (h0 : 0 ≤ v.toInt) (h1 : v.toInt ≤ 255) : ∃ w', F21 w x v = some w' ∧ Fl w' (q % 8) v ∧ ∀ k, k < 8 → k ≠ q % 8 → ∀ u, Fl w k u → Fl w' k u := by
 obtain ⟨a1, _⟩ := m8 h hq
 obtain ⟨b1, b2⟩ := v8 h0 h1
 unfold F21
 rw [b1]
 refine ⟨_, rfl, fun b hb => ?_, fun k hk nk u hu b hb => ?_⟩
 ·rw [fput 8 255 rfl w v.toInt64 b2 a1 hb (by decide) (by decide) (by omega) (by omega) (Or.inl rfl), if_pos rfl]
 ·rw [fput 8 255 rfl w v.toInt64 b2 a1 hb (by decide) (by decide) (by omega) (by omega) (by omega), if_neg (by omega)]
  exact hu b hb
theorem get_m {w : Int64} {x v : Int32} {q : Nat} (h : x.toInt = q) (hq : q < 32) (f : Fl w (q % 8) v) : F24 w x = some v := by
 obtain ⟨a1, _⟩ := m8 h hq
 unfold F24
 rw [f _ a1, Int32.toInt32_toInt64]
def wsel (w0 w1 w2 w3 : Int64) (b : Nat) : Int64 := if b = 0 then w0 else if b = 1 then w1 else if b = 2 then w2 else w3
def Wd (w0 w1 w2 w3 an : Int64) (M : Nat) (P : List Int32) : Prop := ∀ q, q < M → bt6 an q = true ∧ ∃ v, P[q]? = some v ∧ Fl (wsel w0 w1 w2 w3 (q / 8)) (q % 8) v
theorem Wd_put {w0 w1 w2 w3 an u0 u1 u2 u3 : Int64} {M : Nat} {P : List Int32} (h : Wd w0 w1 w2 w3 an M P) (hP : M < P.length) (hM : M < 32) {x v : Int32} (hx : x.toInt = M) (h1 : Fl (wsel u0 u1 u2 u3 (M / 8)) (M % 8) v) (h2 : ∀ k, k < 8 → k ≠ M % 8 → ∀ u, Fl (wsel w0 w1 w2 w3 (M / 8)) k u → Fl (wsel u0 u1 u2 u3 (M / 8)) k u) (h3 : ∀ b, b < 4 → b ≠ M / 8 → wsel u0 u1 u2 u3 b = wsel w0 w1 w2 w3 b) : Wd u0 u1 u2 u3 (an ||| ((1 : Int64) <<< (x.toInt64 &&& 63))) (M + 1) (P.set M v) := by
 intro q hq
 rw [bt6_or]
 by_cases e : q = M
 ·subst e
  rw [bt6_one hx hM, Bool.or_true]
  exact ⟨rfl, v, List.getElem?_set_self hP, h1⟩
 ·obtain ⟨a, b, c, d⟩ := h q (by omega)
  rw [a, Bool.true_or]
  refine ⟨rfl, b, by rw [List.getElem?_set_ne (by omega)]; exact c, ?_⟩
  by_cases f : q / 8 = M / 8
  ·rw [f] at d ⊢
   exact h2 _ (by omega) (by omega) _ d
  ·rw [h3 _ (by omega) f]; exact d
theorem pk_at {st : Nat → Int32} {v : Int32} {q : Nat} (h : st q = v) : ∀ {n : Nat}, q < n → (pk st v n)[(pk st v q).length]? = some q
 | 0, hn => absurd hn (Nat.not_lt_zero _)
 | n + 1, hn => by
  rw [pk_s]
  by_cases e : q = n
  ·subst e
   rw [if_pos h, List.getElem?_append_right (Nat.le_refl _), Nat.sub_self]; rfl
  ·have ih := pk_at h (n := n) (by omega)
   obtain ⟨l, _⟩ := List.getElem?_eq_some_iff.1 ih
   split
   ·rw [List.getElem?_append_left l]; exact ih
   ·exact ih
theorem pk_in {st : Nat → Int32} {v : Int32} {n i q : Nat} (h : (pk st v n)[i]? = some q) : st q = v ∧ q < n := by
 have := List.mem_of_getElem? h
 unfold pk at this
 rw [List.mem_filter, List.mem_range] at this
 exact ⟨by simpa using this.2, this.1⟩
theorem dseq_m {F : Fm} {o : Ob} (h : Sh F o) {x : Int32} (x0 : 0 ≤ x.toInt) (x4 : x.toInt < 4) {D : List Nat} {P : List Int32} (g : Log (f_delSeq o) (f_delVal o) (f_delLen o) x.toInt.toNat D P) (hD : D.length ≤ 32) {i : Int32} {n q : Nat} (hi : i.toInt = n) (hq : D[n]? = some q) : F22 o x i = some (Int32.ofInt q) ∧ ∀ v, P[q]? = some v → F23 o x i = some v := by
 obtain ⟨⟨d, hd, dD⟩, g2⟩ := g
 obtain ⟨a, b⟩ := g2 n q hq
 obtain ⟨l, _⟩ := List.getElem?_eq_some_iff.1 hq
 have z0 : (0 : Int32).toInt = 0 := rfl
 have e := r32 x0 x4 hi (by omega)
 refine ⟨?_, fun v hv => ?_⟩
 ·unfold F22
  rw [vr, if_pos ⟨x0, x4⟩]
  rw [Option.bind_some, if_neg (by decide), if_neg (by rw [i_lt, z0]; omega), g0 x0 hd, Option.bind_some, if_pos (by rw [i_lt]; omega), g1 e a]; rfl
 ·unfold F23
  rw [vr, if_pos ⟨x0, x4⟩]
  rw [Option.bind_some, if_neg (by decide), if_neg (by rw [i_lt, z0]; omega), g0 x0 hd, Option.bind_some, if_pos (by rw [i_lt]; omega), g1 e (b.trans hv)]; rfl
theorem lseq_m {F : Fm} {o : Ob} (h : Sh F o) {x : Int32} (x0 : 0 ≤ x.toInt) (x4 : x.toInt < 4) {D : List Nat} (g : LogL (f_lostLog o) (f_lostLen o) x.toInt.toNat D) (hD : D.length ≤ 32) {i : Int32} {n q : Nat} (hi : i.toInt = n) (hq : D[n]? = some q) : F37 o x i = some (Int32.ofInt q) := by
 obtain ⟨⟨d, hd, dD⟩, g2⟩ := g
 have a := g2 n q hq
 obtain ⟨l, _⟩ := List.getElem?_eq_some_iff.1 hq
 have z0 : (0 : Int32).toInt = 0 := rfl
 have e := r32 x0 x4 hi (by omega)
 unfold F37
 rw [vr, if_pos ⟨x0, x4⟩]
 rw [Option.bind_some, if_neg (by decide), if_neg (by rw [i_lt, z0]; omega), g0 x0 hd, Option.bind_some, if_pos (by rw [i_lt]; omega), g1 e a]; rfl
def Acc (w0 w1 w2 w3 an : Int64) (o : Ob) : Prop := ∃ F M U, Ok F M U o ∧ Wd w0 w1 w2 w3 an M (eP F)
abbrev QV := Int64 × Int64 × Int64 × Int64 × Int64 × Int32 × Ob
def Po (s : List Int32) (t : Int32) (r : (Int32 × QHeap) ⊕ QV) : Prop := Sum.elim (fun e => e.1 = 1 ∧ sFit s e.2) (fun w : QV => (-1 ≤ w.2.2.2.2.2.1.toInt ∧ w.2.2.2.2.2.1.toInt ≤ 200 ∧ Acc w.1 w.2.1 w.2.2.1 w.2.2.2.1 w.2.2.2.2.1 w.2.2.2.2.2.2) ∧ (300 - w.2.2.2.2.2.1.toInt).toNat < (300 - t.toInt).toNat) r
theorem Po_mk {s : List Int32} {w0 w1 w2 w3 an : Int64} {t : Int32} {o : Ob} (I : Acc w0 w1 w2 w3 an o) (t0 : -1 ≤ t.toInt) (t1 : t.toInt < 200) : Po s t (.inr (w0, w1, w2, w3, an, t + 1, o)) := by
 have a3 : (t + 1).toInt = t.toInt + 1 := inc1 (by omega)
 show (-1 ≤ (t + 1).toInt ∧ (t + 1).toInt ≤ 200 ∧ Acc w0 w1 w2 w3 an o) ∧ (300 - (t + 1).toInt).toNat < (300 - t.toInt).toNat
 exact ⟨⟨by omega, by omega, I⟩, by omega⟩
theorem look {F : Fm} {o : Ob} (h : Sh F o) {x : Int32} (x0 : 0 ≤ x.toInt) (x4 : x.toInt < 4) {w0 w1 w2 w3 an : Int64} {M U N T : Nat} {P : List Int32} (wd : Wd w0 w1 w2 w3 an M P) (hNM : N ≤ M) (hM : M ≤ 32) {st : Nat → Int32} (s2 : ∀ q, q < N → st q = 5 ∨ st q = 6) (s6 : ∀ q, q < 32 → st q = 6 → q < T) (hTU : T ≤ U) (g5 : Log (f_delSeq o) (f_delVal o) (f_delLen o) x.toInt.toNat (pk st 5 N) P) (g6 : LogL (f_lostLog o) (f_lostLen o) x.toInt.toNat (pk st 6 N)) {s : List Int32} {c1 c2 c3 c4 tr n d l rt : Int32} (hn : n.toInt = N) (hd : d.toInt = (pk st 5 N).length) (hl : l.toInt = (pk st 6 N).length) (htr : tr.toInt = U) (hrt : rt.toInt = T) : okP (loopN (B0_419 s o w0 w1 w2 w3 an c1 c2 c3 c4 tr x n d l rt) qN (0, 0, 0)) (fun e => e = .inl (d, l) ∨ e = .inr (.inl (d, l))) := by
 have z0 : (0 : Int32).toInt = 0 := rfl
 have p5 := pk_len st 5 N
 have p6 := pk_len st 6 N
 refine okP.loop (fun v => ∃ q : Nat, v.2.2.toInt = q ∧ q ≤ N ∧ v.1.toInt = (pk st 5 q).length ∧ v.2.1.toInt = (pk st 6 q).length) (fun v => (40 - v.2.2.toInt).toNat) ⟨0, rfl, Nat.zero_le _, rfl, rfl⟩ (by show (40 - (0 : Int)).toNat < 4000; decide) ?_
 rintro ⟨i, j, y⟩ ⟨q, hy, qN', hi, hj⟩
 simp only at hy hi hj
 have q5 := pk_len st 5 q
 have q6 := pk_len st 6 q
 unfold B0_419
 simp only
 have done : ¬ y < n → d = i ∧ l = j := by
  intro c
  rw [i_lt] at c
  have : q = N := by omega
  subst this
  exact ⟨by rw [i_eq]; omega, by rw [i_eq]; omega⟩
 refine okP.ite (fun c32 => ?_) (fun c32 => ?_)
 rotate_left
 ·rw [i_lt, z32] at c32
  obtain ⟨e1, e2⟩ := done (by rw [i_lt]; omega)
  subst e1 e2
  exact okP.some (Or.inr rfl)
 rw [i_lt, z32] at c32
 refine okP.ite (fun cn => ?_) (fun cn => ?_)
 rotate_left
 ·obtain ⟨e1, e2⟩ := done cn
  subst e1 e2
  exact okP.some (Or.inl rfl)
 rw [i_lt] at cn
 have y1 : (y + 1).toInt = y.toInt + 1 := inc1 (by omega)
 have q32 : q < 32 := by omega
 have qNn : q < N := by omega
 have yq : y = Int32.ofInt q := ofI hy
 rcases s2 q qNn with e5 | e6
 ·have a := pk_at e5 qNn
  obtain ⟨la, _⟩ := List.getElem?_eq_some_iff.1 a
  obtain ⟨b1, b2⟩ := dseq_m h x0 x4 g5 (by omega) hi a
  rw [if_pos (show i < d by rw [i_lt]; omega), b1]
  simp only [Option.bind_some]
  unfold J0_455
  obtain ⟨k1, v, k2, k3⟩ := wd q (by omega)
  rw [if_pos yq.symm, if_neg (bt6_ushr an hy (by omega) k1), b2 v k2]
  simp only [Option.bind_some]
  obtain ⟨_, m2⟩ := m8 hy q32
  have ws : (if (y >>> ((3 : Int32) &&& 31)) = (0 : Int32) then w0 else (if (y >>> ((3 : Int32) &&& 31)) = (1 : Int32) then w1 else (if (y >>> ((3 : Int32) &&& 31)) = (2 : Int32) then w2 else w3))) = wsel w0 w1 w2 w3 (q / 8) := by
   rw [m2]
   unfold wsel
   have : q / 8 = 0 ∨ q / 8 = 1 ∨ q / 8 = 2 ∨ q / 8 = 3 := by omega
   rcases this with e | e | e | e <;> rw [e] <;> rfl
  rw [ws, get_m hy q32 k3]
  rw [Option.bind_some, if_pos rfl]
  unfold J0_597
  have i1 : (i + 1).toInt = i.toInt + 1 := inc1 (by omega)
  refine okP.some ⟨⟨q + 1, by simp only; omega, qNn, ?_, ?_⟩, by simp only; omega⟩
  ·simp only
   rw [pk_s, if_pos e5, List.length_append, i1, hi]; rfl
  ·simp only
   rw [pk_s, if_neg (by rw [e5]; decide)]; exact hj
 ·have no5 : ∀ w : Int32, (w = -1 ∨ ∃ n' q' : Nat, (pk st 5 N)[n']? = some q' ∧ w = Int32.ofInt q') → w ≠ y := by
   rintro w (e | ⟨n', q', a, e⟩) c
   ·rw [e] at c
    have : (-1 : Int32).toInt = -1 := rfl
    rw [i_eq, this] at c; omega
   ·obtain ⟨a1, a2⟩ := pk_in a
    rw [e, i_eq, hy, Int32.toInt_ofInt_of_le (by show _ ≤ (q' : Int); omega) (by show (q' : Int) < _; omega)] at c
    have : q' = q := by omega
    rw [this, e6] at a1
    exact absurd a1 (by decide)
  have go : ∀ w : Int32, w ≠ y → okP (J0_455 s o w0 w1 w2 w3 an c1 c2 c3 c4 tr x n d l rt i j y w) (fun r => Sum.elim (fun e => e = .inl (d, l) ∨ e = .inr (.inl (d, l))) (fun v' : Int32 × Int32 × Int32 => (∃ q : Nat, v'.2.2.toInt = (q : Int) ∧ q ≤ N ∧ v'.1.toInt = (pk st 5 q).length ∧ v'.2.1.toInt = (pk st 6 q).length) ∧ (40 - v'.2.2.toInt).toNat < (40 - y.toInt).toNat) r) := by
   intro w hw
   unfold J0_455
   have a := pk_at e6 qNn
   obtain ⟨la, _⟩ := List.getElem?_eq_some_iff.1 a
   have b1 := lseq_m h x0 x4 g6 (by omega) hj a
   rw [if_neg hw, if_pos (show j < l by rw [i_lt]; omega), b1]
   simp only [Option.bind_some]
   unfold J0_564
   have qT := s6 q q32 e6
   rw [if_pos yq.symm, if_pos (by rw [i_lt]; omega), if_pos (by rw [i_lt]; omega)]
   unfold J0_597
   have j1 : (j + 1).toInt = j.toInt + 1 := inc1 (by omega)
   refine okP.some ⟨⟨q + 1, by simp only; omega, qNn, ?_, ?_⟩, by simp only; omega⟩
   ·simp only
    rw [pk_s, if_neg (by rw [e6]; decide)]; exact hi
   ·simp only
    rw [pk_s, if_pos e6, List.length_append, j1, hj]; rfl
  refine okP.ite (fun ci => ?_) (fun _ => go (-1) (no5 _ (Or.inl rfl)))
  rw [i_lt] at ci
  have a := List.getElem?_eq_getElem (l := pk st 5 N) (i := (pk st 5 q).length) (by omega)
  obtain ⟨b1, _⟩ := dseq_m h x0 x4 g5 (by omega) hi a
  rw [b1]
  simp only [Option.bind_some]
  exact go _ (no5 _ (Or.inr ⟨_, _, a, rfl⟩))
theorem j315 {s : List Int32} {w0 w1 w2 w3 an : Int64} {c1 c2 t : Int32} {o : Ob} (I : Acc w0 w1 w2 w3 an o) (t0 : -1 ≤ t.toInt) (t1 : t.toInt < 200) : okP (J0_315 s o w0 w1 w2 w3 an c1 c2 t) (Po s t) := by
 have I' := I
 obtain ⟨F, M, U, ⟨h1, h2, h3, h4, h5, h6⟩, wd⟩ := I
 obtain ⟨fw, hM, M32, hW, hU⟩ := id h2
 have z0 : (0 : Int32).toInt = 0 := rfl
 have z1 : (1 : Int32).toInt = 1 := rfl
 have z4 : (4 : Int32).toInt = 4 := rfl
 obtain ⟨tr, htr, tU⟩ := trl_m h1 h2
 have hl : F4 o = some (eM F - 1) := by unfold F4 F5; rw [h1.M]; rfl
 have ht' : F6 o = some tr := by unfold F6; rw [htr]; rfl
 have lM : (eM F - 1).toInt + 1 = M := by rw [i_sub (by omega) (by omega), z1]; omega
 have lM1 : (eM F - 1 + 1).toInt = M := by rw [inc1 (by omega)]; exact lM
 unfold J0_315
 rw [hl, ht']
 simp only [Option.bind_some]
 apply okP.bind
 refine okP.mono (P := fun e => e = .inl ()) ?_ ?_
 ·refine okP.loop (fun v => 0 ≤ v.toInt ∧ v.toInt ≤ 4) (fun v => (4 - v.toInt).toNat) ⟨by show (0 : Int) ≤ 0; decide, by show (0 : Int) ≤ 4; decide⟩ (by show (4 - (0 : Int)).toNat < 4000; decide) ?_
  rintro x ⟨x0, x1⟩
  unfold B0_330
  refine okP.ite (fun c => ?_) (fun _ => okP.some rfl)
  rw [i_lt, z4] at c
  have e1 : (x + 1).toInt = x.toInt + 1 := inc1 (by omega)
  have R := h3 x.toInt.toNat (by omega)
  obtain ⟨N, L, T, ⟨⟨n, hn, nN⟩, ⟨l, hl, lL⟩, ⟨t, ht, tT⟩, a4, st, s1, s2, s3, s4, s5, s6, s7, G5, G6⟩, q1, q2, q3, q4⟩ := R
  obtain ⟨⟨d, hd, dD⟩, _⟩ := id G5
  obtain ⟨⟨e, he, eE⟩, _⟩ := id G6
  have sm := pk_sum s2
  have i0 : F8 o x 0 = some n := by
   unfold F8
   rw [vr, if_pos ⟨x0, c⟩]
   rw [Option.bind_some, if_neg (by decide), if_pos rfl, g0 x0 hn]; rfl
  have i2 : F8 o x 2 = some t := by
   unfold F8
   rw [vr, if_pos ⟨x0, c⟩]
   rw [Option.bind_some, if_neg (by decide), if_neg (by decide), if_neg (by decide), if_pos rfl, g0 x0 ht]; rfl
  have i3 : F8 o x 3 = some d := by
   unfold F8
   rw [vr, if_pos ⟨x0, c⟩]
   rw [Option.bind_some, if_neg (by decide), if_neg (by decide), if_neg (by decide), if_neg (by decide), if_pos rfl, g0 x0 hd]; rfl
  have i4 : F8 o x 4 = some e := by
   unfold F8
   rw [vr, if_pos ⟨x0, c⟩]
   rw [Option.bind_some, if_neg (by decide), if_neg (by decide), if_neg (by decide), if_neg (by decide), if_neg (by decide), if_pos rfl, g0 x0 he]; rfl
  rw [i0, i3, i4, i2]
  simp only [Option.bind_some]
  rw [if_neg (by rw [i_lt, z0]; omega), if_neg (by rw [i_lt, z0]; omega), if_pos (by rw [i_eq, i_add (by omega) (by omega)]; omega), if_neg (by rw [i_lt, lM1]; omega), if_neg (by rw [i_lt, z32]; omega)]
  apply okP.bind
  refine okP.mono (look h1 x0 c wd (N := N) (by omega) M32 s2 s6 q4 G5 G6 nN dD eE tU tT) ?_
  rintro _ (rfl | rfl)
  ·simp only
   unfold J0_603
   rw [if_pos rfl, if_pos rfl]
   exact okP.some ⟨⟨by omega, by omega⟩, by omega⟩
  ·simp only
   unfold J0_603
   rw [if_pos rfl, if_pos rfl]
   exact okP.some ⟨⟨by omega, by omega⟩, by omega⟩
 ·rintro _ rfl
  exact okP.some (Po_mk I' t0 t1)
theorem cell_m {s : List Int32} (hs : s.length ≤ 260) {x : Int32} (hx : 0 ≤ x.toInt) : okP (F1 s x) (fun _ => True) := by
 have hl := len_i (n := s.length) (by omega)
 unfold F1
 refine okP.ite (fun c => ?_) (fun _ => okP.some trivial)
 rw [i_lt, hl] at c
 apply okP.bind
 exact okP.aget hx c (fun v _ => okP.some trivial)
theorem turn {s : List Int32} (hs : s.length ≤ 260) {w0 w1 w2 w3 an : Int64} {c1 t : Int32} (k0' : 0 ≤ c1.toInt) (k1' : c1.toInt ≤ 130) {o : Ob} (I : Acc w0 w1 w2 w3 an o) (t0 : -1 ≤ t.toInt) (t1 : t.toInt ≤ 200) : okP (B0_90 s c1 (c1 + 40) (w0, w1, w2, w3, an, t, o)) (Po s t) := by
 have z0 : (0 : Int32).toInt = 0 := rfl
 have z2 : (2 : Int32).toInt = 2 := rfl
 have z4 : (4 : Int32).toInt = 4 := rfl
 have z5 : (5 : Int32).toInt = 5 := rfl
 have z40 : (40 : Int32).toInt = 40 := rfl
 have z255 : (255 : Int32).toInt = 255 := rfl
 have c40 : (c1 + 40).toInt = c1.toInt + 40 := by rw [i_add (by omega) (by omega), z40]
 obtain ⟨F, M, U, h, wd⟩ := id I
 have fn : sFit s (H0 s o) := by
  obtain ⟨b1, b2, b3, b4, b5, b6, b7, b8, b9, b10, b11, b12, b13, b14, b15, b16, b17, b18, b19⟩ := h.siz
  refine ⟨by show 21 - 1 ≤ _; decide, ?_⟩
  simp only [H0, H0v, qhs, qsz, b1, b2, b3, b4, b5, b6, b7, b8, b9, b10, b11, b12, b13, b14, b15, b16, b17, b18, b19]
  simp only [cN, room_1]
  omega
 have hM := h.2.1.2.1
 have M32 := h.2.1.2.2.1
 have j304 : okP (J0_304 s o w0 w1 w2 w3 an c1 (c1 + 40) t) (Po s t) ∨ ¬ t < c1 + 40 := by
  by_cases ct : t < c1 + 40
  ·left
   rw [i_lt, c40] at ct
   unfold J0_304
   refine okP.ite (fun _ => j315 I t0 (by omega)) (fun _ => ?_)
   apply okP.bind
   refine okP.mono h.tick ?_
   rintro p ⟨F', q, tk⟩
   have k1 := tk.1
   simp only [Prod.mk.injEq] at k1
   exact j315 ⟨F', M, U, q, by rw [k1.1]; exact wd⟩ t0 (by omega)
  ·exact Or.inr ct
 unfold B0_90
 simp only
 refine okP.ite (fun ct => ?_) (fun _ => okP.some ⟨rfl, fn⟩)
 have J := j304.resolve_right (fun c => c ct)
 clear j304
 rw [i_lt, c40] at ct
 refine okP.ite (fun _ => J) (fun c0 => ?_)
 rw [i_lt, z0] at c0
 refine okP.ite (fun cc => ?_) (fun _ => J)
 rw [i_lt] at cc
 have m2 : ((2 : Int32) * t).toInt = 2 * t.toInt := by rw [i_mul (by rw [z2]; omega) (by rw [z2]; omega), z2]
 have m4 : ((4 : Int32) + 2 * t).toInt = 4 + 2 * t.toInt := by rw [i_add (by omega) (by omega), m2, z4]
 have m5 : ((5 : Int32) + 2 * t).toInt = 5 + 2 * t.toInt := by rw [i_add (by omega) (by omega), m2, z5]
 have t200 : t.toInt < 200 := by omega
 apply okP.bind; refine okP.mono (cell_m hs (by omega)) (fun y0 _ => ?_)
 apply okP.bind; refine okP.mono (cell_m hs (by omega)) (fun y1 _ => ?_)
 refine okP.ite (fun _ => ?_) (fun _ => ?_)
 ·refine okP.ite (fun _ => ?_) (fun _ => ?_)
  ·apply okP.bind
   refine okP.mono h.spm ?_
   rintro p ⟨F', q, sr⟩
   exact j315 ⟨F', M, U, q, by rw [sr.P]; exact wd⟩ t0 t200
  refine okP.ite (fun _ => ?_) (fun _ => ?_)
  ·apply okP.bind
   refine okP.mono (h.loss _ _) ?_
   rintro ⟨z, p⟩ hz
   split at hz
   ·obtain ⟨_, kk, _, _, q⟩ := hz
    exact j315 ⟨_, M, U, q, wd⟩ t0 t200
   ·cases hz
    exact j315 I t0 t200
  ·apply okP.bind
   refine okP.mono h.tick ?_
   rintro p ⟨F', q, tk⟩
   have k1 := tk.1
   simp only [Prod.mk.injEq] at k1
   exact j315 ⟨F', M, U, q, by rw [k1.1]; exact wd⟩ t0 t200
 ·have vr' := and_rng (x := y1) (m := 255) (by decide)
  obtain ⟨v, hv⟩ : ∃ v, v = y1 &&& 255 := ⟨_, rfl⟩
  rw [← hv] at vr' ⊢
  clear hv
  rw [z255] at vr'
  apply okP.bind
  refine okP.mono (h.send v) ?_
  rintro ⟨z, p⟩ (⟨q, nq⟩ | ⟨q1, q2, q3, F', q, sr⟩)
  ·cases q
   simp only
   rw [if_pos (by decide)]
   exact j315 I t0 t200
  ·simp only at q3 q ⊢
   have zM : z.toInt = M := by rw [q3]; exact hM
   have P1 : eP F' = (eP F).set M v := sr.P
   have fw := h.2.1.1
   rw [if_neg (by rw [i_lt, z0]; omega), if_pos (by rw [i_lt, z32]; omega)]
   obtain ⟨_, m8'⟩ := m8 zM q2
   have four : M / 8 = 0 ∨ M / 8 = 1 ∨ M / 8 = 2 ∨ M / 8 = 3 := by omega
   have fin : ∀ u0 u1 u2 u3 : Int64, Fl (wsel u0 u1 u2 u3 (M / 8)) (M % 8) v → (∀ k, k < 8 → k ≠ M % 8 → ∀ u, Fl (wsel w0 w1 w2 w3 (M / 8)) k u → Fl (wsel u0 u1 u2 u3 (M / 8)) k u) → (∀ b, b < 4 → b ≠ M / 8 → wsel u0 u1 u2 u3 b = wsel w0 w1 w2 w3 b) → okP (J0_253 s p u0 u1 u2 u3 (an ||| ((1 : Int64) <<< (z.toInt64 &&& 63))) c1 (c1 + 40) t) (Po s t) := by
    intro u0 u1 u2 u3 f1 f2 f3
    exact j315 ⟨F', M + 1, _, q, by rw [P1]; exact Wd_put wd (by rw [fw.1]; omega) q2 zM f1 f2 f3⟩ t0 t200
   have b4' : ∀ b : Nat, b < 4 → b = 0 ∨ b = 1 ∨ b = 2 ∨ b = 3 := fun b hb => by omega
   rcases four with e | e | e | e
   ·rw [e] at m8' fin
    rw [m8', if_pos (by decide)]
    obtain ⟨u, a1, a2, a3⟩ := put_m w0 zM q2 vr'.1 vr'.2
    rw [a1, Option.bind_some]
    refine fin u w1 w2 w3 a2 a3 (fun b hb nb => ?_)
    rcases b4' b hb with e | e | e | e <;> subst e <;> first | rfl | exact absurd rfl nb
   ·rw [e] at m8' fin
    rw [m8', if_neg (by decide), if_pos (by decide)]
    obtain ⟨u, a1, a2, a3⟩ := put_m w1 zM q2 vr'.1 vr'.2
    rw [a1, Option.bind_some]
    refine fin w0 u w2 w3 a2 a3 (fun b hb nb => ?_)
    rcases b4' b hb with e | e | e | e <;> subst e <;> first | rfl | exact absurd rfl nb
   ·rw [e] at m8' fin
    rw [m8', if_neg (by decide), if_neg (by decide), if_pos (by decide)]
    obtain ⟨u, a1, a2, a3⟩ := put_m w2 zM q2 vr'.1 vr'.2
    rw [a1, Option.bind_some]
    refine fin w0 w1 u w3 a2 a3 (fun b hb nb => ?_)
    rcases b4' b hb with e | e | e | e <;> subst e <;> first | rfl | exact absurd rfl nb
   ·rw [e] at m8' fin
    rw [m8', if_neg (by decide), if_neg (by decide), if_neg (by decide)]
    obtain ⟨u, a1, a2, a3⟩ := put_m w3 zM q2 vr'.1 vr'.2
    rw [a1, Option.bind_some]
    refine fin w0 w1 w2 u a2 a3 (fun b hb nb => ?_)
    rcases b4' b hb with e | e | e | e <;> subst e <;> first | rfl | exact absurd rfl nb
theorem law_ok (s : List Int32) (hs : s.length ≤ 260) : ∃ τ, F0 s = some (1, τ) ∧ τ.length - List.length ([Sum.inr (Sum.inl (FieldType.int, s))] : QHeap) ≤ room_1.cells ∧ qhs τ - qhs [Sum.inr (Sum.inl (FieldType.int, s))] ≤ room_1.slots := by
 have hl := len_i (n := s.length) (by omega)
 have z2 : (2 : Int32).toInt = 2 := rfl
 have z3 : (3 : Int32).toInt = 3 := rfl
 have z4 : (4 : Int32).toInt = 4 := rfl
 have : okP (F0 s) (fun e => e.1 = 1 ∧ sFit s e.2) := by
  unfold F0
  apply okP.bind; refine okP.mono (cell_m hs (by decide)) (fun y0 _ => ?_)
  apply okP.bind; refine okP.mono (cell_m hs (by decide)) (fun y1 _ => ?_)
  apply okP.bind; refine okP.mono (cell_m hs (by decide)) (fun y2 _ => ?_)
  apply okP.bind; refine okP.mono (cell_m hs (by decide)) (fun y3 _ => ?_)
  apply okP.bind
  refine okP.mono init_m ?_
  rintro o ⟨F, q1, ⟨U, q2, q3⟩, q4, q5, q6, q7, q8, q9, q10, q11⟩
  have I0 : Acc 0 0 0 0 0 o := ⟨F, 0, U, ⟨q1, q2, q3, q4, q5, q11⟩, fun q hq => absurd hq (Nat.not_lt_zero _)⟩
  have run : ∀ c1 : Int32, 0 ≤ c1.toInt → c1.toInt ≤ 130 → okP (J0_78 s o 0 0 0 0 0 c1) (fun e => e.1 = 1 ∧ sFit s e.2) := by
   intro c1 k0 k1
   unfold J0_78
   apply okP.bind
   refine okP.mono (P := fun e => e.1 = 1 ∧ sFit s e.2) ?_ (fun e he => okP.some he)
   refine okP.loop (fun w : QV => -1 ≤ w.2.2.2.2.2.1.toInt ∧ w.2.2.2.2.2.1.toInt ≤ 200 ∧ Acc w.1 w.2.1 w.2.2.1 w.2.2.2.1 w.2.2.2.2.1 w.2.2.2.2.2.2) (fun w => (300 - w.2.2.2.2.2.1.toInt).toNat) ⟨by show (-1 : Int) ≤ -1; decide, by show (-1 : Int) ≤ 200; decide, I0⟩ (by show (300 - (-1 : Int)).toNat < 4000; decide) ?_
   rintro ⟨w0, w1, w2, w3, an, t, o⟩ ⟨h1, h2, h3⟩
   exact turn hs k0 k1 h3 h1 h2
  refine okP.ite (fun c => ?_) (fun _ => run 0 (by decide) (by decide))
  rw [i_lt, z4, hl] at c
  have a3 : (s.length.toInt32 - 3).toInt = s.length - 3 := by rw [i_sub (by omega) (by omega), hl, z3]
  have a2 : ((s.length.toInt32 - 3) / 2).toInt = ((s.length : Int) - 3) / 2 := by
   rw [Int32.toInt_div_of_ne_right _ _ (by decide), a3, z2, Int.tdiv_eq_ediv_of_nonneg (by omega)]
  exact run _ (by omega) (by omega)
 obtain ⟨⟨r, τ⟩, q1, q2, q3⟩ := this
 simp only at q2
 subst q2
 exact ⟨τ, q1, q3⟩
set_option maxRecDepth 65536 in
theorem comes_1 {Post : Tables → Env → Array Value → State → Outcome → State → Prop} (hpost : ∀ tb e args s v u, (limb_1_1.after args s (.returned v) u = true ∧ limb_1_2.after args s (.returned v) u = true ∧ True) → FrameEnd s (.returned v) u (Jvm.fieldLocs frame_1_writes args s ++ Jvm.arrayLocs frame_1_arrays args s ++ Jvm.staticLocs frame_1_statics s) 48 2304 → Post tb e args s (.returned v) u) :
    ArmFor flags0 classFile x code maxLocals ret World_1 tables_1 room_1 Calls_1 rest_1 Pre_1 Post := by
  intro l hfl _ _ p e ha hc hk s m args below hf hA hF happ hP
  obtain ⟨hcalls, hrest, hpre⟩ := hP
  obtain ⟨-, -, -, hnamed, -, -, -, hat⟩ := (Spec.applies_iff hf).mp happ
  obtain ⟨hg, hn⟩ := and_e (Cond.before_iff.mp (show (Jvm.Cond.and given_1 narrow_1).before args s = true from hpre))
  obtain ⟨g0, g1⟩ := and_e hg
  obtain ⟨w0, rfl⟩ : ∃ w0 : Value, args = #[w0] := by
    have hs : args.size = 1 := by simpa [Cond.value, given_1] using g0
    obtain ⟨L⟩ := args
    match L, hs with
    | [w0], _ => exact ⟨w0, rfl⟩
  have hw := fun d (hd : d ∈ tables_1) => atoms_spec (ws := Jvm.Cond.code x code maxLocals ret :: tables_1) hat d (List.mem_cons_of_mem _ hd)
  have hfit : Fit s := fun {y c} hc i hi => by
    obtain ⟨ha, rfl⟩ := Array.getElem?_eq_some_iff.mp hc
    have q := List.all_eq_true.mp ((Array.all_eq_true_iff_forall_mem.mp hF) _ (Array.getElem_mem ha)) i (List.mem_range.mpr hi)
    simpa [Array.getElem?_eq_getElem hi] using q
  obtain ⟨n1, n2⟩ := and_e hn
  obtain ⟨a, cl, xs, rfl, hA1, hA2, hlen⟩ := script_ok hfit n1 n2
  obtain ⟨τ, hF0, hc1, hs1⟩ := law_ok xs hlen
  have hlt := hA1.lt
  have Ad : QAd s.heap.size (fun k => match k with | 0 => a | k + 1 => s.heap.size + k) := ⟨fun k hk => by cases k with | zero => exact absurd hk (by decide) | succ k => rfl, fun i j h => by
    cases i with
    | zero => cases j with
      | zero => rfl
      | succ j => have h' : a = s.heap.size + j := h; exact absurd hA1.lt (by rw [h']; exact Nat.not_lt.mpr (Nat.le_add_right _ _))
    | succ i => cases j with
      | zero => have h' : s.heap.size + i = a := h; exact absurd hA1.lt (by rw [← h']; exact Nat.not_lt.mpr (Nat.le_add_right _ _))
      | succ j => have h' : s.heap.size + i = s.heap.size + j := h; omega⟩
  have hR : QRep s s.heap.size (fun k => match k with | 0 => a | k + 1 => s.heap.size + k) s.heap [.inr (.inl (.int, xs))] := ⟨Nat.le_refl _, rfl, fun k c h => by
    cases k with
    | zero => cases h; exact ⟨cl, hA1, hA2⟩
    | succ k => cases h⟩
  have T := tF0 (l := l) (Z := s) Ad (QW_ok hw) xs hF0
  have M := QTri.met (k := 0) (as := [.ref 0]) (by decide) T hR (Nat.le_of_ble_eq_true rfl) (fun q => by cases q) tables_1 (rm := room_1) (by decide) (by decide) hc1 hs1
  obtain ⟨n, o, h1, h2, h3, _, L, rfl, ⟨rfl, R', N⟩, hq⟩ := M p e ha hc hk s m _ below hf ((Spec.applies_iff_loose hf).mp happ).1 ⟨rfl, State.Warmed39.refl s, rfl⟩ trivial
  refine ⟨n, _, h1, h2, h3, hpost _ _ _ _ _ _ ⟨Cond.after_iff.mpr rfl, Cond.after_iff.mpr (eq_i res_at (Term.int_eval (1)) rfl), trivial⟩ ⟨hq.1, hq.2.1, (hq.2.2.sift fun y hy => Or.inr (N y hy)).mono hc1 hs1⟩⟩
theorem main_1_1 : Claimed_1_1 := comes_1 fun _ _ _ _ _ _ h hF => ⟨h.1, hF⟩
theorem main_1_2 : Claimed_1_2 := comes_1 fun _ _ _ _ _ _ h hF => ⟨h.2.1, hF⟩
end Jvm.Pilot.@@N@@
namespace Jvm.Pilot.@@N@@
open Jvm Jvm.ClassFile Sem Op Lib Jvm.Free Jvm.Stand Jvm.Pilot.@@N@@.Jvm.D
/-! MADE BY PROGRAM (witnessworld.py) out of the Statement's table words and the real class files: 11 classes; the members and pool entries that the words name. The judged class is class 1, her method 4. -/
namespace start1
open Jvm.ClassFile
def u (s : String) : CpInfo := .utf8 (stringToUtf16 s)
/-- a pool by its gaps: so many unusable entries, then the entry; so many at the end -/
def gap : Nat → List CpInfo → List CpInfo
  | 0, r => r
  | n + 1, r => .unusable :: gap n r
def poolList (es : List (Nat × CpInfo)) (last : Nat) : List CpInfo := es.foldr (fun e r => gap e.1 (e.2 :: r)) (gap last [])
def pool (es : List (Nat × CpInfo)) (last : Nat) : Array CpInfo := ⟨poolList es last⟩
def fileOf (pool : Array CpInfo) (this : Nat) (attrs : Array Attribute := #[]) (ms : Array MethodInfo := #[]) (fl : Nat := 33) (sup : Nat := 0) (ifs : Array Nat := #[]) (fds : Array FieldInfo := #[]) : ClassFile where
  minorVersion := 0
  majorVersion := 65
  constantPool := pool
  accessFlags := fl
  thisClass := this
  superClass := sup
  interfaces := ifs
  fields := fds
  methods := ms
  attributes := attrs
def plain (name : String) (sup : Option ClassId) : Class where
  name := name
  kind := .ordinary
  loader := none
  accessFlags := 33
  super := sup
  interfaces := #[]
  cf := none
  fields := #[]
  methods := #[]
  instanceTypes := #[]
  staticTypes := #[]
  resolved := #[]
  callSites := []
  init := .initialized
  statics := none
  mirror := none

def pool0 : Array CpInfo := pool [(5, u "<init>"), (0, u "()V"), (1, .class_ 10), (1, u "java/lang/Object")] 113

def k0c0 : Code := { maxStack := 0, maxLocals := 1, code := object_method_1_code, exceptionTable := #[], attributes := #[] }
def k0m0 : Method := { name := "<init>", desc := "()V", sig := { parameters := [], returnType := none }, accessFlags := 1, code := some k0c0 }
/-- java/lang/Object -/
def k0 : Class := { plain "java/lang/Object" none with
  accessFlags := 33
  interfaces := #[]
  cf := some (fileOf pool0 8 #[] #[{ accessFlags := 1, nameIndex := 5, descriptorIndex := 6, attributes := #[] }] 33 0 #[] #[])
  fields := #[]
  methods := #[k0m0]
  instanceTypes := #[]
  staticTypes := #[]
  resolved := Array.replicate 124 none
  statics := none }

def pool1 : Array CpInfo := pool [(2, .class_ 4), (1, u "java/lang/Object"), (0, u "<init>"), (0, u "()V"), (0, .long 255), (1, .long 18446744073709551615), (1, .class_ 12), (0, u "NakMulticast"), (0, .methodref 14 15), (0, .class_ 16), (0, .nameAndType 17 18), (0, u "NakMulticastOwnLaw"), (0, u "cell"), (0, u "([II)I"), (0, .methodref 11 20), (0, .nameAndType 5 21), (0, u "(IIII)V"), (0, .methodref 11 23), (0, .nameAndType 24 25), (0, u "send"), (0, u "(I)I"), (0, .methodref 14 27), (0, .nameAndType 28 29), (0, u "put"), (0, u "(JII)J"), (0, .methodref 11 31), (0, .nameAndType 32 6), (0, u "spm"), (0, .methodref 11 34), (0, .nameAndType 35 36), (0, u "setLoss"), (0, u "(II)Z"), (0, .methodref 11 38), (0, .nameAndType 39 6), (0, u "tick"), (0, .methodref 11 41), (0, .nameAndType 42 43), (0, u "sourceLead"), (0, u "()I"), (0, .methodref 11 45), (0, .nameAndType 46 43), (0, u "sourceTrail"), (0, .methodref 11 48), (0, .nameAndType 49 50), (0, u "rxInfo"), (0, u "(II)I"), (0, .methodref 11 52), (0, .nameAndType 53 50), (0, u "deliveredSeq"), (0, .methodref 11 55), (0, .nameAndType 56 50), (0, u "deliveredValue"), (0, .methodref 14 58), (0, .nameAndType 59 60), (0, u "get"), (0, u "(JI)I"), (0, .methodref 11 62), (0, .nameAndType 63 50), (0, u "lostSeq"), (3, u "law"), (0, u "([I)Z")] 4

def k1m0 : Method := { name := "<init>", desc := "()V", sig := { parameters := [], returnType := none }, accessFlags := 1, code := none }
def k1c1 : Code := { maxStack := 2, maxLocals := 2, code := method_2_code, exceptionTable := #[], attributes := #[] }
def k1m1 : Method := { name := "cell", desc := "([II)I", sig := { parameters := [(.array .int), .int], returnType := some .int }, accessFlags := 10, code := some k1c1 }
def k1c2 : Code := { maxStack := 6, maxLocals := 5, code := method_3_code, exceptionTable := #[], attributes := #[] }
def k1m2 : Method := { name := "put", desc := "(JII)J", sig := { parameters := [.long, .int, .int], returnType := some .long }, accessFlags := 10, code := some k1c2 }
def k1c3 : Code := { maxStack := 4, maxLocals := 4, code := method_4_code, exceptionTable := #[], attributes := #[] }
def k1m3 : Method := { name := "get", desc := "(JI)I", sig := { parameters := [.long, .int], returnType := some .int }, accessFlags := 10, code := some k1c3 }
def k1c4 : Code := { maxStack := 7, maxLocals := 29, code := code, exceptionTable := #[], attributes := #[] }
def k1m4 : Method := { name := "law", desc := "([I)Z", sig := { parameters := [(.array .int)], returnType := some .boolean }, accessFlags := 9, code := some k1c4 }
/-- NakMulticastOwnLaw -/
def k1 : Class := { plain "NakMulticastOwnLaw" (some 0) with
  accessFlags := 49
  interfaces := #[]
  cf := some (fileOf pool1 14 #[] #[{ accessFlags := 1, nameIndex := 5, descriptorIndex := 6, attributes := #[] }, { accessFlags := 10, nameIndex := 17, descriptorIndex := 18, attributes := #[] }, { accessFlags := 10, nameIndex := 28, descriptorIndex := 29, attributes := #[] }, { accessFlags := 10, nameIndex := 59, descriptorIndex := 60, attributes := #[] }, { accessFlags := 9, nameIndex := 67, descriptorIndex := 68, attributes := #[] }] 49 2 #[] #[])
  fields := #[]
  methods := #[k1m0, k1m1, k1m2, k1m3, k1m4]
  instanceTypes := #[]
  staticTypes := #[]
  resolved := Array.replicate 73 none
  statics := none }

def pool2 : Array CpInfo := pool [(1, .methodref 2 3), (0, .class_ 4), (0, .nameAndType 5 6), (0, u "java/lang/Object"), (0, u "<init>"), (0, u "()V"), (0, .fieldref 8 9), (0, .class_ 10), (0, .nameAndType 11 12), (0, u "NakMulticast"), (0, u "srcPayload"), (0, u "[I"), (0, .fieldref 8 14), (0, .nameAndType 15 16), (0, u "pend"), (0, u "[Z"), (0, .fieldref 8 18), (0, .nameAndType 19 12), (0, u "queue"), (0, .fieldref 8 21), (0, .nameAndType 22 12), (0, u "stats"), (0, .fieldref 8 24), (0, .nameAndType 25 12), (0, u "state"), (0, .fieldref 8 27), (0, .nameAndType 28 12), (0, u "timer"), (0, .fieldref 8 30), (0, .nameAndType 31 12), (0, u "rxVal"), (0, .fieldref 8 33), (0, .nameAndType 34 12), (0, u "rxNext"), (0, .fieldref 8 36), (0, .nameAndType 37 12), (0, u "rxLead"), (0, .fieldref 8 39), (0, .nameAndType 40 12), (0, u "rxTrail"), (0, .fieldref 8 42), (0, .nameAndType 43 12), (0, u "lossLeft"), (0, .fieldref 8 45), (0, .nameAndType 46 12), (0, u "dups"), (0, .fieldref 8 48), (0, .nameAndType 49 12), (0, u "drops"), (0, .fieldref 8 51), (0, .nameAndType 52 12), (0, u "delSeq"), (0, .fieldref 8 54), (0, .nameAndType 55 12), (0, u "delVal"), (0, .fieldref 8 57), (0, .nameAndType 58 12), (0, u "delLen"), (0, .fieldref 8 60), (0, .nameAndType 61 12), (0, u "lostLog"), (0, .fieldref 8 63), (0, .nameAndType 64 12), (0, u "lostLen"), (0, .fieldref 8 66), (0, .nameAndType 67 12), (0, u "nakBuf"), (0, .methodref 8 69), (0, .nameAndType 70 71), (0, u "clamp"), (0, u "(III)I"), (0, .fieldref 8 73), (0, .nameAndType 74 75), (0, u "win"), (0, u "I"), (0, .fieldref 8 77), (0, .nameAndType 78 75), (0, u "back"), (0, .fieldref 8 80), (0, .nameAndType 81 75), (0, u "repair"), (0, .fieldref 8 83), (0, .nameAndType 84 75), (0, u "period"), (0, .fieldref 8 86), (0, .nameAndType 87 75), (0, u "nextSeq"), (0, .methodref 8 89), (0, .nameAndType 90 91), (0, u "multicastSource"), (0, u "(III)V"), (0, .methodref 8 93), (0, .nameAndType 94 95), (0, u "validRx"), (0, u "(I)Z"), (0, .methodref 8 97), (0, .nameAndType 98 6), (0, u "serveQueue"), (0, .methodref 8 100), (0, .nameAndType 101 6), (0, u "runTimers"), (0, .methodref 8 103), (0, .nameAndType 104 6), (0, u "handleNaks"), (0, .methodref 8 106), (0, .nameAndType 107 108), (0, u "lead"), (0, u "()I"), (0, .methodref 8 110), (0, .nameAndType 111 108), (0, u "trail"), (0, .fieldref 8 113), (0, .nameAndType 114 75), (0, u "qLen"), (0, .methodref 8 116), (0, .nameAndType 117 95), (0, u "validSeq"), (0, .methodref 8 119), (0, .nameAndType 120 91), (0, u "aggregatorApply"), (0, .methodref 8 122), (0, .nameAndType 123 124), (0, u "copyTo"), (0, u "(IIIIII)V"), (0, .methodref 8 126), (0, .nameAndType 127 128), (0, u "applyData"), (0, u "(IIIII)V"), (0, .methodref 8 130), (0, .nameAndType 131 132), (0, u "applyLead"), (0, u "(II)V"), (0, .methodref 8 134), (0, .nameAndType 135 132), (0, u "applyTrail"), (0, .methodref 8 137), (0, .nameAndType 138 139), (0, u "deliver"), (0, u "(I)V"), (0, .methodref 8 141), (0, .nameAndType 142 132), (0, u "applyNcf"), (0, .methodref 8 144), (0, .nameAndType 145 95), (0, u "isWaiting"), (0, .methodref 8 147), (0, .nameAndType 148 149), (0, u "backoffOf"), (0, u "(I)I"), (0, .methodref 8 151), (0, .nameAndType 152 132), (0, u "appendLost"), (0, .methodref 8 154), (0, .nameAndType 155 91), (0, u "appendDelivered"), (0, .fieldref 8 157), (0, .nameAndType 158 75), (0, u "nakLen"), (0, .methodref 8 160), (0, .nameAndType 161 132), (0, u "stepTimer"), (0, .methodref 8 163), (0, .nameAndType 164 139), (0, u "handleNak"), (0, .methodref 8 166), (0, .nameAndType 167 139), (0, u "multicastNcf"), (0, u "MAX_SEQ"), (2, u "RECEIVERS"), (1, u "BAD"), (1, u "RX_UNKNOWN"), (1, u "RX_BACKOFF"), (1, u "RX_WAIT_NCF"), (1, u "RX_WAIT_DATA"), (1, u "RX_HAVE"), (0, u "RX_DELIVERED"), (1, u "RX_LOST"), (1, u "INFO_NEXT"), (0, u "INFO_LEAD"), (0, u "INFO_TRAIL"), (0, u "INFO_DELIVERED"), (0, u "INFO_LOST"), (0, u "INFO_LOSS_LEFT"), (0, u "INFO_DUPLICATES"), (0, u "INFO_DROPPED"), (1, u "STAT_TIME"), (0, u "STAT_ODATA"), (0, u "STAT_RDATA"), (0, u "STAT_SPM"), (0, u "STAT_NAK"), (0, u "STAT_FORWARDED"), (0, u "STAT_SUPPRESSED"), (0, u "STAT_NCF"), (0, u "STAT_QUEUE"), (1, u "STAT_DROPPED"), (1, u "(IIII)V"), (3, u "send"), (0, u "spm"), (0, u "setLoss"), (0, u "(II)Z"), (0, u "tick"), (0, u "sourceLead"), (0, u "sourceTrail"), (3, u "rxInfo"), (0, u "(II)I"), (2, u "deliveredSeq"), (0, u "deliveredValue"), (0, u "lostSeq")] 2

def k2c0 : Code := { maxStack := 5, maxLocals := 6, code := prog_1_method_1_code, exceptionTable := #[], attributes := #[] }
def k2m0 : Method := { name := "<init>", desc := "(IIII)V", sig := { parameters := [.int, .int, .int, .int], returnType := none }, accessFlags := 1, code := some k2c0 }
def k2c1 : Code := { maxStack := 4, maxLocals := 3, code := prog_1_method_2_code, exceptionTable := #[], attributes := #[] }
def k2m1 : Method := { name := "send", desc := "(I)I", sig := { parameters := [.int], returnType := some .int }, accessFlags := 1, code := some k2c1 }
def k2c2 : Code := { maxStack := 4, maxLocals := 1, code := prog_1_method_3_code, exceptionTable := #[], attributes := #[] }
def k2m2 : Method := { name := "spm", desc := "()V", sig := { parameters := [], returnType := none }, accessFlags := 1, code := some k2c2 }
def k2c3 : Code := { maxStack := 6, maxLocals := 3, code := prog_1_method_4_code, exceptionTable := #[], attributes := #[] }
def k2m3 : Method := { name := "setLoss", desc := "(II)Z", sig := { parameters := [.int, .int], returnType := some .boolean }, accessFlags := 1, code := some k2c3 }
def k2c4 : Code := { maxStack := 4, maxLocals := 1, code := prog_1_method_5_code, exceptionTable := #[], attributes := #[] }
def k2m4 : Method := { name := "tick", desc := "()V", sig := { parameters := [], returnType := none }, accessFlags := 1, code := some k2c4 }
def k2c5 : Code := { maxStack := 1, maxLocals := 1, code := prog_1_method_6_code, exceptionTable := #[], attributes := #[] }
def k2m5 : Method := { name := "sourceLead", desc := "()I", sig := { parameters := [], returnType := some .int }, accessFlags := 1, code := some k2c5 }
def k2c6 : Code := { maxStack := 1, maxLocals := 1, code := prog_1_method_7_code, exceptionTable := #[], attributes := #[] }
def k2m6 : Method := { name := "sourceTrail", desc := "()I", sig := { parameters := [], returnType := some .int }, accessFlags := 1, code := some k2c6 }
def k2c7 : Code := { maxStack := 2, maxLocals := 3, code := prog_1_method_11_code, exceptionTable := #[], attributes := #[] }
def k2m7 : Method := { name := "rxInfo", desc := "(II)I", sig := { parameters := [.int, .int], returnType := some .int }, accessFlags := 1, code := some k2c7 }
def k2c8 : Code := { maxStack := 3, maxLocals := 3, code := prog_1_method_14_code, exceptionTable := #[], attributes := #[] }
def k2m8 : Method := { name := "deliveredSeq", desc := "(II)I", sig := { parameters := [.int, .int], returnType := some .int }, accessFlags := 1, code := some k2c8 }
def k2c9 : Code := { maxStack := 3, maxLocals := 3, code := prog_1_method_15_code, exceptionTable := #[], attributes := #[] }
def k2m9 : Method := { name := "deliveredValue", desc := "(II)I", sig := { parameters := [.int, .int], returnType := some .int }, accessFlags := 1, code := some k2c9 }
def k2c10 : Code := { maxStack := 3, maxLocals := 3, code := prog_1_method_16_code, exceptionTable := #[], attributes := #[] }
def k2m10 : Method := { name := "lostSeq", desc := "(II)I", sig := { parameters := [.int, .int], returnType := some .int }, accessFlags := 1, code := some k2c10 }
def k2c11 : Code := { maxStack := 2, maxLocals := 4, code := prog_1_method_17_code, exceptionTable := #[], attributes := #[] }
def k2m11 : Method := { name := "clamp", desc := "(III)I", sig := { parameters := [.int, .int, .int], returnType := some .int }, accessFlags := 2, code := some k2c11 }
def k2c12 : Code := { maxStack := 2, maxLocals := 2, code := prog_1_method_18_code, exceptionTable := #[], attributes := #[] }
def k2m12 : Method := { name := "validRx", desc := "(I)Z", sig := { parameters := [.int], returnType := some .boolean }, accessFlags := 2, code := some k2c12 }
def k2c13 : Code := { maxStack := 2, maxLocals := 2, code := prog_1_method_19_code, exceptionTable := #[], attributes := #[] }
def k2m13 : Method := { name := "validSeq", desc := "(I)Z", sig := { parameters := [.int], returnType := some .boolean }, accessFlags := 2, code := some k2c13 }
def k2c14 : Code := { maxStack := 2, maxLocals := 1, code := prog_1_method_20_code, exceptionTable := #[], attributes := #[] }
def k2m14 : Method := { name := "lead", desc := "()I", sig := { parameters := [], returnType := some .int }, accessFlags := 2, code := some k2c14 }
def k2c15 : Code := { maxStack := 2, maxLocals := 2, code := prog_1_method_21_code, exceptionTable := #[], attributes := #[] }
def k2m15 : Method := { name := "trail", desc := "()I", sig := { parameters := [], returnType := some .int }, accessFlags := 2, code := some k2c15 }
def k2c16 : Code := { maxStack := 2, maxLocals := 2, code := prog_1_method_22_code, exceptionTable := #[], attributes := #[] }
def k2m16 : Method := { name := "isWaiting", desc := "(I)Z", sig := { parameters := [.int], returnType := some .boolean }, accessFlags := 2, code := some k2c16 }
def k2c17 : Code := { maxStack := 2, maxLocals := 2, code := prog_1_method_23_code, exceptionTable := #[], attributes := #[] }
def k2m17 : Method := { name := "backoffOf", desc := "(I)I", sig := { parameters := [.int], returnType := some .int }, accessFlags := 2, code := some k2c17 }
def k2c18 : Code := { maxStack := 7, maxLocals := 7, code := prog_1_method_24_code, exceptionTable := #[], attributes := #[] }
def k2m18 : Method := { name := "multicastSource", desc := "(III)V", sig := { parameters := [.int, .int, .int], returnType := none }, accessFlags := 2, code := some k2c18 }
def k2c19 : Code := { maxStack := 3, maxLocals := 5, code := prog_1_method_25_code, exceptionTable := #[], attributes := #[] }
def k2m19 : Method := { name := "aggregatorApply", desc := "(III)V", sig := { parameters := [.int, .int, .int], returnType := none }, accessFlags := 2, code := some k2c19 }
def k2c20 : Code := { maxStack := 7, maxLocals := 3, code := prog_1_method_26_code, exceptionTable := #[], attributes := #[] }
def k2m20 : Method := { name := "multicastNcf", desc := "(I)V", sig := { parameters := [.int], returnType := none }, accessFlags := 2, code := some k2c20 }
def k2c21 : Code := { maxStack := 6, maxLocals := 7, code := prog_1_method_27_code, exceptionTable := #[], attributes := #[] }
def k2m21 : Method := { name := "copyTo", desc := "(IIIIII)V", sig := { parameters := [.int, .int, .int, .int, .int, .int], returnType := none }, accessFlags := 2, code := some k2c21 }
def k2c22 : Code := { maxStack := 4, maxLocals := 8, code := prog_1_method_28_code, exceptionTable := #[], attributes := #[] }
def k2m22 : Method := { name := "applyData", desc := "(IIIII)V", sig := { parameters := [.int, .int, .int, .int, .int], returnType := none }, accessFlags := 2, code := some k2c22 }
def k2c23 : Code := { maxStack := 3, maxLocals := 5, code := prog_1_method_29_code, exceptionTable := #[], attributes := #[] }
def k2m23 : Method := { name := "applyNcf", desc := "(II)V", sig := { parameters := [.int, .int], returnType := none }, accessFlags := 2, code := some k2c23 }
def k2c24 : Code := { maxStack := 4, maxLocals := 6, code := prog_1_method_30_code, exceptionTable := #[], attributes := #[] }
def k2m24 : Method := { name := "applyLead", desc := "(II)V", sig := { parameters := [.int, .int], returnType := none }, accessFlags := 2, code := some k2c24 }
def k2c25 : Code := { maxStack := 3, maxLocals := 7, code := prog_1_method_31_code, exceptionTable := #[], attributes := #[] }
def k2m25 : Method := { name := "applyTrail", desc := "(II)V", sig := { parameters := [.int, .int], returnType := none }, accessFlags := 2, code := some k2c25 }
def k2c26 : Code := { maxStack := 4, maxLocals := 3, code := prog_1_method_32_code, exceptionTable := #[], attributes := #[] }
def k2m26 : Method := { name := "appendLost", desc := "(II)V", sig := { parameters := [.int, .int], returnType := none }, accessFlags := 2, code := some k2c26 }
def k2c27 : Code := { maxStack := 5, maxLocals := 5, code := prog_1_method_33_code, exceptionTable := #[], attributes := #[] }
def k2m27 : Method := { name := "deliver", desc := "(I)V", sig := { parameters := [.int], returnType := none }, accessFlags := 2, code := some k2c27 }
def k2c28 : Code := { maxStack := 4, maxLocals := 5, code := prog_1_method_34_code, exceptionTable := #[], attributes := #[] }
def k2m28 : Method := { name := "appendDelivered", desc := "(III)V", sig := { parameters := [.int, .int, .int], returnType := none }, accessFlags := 2, code := some k2c28 }
def k2c29 : Code := { maxStack := 4, maxLocals := 5, code := prog_1_method_35_code, exceptionTable := #[], attributes := #[] }
def k2m29 : Method := { name := "serveQueue", desc := "()V", sig := { parameters := [], returnType := none }, accessFlags := 2, code := some k2c29 }
def k2c30 : Code := { maxStack := 3, maxLocals := 3, code := prog_1_method_36_code, exceptionTable := #[], attributes := #[] }
def k2m30 : Method := { name := "runTimers", desc := "()V", sig := { parameters := [], returnType := none }, accessFlags := 2, code := some k2c30 }
def k2c31 : Code := { maxStack := 4, maxLocals := 5, code := prog_1_method_37_code, exceptionTable := #[], attributes := #[] }
def k2m31 : Method := { name := "stepTimer", desc := "(II)V", sig := { parameters := [.int, .int], returnType := none }, accessFlags := 2, code := some k2c31 }
def k2c32 : Code := { maxStack := 2, maxLocals := 3, code := prog_1_method_38_code, exceptionTable := #[], attributes := #[] }
def k2m32 : Method := { name := "handleNaks", desc := "()V", sig := { parameters := [], returnType := none }, accessFlags := 2, code := some k2c32 }
def k2c33 : Code := { maxStack := 4, maxLocals := 2, code := prog_1_method_39_code, exceptionTable := #[], attributes := #[] }
def k2m33 : Method := { name := "handleNak", desc := "(I)V", sig := { parameters := [.int], returnType := none }, accessFlags := 2, code := some k2c33 }
/-- NakMulticast -/
def k2 : Class := { plain "NakMulticast" (some 0) with
  accessFlags := 49
  interfaces := #[]
  cf := some (fileOf pool2 8 #[] #[{ accessFlags := 1, nameIndex := 5, descriptorIndex := 209, attributes := #[] }, { accessFlags := 1, nameIndex := 213, descriptorIndex := 149, attributes := #[] }, { accessFlags := 1, nameIndex := 214, descriptorIndex := 6, attributes := #[] }, { accessFlags := 1, nameIndex := 215, descriptorIndex := 216, attributes := #[] }, { accessFlags := 1, nameIndex := 217, descriptorIndex := 6, attributes := #[] }, { accessFlags := 1, nameIndex := 218, descriptorIndex := 108, attributes := #[] }, { accessFlags := 1, nameIndex := 219, descriptorIndex := 108, attributes := #[] }, { accessFlags := 1, nameIndex := 223, descriptorIndex := 224, attributes := #[] }, { accessFlags := 1, nameIndex := 227, descriptorIndex := 224, attributes := #[] }, { accessFlags := 1, nameIndex := 228, descriptorIndex := 224, attributes := #[] }, { accessFlags := 1, nameIndex := 229, descriptorIndex := 224, attributes := #[] }, { accessFlags := 2, nameIndex := 70, descriptorIndex := 71, attributes := #[] }, { accessFlags := 2, nameIndex := 94, descriptorIndex := 95, attributes := #[] }, { accessFlags := 2, nameIndex := 117, descriptorIndex := 95, attributes := #[] }, { accessFlags := 2, nameIndex := 107, descriptorIndex := 108, attributes := #[] }, { accessFlags := 2, nameIndex := 111, descriptorIndex := 108, attributes := #[] }, { accessFlags := 2, nameIndex := 145, descriptorIndex := 95, attributes := #[] }, { accessFlags := 2, nameIndex := 148, descriptorIndex := 149, attributes := #[] }, { accessFlags := 2, nameIndex := 90, descriptorIndex := 91, attributes := #[] }, { accessFlags := 2, nameIndex := 120, descriptorIndex := 91, attributes := #[] }, { accessFlags := 2, nameIndex := 167, descriptorIndex := 139, attributes := #[] }, { accessFlags := 2, nameIndex := 123, descriptorIndex := 124, attributes := #[] }, { accessFlags := 2, nameIndex := 127, descriptorIndex := 128, attributes := #[] }, { accessFlags := 2, nameIndex := 142, descriptorIndex := 132, attributes := #[] }, { accessFlags := 2, nameIndex := 131, descriptorIndex := 132, attributes := #[] }, { accessFlags := 2, nameIndex := 135, descriptorIndex := 132, attributes := #[] }, { accessFlags := 2, nameIndex := 152, descriptorIndex := 132, attributes := #[] }, { accessFlags := 2, nameIndex := 138, descriptorIndex := 139, attributes := #[] }, { accessFlags := 2, nameIndex := 155, descriptorIndex := 91, attributes := #[] }, { accessFlags := 2, nameIndex := 98, descriptorIndex := 6, attributes := #[] }, { accessFlags := 2, nameIndex := 101, descriptorIndex := 6, attributes := #[] }, { accessFlags := 2, nameIndex := 161, descriptorIndex := 132, attributes := #[] }, { accessFlags := 2, nameIndex := 104, descriptorIndex := 6, attributes := #[] }, { accessFlags := 2, nameIndex := 164, descriptorIndex := 139, attributes := #[] }] 49 2 #[] #[{ accessFlags := 25, nameIndex := 168, descriptorIndex := 75, attributes := #[] }, { accessFlags := 25, nameIndex := 171, descriptorIndex := 75, attributes := #[] }, { accessFlags := 25, nameIndex := 173, descriptorIndex := 75, attributes := #[] }, { accessFlags := 25, nameIndex := 175, descriptorIndex := 75, attributes := #[] }, { accessFlags := 25, nameIndex := 177, descriptorIndex := 75, attributes := #[] }, { accessFlags := 25, nameIndex := 179, descriptorIndex := 75, attributes := #[] }, { accessFlags := 25, nameIndex := 181, descriptorIndex := 75, attributes := #[] }, { accessFlags := 25, nameIndex := 183, descriptorIndex := 75, attributes := #[] }, { accessFlags := 25, nameIndex := 184, descriptorIndex := 75, attributes := #[] }, { accessFlags := 25, nameIndex := 186, descriptorIndex := 75, attributes := #[] }, { accessFlags := 25, nameIndex := 188, descriptorIndex := 75, attributes := #[] }, { accessFlags := 25, nameIndex := 189, descriptorIndex := 75, attributes := #[] }, { accessFlags := 25, nameIndex := 190, descriptorIndex := 75, attributes := #[] }, { accessFlags := 25, nameIndex := 191, descriptorIndex := 75, attributes := #[] }, { accessFlags := 25, nameIndex := 192, descriptorIndex := 75, attributes := #[] }, { accessFlags := 25, nameIndex := 193, descriptorIndex := 75, attributes := #[] }, { accessFlags := 25, nameIndex := 194, descriptorIndex := 75, attributes := #[] }, { accessFlags := 25, nameIndex := 195, descriptorIndex := 75, attributes := #[] }, { accessFlags := 25, nameIndex := 197, descriptorIndex := 75, attributes := #[] }, { accessFlags := 25, nameIndex := 198, descriptorIndex := 75, attributes := #[] }, { accessFlags := 25, nameIndex := 199, descriptorIndex := 75, attributes := #[] }, { accessFlags := 25, nameIndex := 200, descriptorIndex := 75, attributes := #[] }, { accessFlags := 25, nameIndex := 201, descriptorIndex := 75, attributes := #[] }, { accessFlags := 25, nameIndex := 202, descriptorIndex := 75, attributes := #[] }, { accessFlags := 25, nameIndex := 203, descriptorIndex := 75, attributes := #[] }, { accessFlags := 25, nameIndex := 204, descriptorIndex := 75, attributes := #[] }, { accessFlags := 25, nameIndex := 205, descriptorIndex := 75, attributes := #[] }, { accessFlags := 25, nameIndex := 207, descriptorIndex := 75, attributes := #[] }, { accessFlags := 2, nameIndex := 74, descriptorIndex := 75, attributes := #[] }, { accessFlags := 2, nameIndex := 78, descriptorIndex := 75, attributes := #[] }, { accessFlags := 2, nameIndex := 81, descriptorIndex := 75, attributes := #[] }, { accessFlags := 2, nameIndex := 84, descriptorIndex := 75, attributes := #[] }, { accessFlags := 2, nameIndex := 87, descriptorIndex := 75, attributes := #[] }, { accessFlags := 18, nameIndex := 11, descriptorIndex := 12, attributes := #[] }, { accessFlags := 18, nameIndex := 15, descriptorIndex := 16, attributes := #[] }, { accessFlags := 18, nameIndex := 19, descriptorIndex := 12, attributes := #[] }, { accessFlags := 2, nameIndex := 114, descriptorIndex := 75, attributes := #[] }, { accessFlags := 18, nameIndex := 22, descriptorIndex := 12, attributes := #[] }, { accessFlags := 18, nameIndex := 25, descriptorIndex := 12, attributes := #[] }, { accessFlags := 18, nameIndex := 28, descriptorIndex := 12, attributes := #[] }, { accessFlags := 18, nameIndex := 31, descriptorIndex := 12, attributes := #[] }, { accessFlags := 18, nameIndex := 34, descriptorIndex := 12, attributes := #[] }, { accessFlags := 18, nameIndex := 37, descriptorIndex := 12, attributes := #[] }, { accessFlags := 18, nameIndex := 40, descriptorIndex := 12, attributes := #[] }, { accessFlags := 18, nameIndex := 43, descriptorIndex := 12, attributes := #[] }, { accessFlags := 18, nameIndex := 46, descriptorIndex := 12, attributes := #[] }, { accessFlags := 18, nameIndex := 49, descriptorIndex := 12, attributes := #[] }, { accessFlags := 18, nameIndex := 52, descriptorIndex := 12, attributes := #[] }, { accessFlags := 18, nameIndex := 55, descriptorIndex := 12, attributes := #[] }, { accessFlags := 18, nameIndex := 58, descriptorIndex := 12, attributes := #[] }, { accessFlags := 18, nameIndex := 61, descriptorIndex := 12, attributes := #[] }, { accessFlags := 18, nameIndex := 64, descriptorIndex := 12, attributes := #[] }, { accessFlags := 18, nameIndex := 67, descriptorIndex := 12, attributes := #[] }, { accessFlags := 2, nameIndex := 158, descriptorIndex := 75, attributes := #[] }])
  fields := #[{ name := "MAX_SEQ", type := .int, accessFlags := 25, slot := 0, constantValue := 0 }, { name := "RECEIVERS", type := .int, accessFlags := 25, slot := 1, constantValue := 0 }, { name := "BAD", type := .int, accessFlags := 25, slot := 2, constantValue := 0 }, { name := "RX_UNKNOWN", type := .int, accessFlags := 25, slot := 3, constantValue := 0 }, { name := "RX_BACKOFF", type := .int, accessFlags := 25, slot := 4, constantValue := 0 }, { name := "RX_WAIT_NCF", type := .int, accessFlags := 25, slot := 5, constantValue := 0 }, { name := "RX_WAIT_DATA", type := .int, accessFlags := 25, slot := 6, constantValue := 0 }, { name := "RX_HAVE", type := .int, accessFlags := 25, slot := 7, constantValue := 0 }, { name := "RX_DELIVERED", type := .int, accessFlags := 25, slot := 8, constantValue := 0 }, { name := "RX_LOST", type := .int, accessFlags := 25, slot := 9, constantValue := 0 }, { name := "INFO_NEXT", type := .int, accessFlags := 25, slot := 10, constantValue := 0 }, { name := "INFO_LEAD", type := .int, accessFlags := 25, slot := 11, constantValue := 0 }, { name := "INFO_TRAIL", type := .int, accessFlags := 25, slot := 12, constantValue := 0 }, { name := "INFO_DELIVERED", type := .int, accessFlags := 25, slot := 13, constantValue := 0 }, { name := "INFO_LOST", type := .int, accessFlags := 25, slot := 14, constantValue := 0 }, { name := "INFO_LOSS_LEFT", type := .int, accessFlags := 25, slot := 15, constantValue := 0 }, { name := "INFO_DUPLICATES", type := .int, accessFlags := 25, slot := 16, constantValue := 0 }, { name := "INFO_DROPPED", type := .int, accessFlags := 25, slot := 17, constantValue := 0 }, { name := "STAT_TIME", type := .int, accessFlags := 25, slot := 18, constantValue := 0 }, { name := "STAT_ODATA", type := .int, accessFlags := 25, slot := 19, constantValue := 0 }, { name := "STAT_RDATA", type := .int, accessFlags := 25, slot := 20, constantValue := 0 }, { name := "STAT_SPM", type := .int, accessFlags := 25, slot := 21, constantValue := 0 }, { name := "STAT_NAK", type := .int, accessFlags := 25, slot := 22, constantValue := 0 }, { name := "STAT_FORWARDED", type := .int, accessFlags := 25, slot := 23, constantValue := 0 }, { name := "STAT_SUPPRESSED", type := .int, accessFlags := 25, slot := 24, constantValue := 0 }, { name := "STAT_NCF", type := .int, accessFlags := 25, slot := 25, constantValue := 0 }, { name := "STAT_QUEUE", type := .int, accessFlags := 25, slot := 26, constantValue := 0 }, { name := "STAT_DROPPED", type := .int, accessFlags := 25, slot := 27, constantValue := 0 }, { name := "win", type := .int, accessFlags := 2, slot := 0, constantValue := 0 }, { name := "back", type := .int, accessFlags := 2, slot := 1, constantValue := 0 }, { name := "repair", type := .int, accessFlags := 2, slot := 2, constantValue := 0 }, { name := "period", type := .int, accessFlags := 2, slot := 3, constantValue := 0 }, { name := "nextSeq", type := .int, accessFlags := 2, slot := 4, constantValue := 0 }, { name := "srcPayload", type := (.array .int), accessFlags := 18, slot := 5, constantValue := 0 }, { name := "pend", type := (.array .boolean), accessFlags := 18, slot := 6, constantValue := 0 }, { name := "queue", type := (.array .int), accessFlags := 18, slot := 7, constantValue := 0 }, { name := "qLen", type := .int, accessFlags := 2, slot := 8, constantValue := 0 }, { name := "stats", type := (.array .int), accessFlags := 18, slot := 9, constantValue := 0 }, { name := "state", type := (.array .int), accessFlags := 18, slot := 10, constantValue := 0 }, { name := "timer", type := (.array .int), accessFlags := 18, slot := 11, constantValue := 0 }, { name := "rxVal", type := (.array .int), accessFlags := 18, slot := 12, constantValue := 0 }, { name := "rxNext", type := (.array .int), accessFlags := 18, slot := 13, constantValue := 0 }, { name := "rxLead", type := (.array .int), accessFlags := 18, slot := 14, constantValue := 0 }, { name := "rxTrail", type := (.array .int), accessFlags := 18, slot := 15, constantValue := 0 }, { name := "lossLeft", type := (.array .int), accessFlags := 18, slot := 16, constantValue := 0 }, { name := "dups", type := (.array .int), accessFlags := 18, slot := 17, constantValue := 0 }, { name := "drops", type := (.array .int), accessFlags := 18, slot := 18, constantValue := 0 }, { name := "delSeq", type := (.array .int), accessFlags := 18, slot := 19, constantValue := 0 }, { name := "delVal", type := (.array .int), accessFlags := 18, slot := 20, constantValue := 0 }, { name := "delLen", type := (.array .int), accessFlags := 18, slot := 21, constantValue := 0 }, { name := "lostLog", type := (.array .int), accessFlags := 18, slot := 22, constantValue := 0 }, { name := "lostLen", type := (.array .int), accessFlags := 18, slot := 23, constantValue := 0 }, { name := "nakBuf", type := (.array .int), accessFlags := 18, slot := 24, constantValue := 0 }, { name := "nakLen", type := .int, accessFlags := 2, slot := 25, constantValue := 0 }]
  methods := #[k2m0, k2m1, k2m2, k2m3, k2m4, k2m5, k2m6, k2m7, k2m8, k2m9, k2m10, k2m11, k2m12, k2m13, k2m14, k2m15, k2m16, k2m17, k2m18, k2m19, k2m20, k2m21, k2m22, k2m23, k2m24, k2m25, k2m26, k2m27, k2m28, k2m29, k2m30, k2m31, k2m32, k2m33]
  instanceTypes := #[.int, .int, .int, .int, .int, (.array .int), (.array .boolean), (.array .int), .int, (.array .int), (.array .int), (.array .int), (.array .int), (.array .int), (.array .int), (.array .int), (.array .int), (.array .int), (.array .int), (.array .int), (.array .int), (.array .int), (.array .int), (.array .int), (.array .int), .int]
  staticTypes := #[.int, .int, .int, .int, .int, .int, .int, .int, .int, .int, .int, .int, .int, .int, .int, .int, .int, .int, .int, .int, .int, .int, .int, .int, .int, .int, .int, .int]
  resolved := Array.replicate 232 none
  statics := none }

def pool3 : Array CpInfo := pool [(1, u "java/lang/Cloneable"), (0, .class_ 1), (0, u "java/lang/Object"), (0, .class_ 3)] 3

/-- java/lang/Cloneable -/
def k3 : Class := { plain "java/lang/Cloneable" (some 0) with
  accessFlags := 1537
  interfaces := #[]
  cf := some (fileOf pool3 2 #[] #[] 1537 4 #[] #[])
  fields := #[]
  methods := #[]
  instanceTypes := #[]
  staticTypes := #[]
  resolved := Array.replicate 8 none
  statics := none }

def pool4 : Array CpInfo := pool [(1, u "java/io/Serializable"), (0, .class_ 1), (0, u "java/lang/Object"), (0, .class_ 3)] 3

/-- java/io/Serializable -/
def k4 : Class := { plain "java/io/Serializable" (some 0) with
  accessFlags := 1537
  interfaces := #[]
  cf := some (fileOf pool4 2 #[] #[] 1537 4 #[] #[])
  fields := #[]
  methods := #[]
  instanceTypes := #[]
  staticTypes := #[]
  resolved := Array.replicate 8 none
  statics := none }

/-- the primitive boolean -/
def k5 : Class := { plain "boolean" none with kind := .primitive 'Z', accessFlags := 0x411 }
/-- [Z -/
def k6 : Class := { plain "[Z" (some 0) with kind := .array 5 .boolean, interfaces := #[3, 4], accessFlags := 1041 }

/-- the primitive byte -/
def k7 : Class := { plain "byte" none with kind := .primitive 'B', accessFlags := 0x411 }
/-- [B -/
def k8 : Class := { plain "[B" (some 0) with kind := .array 7 .byte, interfaces := #[3, 4], accessFlags := 1041 }

/-- the primitive int -/
def k9 : Class := { plain "int" none with kind := .primitive 'I', accessFlags := 0x411 }
/-- [I -/
def k10 : Class := { plain "[I" (some 0) with kind := .array 9 .int, interfaces := #[3, 4], accessFlags := 1041 }

def heap : Heap := #[{ cls := 10, slots := #[.int 1, .int 2, .int 3], vm := .none }]
def classes : Array Class := #[k0, k1, k2, k3, k4, k5, k6, k7, k8, k9, k10]
def interned : List (Array UInt16 × Addr) := []
def slotsUsed : Nat := 3
def theMethod : MethodId := ⟨1, 4⟩
def args0 : Array Value := #[.ref 0]
def aboutOver (below : List Frame) : State where
  vm := { classes := classes, interned := interned.toArray }
  heap := heap
  slotsUsed := slotsUsed
  threads := #[{ frames := .invoking theMethod args0 :: below }]
def below0 : List Frame := [.native { method := ⟨0, 0⟩, args := #[] }]
def about1 : State := aboutOver below0
def p0 : Program := .bare "" "" ""
def e0 : Env := launch0.env 0 0 0
theorem w_frames : about1.frames = Frame.invoking theMethod args0 :: below0 := rfl
set_option maxRecDepth 65536 in
theorem w_args : argsFit about1.vm theMethod args0 = true := by decide +kernel
set_option maxRecDepth 65536 in
theorem w_heap : heapFits about1 = true := by decide +kernel
set_option maxRecDepth 65536 in
theorem w_runnable : about1.curStatus? = some .runnable := by decide +kernel
set_option maxRecDepth 65536 in
theorem w_alone : about1.alone = true := by decide +kernel
set_option maxRecDepth 65536 in
theorem w_named : about1.methodNamed? x = some theMethod := by decide +kernel
set_option maxRecDepth 65536 in
theorem w_hears : about1.hears theMethod below0 = true := by decide +kernel
set_option maxRecDepth 65536 in
theorem w_ripe : about1.ripe theMethod args0 below0 = true := by decide +kernel
theorem w_running : about1.status = .running := rfl
set_option maxRecDepth 65536 in
theorem w_room : about1.hasRoom e0.platform room_1 = true :=
  launch0.hasRoom_least _ room_1 (by decide +kernel) (by decide +kernel) (by decide +kernel) (by decide +kernel) (by decide +kernel) (by decide +kernel)
theorem allAtoms_all (ts : List Jvm.Cond) (a : Array Jvm.Value) (st : Jvm.State) : (allAtoms ts).before a st = ts.all (fun c => c.before a st) := by
  induction ts with
  | nil => rfl
  | cons c t ih =>
    show (Jvm.Cond.and c (allAtoms t)).before a st = _
    rw [Jvm.Cond.before_and, ih, List.all_cons]
def words1 : List Jvm.Cond := Jvm.Cond.code x code maxLocals ret :: tables_1
/-- a 'code' word, met by the world's own term for the bytes: nothing is compared byte by byte -/
theorem code_word {y : MethodName} {bytes : ByteArray} {mx : Nat} {rt : Option FieldType} {a : Array Value} {s : State} {m : MethodId} {meth : Method} {c : Code} (h1 : s.methodNamed? y = some m) (h2 : s.vm.method? m = some meth) (h3 : meth.code = some c) (h4 : c.code = bytes)
    (h5 : (c.maxLocals == mx && c.exceptionTable.isEmpty && decide (c.maxStack ≤ mostOperands) && decide (meth.sig.returnType = rt) && !meth.locks && decide (parseMethodDescriptor y.desc = some meth.sig)) = true) : (Jvm.Cond.code y bytes mx rt).before a s = true := by
  simp only [Bool.and_eq_true, beq_iff_eq, Bool.not_eq_true', decide_eq_true_eq] at h5
  obtain ⟨⟨⟨⟨⟨g1, g2⟩, g3⟩, g4⟩, g5⟩, g6⟩ := h5
  simp [Cond.before, Cond.holds, Cond.value, h1, h2, h3, h4, g1, g2, g3, g4, g5, g6]
def isCode : Jvm.Cond → Bool
  | .code _ _ _ _ => true
  | _ => false
theorem all_split {L : List Jvm.Cond} {P : Jvm.Cond → Bool} (h1 : L.all (fun c => isCode c || P c) = true) (h2 : ∀ c ∈ L.filter isCode, P c = true) : L.all P = true := by
  refine List.all_eq_true.mpr fun c hc => ?_
  have h := List.all_eq_true.mp h1 c hc
  rcases Bool.eq_false_or_eq_true (isCode c) with hi | hi
  · exact h2 c (List.mem_filter.mpr ⟨hc, hi⟩)
  · simpa [hi] using h
set_option maxRecDepth 65536 in
theorem w_c0 : (Jvm.Cond.code x code maxLocals ret).before args0 about1 = true := code_word (m := ⟨1, 4⟩) (meth := k1m4) (c := k1c4) (by decide +kernel) rfl rfl rfl (by decide +kernel)
set_option maxRecDepth 65536 in
theorem w_c1 : (Jvm.Cond.code ({ cls := "NakMulticastOwnLaw", name := "cell", desc := "([II)I" } : Jvm.MethodName) method_2_code (2 : Nat) (Option.some Jvm.ClassFile.FieldType.int)).before args0 about1 = true := code_word (m := ⟨1, 1⟩) (meth := k1m1) (c := k1c1) (by decide +kernel) rfl rfl rfl (by decide +kernel)
set_option maxRecDepth 65536 in
theorem w_c2 : (Jvm.Cond.code ({ cls := "NakMulticast", name := "<init>", desc := "(IIII)V" } : Jvm.MethodName) prog_1_method_1_code (6 : Nat) (Option.none : Option Jvm.ClassFile.FieldType)).before args0 about1 = true := code_word (m := ⟨2, 0⟩) (meth := k2m0) (c := k2c0) (by decide +kernel) rfl rfl rfl (by decide +kernel)
set_option maxRecDepth 65536 in
theorem w_c3 : (Jvm.Cond.code ({ cls := "java/lang/Object", name := "<init>", desc := "()V" } : Jvm.MethodName) object_method_1_code (1 : Nat) (Option.none : Option Jvm.ClassFile.FieldType)).before args0 about1 = true := code_word (m := ⟨0, 0⟩) (meth := k0m0) (c := k0c0) (by decide +kernel) rfl rfl rfl (by decide +kernel)
set_option maxRecDepth 65536 in
theorem w_c4 : (Jvm.Cond.code ({ cls := "NakMulticast", name := "clamp", desc := "(III)I" } : Jvm.MethodName) prog_1_method_17_code (4 : Nat) (Option.some Jvm.ClassFile.FieldType.int)).before args0 about1 = true := code_word (m := ⟨2, 11⟩) (meth := k2m11) (c := k2c11) (by decide +kernel) rfl rfl rfl (by decide +kernel)
set_option maxRecDepth 65536 in
theorem w_c5 : (Jvm.Cond.code ({ cls := "NakMulticast", name := "sourceLead", desc := "()I" } : Jvm.MethodName) prog_1_method_6_code (1 : Nat) (Option.some Jvm.ClassFile.FieldType.int)).before args0 about1 = true := code_word (m := ⟨2, 5⟩) (meth := k2m5) (c := k2c5) (by decide +kernel) rfl rfl rfl (by decide +kernel)
set_option maxRecDepth 65536 in
theorem w_c6 : (Jvm.Cond.code ({ cls := "NakMulticast", name := "lead", desc := "()I" } : Jvm.MethodName) prog_1_method_20_code (1 : Nat) (Option.some Jvm.ClassFile.FieldType.int)).before args0 about1 = true := code_word (m := ⟨2, 14⟩) (meth := k2m14) (c := k2c14) (by decide +kernel) rfl rfl rfl (by decide +kernel)
set_option maxRecDepth 65536 in
theorem w_c7 : (Jvm.Cond.code ({ cls := "NakMulticast", name := "sourceTrail", desc := "()I" } : Jvm.MethodName) prog_1_method_7_code (1 : Nat) (Option.some Jvm.ClassFile.FieldType.int)).before args0 about1 = true := code_word (m := ⟨2, 6⟩) (meth := k2m6) (c := k2c6) (by decide +kernel) rfl rfl rfl (by decide +kernel)
set_option maxRecDepth 65536 in
theorem w_c8 : (Jvm.Cond.code ({ cls := "NakMulticast", name := "trail", desc := "()I" } : Jvm.MethodName) prog_1_method_21_code (2 : Nat) (Option.some Jvm.ClassFile.FieldType.int)).before args0 about1 = true := code_word (m := ⟨2, 15⟩) (meth := k2m15) (c := k2c15) (by decide +kernel) rfl rfl rfl (by decide +kernel)
set_option maxRecDepth 65536 in
theorem w_c9 : (Jvm.Cond.code ({ cls := "NakMulticast", name := "rxInfo", desc := "(II)I" } : Jvm.MethodName) prog_1_method_11_code (3 : Nat) (Option.some Jvm.ClassFile.FieldType.int)).before args0 about1 = true := code_word (m := ⟨2, 7⟩) (meth := k2m7) (c := k2c7) (by decide +kernel) rfl rfl rfl (by decide +kernel)
set_option maxRecDepth 65536 in
theorem w_c10 : (Jvm.Cond.code ({ cls := "NakMulticast", name := "validRx", desc := "(I)Z" } : Jvm.MethodName) prog_1_method_18_code (2 : Nat) (Option.some Jvm.ClassFile.FieldType.boolean)).before args0 about1 = true := code_word (m := ⟨2, 12⟩) (meth := k2m12) (c := k2c12) (by decide +kernel) rfl rfl rfl (by decide +kernel)
set_option maxRecDepth 65536 in
theorem w_c11 : (Jvm.Cond.code ({ cls := "NakMulticast", name := "spm", desc := "()V" } : Jvm.MethodName) prog_1_method_3_code (1 : Nat) (Option.none : Option Jvm.ClassFile.FieldType)).before args0 about1 = true := code_word (m := ⟨2, 2⟩) (meth := k2m2) (c := k2c2) (by decide +kernel) rfl rfl rfl (by decide +kernel)
set_option maxRecDepth 65536 in
theorem w_c12 : (Jvm.Cond.code ({ cls := "NakMulticast", name := "multicastSource", desc := "(III)V" } : Jvm.MethodName) prog_1_method_24_code (7 : Nat) (Option.none : Option Jvm.ClassFile.FieldType)).before args0 about1 = true := code_word (m := ⟨2, 18⟩) (meth := k2m18) (c := k2c18) (by decide +kernel) rfl rfl rfl (by decide +kernel)
set_option maxRecDepth 65536 in
theorem w_c13 : (Jvm.Cond.code ({ cls := "NakMulticast", name := "aggregatorApply", desc := "(III)V" } : Jvm.MethodName) prog_1_method_25_code (5 : Nat) (Option.none : Option Jvm.ClassFile.FieldType)).before args0 about1 = true := code_word (m := ⟨2, 19⟩) (meth := k2m19) (c := k2c19) (by decide +kernel) rfl rfl rfl (by decide +kernel)
set_option maxRecDepth 65536 in
theorem w_c14 : (Jvm.Cond.code ({ cls := "NakMulticast", name := "copyTo", desc := "(IIIIII)V" } : Jvm.MethodName) prog_1_method_27_code (7 : Nat) (Option.none : Option Jvm.ClassFile.FieldType)).before args0 about1 = true := code_word (m := ⟨2, 21⟩) (meth := k2m21) (c := k2c21) (by decide +kernel) rfl rfl rfl (by decide +kernel)
set_option maxRecDepth 65536 in
theorem w_c15 : (Jvm.Cond.code ({ cls := "NakMulticast", name := "applyLead", desc := "(II)V" } : Jvm.MethodName) prog_1_method_30_code (6 : Nat) (Option.none : Option Jvm.ClassFile.FieldType)).before args0 about1 = true := code_word (m := ⟨2, 24⟩) (meth := k2m24) (c := k2c24) (by decide +kernel) rfl rfl rfl (by decide +kernel)
set_option maxRecDepth 65536 in
theorem w_c16 : (Jvm.Cond.code ({ cls := "NakMulticast", name := "applyTrail", desc := "(II)V" } : Jvm.MethodName) prog_1_method_31_code (7 : Nat) (Option.none : Option Jvm.ClassFile.FieldType)).before args0 about1 = true := code_word (m := ⟨2, 25⟩) (meth := k2m25) (c := k2c25) (by decide +kernel) rfl rfl rfl (by decide +kernel)
set_option maxRecDepth 65536 in
theorem w_c17 : (Jvm.Cond.code ({ cls := "NakMulticast", name := "deliver", desc := "(I)V" } : Jvm.MethodName) prog_1_method_33_code (5 : Nat) (Option.none : Option Jvm.ClassFile.FieldType)).before args0 about1 = true := code_word (m := ⟨2, 27⟩) (meth := k2m27) (c := k2c27) (by decide +kernel) rfl rfl rfl (by decide +kernel)
set_option maxRecDepth 65536 in
theorem w_c18 : (Jvm.Cond.code ({ cls := "NakMulticast", name := "send", desc := "(I)I" } : Jvm.MethodName) prog_1_method_2_code (3 : Nat) (Option.some Jvm.ClassFile.FieldType.int)).before args0 about1 = true := code_word (m := ⟨2, 1⟩) (meth := k2m1) (c := k2c1) (by decide +kernel) rfl rfl rfl (by decide +kernel)
set_option maxRecDepth 65536 in
theorem w_c19 : (Jvm.Cond.code ({ cls := "NakMulticast", name := "applyData", desc := "(IIIII)V" } : Jvm.MethodName) prog_1_method_28_code (8 : Nat) (Option.none : Option Jvm.ClassFile.FieldType)).before args0 about1 = true := code_word (m := ⟨2, 22⟩) (meth := k2m22) (c := k2c22) (by decide +kernel) rfl rfl rfl (by decide +kernel)
set_option maxRecDepth 65536 in
theorem w_c20 : (Jvm.Cond.code ({ cls := "NakMulticast", name := "validSeq", desc := "(I)Z" } : Jvm.MethodName) prog_1_method_19_code (2 : Nat) (Option.some Jvm.ClassFile.FieldType.boolean)).before args0 about1 = true := code_word (m := ⟨2, 13⟩) (meth := k2m13) (c := k2c13) (by decide +kernel) rfl rfl rfl (by decide +kernel)
set_option maxRecDepth 65536 in
theorem w_c21 : (Jvm.Cond.code ({ cls := "NakMulticast", name := "appendDelivered", desc := "(III)V" } : Jvm.MethodName) prog_1_method_34_code (5 : Nat) (Option.none : Option Jvm.ClassFile.FieldType)).before args0 about1 = true := code_word (m := ⟨2, 28⟩) (meth := k2m28) (c := k2c28) (by decide +kernel) rfl rfl rfl (by decide +kernel)
set_option maxRecDepth 65536 in
theorem w_c22 : (Jvm.Cond.code ({ cls := "NakMulticastOwnLaw", name := "put", desc := "(JII)J" } : Jvm.MethodName) method_3_code (5 : Nat) (Option.some Jvm.ClassFile.FieldType.long)).before args0 about1 = true := code_word (m := ⟨1, 2⟩) (meth := k1m2) (c := k1c2) (by decide +kernel) rfl rfl rfl (by decide +kernel)
set_option maxRecDepth 65536 in
theorem w_c23 : (Jvm.Cond.code ({ cls := "NakMulticast", name := "deliveredSeq", desc := "(II)I" } : Jvm.MethodName) prog_1_method_14_code (3 : Nat) (Option.some Jvm.ClassFile.FieldType.int)).before args0 about1 = true := code_word (m := ⟨2, 8⟩) (meth := k2m8) (c := k2c8) (by decide +kernel) rfl rfl rfl (by decide +kernel)
set_option maxRecDepth 65536 in
theorem w_c24 : (Jvm.Cond.code ({ cls := "NakMulticast", name := "deliveredValue", desc := "(II)I" } : Jvm.MethodName) prog_1_method_15_code (3 : Nat) (Option.some Jvm.ClassFile.FieldType.int)).before args0 about1 = true := code_word (m := ⟨2, 9⟩) (meth := k2m9) (c := k2c9) (by decide +kernel) rfl rfl rfl (by decide +kernel)
set_option maxRecDepth 65536 in
theorem w_c25 : (Jvm.Cond.code ({ cls := "NakMulticastOwnLaw", name := "get", desc := "(JI)I" } : Jvm.MethodName) method_4_code (4 : Nat) (Option.some Jvm.ClassFile.FieldType.int)).before args0 about1 = true := code_word (m := ⟨1, 3⟩) (meth := k1m3) (c := k1c3) (by decide +kernel) rfl rfl rfl (by decide +kernel)
set_option maxRecDepth 65536 in
theorem w_c26 : (Jvm.Cond.code ({ cls := "NakMulticast", name := "tick", desc := "()V" } : Jvm.MethodName) prog_1_method_5_code (1 : Nat) (Option.none : Option Jvm.ClassFile.FieldType)).before args0 about1 = true := code_word (m := ⟨2, 4⟩) (meth := k2m4) (c := k2c4) (by decide +kernel) rfl rfl rfl (by decide +kernel)
set_option maxRecDepth 65536 in
theorem w_c27 : (Jvm.Cond.code ({ cls := "NakMulticast", name := "serveQueue", desc := "()V" } : Jvm.MethodName) prog_1_method_35_code (5 : Nat) (Option.none : Option Jvm.ClassFile.FieldType)).before args0 about1 = true := code_word (m := ⟨2, 29⟩) (meth := k2m29) (c := k2c29) (by decide +kernel) rfl rfl rfl (by decide +kernel)
set_option maxRecDepth 65536 in
theorem w_c28 : (Jvm.Cond.code ({ cls := "NakMulticast", name := "runTimers", desc := "()V" } : Jvm.MethodName) prog_1_method_36_code (3 : Nat) (Option.none : Option Jvm.ClassFile.FieldType)).before args0 about1 = true := code_word (m := ⟨2, 30⟩) (meth := k2m30) (c := k2c30) (by decide +kernel) rfl rfl rfl (by decide +kernel)
set_option maxRecDepth 65536 in
theorem w_c29 : (Jvm.Cond.code ({ cls := "NakMulticast", name := "stepTimer", desc := "(II)V" } : Jvm.MethodName) prog_1_method_37_code (5 : Nat) (Option.none : Option Jvm.ClassFile.FieldType)).before args0 about1 = true := code_word (m := ⟨2, 31⟩) (meth := k2m31) (c := k2c31) (by decide +kernel) rfl rfl rfl (by decide +kernel)
set_option maxRecDepth 65536 in
theorem w_c30 : (Jvm.Cond.code ({ cls := "NakMulticast", name := "isWaiting", desc := "(I)Z" } : Jvm.MethodName) prog_1_method_22_code (2 : Nat) (Option.some Jvm.ClassFile.FieldType.boolean)).before args0 about1 = true := code_word (m := ⟨2, 16⟩) (meth := k2m16) (c := k2c16) (by decide +kernel) rfl rfl rfl (by decide +kernel)
set_option maxRecDepth 65536 in
theorem w_c31 : (Jvm.Cond.code ({ cls := "NakMulticast", name := "handleNaks", desc := "()V" } : Jvm.MethodName) prog_1_method_38_code (3 : Nat) (Option.none : Option Jvm.ClassFile.FieldType)).before args0 about1 = true := code_word (m := ⟨2, 32⟩) (meth := k2m32) (c := k2c32) (by decide +kernel) rfl rfl rfl (by decide +kernel)
set_option maxRecDepth 65536 in
theorem w_c32 : (Jvm.Cond.code ({ cls := "NakMulticast", name := "setLoss", desc := "(II)Z" } : Jvm.MethodName) prog_1_method_4_code (3 : Nat) (Option.some Jvm.ClassFile.FieldType.boolean)).before args0 about1 = true := code_word (m := ⟨2, 3⟩) (meth := k2m3) (c := k2c3) (by decide +kernel) rfl rfl rfl (by decide +kernel)
set_option maxRecDepth 65536 in
theorem w_c33 : (Jvm.Cond.code ({ cls := "NakMulticast", name := "backoffOf", desc := "(I)I" } : Jvm.MethodName) prog_1_method_23_code (2 : Nat) (Option.some Jvm.ClassFile.FieldType.int)).before args0 about1 = true := code_word (m := ⟨2, 17⟩) (meth := k2m17) (c := k2c17) (by decide +kernel) rfl rfl rfl (by decide +kernel)
set_option maxRecDepth 65536 in
theorem w_c34 : (Jvm.Cond.code ({ cls := "NakMulticast", name := "handleNak", desc := "(I)V" } : Jvm.MethodName) prog_1_method_39_code (2 : Nat) (Option.none : Option Jvm.ClassFile.FieldType)).before args0 about1 = true := code_word (m := ⟨2, 33⟩) (meth := k2m33) (c := k2c33) (by decide +kernel) rfl rfl rfl (by decide +kernel)
set_option maxRecDepth 65536 in
theorem w_c35 : (Jvm.Cond.code ({ cls := "NakMulticast", name := "multicastNcf", desc := "(I)V" } : Jvm.MethodName) prog_1_method_26_code (3 : Nat) (Option.none : Option Jvm.ClassFile.FieldType)).before args0 about1 = true := code_word (m := ⟨2, 20⟩) (meth := k2m20) (c := k2c20) (by decide +kernel) rfl rfl rfl (by decide +kernel)
set_option maxRecDepth 65536 in
theorem w_c36 : (Jvm.Cond.code ({ cls := "NakMulticast", name := "applyNcf", desc := "(II)V" } : Jvm.MethodName) prog_1_method_29_code (5 : Nat) (Option.none : Option Jvm.ClassFile.FieldType)).before args0 about1 = true := code_word (m := ⟨2, 23⟩) (meth := k2m23) (c := k2c23) (by decide +kernel) rfl rfl rfl (by decide +kernel)
set_option maxRecDepth 65536 in
theorem w_c37 : (Jvm.Cond.code ({ cls := "NakMulticast", name := "appendLost", desc := "(II)V" } : Jvm.MethodName) prog_1_method_32_code (3 : Nat) (Option.none : Option Jvm.ClassFile.FieldType)).before args0 about1 = true := code_word (m := ⟨2, 26⟩) (meth := k2m26) (c := k2c26) (by decide +kernel) rfl rfl rfl (by decide +kernel)
set_option maxRecDepth 65536 in
theorem w_c38 : (Jvm.Cond.code ({ cls := "NakMulticast", name := "lostSeq", desc := "(II)I" } : Jvm.MethodName) prog_1_method_16_code (3 : Nat) (Option.some Jvm.ClassFile.FieldType.int)).before args0 about1 = true := code_word (m := ⟨2, 10⟩) (meth := k2m10) (c := k2c10) (by decide +kernel) rfl rfl rfl (by decide +kernel)
def codes1 : List Jvm.Cond := [Jvm.Cond.code x code maxLocals ret, Jvm.Cond.code ({ cls := "NakMulticastOwnLaw", name := "cell", desc := "([II)I" } : Jvm.MethodName) method_2_code (2 : Nat) (Option.some Jvm.ClassFile.FieldType.int), Jvm.Cond.code ({ cls := "NakMulticast", name := "<init>", desc := "(IIII)V" } : Jvm.MethodName) prog_1_method_1_code (6 : Nat) (Option.none : Option Jvm.ClassFile.FieldType), Jvm.Cond.code ({ cls := "java/lang/Object", name := "<init>", desc := "()V" } : Jvm.MethodName) object_method_1_code (1 : Nat) (Option.none : Option Jvm.ClassFile.FieldType), Jvm.Cond.code ({ cls := "NakMulticast", name := "clamp", desc := "(III)I" } : Jvm.MethodName) prog_1_method_17_code (4 : Nat) (Option.some Jvm.ClassFile.FieldType.int), Jvm.Cond.code ({ cls := "NakMulticast", name := "sourceLead", desc := "()I" } : Jvm.MethodName) prog_1_method_6_code (1 : Nat) (Option.some Jvm.ClassFile.FieldType.int), Jvm.Cond.code ({ cls := "NakMulticast", name := "lead", desc := "()I" } : Jvm.MethodName) prog_1_method_20_code (1 : Nat) (Option.some Jvm.ClassFile.FieldType.int), Jvm.Cond.code ({ cls := "NakMulticast", name := "sourceTrail", desc := "()I" } : Jvm.MethodName) prog_1_method_7_code (1 : Nat) (Option.some Jvm.ClassFile.FieldType.int), Jvm.Cond.code ({ cls := "NakMulticast", name := "trail", desc := "()I" } : Jvm.MethodName) prog_1_method_21_code (2 : Nat) (Option.some Jvm.ClassFile.FieldType.int), Jvm.Cond.code ({ cls := "NakMulticast", name := "rxInfo", desc := "(II)I" } : Jvm.MethodName) prog_1_method_11_code (3 : Nat) (Option.some Jvm.ClassFile.FieldType.int), Jvm.Cond.code ({ cls := "NakMulticast", name := "validRx", desc := "(I)Z" } : Jvm.MethodName) prog_1_method_18_code (2 : Nat) (Option.some Jvm.ClassFile.FieldType.boolean), Jvm.Cond.code ({ cls := "NakMulticast", name := "spm", desc := "()V" } : Jvm.MethodName) prog_1_method_3_code (1 : Nat) (Option.none : Option Jvm.ClassFile.FieldType), Jvm.Cond.code ({ cls := "NakMulticast", name := "multicastSource", desc := "(III)V" } : Jvm.MethodName) prog_1_method_24_code (7 : Nat) (Option.none : Option Jvm.ClassFile.FieldType), Jvm.Cond.code ({ cls := "NakMulticast", name := "aggregatorApply", desc := "(III)V" } : Jvm.MethodName) prog_1_method_25_code (5 : Nat) (Option.none : Option Jvm.ClassFile.FieldType), Jvm.Cond.code ({ cls := "NakMulticast", name := "copyTo", desc := "(IIIIII)V" } : Jvm.MethodName) prog_1_method_27_code (7 : Nat) (Option.none : Option Jvm.ClassFile.FieldType), Jvm.Cond.code ({ cls := "NakMulticast", name := "applyLead", desc := "(II)V" } : Jvm.MethodName) prog_1_method_30_code (6 : Nat) (Option.none : Option Jvm.ClassFile.FieldType), Jvm.Cond.code ({ cls := "NakMulticast", name := "applyTrail", desc := "(II)V" } : Jvm.MethodName) prog_1_method_31_code (7 : Nat) (Option.none : Option Jvm.ClassFile.FieldType), Jvm.Cond.code ({ cls := "NakMulticast", name := "deliver", desc := "(I)V" } : Jvm.MethodName) prog_1_method_33_code (5 : Nat) (Option.none : Option Jvm.ClassFile.FieldType), Jvm.Cond.code ({ cls := "NakMulticast", name := "send", desc := "(I)I" } : Jvm.MethodName) prog_1_method_2_code (3 : Nat) (Option.some Jvm.ClassFile.FieldType.int), Jvm.Cond.code ({ cls := "NakMulticast", name := "applyData", desc := "(IIIII)V" } : Jvm.MethodName) prog_1_method_28_code (8 : Nat) (Option.none : Option Jvm.ClassFile.FieldType), Jvm.Cond.code ({ cls := "NakMulticast", name := "validSeq", desc := "(I)Z" } : Jvm.MethodName) prog_1_method_19_code (2 : Nat) (Option.some Jvm.ClassFile.FieldType.boolean), Jvm.Cond.code ({ cls := "NakMulticast", name := "appendDelivered", desc := "(III)V" } : Jvm.MethodName) prog_1_method_34_code (5 : Nat) (Option.none : Option Jvm.ClassFile.FieldType), Jvm.Cond.code ({ cls := "NakMulticastOwnLaw", name := "put", desc := "(JII)J" } : Jvm.MethodName) method_3_code (5 : Nat) (Option.some Jvm.ClassFile.FieldType.long), Jvm.Cond.code ({ cls := "NakMulticast", name := "deliveredSeq", desc := "(II)I" } : Jvm.MethodName) prog_1_method_14_code (3 : Nat) (Option.some Jvm.ClassFile.FieldType.int), Jvm.Cond.code ({ cls := "NakMulticast", name := "deliveredValue", desc := "(II)I" } : Jvm.MethodName) prog_1_method_15_code (3 : Nat) (Option.some Jvm.ClassFile.FieldType.int), Jvm.Cond.code ({ cls := "NakMulticastOwnLaw", name := "get", desc := "(JI)I" } : Jvm.MethodName) method_4_code (4 : Nat) (Option.some Jvm.ClassFile.FieldType.int), Jvm.Cond.code ({ cls := "NakMulticast", name := "tick", desc := "()V" } : Jvm.MethodName) prog_1_method_5_code (1 : Nat) (Option.none : Option Jvm.ClassFile.FieldType), Jvm.Cond.code ({ cls := "NakMulticast", name := "serveQueue", desc := "()V" } : Jvm.MethodName) prog_1_method_35_code (5 : Nat) (Option.none : Option Jvm.ClassFile.FieldType), Jvm.Cond.code ({ cls := "NakMulticast", name := "runTimers", desc := "()V" } : Jvm.MethodName) prog_1_method_36_code (3 : Nat) (Option.none : Option Jvm.ClassFile.FieldType), Jvm.Cond.code ({ cls := "NakMulticast", name := "stepTimer", desc := "(II)V" } : Jvm.MethodName) prog_1_method_37_code (5 : Nat) (Option.none : Option Jvm.ClassFile.FieldType), Jvm.Cond.code ({ cls := "NakMulticast", name := "isWaiting", desc := "(I)Z" } : Jvm.MethodName) prog_1_method_22_code (2 : Nat) (Option.some Jvm.ClassFile.FieldType.boolean), Jvm.Cond.code ({ cls := "NakMulticast", name := "handleNaks", desc := "()V" } : Jvm.MethodName) prog_1_method_38_code (3 : Nat) (Option.none : Option Jvm.ClassFile.FieldType), Jvm.Cond.code ({ cls := "NakMulticast", name := "setLoss", desc := "(II)Z" } : Jvm.MethodName) prog_1_method_4_code (3 : Nat) (Option.some Jvm.ClassFile.FieldType.boolean), Jvm.Cond.code ({ cls := "NakMulticast", name := "backoffOf", desc := "(I)I" } : Jvm.MethodName) prog_1_method_23_code (2 : Nat) (Option.some Jvm.ClassFile.FieldType.int), Jvm.Cond.code ({ cls := "NakMulticast", name := "handleNak", desc := "(I)V" } : Jvm.MethodName) prog_1_method_39_code (2 : Nat) (Option.none : Option Jvm.ClassFile.FieldType), Jvm.Cond.code ({ cls := "NakMulticast", name := "multicastNcf", desc := "(I)V" } : Jvm.MethodName) prog_1_method_26_code (3 : Nat) (Option.none : Option Jvm.ClassFile.FieldType), Jvm.Cond.code ({ cls := "NakMulticast", name := "applyNcf", desc := "(II)V" } : Jvm.MethodName) prog_1_method_29_code (5 : Nat) (Option.none : Option Jvm.ClassFile.FieldType), Jvm.Cond.code ({ cls := "NakMulticast", name := "appendLost", desc := "(II)V" } : Jvm.MethodName) prog_1_method_32_code (3 : Nat) (Option.none : Option Jvm.ClassFile.FieldType), Jvm.Cond.code ({ cls := "NakMulticast", name := "lostSeq", desc := "(II)I" } : Jvm.MethodName) prog_1_method_16_code (3 : Nat) (Option.some Jvm.ClassFile.FieldType.int)]
set_option maxRecDepth 65536 in
theorem codes_eq : words1.filter isCode = codes1 := rfl
theorem w_codes : ∀ c ∈ words1.filter isCode, c.before args0 about1 = true := by
  rw [codes_eq]
  intro c hc
  simp only [codes1, List.mem_cons, List.not_mem_nil, or_false] at hc
  rcases hc with rfl | rfl | rfl | rfl | rfl | rfl | rfl | rfl | rfl | rfl | rfl | rfl | rfl | rfl | rfl | rfl | rfl | rfl | rfl | rfl | rfl | rfl | rfl | rfl | rfl | rfl | rfl | rfl | rfl | rfl | rfl | rfl | rfl | rfl | rfl | rfl | rfl | rfl | rfl
  · exact w_c0
  · exact w_c1
  · exact w_c2
  · exact w_c3
  · exact w_c4
  · exact w_c5
  · exact w_c6
  · exact w_c7
  · exact w_c8
  · exact w_c9
  · exact w_c10
  · exact w_c11
  · exact w_c12
  · exact w_c13
  · exact w_c14
  · exact w_c15
  · exact w_c16
  · exact w_c17
  · exact w_c18
  · exact w_c19
  · exact w_c20
  · exact w_c21
  · exact w_c22
  · exact w_c23
  · exact w_c24
  · exact w_c25
  · exact w_c26
  · exact w_c27
  · exact w_c28
  · exact w_c29
  · exact w_c30
  · exact w_c31
  · exact w_c32
  · exact w_c33
  · exact w_c34
  · exact w_c35
  · exact w_c36
  · exact w_c37
  · exact w_c38
set_option maxRecDepth 65536 in
theorem w_t1 : (words1.take 24).all (fun c => isCode c || c.before args0 about1) = true := by decide +kernel
set_option maxRecDepth 65536 in
theorem w_t2 : ((words1.drop 24).take 24).all (fun c => isCode c || c.before args0 about1) = true := by decide +kernel
set_option maxRecDepth 65536 in
theorem w_t3 : (((words1.drop 24).drop 24).take 24).all (fun c => isCode c || c.before args0 about1) = true := by decide +kernel
set_option maxRecDepth 65536 in
theorem w_t4 : ((((words1.drop 24).drop 24).drop 24).take 24).all (fun c => isCode c || c.before args0 about1) = true := by decide +kernel
set_option maxRecDepth 65536 in
theorem w_t5 : (((((words1.drop 24).drop 24).drop 24).drop 24).take 24).all (fun c => isCode c || c.before args0 about1) = true := by decide +kernel
set_option maxRecDepth 65536 in
theorem w_t6 : ((((((words1.drop 24).drop 24).drop 24).drop 24).drop 24).take 24).all (fun c => isCode c || c.before args0 about1) = true := by decide +kernel
set_option maxRecDepth 65536 in
theorem w_t7 : (((((((words1.drop 24).drop 24).drop 24).drop 24).drop 24).drop 24).take 24).all (fun c => isCode c || c.before args0 about1) = true := by decide +kernel
set_option maxRecDepth 65536 in
theorem w_t8 : ((((((((words1.drop 24).drop 24).drop 24).drop 24).drop 24).drop 24).drop 24).take 24).all (fun c => isCode c || c.before args0 about1) = true := by decide +kernel
set_option maxRecDepth 65536 in
theorem w_t9 : (((((((((words1.drop 24).drop 24).drop 24).drop 24).drop 24).drop 24).drop 24).drop 24).take 24).all (fun c => isCode c || c.before args0 about1) = true := by decide +kernel
set_option maxRecDepth 65536 in
theorem w_t10 : (((((((((words1.drop 24).drop 24).drop 24).drop 24).drop 24).drop 24).drop 24).drop 24).drop 24).all (fun c => isCode c || c.before args0 about1) = true := by decide +kernel
theorem w_tables : (allAtoms (Jvm.Cond.code x code maxLocals ret :: tables_1)).before args0 about1 = true := by
  rw [allAtoms_all]
  show words1.all (fun c => c.before args0 about1) = true
  refine all_split ?_ w_codes
  rw [← List.take_append_drop 24 words1, List.all_append, w_t1, ← List.take_append_drop 24 (words1.drop 24), List.all_append, w_t2, ← List.take_append_drop 24 ((words1.drop 24).drop 24), List.all_append, w_t3, ← List.take_append_drop 24 (((words1.drop 24).drop 24).drop 24), List.all_append, w_t4, ← List.take_append_drop 24 ((((words1.drop 24).drop 24).drop 24).drop 24), List.all_append, w_t5, ← List.take_append_drop 24 (((((words1.drop 24).drop 24).drop 24).drop 24).drop 24), List.all_append, w_t6, ← List.take_append_drop 24 ((((((words1.drop 24).drop 24).drop 24).drop 24).drop 24).drop 24), List.all_append, w_t7, ← List.take_append_drop 24 (((((((words1.drop 24).drop 24).drop 24).drop 24).drop 24).drop 24).drop 24), List.all_append, w_t8, ← List.take_append_drop 24 ((((((((words1.drop 24).drop 24).drop 24).drop 24).drop 24).drop 24).drop 24).drop 24), List.all_append, w_t9, w_t10]
  rfl
set_option maxRecDepth 65536 in
theorem w_rest : rest_1_c.before args0 about1 = true := by decide +kernel
set_option maxRecDepth 65536 in
theorem w_case : (Jvm.Cond.and given_1 narrow_1).before args0 about1 = true := by decide +kernel
theorem w_applies : (headSpec (Jvm.Cond.code x code maxLocals ret :: tables_1) room_1).applies x e0.platform about1 = true :=
  (Spec.applies_iff w_frames).mpr ⟨w_running, w_runnable, w_alone, w_named, w_hears, w_ripe, w_room, w_tables⟩
theorem atStart : AtStart classFile x code maxLocals ret World_1 tables_1 room_1 Calls_1 rest_1 Pre_1 launch0 p0 e0 about1 theMethod args0 below0 :=
  ⟨lists_1, trivial, launch0.admits_env _ _ _, launch0.least_env, fairChoices_fair.cas, fairChoices_fair.clock, w_frames, w_args, w_heap, w_applies, trivial, w_rest, w_case⟩
end start1
theorem witness_1 : WitnessClaimed_1 := ⟨start1.p0, start1.e0, start1.about1, start1.theMethod, start1.args0, start1.below0, start1.atStart⟩
end Jvm.Pilot.@@N@@
