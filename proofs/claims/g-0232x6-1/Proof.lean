import JvmDerived
import JvmDerived.Pilot.@@N@@Statement
import JvmDerived.Pilot.@@N@@Code
set_option linter.unusedVariables false
set_option linter.unusedSimpArgs false
namespace Jvm.RoadKit
open Sem ClassFile Op Lib Jvm.Stand Jvm.Free Jvm.LawKit
section New
variable {p : Program} {l : Launch} {e : Env} {R : Room} {s : State} {m : MethodId} {args : Array Value} {below : List Frame} {meth : Method} {c : Code} {T : State} {locs : List Loc} {cells slots : Nat}
theorem retI (X : Stand p l e R s m args below meth c T locs cells slots) (hx : p.tables.exec = Jvm.exec) {pc : Nat} {Ls : Array Slot} {z : Int32} {rest : List Value} (hret : meth.sig.returnType = some .int) (hd : decode c.code pc = .ok (.ireturn, 1)) {fs : List Frame}
    (hl : ∀ (f : JFrame) (acts : List Action), f.method = m → f.locked = none → f.entered = [] → (doReturn e (T.setTop f) acts (some (.int z))).1 = T.setFrames fs) : Steps p.tables e below (T.setTop (mkF m pc Ls (.int z :: rest))) (T.setFrames fs) := by
  have hm' : T.vm.method? m = some meth := X.method'
  have hn : narrow .int (.int z) = .int z := rfl
  show Steps p.tables e below (T.setTop { method := m, pc := pc, locals := Ls, stack := _ :: rest, locked := none }) _
  jvm_step X.here [X.here.top, hx, hd, hm', hret, hn]
  first | (intro acts; rw [hl _ acts rfl rfl rfl]) | rw [hl _ _ rfl rfl rfl]
  exact Steps.refl _
end New
end Jvm.RoadKit
namespace Jvm.Pilot.@@N@@
open Jvm Jvm.ClassFile Sem Op Lib Jvm.Free Jvm.Stand Jvm.LawKit Jvm.RoadKit Bundle Jvm.Pilot.@@N@@.Jvm.D
/-! TABLES of this claim: printed by claim.py -/
def k0 : Nat := 1
def cName : String := "SwitchLowererX"
def cN : Nat := 48
def nF : Nat := 48
def kName (k : Nat) : String := bif Nat.beq k 0 then "SwitchLowererXL4" else "SwitchLowererX"
def fNm (k : Nat) : String := (bif Nat.ble 24 k then (bif Nat.ble 36 k then (bif Nat.ble 42 k then (bif Nat.ble 45 k then (bif Nat.ble 46 k then (bif Nat.ble 47 k then "sp" else "maskUsed") else "tableUsed") else (bif Nat.ble 43 k then (bif Nat.ble 44 k then "rootPc" else "codeLen") else "clCount")) else (bif Nat.ble 39 k then (bif Nat.ble 40 k then (bif Nat.ble 41 k then "hasSnap" else "snapDefault") else "snapCount") else (bif Nat.ble 37 k then (bif Nat.ble 38 k then "dirty" else "curDefault") else "curCount"))) else (bif Nat.ble 30 k then (bif Nat.ble 33 k then (bif Nat.ble 34 k then (bif Nat.ble 35 k then "targets" else "cap") else "stSlot") else (bif Nat.ble 31 k then (bif Nat.ble 32 k then "stParent" else "stHi") else "stLo")) else (bif Nat.ble 27 k then (bif Nat.ble 28 k then (bif Nat.ble 29 k then "maskTarget" else "maskPool") else "tablePool") else (bif Nat.ble 25 k then (bif Nat.ble 26 k then "argD" else "argC") else "argB")))) else (bif Nat.ble 12 k then (bif Nat.ble 18 k then (bif Nat.ble 21 k then (bif Nat.ble 22 k then (bif Nat.ble 23 k then "argA" else "opc") else "clEnd") else (bif Nat.ble 19 k then (bif Nat.ble 20 k then "clStart" else "bestCut") else "bestCost")) else (bif Nat.ble 15 k then (bif Nat.ble 16 k then (bif Nat.ble 17 k then "snapTgt" else "snapVal") else "curTgt") else (bif Nat.ble 13 k then (bif Nat.ble 14 k then "curVal" else "maxInt") else "unsignedMask"))) else (bif Nat.ble 6 k then (bif Nat.ble 9 k then (bif Nat.ble 10 k then (bif Nat.ble 11 k then "maxBitTargets" else "maxBitSpan") else "maxTableSpan") else (bif Nat.ble 7 k then (bif Nat.ble 8 k then "tableSpanPerCase" else "maxSteps") else "maxTargets")) else (bif Nat.ble 3 k then (bif Nat.ble 4 k then (bif Nat.ble 5 k then "maxCap" else "opBits") else "opTable") else (bif Nat.ble 1 k then (bif Nat.ble 2 k then "opEq" else "opLess") else "opRet")))))
def fDs (k : Nat) : String := (bif Nat.ble 24 k then (bif Nat.ble 36 k then (bif Nat.ble 42 k then (bif Nat.ble 45 k then (bif Nat.ble 46 k then (bif Nat.ble 47 k then "I" else "I") else "I") else (bif Nat.ble 43 k then (bif Nat.ble 44 k then "I" else "I") else "I")) else (bif Nat.ble 39 k then (bif Nat.ble 40 k then (bif Nat.ble 41 k then "Z" else "I") else "I") else (bif Nat.ble 37 k then (bif Nat.ble 38 k then "Z" else "I") else "I"))) else (bif Nat.ble 30 k then (bif Nat.ble 33 k then (bif Nat.ble 34 k then (bif Nat.ble 35 k then "I" else "I") else "[I") else (bif Nat.ble 31 k then (bif Nat.ble 32 k then "[I" else "[I") else "[I")) else (bif Nat.ble 27 k then (bif Nat.ble 28 k then (bif Nat.ble 29 k then "[B" else "[J") else "[B") else (bif Nat.ble 25 k then (bif Nat.ble 26 k then "[I" else "[I") else "[I")))) else (bif Nat.ble 12 k then (bif Nat.ble 18 k then (bif Nat.ble 21 k then (bif Nat.ble 22 k then (bif Nat.ble 23 k then "[I" else "[B") else "[I") else (bif Nat.ble 19 k then (bif Nat.ble 20 k then "[I" else "[I") else "[I")) else (bif Nat.ble 15 k then (bif Nat.ble 16 k then (bif Nat.ble 17 k then "[B" else "[I") else "[B") else (bif Nat.ble 13 k then (bif Nat.ble 14 k then "[I" else "I") else "J"))) else (bif Nat.ble 6 k then (bif Nat.ble 9 k then (bif Nat.ble 10 k then (bif Nat.ble 11 k then "I" else "I") else "I") else (bif Nat.ble 7 k then (bif Nat.ble 8 k then "I" else "I") else "I")) else (bif Nat.ble 3 k then (bif Nat.ble 4 k then (bif Nat.ble 5 k then "I" else "I") else "I") else (bif Nat.ble 1 k then (bif Nat.ble 2 k then "I" else "I") else "I")))))
def fTy (k : Nat) : FieldType := (bif Nat.ble 24 k then (bif Nat.ble 36 k then (bif Nat.ble 42 k then (bif Nat.ble 45 k then (bif Nat.ble 46 k then (bif Nat.ble 47 k then .int else .int) else .int) else (bif Nat.ble 43 k then (bif Nat.ble 44 k then .int else .int) else .int)) else (bif Nat.ble 39 k then (bif Nat.ble 40 k then (bif Nat.ble 41 k then .boolean else .int) else .int) else (bif Nat.ble 37 k then (bif Nat.ble 38 k then .boolean else .int) else .int))) else (bif Nat.ble 30 k then (bif Nat.ble 33 k then (bif Nat.ble 34 k then (bif Nat.ble 35 k then .int else .int) else (.array .int)) else (bif Nat.ble 31 k then (bif Nat.ble 32 k then (.array .int) else (.array .int)) else (.array .int))) else (bif Nat.ble 27 k then (bif Nat.ble 28 k then (bif Nat.ble 29 k then (.array .byte) else (.array .long)) else (.array .byte)) else (bif Nat.ble 25 k then (bif Nat.ble 26 k then (.array .int) else (.array .int)) else (.array .int))))) else (bif Nat.ble 12 k then (bif Nat.ble 18 k then (bif Nat.ble 21 k then (bif Nat.ble 22 k then (bif Nat.ble 23 k then (.array .int) else (.array .byte)) else (.array .int)) else (bif Nat.ble 19 k then (bif Nat.ble 20 k then (.array .int) else (.array .int)) else (.array .int))) else (bif Nat.ble 15 k then (bif Nat.ble 16 k then (bif Nat.ble 17 k then (.array .byte) else (.array .int)) else (.array .byte)) else (bif Nat.ble 13 k then (bif Nat.ble 14 k then (.array .int) else .int) else .long))) else (bif Nat.ble 6 k then (bif Nat.ble 9 k then (bif Nat.ble 10 k then (bif Nat.ble 11 k then .int else .int) else .int) else (bif Nat.ble 7 k then (bif Nat.ble 8 k then .int else .int) else .int)) else (bif Nat.ble 3 k then (bif Nat.ble 4 k then (bif Nat.ble 5 k then .int else .int) else .int) else (bif Nat.ble 1 k then (bif Nat.ble 2 k then .int else .int) else .int)))))
def fFin (k : Nat) : Bool := (bif Nat.ble 24 k then (bif Nat.ble 36 k then (bif Nat.ble 42 k then (bif Nat.ble 45 k then (bif Nat.ble 46 k then (bif Nat.ble 47 k then false else false) else false) else (bif Nat.ble 43 k then (bif Nat.ble 44 k then false else false) else false)) else (bif Nat.ble 39 k then (bif Nat.ble 40 k then (bif Nat.ble 41 k then false else false) else false) else (bif Nat.ble 37 k then (bif Nat.ble 38 k then false else false) else false))) else (bif Nat.ble 30 k then (bif Nat.ble 33 k then (bif Nat.ble 34 k then (bif Nat.ble 35 k then false else false) else true) else (bif Nat.ble 31 k then (bif Nat.ble 32 k then true else true) else true)) else (bif Nat.ble 27 k then (bif Nat.ble 28 k then (bif Nat.ble 29 k then true else true) else true) else (bif Nat.ble 25 k then (bif Nat.ble 26 k then true else true) else true)))) else (bif Nat.ble 12 k then (bif Nat.ble 18 k then (bif Nat.ble 21 k then (bif Nat.ble 22 k then (bif Nat.ble 23 k then true else true) else true) else (bif Nat.ble 19 k then (bif Nat.ble 20 k then true else true) else true)) else (bif Nat.ble 15 k then (bif Nat.ble 16 k then (bif Nat.ble 17 k then true else true) else true) else (bif Nat.ble 13 k then (bif Nat.ble 14 k then true else true) else true))) else (bif Nat.ble 6 k then (bif Nat.ble 9 k then (bif Nat.ble 10 k then (bif Nat.ble 11 k then true else true) else true) else (bif Nat.ble 7 k then (bif Nat.ble 8 k then true else true) else true)) else (bif Nat.ble 3 k then (bif Nat.ble 4 k then (bif Nat.ble 5 k then true else true) else true) else (bif Nat.ble 1 k then (bif Nat.ble 2 k then true else true) else true)))))
def cDef : List Value := [.int 0, .int 0, .int 0, .int 0, .int 0, .int 0, .int 0, .int 0, .int 0, .int 0, .int 0, .int 0, .long 0, .int 0, .null, .null, .null, .null, .null, .null, .null, .null, .null, .null, .null, .null, .null, .null, .null, .null, .null, .null, .null, .null, .int 0, .int 0, .int 0, .int 0, .int 0, .int 0, .int 0, .int 0, .int 0, .int 0, .int 0, .int 0, .int 0, .int 0]
def cK : List Value := [.long (4294967295), .int (2147483647), .long (256), .long (64), .long (4)]
def pN : Nat := 35
def pTop (m : Nat) : Nat := (bif Nat.ble 17 m then (bif Nat.ble 26 m then (bif Nat.ble 30 m then (bif Nat.ble 32 m then (bif Nat.ble 33 m then (bif Nat.ble 34 m then 42 else 75) else 9) else (bif Nat.ble 31 m then 127 else 57)) else (bif Nat.ble 28 m then (bif Nat.ble 29 m then 40 else 52) else (bif Nat.ble 27 m then 179 else 69))) else (bif Nat.ble 21 m then (bif Nat.ble 23 m then (bif Nat.ble 24 m then (bif Nat.ble 25 m then 134 else 72) else 62) else (bif Nat.ble 22 m then 26 else 21)) else (bif Nat.ble 19 m then (bif Nat.ble 20 m then 135 else 59) else (bif Nat.ble 18 m then 28 else 22)))) else (bif Nat.ble 8 m then (bif Nat.ble 12 m then (bif Nat.ble 14 m then (bif Nat.ble 15 m then (bif Nat.ble 16 m then 114 else 15) else 21) else (bif Nat.ble 13 m then 20 else 5)) else (bif Nat.ble 10 m then (bif Nat.ble 11 m then 5 else 237) else (bif Nat.ble 9 m then 77 else 210))) else (bif Nat.ble 4 m then (bif Nat.ble 6 m then (bif Nat.ble 7 m then 89 else 207) else (bif Nat.ble 5 m then 67 else 21)) else (bif Nat.ble 2 m then (bif Nat.ble 3 m then 61 else 16) else (bif Nat.ble 1 m then 284 else 156)))))
def pK (m : Nat) : Nat := (bif Nat.ble 17 m then (bif Nat.ble 26 m then (bif Nat.ble 30 m then (bif Nat.ble 32 m then (bif Nat.ble 33 m then (bif Nat.ble 34 m then 1 else 1) else 1) else (bif Nat.ble 31 m then 1 else 1)) else (bif Nat.ble 28 m then (bif Nat.ble 29 m then 1 else 1) else (bif Nat.ble 27 m then 1 else 1))) else (bif Nat.ble 21 m then (bif Nat.ble 23 m then (bif Nat.ble 24 m then (bif Nat.ble 25 m then 1 else 1) else 1) else (bif Nat.ble 22 m then 1 else 1)) else (bif Nat.ble 19 m then (bif Nat.ble 20 m then 1 else 1) else (bif Nat.ble 18 m then 1 else 1)))) else (bif Nat.ble 8 m then (bif Nat.ble 12 m then (bif Nat.ble 14 m then (bif Nat.ble 15 m then (bif Nat.ble 16 m then 1 else 1) else 1) else (bif Nat.ble 13 m then 1 else 1)) else (bif Nat.ble 10 m then (bif Nat.ble 11 m then 1 else 0) else (bif Nat.ble 9 m then 1 else 1))) else (bif Nat.ble 4 m then (bif Nat.ble 6 m then (bif Nat.ble 7 m then 1 else 1) else (bif Nat.ble 5 m then 1 else 1)) else (bif Nat.ble 2 m then (bif Nat.ble 3 m then 1 else 1) else (bif Nat.ble 1 m then 1 else 0)))))
def pNm (m : Nat) : String := (bif Nat.ble 17 m then (bif Nat.ble 26 m then (bif Nat.ble 30 m then (bif Nat.ble 32 m then (bif Nat.ble 33 m then (bif Nat.ble 34 m then "clusterLow" else "removeCase") else "unsignedOffset") else (bif Nat.ble 31 m then "runBits" else "runLeaf")) else (bif Nat.ble 28 m then (bif Nat.ble 29 m then "patch" else "findMaskSlot") else (bif Nat.ble 27 m then "emitBits" else "distinctTargets"))) else (bif Nat.ble 21 m then (bif Nat.ble 23 m then (bif Nat.ble 24 m then (bif Nat.ble 25 m then "emitLeaf" else "push") else "clusterFits") else (bif Nat.ble 22 m then "setDefault" else "caseValueAt")) else (bif Nat.ble 19 m then (bif Nat.ble 20 m then "addCase" else "curLowerBound") else (bif Nat.ble 18 m then "curIndexOf" else "lookup")))) else (bif Nat.ble 8 m then (bif Nat.ble 12 m then (bif Nat.ble 14 m then (bif Nat.ble 15 m then (bif Nat.ble 16 m then "run" else "route") else "caseTargetAt") else (bif Nat.ble 13 m then "isCurrent" else "defaultTarget")) else (bif Nat.ble 10 m then (bif Nat.ble 11 m then "caseCount" else "holds") else (bif Nat.ble 9 m then "emit" else "buildTree"))) else (bif Nat.ble 4 m then (bif Nat.ble 6 m then (bif Nat.ble 7 m then "collectClusters" else "planClusters") else (bif Nat.ble 5 m then "takeSnapshot" else "lower")) else (bif Nat.ble 2 m then (bif Nat.ble 3 m then "reset" else "clamp") else (bif Nat.ble 1 m then "<init>" else "law")))))
def pDs (m : Nat) : String := (bif Nat.ble 17 m then (bif Nat.ble 26 m then (bif Nat.ble 30 m then (bif Nat.ble 32 m then (bif Nat.ble 33 m then (bif Nat.ble 34 m then "(I)I" else "(I)I") else "(II)J") else (bif Nat.ble 31 m then "(II)I" else "(II)I")) else (bif Nat.ble 28 m then (bif Nat.ble 29 m then "(III)V" else "(III)I") else (bif Nat.ble 27 m then "(III)I" else "(II)I"))) else (bif Nat.ble 21 m then (bif Nat.ble 23 m then (bif Nat.ble 24 m then (bif Nat.ble 25 m then "(I)I" else "(IIII)V") else "(JII)Z") else (bif Nat.ble 22 m then "(I)I" else "(I)I")) else (bif Nat.ble 19 m then (bif Nat.ble 20 m then "(II)I" else "(I)I") else (bif Nat.ble 18 m then "(I)I" else "(I)I")))) else (bif Nat.ble 8 m then (bif Nat.ble 12 m then (bif Nat.ble 14 m then (bif Nat.ble 15 m then (bif Nat.ble 16 m then "(I)I" else "(I)I") else "(I)I") else (bif Nat.ble 13 m then "()Z" else "()I")) else (bif Nat.ble 10 m then (bif Nat.ble 11 m then "()I" else "(LSwitchLowererX;ZI)Z") else (bif Nat.ble 9 m then "(IIIII)I" else "()V"))) else (bif Nat.ble 4 m then (bif Nat.ble 6 m then (bif Nat.ble 7 m then "()V" else "()V") else (bif Nat.ble 5 m then "()V" else "()I")) else (bif Nat.ble 2 m then (bif Nat.ble 3 m then "()V" else "(III)I") else (bif Nat.ble 1 m then "(II)V" else "([I)Z")))))
def pName (m : Nat) : MethodName := ⟨kName (pK m), pNm m, pDs m⟩
def pBytes (m : Nat) : ByteArray := (bif Nat.ble 17 m then (bif Nat.ble 26 m then (bif Nat.ble 30 m then (bif Nat.ble 32 m then (bif Nat.ble 33 m then (bif Nat.ble 34 m then prog_1_method_30_code else prog_1_method_6_code) else prog_1_method_38_code) else (bif Nat.ble 31 m then prog_1_method_40_code else prog_1_method_37_code)) else (bif Nat.ble 28 m then (bif Nat.ble 29 m then prog_1_method_28_code else prog_1_method_34_code) else (bif Nat.ble 27 m then prog_1_method_33_code else prog_1_method_32_code))) else (bif Nat.ble 21 m then (bif Nat.ble 23 m then (bif Nat.ble 24 m then (bif Nat.ble 25 m then prog_1_method_31_code else prog_1_method_27_code) else prog_1_method_24_code) else (bif Nat.ble 22 m then prog_1_method_7_code else prog_1_method_9_code)) else (bif Nat.ble 19 m then (bif Nat.ble 20 m then prog_1_method_5_code else prog_1_method_19_code) else (bif Nat.ble 18 m then prog_1_method_20_code else prog_1_method_12_code)))) else (bif Nat.ble 8 m then (bif Nat.ble 12 m then (bif Nat.ble 14 m then (bif Nat.ble 15 m then (bif Nat.ble 16 m then prog_1_method_36_code else prog_1_method_15_code) else prog_1_method_10_code) else (bif Nat.ble 13 m then prog_1_method_14_code else prog_1_method_11_code)) else (bif Nat.ble 10 m then (bif Nat.ble 11 m then prog_1_method_8_code else method_3_code) else (bif Nat.ble 9 m then prog_1_method_29_code else prog_1_method_26_code))) else (bif Nat.ble 4 m then (bif Nat.ble 6 m then (bif Nat.ble 7 m then prog_1_method_25_code else prog_1_method_23_code) else (bif Nat.ble 5 m then prog_1_method_22_code else prog_1_method_13_code)) else (bif Nat.ble 2 m then (bif Nat.ble 3 m then prog_1_method_4_code else prog_1_method_18_code) else (bif Nat.ble 1 m then prog_1_method_1_code else code)))))
def pMaxL (m : Nat) : Nat := (bif Nat.ble 17 m then (bif Nat.ble 26 m then (bif Nat.ble 30 m then (bif Nat.ble 32 m then (bif Nat.ble 33 m then (bif Nat.ble 34 m then 3 else 4) else 3) else (bif Nat.ble 31 m then 10 else 4)) else (bif Nat.ble 28 m then (bif Nat.ble 29 m then 4 else 6) else (bif Nat.ble 27 m then 11 else 7))) else (bif Nat.ble 21 m then (bif Nat.ble 23 m then (bif Nat.ble 24 m then (bif Nat.ble 25 m then 7 else 5) else 7) else (bif Nat.ble 22 m then 2 else 2)) else (bif Nat.ble 19 m then (bif Nat.ble 20 m then 5 else 6) else (bif Nat.ble 18 m then 3 else 3)))) else (bif Nat.ble 8 m then (bif Nat.ble 12 m then (bif Nat.ble 14 m then (bif Nat.ble 15 m then (bif Nat.ble 16 m then 6 else 2) else 2) else (bif Nat.ble 13 m then 1 else 1)) else (bif Nat.ble 10 m then (bif Nat.ble 11 m then 1 else 12) else (bif Nat.ble 9 m then 7 else 9))) else (bif Nat.ble 4 m then (bif Nat.ble 6 m then (bif Nat.ble 7 m then 6 else 10) else (bif Nat.ble 5 m then 2 else 1)) else (bif Nat.ble 2 m then (bif Nat.ble 3 m then 1 else 4) else (bif Nat.ble 1 m then 3 else 7)))))
def pRet (m : Nat) : Option FieldType := (bif Nat.ble 17 m then (bif Nat.ble 26 m then (bif Nat.ble 30 m then (bif Nat.ble 32 m then (bif Nat.ble 33 m then (bif Nat.ble 34 m then (some .int) else (some .int)) else (some .long)) else (bif Nat.ble 31 m then (some .int) else (some .int))) else (bif Nat.ble 28 m then (bif Nat.ble 29 m then none else (some .int)) else (bif Nat.ble 27 m then (some .int) else (some .int)))) else (bif Nat.ble 21 m then (bif Nat.ble 23 m then (bif Nat.ble 24 m then (bif Nat.ble 25 m then (some .int) else none) else (some .boolean)) else (bif Nat.ble 22 m then (some .int) else (some .int))) else (bif Nat.ble 19 m then (bif Nat.ble 20 m then (some .int) else (some .int)) else (bif Nat.ble 18 m then (some .int) else (some .int))))) else (bif Nat.ble 8 m then (bif Nat.ble 12 m then (bif Nat.ble 14 m then (bif Nat.ble 15 m then (bif Nat.ble 16 m then (some .int) else (some .int)) else (some .int)) else (bif Nat.ble 13 m then (some .boolean) else (some .int))) else (bif Nat.ble 10 m then (bif Nat.ble 11 m then (some .int) else (some .boolean)) else (bif Nat.ble 9 m then (some .int) else none))) else (bif Nat.ble 4 m then (bif Nat.ble 6 m then (bif Nat.ble 7 m then none else none) else (bif Nat.ble 5 m then none else (some .int))) else (bif Nat.ble 2 m then (bif Nat.ble 3 m then none else (some .int)) else (bif Nat.ble 1 m then none else (some .boolean))))))
def pNA (m : Nat) : Nat := (bif Nat.ble 17 m then (bif Nat.ble 26 m then (bif Nat.ble 30 m then (bif Nat.ble 32 m then (bif Nat.ble 33 m then (bif Nat.ble 34 m then 1 else 1) else 2) else (bif Nat.ble 31 m then 2 else 2)) else (bif Nat.ble 28 m then (bif Nat.ble 29 m then 3 else 3) else (bif Nat.ble 27 m then 3 else 2))) else (bif Nat.ble 21 m then (bif Nat.ble 23 m then (bif Nat.ble 24 m then (bif Nat.ble 25 m then 1 else 4) else 3) else (bif Nat.ble 22 m then 1 else 1)) else (bif Nat.ble 19 m then (bif Nat.ble 20 m then 2 else 1) else (bif Nat.ble 18 m then 1 else 1)))) else (bif Nat.ble 8 m then (bif Nat.ble 12 m then (bif Nat.ble 14 m then (bif Nat.ble 15 m then (bif Nat.ble 16 m then 1 else 1) else 1) else (bif Nat.ble 13 m then 0 else 0)) else (bif Nat.ble 10 m then (bif Nat.ble 11 m then 0 else 3) else (bif Nat.ble 9 m then 5 else 0))) else (bif Nat.ble 4 m then (bif Nat.ble 6 m then (bif Nat.ble 7 m then 0 else 0) else (bif Nat.ble 5 m then 0 else 0)) else (bif Nat.ble 2 m then (bif Nat.ble 3 m then 0 else 3) else (bif Nat.ble 1 m then 2 else 1)))))
def pFr (m : Nat) : Nat := (bif Nat.ble 17 m then (bif Nat.ble 26 m then (bif Nat.ble 30 m then (bif Nat.ble 32 m then (bif Nat.ble 33 m then (bif Nat.ble 34 m then 0 else 2) else 0) else (bif Nat.ble 31 m then 1 else 2)) else (bif Nat.ble 28 m then (bif Nat.ble 29 m then 0 else 0) else (bif Nat.ble 27 m then 1 else 0))) else (bif Nat.ble 21 m then (bif Nat.ble 23 m then (bif Nat.ble 24 m then (bif Nat.ble 25 m then 2 else 0) else 0) else (bif Nat.ble 22 m then 0 else 0)) else (bif Nat.ble 19 m then (bif Nat.ble 20 m then 1 else 0) else (bif Nat.ble 18 m then 1 else 2)))) else (bif Nat.ble 8 m then (bif Nat.ble 12 m then (bif Nat.ble 14 m then (bif Nat.ble 15 m then (bif Nat.ble 16 m then 3 else 4) else 0) else (bif Nat.ble 13 m then 0 else 0)) else (bif Nat.ble 10 m then (bif Nat.ble 11 m then 0 else 5) else (bif Nat.ble 9 m then 0 else 3))) else (bif Nat.ble 4 m then (bif Nat.ble 6 m then (bif Nat.ble 7 m then 0 else 1) else (bif Nat.ble 5 m then 0 else 4)) else (bif Nat.ble 2 m then (bif Nat.ble 3 m then 0 else 0) else (bif Nat.ble 1 m then 1 else 6)))))
def pLo (m : Nat) : Nat := (bif Nat.ble 17 m then (bif Nat.ble 26 m then (bif Nat.ble 30 m then (bif Nat.ble 32 m then (bif Nat.ble 33 m then (bif Nat.ble 34 m then 0 else 31) else 0) else (bif Nat.ble 31 m then 14 else 35)) else (bif Nat.ble 28 m then (bif Nat.ble 29 m then 0 else 0) else (bif Nat.ble 27 m then 18 else 0))) else (bif Nat.ble 21 m then (bif Nat.ble 23 m then (bif Nat.ble 24 m then (bif Nat.ble 25 m then 40 else 0) else 0) else (bif Nat.ble 22 m then 0 else 0)) else (bif Nat.ble 19 m then (bif Nat.ble 20 m then 17 else 0) else (bif Nat.ble 18 m then 17 else 31)))) else (bif Nat.ble 8 m then (bif Nat.ble 12 m then (bif Nat.ble 14 m then (bif Nat.ble 15 m then (bif Nat.ble 16 m then 50 else 67) else 0) else (bif Nat.ble 13 m then 0 else 0)) else (bif Nat.ble 10 m then (bif Nat.ble 11 m then 0 else 80) else (bif Nat.ble 9 m then 0 else 58))) else (bif Nat.ble 4 m then (bif Nat.ble 6 m then (bif Nat.ble 7 m then 0 else 18) else (bif Nat.ble 5 m then 0 else 78)) else (bif Nat.ble 2 m then (bif Nat.ble 3 m then 0 else 0) else (bif Nat.ble 1 m then 16 else 103)))))
def tB (k p : Nat) (a b : Option (Instr × Nat)) : Option (Instr × Nat) := bif Nat.ble k p then a else b
def tL (k p : Nat) (i : Instr) (x : Nat) : Option (Instr × Nat) := bif Nat.beq p k then some (i, x) else none
set_option maxHeartbeats 4000000 in
def cd0 (p : Nat) : Option (Instr × Nat) := (tB 68 p (tB 116 p (tB 135 p (tB 146 p (tB 151 p (tB 154 p (tB 155 p (tL 155 p .ireturn 0) (tL 154 p (.iconst 1) 0)) (tL 151 p (.goto (-136)) 15)) (tB 147 p (tB 148 p (tL 148 p (.iinc 3 3) 0) (tL 147 p .ireturn 0)) (tL 146 p (.iconst 0) 0))) (tB 138 p (tB 140 p (tB 143 p (tL 143 p (.ifCond .ne 5) 148) (tL 140 p (.invokestatic 30) 10)) (tL 138 p (.iload 5) 0)) (tB 136 p (tB 137 p (tL 137 p (.iload_n 2) 0) (tL 136 p (.aload_n 1) 0)) (tL 135 p (.istore_n 2) 0)))) (tB 125 p (tB 130 p (tB 131 p (tB 134 p (tL 134 p (.iconst 0) 0) (tL 131 p (.invokevirtual 27) 3)) (tL 130 p (.aload_n 1) 0)) (tB 126 p (tB 127 p (tL 127 p (.goto 9) 136) (tL 126 p (.istore_n 2) 0)) (tL 125 p (.iconst 1) 0))) (tB 120 p (tB 121 p (tB 124 p (tL 124 p .pop 0) (tL 121 p (.invokevirtual 23) 4)) (tL 120 p (.aload_n 1) 0)) (tB 117 p (tL 117 p (.if_icmp .ne 13) 130) (tL 116 p (.iconst 3) 0))))) (tB 91 p (tB 104 p (tB 110 p (tB 111 p (tB 114 p (tL 114 p (.iload 4) 0) (tL 111 p (.goto 25) 136)) (tL 110 p .pop 0)) (tB 105 p (tB 107 p (tL 107 p (.invokevirtual 20) 22) (tL 105 p (.iload 5) 0)) (tL 104 p (.aload_n 1) 0))) (tB 97 p (tB 99 p (tB 101 p (tL 101 p (.if_icmp .ne 13) 114) (tL 99 p (.bipush 7) 0)) (tL 97 p (.iload 4) 0)) (tB 93 p (tB 94 p (tL 94 p (.if_icmp .eq 10) 104) (tL 93 p (.iconst 2) 0)) (tL 91 p (.iload 4) 0)))) (tB 78 p (tB 84 p (tB 87 p (tB 88 p (tL 88 p (.goto 48) 136) (tL 87 p .pop 0)) (tL 84 p (.invokevirtual 16) 33)) (tB 81 p (tB 82 p (tL 82 p (.iload 5) 0) (tL 81 p (.aload_n 1) 0)) (tL 78 p (.if_icmp .ne 13) 91))) (tB 71 p (tB 74 p (tB 76 p (tL 76 p (.bipush 6) 0) (tL 74 p (.iload 4) 0)) (tL 71 p (.if_icmp .eq 10) 81)) (tB 70 p (tL 70 p (.iconst 1) 0) (tL 68 p (.iload 4) 0)))))) (tB 31 p (tB 43 p (tB 56 p (tB 61 p (tB 64 p (tB 65 p (tL 65 p (.goto 71) 136) (tL 64 p .pop 0)) (tL 61 p (.invokevirtual 12) 20)) (tB 57 p (tB 59 p (tL 59 p (.iload 6) 0) (tL 57 p (.iload 5) 0)) (tL 56 p (.aload_n 1) 0))) (tB 50 p (tB 52 p (tB 53 p (tL 53 p (.if_icmp .ne 15) 68) (tL 52 p (.iconst 5) 0)) (tL 50 p (.iload 4) 0)) (tB 45 p (tB 47 p (tL 47 p (.ifCond .eq 9) 56) (tL 45 p (.iload 4) 0)) (tL 43 p (.istore 6) 0)))) (tB 36 p (tB 40 p (tB 41 p (tB 42 p (tL 42 p .iaload 0) (tL 41 p .iadd 0)) (tL 40 p (.iconst 2) 0)) (tB 38 p (tB 39 p (tL 39 p (.iload_n 3) 0) (tL 38 p (.aload_n 0) 0)) (tL 36 p (.istore 5) 0))) (tB 33 p (tB 34 p (tB 35 p (tL 35 p .iaload 0) (tL 34 p .iadd 0)) (tL 33 p (.iconst 1) 0)) (tB 32 p (tL 32 p (.iload_n 3) 0) (tL 31 p (.aload_n 0) 0))))) (tB 16 p (tB 23 p (tB 26 p (tB 28 p (tB 29 p (tL 29 p (.istore 4) 0) (tL 28 p .iand 0)) (tL 26 p (.bipush 7) 0)) (tB 24 p (tB 25 p (tL 25 p .iaload 0) (tL 24 p (.iload_n 3) 0)) (tL 23 p (.aload_n 0) 0))) (tB 18 p (tB 19 p (tB 20 p (tL 20 p (.if_icmp .ge 134) 154) (tL 19 p .arraylength 0)) (tL 18 p (.aload_n 0) 0)) (tB 17 p (tL 17 p .iadd 0) (tL 16 p (.iconst 2) 0)))) (tB 10 p (tB 13 p (tB 14 p (tB 15 p (tL 15 p (.iload_n 3) 0) (tL 14 p (.istore_n 3) 0)) (tL 13 p (.iconst 0) 0)) (tB 11 p (tB 12 p (tL 12 p (.istore_n 2) 0) (tL 11 p (.iconst 0) 0)) (tL 10 p (.astore_n 1) 0))) (tB 4 p (tB 6 p (tB 7 p (tL 7 p (.invokespecial 9) 1) (tL 6 p (.iconst 4) 0)) (tL 4 p (.bipush 8) 0)) (tB 3 p (tL 3 p .dup 0) (tL 0 p (.new 7) 0)))))))
set_option maxHeartbeats 4000000 in
def cd1 (p : Nat) : Option (Instr × Nat) := (tB 134 p (tB 211 p (tB 252 p (tB 268 p (tB 273 p (tB 279 p (tB 280 p (tB 283 p (tL 283 p .return_ 0) (tL 280 p (.invokevirtual 129) 3)) (tL 279 p (.aload_n 0) 0)) (tB 276 p (tL 276 p (.putfield 126) 35) (tL 273 p (.invokevirtual 119) 2))) (tB 270 p (tB 271 p (tL 271 p (.bipush 16) 0) (tL 270 p (.iconst 1) 0)) (tB 269 p (tL 269 p (.iload_n 2) 0) (tL 268 p (.aload_n 0) 0)))) (tB 258 p (tB 261 p (tB 264 p (tB 267 p (tL 267 p (.aload_n 0) 0) (tL 264 p (.putfield 123) 34)) (tL 261 p (.invokevirtual 119) 2)) (tB 259 p (tL 259 p (.bipush 64) 0) (tL 258 p (.iconst 1) 0))) (tB 256 p (tB 257 p (tL 257 p (.iload_n 1) 0) (tL 256 p (.aload_n 0) 0)) (tB 255 p (tL 255 p (.aload_n 0) 0) (tL 252 p (.putfield 116) 33))))) (tB 232 p (tB 241 p (tB 246 p (tB 247 p (tB 250 p (tL 250 p (.newarray .int) 0) (tL 247 p (.sipush 130) 0)) (tL 246 p (.aload_n 0) 0)) (tB 243 p (tL 243 p (.putfield 113) 32) (tL 241 p (.newarray .int) 0))) (tB 237 p (tB 238 p (tL 238 p (.sipush 130) 0) (tL 237 p (.aload_n 0) 0)) (tB 234 p (tL 234 p (.putfield 110) 31) (tL 232 p (.newarray .int) 0)))) (tB 220 p (tB 225 p (tB 228 p (tB 229 p (tL 229 p (.sipush 130) 0) (tL 228 p (.aload_n 0) 0)) (tL 225 p (.putfield 107) 30)) (tB 223 p (tL 223 p (.newarray .int) 0) (tL 220 p (.sipush 130) 0))) (tB 216 p (tB 219 p (tL 219 p (.aload_n 0) 0) (tL 216 p (.putfield 104) 29)) (tB 214 p (tL 214 p (.newarray .byte) 0) (tL 211 p (.sipush 192) 0)))))) (tB 171 p (tB 192 p (tB 201 p (tB 205 p (tB 207 p (tB 210 p (tL 210 p (.aload_n 0) 0) (tL 207 p (.putfield 100) 28)) (tL 205 p (.newarray .long) 0)) (tB 202 p (tL 202 p (.sipush 192) 0) (tL 201 p (.aload_n 0) 0))) (tB 196 p (tB 198 p (tL 198 p (.putfield 97) 27) (tL 196 p (.newarray .byte) 0)) (tB 193 p (tL 193 p (.sipush 256) 0) (tL 192 p (.aload_n 0) 0)))) (tB 180 p (tB 184 p (tB 187 p (tB 189 p (tL 189 p (.putfield 94) 26) (tL 187 p (.newarray .int) 0)) (tL 184 p (.sipush 160) 0)) (tB 183 p (tL 183 p (.aload_n 0) 0) (tL 180 p (.putfield 91) 25))) (tB 175 p (tB 178 p (tL 178 p (.newarray .int) 0) (tL 175 p (.sipush 160) 0)) (tB 174 p (tL 174 p (.aload_n 0) 0) (tL 171 p (.putfield 88) 24))))) (tB 151 p (tB 160 p (tB 165 p (tB 166 p (tB 169 p (tL 169 p (.newarray .int) 0) (tL 166 p (.sipush 160) 0)) (tL 165 p (.aload_n 0) 0)) (tB 162 p (tL 162 p (.putfield 85) 23) (tL 160 p (.newarray .int) 0))) (tB 156 p (tB 157 p (tL 157 p (.sipush 160) 0) (tL 156 p (.aload_n 0) 0)) (tB 153 p (tL 153 p (.putfield 82) 22) (tL 151 p (.newarray .byte) 0)))) (tB 142 p (tB 147 p (tB 148 p (tL 148 p (.sipush 160) 0) (tL 147 p (.aload_n 0) 0)) (tB 144 p (tL 144 p (.putfield 79) 21) (tL 142 p (.newarray .int) 0))) (tB 139 p (tB 140 p (tL 140 p (.bipush 64) 0) (tL 139 p (.aload_n 0) 0)) (tB 136 p (tL 136 p (.putfield 76) 20) (tL 134 p (.newarray .int) 0))))))) (tB 65 p (tB 99 p (tB 116 p (tB 124 p (tB 128 p (tB 131 p (tB 132 p (tL 132 p (.bipush 64) 0) (tL 131 p (.aload_n 0) 0)) (tL 128 p (.putfield 73) 19)) (tB 126 p (tL 126 p (.newarray .int) 0) (tL 124 p (.bipush 65) 0))) (tB 120 p (tB 123 p (tL 123 p (.aload_n 0) 0) (tL 120 p (.putfield 70) 18)) (tB 118 p (tL 118 p (.newarray .int) 0) (tL 116 p (.bipush 65) 0)))) (tB 107 p (tB 110 p (tB 112 p (tB 115 p (tL 115 p (.aload_n 0) 0) (tL 112 p (.putfield 67) 17)) (tL 110 p (.newarray .byte) 0)) (tB 108 p (tL 108 p (.bipush 64) 0) (tL 107 p (.aload_n 0) 0))) (tB 102 p (tB 104 p (tL 104 p (.putfield 64) 16) (tL 102 p (.newarray .int) 0)) (tB 100 p (tL 100 p (.bipush 64) 0) (tL 99 p (.aload_n 0) 0))))) (tB 80 p (tB 88 p (tB 92 p (tB 94 p (tB 96 p (tL 96 p (.putfield 60) 15) (tL 94 p (.newarray .byte) 0)) (tL 92 p (.bipush 64) 0)) (tB 91 p (tL 91 p (.aload_n 0) 0) (tL 88 p (.putfield 56) 14))) (tB 84 p (tB 86 p (tL 86 p (.newarray .int) 0) (tL 84 p (.bipush 64) 0)) (tB 83 p (tL 83 p (.aload_n 0) 0) (tL 80 p (.putfield 53) 13)))) (tB 71 p (tB 77 p (tB 78 p (tL 78 p (.ldc 52) 1) (tL 77 p (.aload_n 0) 0)) (tB 74 p (tL 74 p (.putfield 48) 12) (tL 71 p (.ldc2_w 46) 0))) (tB 67 p (tB 70 p (tL 70 p (.aload_n 0) 0) (tL 67 p (.putfield 43) 11)) (tB 66 p (tL 66 p (.iconst 3) 0) (tL 65 p (.aload_n 0) 0)))))) (tB 29 p (tB 47 p (tB 53 p (tB 59 p (tB 60 p (tB 62 p (tL 62 p (.putfield 40) 10) (tL 60 p (.bipush 64) 0)) (tL 59 p (.aload_n 0) 0)) (tB 56 p (tL 56 p (.putfield 37) 9) (tL 53 p (.sipush 256) 0))) (tB 49 p (tB 52 p (tL 52 p (.aload_n 0) 0) (tL 49 p (.putfield 34) 8)) (tB 48 p (tL 48 p (.iconst 4) 0) (tL 47 p (.aload_n 0) 0)))) (tB 36 p (tB 41 p (tB 42 p (tB 44 p (tL 44 p (.putfield 31) 7) (tL 42 p (.bipush 64) 0)) (tL 41 p (.aload_n 0) 0)) (tB 38 p (tL 38 p (.putfield 28) 6) (tL 36 p (.bipush 16) 0))) (tB 32 p (tB 35 p (tL 35 p (.aload_n 0) 0) (tL 32 p (.putfield 25) 5)) (tB 30 p (tL 30 p (.bipush 64) 0) (tL 29 p (.aload_n 0) 0))))) (tB 14 p (tB 20 p (tB 24 p (tB 25 p (tB 26 p (tL 26 p (.putfield 22) 4) (tL 25 p (.iconst 4) 0)) (tL 24 p (.aload_n 0) 0)) (tB 21 p (tL 21 p (.putfield 19) 3) (tL 20 p (.iconst 3) 0))) (tB 16 p (tB 19 p (tL 19 p (.aload_n 0) 0) (tL 16 p (.putfield 16) 2)) (tB 15 p (tL 15 p (.iconst 2) 0) (tL 14 p (.aload_n 0) 0)))) (tB 6 p (tB 10 p (tB 11 p (tL 11 p (.putfield 13) 1) (tL 10 p (.iconst 1) 0)) (tB 9 p (tL 9 p (.aload_n 0) 0) (tL 6 p (.putfield 7) 0))) (tB 4 p (tB 5 p (tL 5 p (.iconst 0) 0) (tL 4 p (.aload_n 0) 0)) (tB 1 p (tL 1 p (.invokespecial 1) 0) (tL 0 p (.aload_n 0) 0))))))))
set_option maxHeartbeats 4000000 in
def cd2 (p : Nat) : Option (Instr × Nat) := (tB 8 p (tB 13 p (tB 14 p (tB 15 p (tL 15 p .ireturn 0) (tL 14 p (.iload_n 1) 0)) (tL 13 p .ireturn 0)) (tB 9 p (tB 12 p (tL 12 p (.iload_n 3) 0) (tL 9 p (.if_icmp .le 5) 14)) (tL 8 p (.iload_n 3) 0))) (tB 5 p (tB 6 p (tB 7 p (tL 7 p (.iload_n 1) 0) (tL 6 p .ireturn 0)) (tL 5 p (.iload_n 2) 0)) (tB 1 p (tB 2 p (tL 2 p (.if_icmp .ge 5) 7) (tL 1 p (.iload_n 2) 0)) (tL 0 p (.iload_n 1) 0))))
set_option maxHeartbeats 4000000 in
def cd3 (p : Nat) : Option (Instr × Nat) := (tB 30 p (tB 45 p (tB 52 p (tB 56 p (tB 57 p (tB 60 p (tL 60 p .return_ 0) (tL 57 p (.putfield 166) 47)) (tL 56 p (.iconst 0) 0)) (tB 55 p (tL 55 p (.aload_n 0) 0) (tL 52 p (.putfield 163) 46))) (tB 47 p (tB 50 p (tB 51 p (tL 51 p (.iconst 0) 0) (tL 50 p (.aload_n 0) 0)) (tL 47 p (.putfield 160) 45)) (tB 46 p (tL 46 p (.iconst 0) 0) (tL 45 p (.aload_n 0) 0)))) (tB 36 p (tB 40 p (tB 41 p (tB 42 p (tL 42 p (.putfield 157) 44) (tL 41 p (.iconst 0) 0)) (tL 40 p (.aload_n 0) 0)) (tB 37 p (tL 37 p (.putfield 154) 43) (tL 36 p (.iconst 0) 0))) (tB 32 p (tB 35 p (tL 35 p (.aload_n 0) 0) (tL 32 p (.putfield 151) 42)) (tB 31 p (tL 31 p (.iconst 0) 0) (tL 30 p (.aload_n 0) 0))))) (tB 15 p (tB 21 p (tB 25 p (tB 26 p (tB 27 p (tL 27 p (.putfield 148) 41) (tL 26 p (.iconst 0) 0)) (tL 25 p (.aload_n 0) 0)) (tB 22 p (tL 22 p (.putfield 145) 40) (tL 21 p (.iconst 0) 0))) (tB 17 p (tB 20 p (tL 20 p (.aload_n 0) 0) (tL 17 p (.putfield 142) 39)) (tB 16 p (tL 16 p (.iconst 0) 0) (tL 15 p (.aload_n 0) 0)))) (tB 6 p (tB 10 p (tB 11 p (tB 12 p (tL 12 p (.putfield 138) 38) (tL 11 p (.iconst 0) 0)) (tL 10 p (.aload_n 0) 0)) (tB 7 p (tL 7 p (.putfield 135) 37) (tL 6 p (.iconst 0) 0))) (tB 2 p (tB 5 p (tL 5 p (.aload_n 0) 0) (tL 2 p (.putfield 132) 36)) (tB 1 p (tL 1 p (.iconst 0) 0) (tL 0 p (.aload_n 0) 0))))))
set_option maxHeartbeats 4000000 in
def cd4 (p : Nat) : Option (Instr × Nat) := (tB 9 p (tB 16 p (tB 17 p (tB 20 p (tL 20 p .ireturn 0) (tL 17 p (.getfield 142) 39)) (tL 16 p (.aload_n 0) 0)) (tB 12 p (tB 13 p (tL 13 p (.invokevirtual 185) 8) (tL 12 p (.aload_n 0) 0)) (tL 9 p (.invokevirtual 182) 7))) (tB 4 p (tB 5 p (tB 8 p (tL 8 p (.aload_n 0) 0) (tL 5 p (.invokevirtual 179) 6)) (tL 4 p (.aload_n 0) 0)) (tB 1 p (tL 1 p (.invokevirtual 176) 5) (tL 0 p (.aload_n 0) 0))))
set_option maxHeartbeats 4000000 in
def cd5 (p : Nat) : Option (Instr × Nat) := (tB 35 p (tB 49 p (tB 58 p (tB 62 p (tB 63 p (tB 66 p (tL 66 p .return_ 0) (tL 63 p (.putfield 138) 38)) (tL 62 p (.iconst 0) 0)) (tB 61 p (tL 61 p (.aload_n 0) 0) (tL 58 p (.putfield 148) 41))) (tB 53 p (tB 56 p (tB 57 p (tL 57 p (.iconst 1) 0) (tL 56 p (.aload_n 0) 0)) (tL 53 p (.goto (-35)) 18)) (tB 50 p (tL 50 p (.iinc 1 1) 0) (tL 49 p .bastore 0)))) (tB 42 p (tB 44 p (tB 47 p (tB 48 p (tL 48 p .baload 0) (tL 47 p (.iload_n 1) 0)) (tL 44 p (.getfield 60) 15)) (tB 43 p (tL 43 p (.aload_n 0) 0) (tL 42 p (.iload_n 1) 0))) (tB 37 p (tB 38 p (tB 39 p (tL 39 p (.getfield 67) 17) (tL 38 p (.aload_n 0) 0)) (tL 37 p .iastore 0)) (tB 36 p (tL 36 p .iaload 0) (tL 35 p (.iload_n 1) 0))))) (tB 17 p (tB 26 p (tB 30 p (tB 31 p (tB 32 p (tL 32 p (.getfield 56) 14) (tL 31 p (.aload_n 0) 0)) (tL 30 p (.iload_n 1) 0)) (tB 27 p (tL 27 p (.getfield 64) 16) (tL 26 p (.aload_n 0) 0))) (tB 19 p (tB 20 p (tB 23 p (tL 23 p (.if_icmp .ge 33) 56) (tL 20 p (.getfield 132) 36)) (tL 19 p (.aload_n 0) 0)) (tB 18 p (tL 18 p (.iload_n 1) 0) (tL 17 p (.istore_n 1) 0)))) (tB 8 p (tB 10 p (tB 13 p (tB 16 p (tL 16 p (.iconst 0) 0) (tL 13 p (.putfield 145) 40)) (tL 10 p (.getfield 135) 37)) (tB 9 p (tL 9 p (.aload_n 0) 0) (tL 8 p (.aload_n 0) 0))) (tB 2 p (tB 5 p (tL 5 p (.putfield 142) 39) (tL 2 p (.getfield 132) 36)) (tB 1 p (tL 1 p (.aload_n 0) 0) (tL 0 p (.aload_n 0) 0))))))
set_option maxHeartbeats 4000000 in
def cd6 (p : Nat) : Option (Instr × Nat) := (tB 99 p (tB 154 p (tB 178 p (tB 189 p (tB 194 p (tB 200 p (tB 203 p (tB 206 p (tL 206 p .return_ 0) (tL 203 p (.goto (-189)) 14)) (tL 200 p (.iinc 2 1) 0)) (tB 197 p (tL 197 p (.goto (-145)) 52) (tL 194 p (.iinc 5 (-1)) 0))) (tB 191 p (tB 193 p (tL 193 p .iastore 0) (tL 191 p (.iload 5) 0)) (tB 190 p (tL 190 p .iadd 0) (tL 189 p (.iconst 1) 0)))) (tB 183 p (tB 185 p (tB 188 p (tL 188 p (.iload_n 2) 0) (tL 185 p (.getfield 73) 19)) (tB 184 p (tL 184 p (.aload_n 0) 0) (tL 183 p .iastore 0))) (tB 181 p (tB 182 p (tL 182 p .iadd 0) (tL 181 p (.iconst 1) 0)) (tB 180 p (tL 180 p .iaload 0) (tL 178 p (.iload 5) 0))))) (tB 164 p (tB 172 p (tB 174 p (tB 175 p (tL 175 p (.getfield 70) 18) (tL 174 p (.aload_n 0) 0)) (tB 173 p (tL 173 p .iadd 0) (tL 172 p (.iconst 1) 0))) (tB 168 p (tB 171 p (tL 171 p (.iload_n 2) 0) (tL 168 p (.getfield 70) 18)) (tB 167 p (tL 167 p (.aload_n 0) 0) (tL 164 p (.if_icmp .ge 30) 194)))) (tB 160 p (tB 162 p (tB 163 p (tL 163 p .iaload 0) (tL 162 p .iadd 0)) (tB 161 p (tL 161 p (.iconst 1) 0) (tL 160 p (.iload_n 2) 0))) (tB 156 p (tB 157 p (tL 157 p (.getfield 70) 18) (tL 156 p (.aload_n 0) 0)) (tB 155 p (tL 155 p .iadd 0) (tL 154 p (.iconst 1) 0)))))) (tB 126 p (tB 137 p (tB 147 p (tB 151 p (tB 153 p (tL 153 p .iaload 0) (tL 151 p (.iload 5) 0)) (tB 148 p (tL 148 p (.getfield 70) 18) (tL 147 p (.aload_n 0) 0))) (tB 142 p (tB 144 p (tL 144 p (.ifCond .eq 50) 194) (tL 142 p (.iload 9) 0)) (tB 140 p (tL 140 p (.istore 9) 0) (tL 137 p (.invokevirtual 207) 23)))) (tB 132 p (tB 134 p (tB 135 p (tL 135 p (.iload 4) 0) (tL 134 p .iadd 0)) (tB 133 p (tL 133 p (.iconst 1) 0) (tL 132 p .isub 0))) (tB 129 p (tB 130 p (tL 130 p (.iload 5) 0) (tL 129 p (.iload_n 2) 0)) (tB 127 p (tL 127 p (.lload 7) 0) (tL 126 p (.aload_n 0) 0))))) (tB 110 p (tB 116 p (tB 120 p (tB 123 p (tL 123 p (.goto 77) 200) (tL 120 p (.ifCond .le 6) 126)) (tB 119 p (tL 119 p .lcmp 0) (tL 116 p (.ldc2_w 205) 2))) (tB 112 p (tB 114 p (tL 114 p (.lload 7) 0) (tL 112 p (.lstore 7) 0)) (tB 111 p (tL 111 p .ladd 0) (tL 110 p (.lconst 1) 0)))) (tB 105 p (tB 108 p (tB 109 p (tL 109 p .lsub 0) (tL 108 p .i2l 0)) (tB 107 p (tL 107 p .iaload 0) (tL 105 p (.iload 5) 0))) (tB 101 p (tB 102 p (tL 102 p (.getfield 64) 16) (tL 101 p (.aload_n 0) 0)) (tB 100 p (tL 100 p .i2l 0) (tL 99 p .iaload 0))))))) (tB 44 p (tB 72 p (tB 85 p (tB 90 p (tB 94 p (tB 95 p (tB 98 p (tL 98 p (.iload_n 2) 0) (tL 95 p (.getfield 64) 16)) (tL 94 p (.aload_n 0) 0)) (tB 91 p (tL 91 p (.iinc 4 1) 0) (tL 90 p (.istore_n 3) 0))) (tB 88 p (tB 89 p (tL 89 p .ior 0) (tL 88 p .ishl 0)) (tB 86 p (tL 86 p (.iload 6) 0) (tL 85 p (.iconst 1) 0)))) (tB 79 p (tB 81 p (tB 84 p (tL 84 p (.iload_n 3) 0) (tL 81 p (.ifCond .ne 13) 94)) (tB 80 p (tL 80 p .iand 0) (tL 79 p .ishl 0))) (tB 76 p (tB 77 p (tL 77 p (.iload 6) 0) (tL 76 p (.iconst 1) 0)) (tB 75 p (tL 75 p (.iload_n 3) 0) (tL 72 p (.if_icmp .eq 22) 94))))) (tB 57 p (tB 64 p (tB 68 p (tB 69 p (tL 69 p (.getfield 145) 40) (tL 68 p (.aload_n 0) 0)) (tB 66 p (tL 66 p (.iload 6) 0) (tL 64 p (.istore 6) 0))) (tB 61 p (tB 63 p (tL 63 p .baload 0) (tL 61 p (.iload 5) 0)) (tB 58 p (tL 58 p (.getfield 67) 17) (tL 57 p (.aload_n 0) 0)))) (tB 49 p (tB 52 p (tB 54 p (tL 54 p (.ifCond .lt 146) 200) (tL 52 p (.iload 5) 0)) (tB 50 p (tL 50 p (.istore 5) 0) (tL 49 p (.iload_n 2) 0))) (tB 46 p (tB 47 p (tL 47 p (.istore 4) 0) (tL 46 p (.iconst 0) 0)) (tB 45 p (tL 45 p (.istore_n 3) 0) (tL 44 p (.iconst 0) 0)))))) (tB 24 p (tB 34 p (tB 40 p (tB 42 p (tB 43 p (tL 43 p .iastore 0) (tL 42 p (.iload_n 2) 0)) (tB 41 p (tL 41 p .iadd 0) (tL 40 p (.iconst 1) 0))) (tB 36 p (tB 39 p (tL 39 p (.iload_n 2) 0) (tL 36 p (.getfield 73) 19)) (tB 35 p (tL 35 p (.aload_n 0) 0) (tL 34 p .iastore 0)))) (tB 30 p (tB 32 p (tB 33 p (tL 33 p .iadd 0) (tL 32 p (.iconst 1) 0)) (tB 31 p (tL 31 p .iaload 0) (tL 30 p (.iload_n 2) 0))) (tB 26 p (tB 27 p (tL 27 p (.getfield 70) 18) (tL 26 p (.aload_n 0) 0)) (tB 25 p (tL 25 p .iadd 0) (tL 24 p (.iconst 1) 0))))) (tB 12 p (tB 16 p (tB 20 p (tB 23 p (tL 23 p (.iload_n 2) 0) (tL 20 p (.getfield 70) 18)) (tB 19 p (tL 19 p (.aload_n 0) 0) (tL 16 p (.if_icmp .ge 190) 206))) (tB 14 p (tB 15 p (tL 15 p (.iload_n 1) 0) (tL 14 p (.iload_n 2) 0)) (tB 13 p (tL 13 p (.istore_n 2) 0) (tL 12 p (.iconst 0) 0)))) (tB 6 p (tB 10 p (tB 11 p (tL 11 p .iastore 0) (tL 10 p (.iconst 0) 0)) (tB 9 p (tL 9 p (.iconst 0) 0) (tL 6 p (.getfield 70) 18))) (tB 4 p (tB 5 p (tL 5 p (.aload_n 0) 0) (tL 4 p (.istore_n 1) 0)) (tB 1 p (tL 1 p (.getfield 142) 39) (tL 0 p (.aload_n 0) 0))))))))
set_option maxHeartbeats 4000000 in
def cd7 (p : Nat) : Option (Instr × Nat) := (tB 41 p (tB 69 p (tB 77 p (tB 81 p (tB 85 p (tB 88 p (tL 88 p .return_ 0) (tL 85 p (.goto (-63)) 22)) (tB 82 p (tL 82 p (.iinc 4 1) 0) (tL 81 p (.istore_n 3) 0))) (tB 78 p (tB 79 p (tL 79 p (.iload 5) 0) (tL 78 p .iastore 0)) (tL 77 p .isub 0))) (tB 74 p (tB 75 p (tB 76 p (tL 76 p (.iconst 1) 0) (tL 75 p (.iload_n 3) 0)) (tL 74 p (.iload_n 2) 0)) (tB 70 p (tB 71 p (tL 71 p (.getfield 79) 21) (tL 70 p (.aload_n 0) 0)) (tL 69 p .iastore 0)))) (tB 55 p (tB 62 p (tB 66 p (tB 67 p (tL 67 p (.iload 5) 0) (tL 66 p (.iload_n 2) 0)) (tB 63 p (tL 63 p (.getfield 76) 20) (tL 62 p (.aload_n 0) 0))) (tB 56 p (tB 59 p (tL 59 p (.goto 29) 88) (tL 56 p (.if_icmp .lt 6) 62)) (tL 55 p (.iload_n 3) 0))) (tB 48 p (tB 50 p (tB 53 p (tL 53 p (.iload 5) 0) (tL 50 p (.ifCond .lt 38) 88)) (tL 48 p (.iload 5) 0)) (tB 44 p (tB 45 p (tL 45 p (.ifCond .lt 43) 88) (tL 44 p (.iload_n 2) 0)) (tL 41 p (.iinc 2 (-1)) 0))))) (tB 18 p (tB 29 p (tB 34 p (tB 38 p (tB 39 p (tL 39 p (.istore 5) 0) (tL 38 p .iaload 0)) (tB 37 p (tL 37 p (.iload_n 3) 0) (tL 34 p (.getfield 73) 19))) (tB 30 p (tB 33 p (tL 33 p (.aload_n 0) 0) (tL 30 p (.ifCond .le 58) 88)) (tL 29 p (.iload_n 3) 0))) (tB 22 p (tB 24 p (tB 26 p (tL 26 p (.if_icmp .ge 62) 88) (tL 24 p (.bipush 65) 0)) (tL 22 p (.iload 4) 0)) (tB 19 p (tB 20 p (tL 20 p (.istore 4) 0) (tL 19 p (.iconst 0) 0)) (tL 18 p (.istore_n 3) 0)))) (tB 10 p (tB 13 p (tB 14 p (tB 17 p (tL 17 p (.iload_n 1) 0) (tL 14 p (.putfield 151) 42)) (tL 13 p (.iload_n 2) 0)) (tB 11 p (tB 12 p (tL 12 p (.aload_n 0) 0) (tL 11 p (.istore_n 2) 0)) (tL 10 p .iaload 0))) (tB 5 p (tB 6 p (tB 9 p (tL 9 p (.iload_n 1) 0) (tL 6 p (.getfield 70) 18)) (tL 5 p (.aload_n 0) 0)) (tB 1 p (tB 4 p (tL 4 p (.istore_n 1) 0) (tL 1 p (.getfield 142) 39)) (tL 0 p (.aload_n 0) 0))))))
set_option maxHeartbeats 4000000 in
def cd8 (p : Nat) : Option (Instr × Nat) := (tB 104 p (tB 154 p (tB 181 p (tB 193 p (tB 200 p (tB 206 p (tB 209 p (tL 209 p .return_ 0) (tL 206 p (.goto (-147)) 59)) (tB 203 p (tL 203 p (.iinc 1 1) 0) (tL 200 p (.invokevirtual 229) 29))) (tB 196 p (tB 198 p (tL 198 p (.iload 6) 0) (tL 196 p (.iload 5) 0)) (tB 194 p (tL 194 p (.iload 4) 0) (tL 193 p (.aload_n 0) 0)))) (tB 186 p (tB 189 p (tB 190 p (tL 190 p (.invokevirtual 219) 24) (tL 189 p (.iconst 0) 0)) (tB 187 p (tL 187 p (.iload 6) 0) (tL 186 p .isub 0))) (tB 183 p (tB 185 p (tL 185 p (.iconst 1) 0) (tL 183 p (.iload 7) 0)) (tB 182 p (tL 182 p (.iload_n 2) 0) (tL 181 p (.aload_n 0) 0))))) (tB 166 p (tB 174 p (tB 177 p (tB 178 p (tL 178 p (.invokevirtual 219) 24) (tL 177 p (.iconst 1) 0)) (tB 175 p (tL 175 p (.iload 6) 0) (tL 174 p (.iload_n 3) 0))) (tB 171 p (tB 172 p (tL 172 p (.iload 7) 0) (tL 171 p (.aload_n 0) 0)) (tB 169 p (tL 169 p (.istore 6) 0) (tL 166 p (.invokevirtual 215) 9)))) (tB 161 p (tB 164 p (tB 165 p (tL 165 p (.iconst 0) 0) (tL 164 p (.iconst 0) 0)) (tB 163 p (tL 163 p (.iconst 0) 0) (tL 161 p (.iload 8) 0))) (tB 159 p (tB 160 p (tL 160 p (.iconst 1) 0) (tL 159 p (.aload_n 0) 0)) (tB 157 p (tL 157 p (.istore 8) 0) (tL 154 p (.invokevirtual 226) 34)))))) (tB 129 p (tB 144 p (tB 148 p (tB 151 p (tB 152 p (tL 152 p (.iload 7) 0) (tL 151 p (.aload_n 0) 0)) (tB 149 p (tL 149 p (.istore 7) 0) (tL 148 p .iushr 0))) (tB 146 p (tB 147 p (tL 147 p (.iconst 1) 0) (tL 146 p .iadd 0)) (tB 145 p (tL 145 p (.iconst 1) 0) (tL 144 p .iadd 0)))) (tB 137 p (tB 142 p (tB 143 p (tL 143 p (.iload_n 3) 0) (tL 142 p (.iload_n 2) 0)) (tB 139 p (tL 139 p (.goto 54) 193) (tL 137 p (.istore 6) 0))) (tB 133 p (tB 134 p (tL 134 p (.invokevirtual 223) 25) (tL 133 p (.iload_n 2) 0)) (tB 132 p (tL 132 p (.aload_n 0) 0) (tL 129 p (.if_icmp .lt 13) 142))))) (tB 116 p (tB 124 p (tB 127 p (tB 128 p (tL 128 p (.iload_n 3) 0) (tL 127 p (.iload_n 2) 0)) (tB 125 p (tL 125 p (.istore 5) 0) (tL 124 p .iaload 0))) (tB 120 p (tB 121 p (tL 121 p (.getfield 166) 47) (tL 120 p (.aload_n 0) 0)) (tB 117 p (tL 117 p (.getfield 116) 33) (tL 116 p (.aload_n 0) 0)))) (tB 109 p (tB 113 p (tB 114 p (tL 114 p (.istore 4) 0) (tL 113 p .iaload 0)) (tB 110 p (tL 110 p (.getfield 166) 47) (tL 109 p (.aload_n 0) 0))) (tB 105 p (tB 106 p (tL 106 p (.getfield 113) 32) (tL 105 p (.aload_n 0) 0)) (tL 104 p (.istore_n 3) 0)))))) (tB 51 p (tB 76 p (tB 90 p (tB 96 p (tB 100 p (tB 103 p (tL 103 p .iaload 0) (tL 100 p (.getfield 166) 47)) (tB 99 p (tL 99 p (.aload_n 0) 0) (tL 96 p (.getfield 110) 31))) (tB 94 p (tB 95 p (tL 95 p (.aload_n 0) 0) (tL 94 p (.istore_n 2) 0)) (tB 93 p (tL 93 p .iaload 0) (tL 90 p (.getfield 166) 47)))) (tB 82 p (tB 86 p (tB 89 p (tL 89 p (.aload_n 0) 0) (tL 86 p (.getfield 107) 30)) (tB 85 p (tL 85 p (.aload_n 0) 0) (tL 82 p (.putfield 166) 47))) (tB 80 p (tB 81 p (tL 81 p .isub 0) (tL 80 p (.iconst 1) 0)) (tB 77 p (tL 77 p (.getfield 166) 47) (tL 76 p .dup 0))))) (tB 60 p (tB 68 p (tB 72 p (tB 75 p (tL 75 p (.aload_n 0) 0) (tL 72 p (.ifCond .le 137) 209)) (tB 69 p (tL 69 p (.getfield 166) 47) (tL 68 p (.aload_n 0) 0))) (tB 64 p (tB 65 p (tL 65 p (.if_icmp .ge 144) 209) (tL 64 p .arraylength 0)) (tB 61 p (tL 61 p (.getfield 82) 22) (tL 60 p (.aload_n 0) 0)))) (tB 54 p (tB 58 p (tB 59 p (tL 59 p (.iload_n 1) 0) (tL 58 p (.istore_n 1) 0)) (tB 57 p (tL 57 p (.iconst 0) 0) (tL 54 p (.invokevirtual 219) 24))) (tB 52 p (tB 53 p (tL 53 p (.iconst 0) 0) (tL 52 p (.iconst (-1)) 0)) (tL 51 p .isub 0))))) (tB 23 p (tB 37 p (tB 45 p (tB 47 p (tB 50 p (tL 50 p (.iconst 1) 0) (tL 47 p (.getfield 151) 42)) (tB 46 p (tL 46 p (.aload_n 0) 0) (tL 45 p (.iconst 0) 0))) (tB 43 p (tB 44 p (tL 44 p (.aload_n 0) 0) (tL 43 p .return_ 0)) (tB 40 p (tL 40 p (.ifCond .gt 4) 44) (tL 37 p (.getfield 151) 42)))) (tB 29 p (tB 33 p (tB 36 p (tL 36 p (.aload_n 0) 0) (tL 33 p (.putfield 157) 44)) (tB 30 p (tL 30 p (.invokevirtual 215) 9) (tL 29 p (.iconst 0) 0))) (tB 27 p (tB 28 p (tL 28 p (.iconst 0) 0) (tL 27 p (.iconst 0) 0)) (tB 24 p (tL 24 p (.getfield 145) 40) (tL 23 p (.aload_n 0) 0))))) (tB 11 p (tB 17 p (tB 21 p (tB 22 p (tL 22 p (.iconst 0) 0) (tL 21 p (.aload_n 0) 0)) (tB 20 p (tL 20 p (.aload_n 0) 0) (tL 17 p (.putfield 166) 47))) (tB 15 p (tB 16 p (tL 16 p (.iconst 0) 0) (tL 15 p (.aload_n 0) 0)) (tB 12 p (tL 12 p (.putfield 163) 46) (tL 11 p (.iconst 0) 0)))) (tB 5 p (tB 7 p (tB 10 p (tL 10 p (.aload_n 0) 0) (tL 7 p (.putfield 160) 45)) (tB 6 p (tL 6 p (.iconst 0) 0) (tL 5 p (.aload_n 0) 0))) (tB 1 p (tB 2 p (tL 2 p (.putfield 154) 43) (tL 1 p (.iconst 0) 0)) (tL 0 p (.aload_n 0) 0)))))))
set_option maxHeartbeats 4000000 in
def cd9 (p : Nat) : Option (Instr × Nat) := (tB 39 p (tB 57 p (tB 67 p (tB 71 p (tB 74 p (tB 76 p (tL 76 p .ireturn 0) (tL 74 p (.iload 6) 0)) (tL 71 p (.putfield 154) 43)) (tB 69 p (tB 70 p (tL 70 p .iadd 0) (tL 69 p (.iconst 1) 0)) (tL 67 p (.iload 6) 0))) (tB 63 p (tB 65 p (tB 66 p (tL 66 p (.aload_n 0) 0) (tL 65 p .iastore 0)) (tL 63 p (.iload 5) 0)) (tB 58 p (tB 61 p (tL 61 p (.iload 6) 0) (tL 58 p (.getfield 94) 26)) (tL 57 p (.aload_n 0) 0)))) (tB 47 p (tB 52 p (tB 54 p (tB 56 p (tL 56 p .iastore 0) (tL 54 p (.iload 4) 0)) (tL 52 p (.iload 6) 0)) (tB 48 p (tB 49 p (tL 49 p (.getfield 91) 25) (tL 48 p (.aload_n 0) 0)) (tL 47 p .iastore 0))) (tB 41 p (tB 44 p (tB 46 p (tL 46 p (.iload_n 3) 0) (tL 44 p (.iload 6) 0)) (tL 41 p (.getfield 88) 24)) (tB 40 p (tL 40 p (.aload_n 0) 0) (tL 39 p .iastore 0))))) (tB 22 p (tB 30 p (tB 33 p (tB 36 p (tB 38 p (tL 38 p (.iload_n 2) 0) (tL 36 p (.iload 6) 0)) (tL 33 p (.getfield 85) 23)) (tB 31 p (tB 32 p (tL 32 p (.aload_n 0) 0) (tL 31 p .bastore 0)) (tL 30 p .i2b 0))) (tB 24 p (tB 27 p (tB 29 p (tL 29 p (.iload_n 1) 0) (tL 27 p (.iload 6) 0)) (tL 24 p (.getfield 82) 22)) (tB 23 p (tL 23 p (.aload_n 0) 0) (tL 22 p .ireturn 0)))) (tB 11 p (tB 17 p (tB 18 p (tB 21 p (tL 21 p (.iconst 0) 0) (tL 18 p (.if_icmp .lt 5) 23)) (tL 17 p .arraylength 0)) (tB 13 p (tB 14 p (tL 14 p (.getfield 82) 22) (tL 13 p (.aload_n 0) 0)) (tL 11 p (.iload 6) 0))) (tB 4 p (tB 6 p (tB 8 p (tL 8 p (.ifCond .lt 13) 21) (tL 6 p (.iload 6) 0)) (tL 4 p (.istore 6) 0)) (tB 1 p (tL 1 p (.getfield 154) 43) (tL 0 p (.aload_n 0) 0))))))
set_option maxHeartbeats 4000000 in
def cd10 (p : Nat) : Option (Instr × Nat) := (tB 119 p (tB 179 p (tB 209 p (tB 224 p (tB 233 p (tB 235 p (tB 236 p (tL 236 p .ireturn 0) (tL 235 p (.iconst 1) 0)) (tB 234 p (tL 234 p .ireturn 0) (tL 233 p (.iconst 0) 0))) (tB 228 p (tB 230 p (tL 230 p (.if_icmp .eq 5) 235) (tL 228 p (.iload 8) 0)) (tB 226 p (tL 226 p (.iload 7) 0) (tL 224 p (.istore 8) 0)))) (tB 216 p (tB 220 p (tB 221 p (tL 221 p (.invokevirtual 52) 17) (tL 220 p (.iload_n 2) 0)) (tB 219 p (tL 219 p (.aload_n 0) 0) (tL 216 p (.ifCond .eq 19) 235))) (tB 213 p (tB 214 p (tL 214 p (.iload 5) 0) (tL 213 p .ireturn 0)) (tB 212 p (tL 212 p (.iconst 0) 0) (tL 209 p (.if_icmp .le 5) 214))))) (tB 195 p (tB 201 p (tB 206 p (tB 208 p (tL 208 p (.iconst 3) 0) (tL 206 p (.iload 7) 0)) (tB 203 p (tL 203 p (.ifCond .lt 9) 212) (tL 201 p (.iload 7) 0))) (tB 199 p (tB 200 p (tL 200 p .ireturn 0) (tL 199 p (.iconst 0) 0)) (tB 196 p (tL 196 p (.goto 4) 200) (tL 195 p (.iconst 1) 0)))) (tB 186 p (tB 191 p (tB 192 p (tL 192 p (.if_icmp .ne 7) 199) (tL 191 p (.iconst (-1)) 0)) (tB 189 p (tL 189 p (.iload 7) 0) (tL 186 p (.ifCond .ne 15) 201))) (tB 183 p (tB 185 p (tL 185 p (.iload_n 1) 0) (tL 183 p (.istore 7) 0)) (tB 180 p (tL 180 p (.invokevirtual 55) 15) (tL 179 p (.iload_n 2) 0)))))) (tB 150 p (tB 167 p (tB 173 p (tB 177 p (tB 178 p (tL 178 p (.aload_n 0) 0) (tL 177 p .ireturn 0)) (tB 176 p (tL 176 p (.iconst 0) 0) (tL 173 p (.if_icmp .eq 5) 178))) (tB 169 p (tB 172 p (tL 172 p (.iconst (-1)) 0) (tL 169 p (.invokevirtual 49) 14)) (tB 168 p (tL 168 p (.iload_n 3) 0) (tL 167 p (.aload_n 0) 0)))) (tB 157 p (tB 161 p (tB 164 p (tL 164 p (.goto (-105)) 59) (tL 161 p (.iinc 7 1) 0)) (tB 159 p (tL 159 p (.istore 6) 0) (tL 157 p (.iload 8) 0))) (tB 155 p (tB 156 p (tL 156 p .ireturn 0) (tL 155 p (.iconst 0) 0)) (tB 152 p (tL 152 p (.if_icmp .eq 5) 157) (tL 150 p (.iload 9) 0))))) (tB 134 p (tB 141 p (tB 146 p (tB 148 p (tL 148 p (.iload 11) 0) (tL 146 p (.istore 11) 0)) (tB 143 p (tL 143 p (.invokevirtual 55) 15) (tL 141 p (.iload 8) 0))) (tB 137 p (tB 140 p (tL 140 p (.aload_n 0) 0) (tL 137 p (.ifCond .eq 20) 157)) (tB 135 p (tL 135 p (.iload 5) 0) (tL 134 p .ireturn 0)))) (tB 126 p (tB 130 p (tB 133 p (tL 133 p (.iconst 0) 0) (tL 130 p (.if_icmp .eq 5) 135)) (tB 128 p (tL 128 p (.iload 9) 0) (tL 126 p (.iload 10) 0))) (tB 121 p (tB 124 p (tL 124 p (.istore 10) 0) (tL 121 p (.invokevirtual 52) 17)) (tL 119 p (.iload 8) 0)))))) (tB 56 p (tB 89 p (tB 104 p (tB 113 p (tB 117 p (tB 118 p (tL 118 p (.aload_n 0) 0) (tL 117 p .ireturn 0)) (tB 116 p (tL 116 p (.iconst 0) 0) (tL 113 p (.if_icmp .gt 5) 118))) (tB 109 p (tB 111 p (tL 111 p (.iload 6) 0) (tL 109 p (.iload 8) 0)) (tB 106 p (tL 106 p (.ifCond .le 12) 118) (tL 104 p (.iload 7) 0)))) (tB 98 p (tB 102 p (tB 103 p (tL 103 p .ireturn 0) (tL 102 p (.iconst 0) 0)) (tB 99 p (tL 99 p (.if_icmp .le 5) 104) (tL 98 p (.iconst 3) 0))) (tB 93 p (tB 96 p (tL 96 p (.iload 9) 0) (tL 93 p (.ifCond .lt 9) 102)) (tB 91 p (tL 91 p (.iload 9) 0) (tL 89 p (.istore 9) 0))))) (tB 72 p (tB 81 p (tB 84 p (tB 86 p (tL 86 p (.invokevirtual 49) 14) (tL 84 p (.iload 7) 0)) (tB 83 p (tL 83 p (.aload_n 0) 0) (tL 81 p (.istore 8) 0))) (tB 76 p (tB 78 p (tL 78 p (.invokevirtual 46) 21) (tL 76 p (.iload 7) 0)) (tB 75 p (tL 75 p (.aload_n 0) 0) (tL 72 p (.goto 95) 167)))) (tB 63 p (tB 68 p (tB 69 p (tL 69 p (.if_icmp .lt 6) 75) (tL 68 p (.iload_n 3) 0)) (tB 66 p (tL 66 p (.iload 7) 0) (tL 63 p (.if_icmp .ge 104) 167))) (tB 59 p (tB 61 p (tL 61 p (.bipush 8) 0) (tL 59 p (.iload 7) 0)) (tB 57 p (tL 57 p (.istore 7) 0) (tL 56 p (.iconst 0) 0)))))) (tB 28 p (tB 42 p (tB 51 p (tB 53 p (tB 54 p (tL 54 p (.istore 6) 0) (tL 53 p (.iconst 0) 0)) (tB 52 p (tL 52 p .ireturn 0) (tL 51 p (.iconst 0) 0))) (tB 47 p (tB 48 p (tL 48 p (.ifCond .ne 5) 53) (tL 47 p (.iload_n 1) 0)) (tB 44 p (tL 44 p (.ifCond .eq 9) 53) (tL 42 p (.iload 5) 0)))) (tB 35 p (tB 37 p (tB 40 p (tL 40 p (.istore 5) 0) (tL 37 p (.invokevirtual 42) 13)) (tB 36 p (tL 36 p (.aload_n 0) 0) (tL 35 p .ireturn 0))) (tB 31 p (tB 34 p (tL 34 p (.iconst 0) 0) (tL 31 p (.if_icmp .le 5) 36)) (tB 30 p (tL 30 p (.iconst 3) 0) (tL 28 p (.iload 4) 0))))) (tB 12 p (tB 18 p (tB 23 p (tB 25 p (tL 25 p (.ifCond .lt 9) 34) (tL 23 p (.iload 4) 0)) (tB 21 p (tL 21 p (.istore 4) 0) (tL 18 p (.invokevirtual 39) 12))) (tB 16 p (tB 17 p (tL 17 p (.aload_n 0) 0) (tL 16 p .ireturn 0)) (tB 15 p (tL 15 p (.iconst 0) 0) (tL 12 p (.if_icmp .le 5) 17)))) (tB 5 p (tB 9 p (tB 10 p (tL 10 p (.bipush 8) 0) (tL 9 p (.iload_n 3) 0)) (tB 6 p (tL 6 p (.ifCond .lt 9) 15) (tL 5 p (.iload_n 3) 0))) (tB 1 p (tB 4 p (tL 4 p (.istore_n 3) 0) (tL 1 p (.invokevirtual 36) 11)) (tL 0 p (.aload_n 0) 0)))))))
set_option maxHeartbeats 4000000 in
def cd11 (p : Nat) : Option (Instr × Nat) := (tB 1 p (tB 4 p (tL 4 p .ireturn 0) (tL 1 p (.getfield 132) 36)) (tL 0 p (.aload_n 0) 0))
set_option maxHeartbeats 4000000 in
def cd12 (p : Nat) : Option (Instr × Nat) := (tB 1 p (tB 4 p (tL 4 p .ireturn 0) (tL 1 p (.getfield 135) 37)) (tL 0 p (.aload_n 0) 0))
set_option maxHeartbeats 4000000 in
def cd13 (p : Nat) : Option (Instr × Nat) := (tB 11 p (tB 15 p (tB 18 p (tB 19 p (tL 19 p .ireturn 0) (tL 18 p (.iconst 0) 0)) (tL 15 p (.goto 4) 19)) (tB 14 p (tL 14 p (.iconst 1) 0) (tL 11 p (.ifCond .ne 7) 18))) (tB 4 p (tB 7 p (tB 8 p (tL 8 p (.getfield 138) 38) (tL 7 p (.aload_n 0) 0)) (tL 4 p (.ifCond .eq 14) 18)) (tB 1 p (tL 1 p (.getfield 148) 41) (tL 0 p (.aload_n 0) 0))))
set_option maxHeartbeats 4000000 in
def cd14 (p : Nat) : Option (Instr × Nat) := (tB 12 p (tB 15 p (tB 19 p (tB 20 p (tL 20 p .ireturn 0) (tL 19 p .baload 0)) (tB 18 p (tL 18 p (.iload_n 1) 0) (tL 15 p (.getfield 60) 15))) (tB 13 p (tB 14 p (tL 14 p (.aload_n 0) 0) (tL 13 p .ireturn 0)) (tL 12 p (.iconst (-1)) 0))) (tB 5 p (tB 6 p (tB 9 p (tL 9 p (.if_icmp .lt 5) 14) (tL 6 p (.getfield 132) 36)) (tL 5 p (.aload_n 0) 0)) (tB 1 p (tB 4 p (tL 4 p (.iload_n 1) 0) (tL 1 p (.ifCond .lt 11) 12)) (tL 0 p (.iload_n 1) 0))))
set_option maxHeartbeats 4000000 in
def cd15 (p : Nat) : Option (Instr × Nat) := (tB 8 p (tB 10 p (tB 11 p (tB 14 p (tL 14 p .ireturn 0) (tL 11 p (.invokevirtual 188) 16)) (tL 10 p (.iload_n 1) 0)) (tB 9 p (tL 9 p (.aload_n 0) 0) (tL 8 p .ireturn 0))) (tB 4 p (tB 7 p (tL 7 p (.iconst (-1)) 0) (tL 4 p (.ifCond .ne 5) 9)) (tB 1 p (tL 1 p (.getfield 148) 41) (tL 0 p (.aload_n 0) 0))))
set_option maxHeartbeats 4000000 in
def cd16 (p : Nat) : Option (Instr × Nat) := (tB 56 p (tB 82 p (tB 98 p (tB 103 p (tB 109 p (tB 110 p (tB 113 p (tL 113 p .ireturn 0) (tL 110 p (.getfield 145) 40)) (tL 109 p (.aload_n 0) 0)) (tB 106 p (tL 106 p (.goto (-99)) 7) (tL 103 p (.iinc 3 1) 0))) (tB 101 p (tB 102 p (tL 102 p (.istore_n 2) 0) (tL 101 p (.iconst 0) 0)) (tB 100 p (tL 100 p .ireturn 0) (tL 98 p (.iload 5) 0)))) (tB 88 p (tB 93 p (tB 95 p (tL 95 p (.ifCond .lt 6) 101) (tL 93 p (.iload 5) 0)) (tB 91 p (tL 91 p (.istore 5) 0) (tL 88 p (.invokevirtual 246) 30))) (tB 86 p (tB 87 p (tL 87 p (.iload_n 1) 0) (tL 86 p (.iload_n 2) 0)) (tB 85 p (tL 85 p (.aload_n 0) 0) (tL 82 p (.goto 21) 103))))) (tB 70 p (tB 76 p (tB 80 p (tB 81 p (tL 81 p (.istore_n 2) 0) (tL 80 p .iaload 0)) (tB 79 p (tL 79 p (.iload_n 2) 0) (tL 76 p (.getfield 91) 25))) (tB 72 p (tB 75 p (tL 75 p (.aload_n 0) 0) (tL 72 p (.goto 9) 81)) (tB 71 p (tL 71 p .iaload 0) (tL 70 p (.iload_n 2) 0)))) (tB 62 p (tB 66 p (tB 67 p (tL 67 p (.getfield 88) 24) (tL 66 p (.aload_n 0) 0)) (tB 63 p (tL 63 p (.if_icmp .ge 12) 75) (tL 62 p .iaload 0))) (tB 58 p (tB 61 p (tL 61 p (.iload_n 2) 0) (tL 58 p (.getfield 85) 23)) (tB 57 p (tL 57 p (.aload_n 0) 0) (tL 56 p (.iload_n 1) 0)))))) (tB 29 p (tB 43 p (tB 49 p (tB 52 p (tB 53 p (tL 53 p (.if_icmp .ne 32) 85) (tL 52 p (.iconst 1) 0)) (tB 50 p (tL 50 p (.iload 4) 0) (tL 49 p .ireturn 0))) (tB 47 p (tB 48 p (tL 48 p .iaload 0) (tL 47 p (.iload_n 2) 0)) (tB 44 p (tL 44 p (.getfield 85) 23) (tL 43 p (.aload_n 0) 0)))) (tB 35 p (tB 38 p (tB 40 p (tL 40 p (.ifCond .ne 10) 50) (tL 38 p (.iload 4) 0)) (tB 36 p (tL 36 p (.istore 4) 0) (tL 35 p .baload 0))) (tB 31 p (tB 34 p (tL 34 p (.iload_n 2) 0) (tL 31 p (.getfield 82) 22)) (tB 30 p (tL 30 p (.aload_n 0) 0) (tL 29 p .ireturn 0))))) (tB 13 p (tB 19 p (tB 25 p (tB 26 p (tL 26 p (.getfield 145) 40) (tL 25 p (.aload_n 0) 0)) (tB 22 p (tL 22 p (.if_icmp .lt 8) 30) (tL 19 p (.getfield 154) 43))) (tB 17 p (tB 18 p (tL 18 p (.aload_n 0) 0) (tL 17 p (.iload_n 2) 0)) (tB 14 p (tL 14 p (.ifCond .lt 11) 25) (tL 13 p (.iload_n 2) 0)))) (tB 6 p (tB 8 p (tB 10 p (tL 10 p (.if_icmp .ge 99) 109) (tL 8 p (.bipush 64) 0)) (tB 7 p (tL 7 p (.iload_n 3) 0) (tL 6 p (.istore_n 3) 0))) (tB 4 p (tB 5 p (tL 5 p (.iconst 0) 0) (tL 4 p (.istore_n 2) 0)) (tB 1 p (tL 1 p (.getfield 157) 44) (tL 0 p (.aload_n 0) 0)))))))
set_option maxHeartbeats 4000000 in
def cd17 (p : Nat) : Option (Instr × Nat) := (tB 11 p (tB 16 p (tB 20 p (tB 21 p (tL 21 p .ireturn 0) (tL 20 p .baload 0)) (tB 19 p (tL 19 p (.iload_n 2) 0) (tL 16 p (.getfield 60) 15))) (tB 14 p (tB 15 p (tL 15 p (.aload_n 0) 0) (tL 14 p .ireturn 0)) (tL 11 p (.getfield 135) 37))) (tB 5 p (tB 7 p (tB 10 p (tL 10 p (.aload_n 0) 0) (tL 7 p (.ifCond .ge 8) 15)) (tB 6 p (tL 6 p (.iload_n 2) 0) (tL 5 p (.istore_n 2) 0))) (tB 1 p (tB 2 p (tL 2 p (.invokevirtual 173) 18) (tL 1 p (.iload_n 1) 0)) (tL 0 p (.aload_n 0) 0))))
set_option maxHeartbeats 4000000 in
def cd18 (p : Nat) : Option (Instr × Nat) := (tB 15 p (tB 21 p (tB 25 p (tB 26 p (tB 27 p (tL 27 p .ireturn 0) (tL 26 p (.iconst (-1)) 0)) (tL 25 p .ireturn 0)) (tB 24 p (tL 24 p (.iload_n 2) 0) (tL 21 p (.if_icmp .ne 5) 26))) (tB 19 p (tB 20 p (tL 20 p (.iload_n 1) 0) (tL 19 p .iaload 0)) (tB 18 p (tL 18 p (.iload_n 2) 0) (tL 15 p (.getfield 56) 14)))) (tB 6 p (tB 8 p (tB 11 p (tB 14 p (tL 14 p (.aload_n 0) 0) (tL 11 p (.if_icmp .ge 15) 26)) (tL 8 p (.getfield 132) 36)) (tB 7 p (tL 7 p (.aload_n 0) 0) (tL 6 p (.iload_n 2) 0))) (tB 2 p (tB 5 p (tL 5 p (.istore_n 2) 0) (tL 2 p (.invokevirtual 169) 19)) (tB 1 p (tL 1 p (.iload_n 1) 0) (tL 0 p (.aload_n 0) 0)))))
set_option maxHeartbeats 4000000 in
def cd19 (p : Nat) : Option (Instr × Nat) := (tB 27 p (tB 43 p (tB 50 p (tB 54 p (tB 57 p (tB 58 p (tL 58 p .ireturn 0) (tL 57 p (.iload_n 2) 0)) (tL 54 p (.goto (-44)) 10)) (tB 51 p (tL 51 p (.iinc 4 1) 0) (tL 50 p (.istore_n 3) 0))) (tB 45 p (tB 48 p (tL 48 p (.iload 5) 0) (tL 45 p (.goto 6) 51)) (tB 44 p (tL 44 p (.istore_n 2) 0) (tL 43 p .iadd 0)))) (tB 35 p (tB 37 p (tB 40 p (tB 42 p (tL 42 p (.iconst 1) 0) (tL 40 p (.iload 5) 0)) (tL 37 p (.if_icmp .ge 11) 48)) (tB 36 p (tL 36 p (.iload_n 1) 0) (tL 35 p .iaload 0))) (tB 30 p (tB 33 p (tL 33 p (.iload 5) 0) (tL 30 p (.getfield 56) 14)) (tB 29 p (tL 29 p (.aload_n 0) 0) (tL 27 p (.istore 5) 0))))) (tB 14 p (tB 22 p (tB 24 p (tB 25 p (tB 26 p (tL 26 p .iushr 0) (tL 25 p (.iconst 1) 0)) (tL 24 p .iadd 0)) (tB 23 p (tL 23 p (.iload_n 3) 0) (tL 22 p (.iload_n 2) 0))) (tB 18 p (tB 19 p (tL 19 p (.if_icmp .ge 38) 57) (tL 18 p (.iload_n 3) 0)) (tB 17 p (tL 17 p (.iload_n 2) 0) (tL 14 p (.if_icmp .ge 43) 57)))) (tB 6 p (tB 8 p (tB 10 p (tB 12 p (tL 12 p (.bipush 16) 0) (tL 10 p (.iload 4) 0)) (tL 8 p (.istore 4) 0)) (tB 7 p (tL 7 p (.iconst 0) 0) (tL 6 p (.istore_n 3) 0))) (tB 2 p (tB 3 p (tL 3 p (.getfield 132) 36) (tL 2 p (.aload_n 0) 0)) (tB 1 p (tL 1 p (.istore_n 2) 0) (tL 0 p (.iconst 0) 0))))))
set_option maxHeartbeats 4000000 in
def cd20 (p : Nat) : Option (Instr × Nat) := (tB 71 p (tB 104 p (tB 118 p (tB 125 p (tB 130 p (tB 133 p (tB 134 p (tL 134 p .ireturn 0) (tL 133 p (.iconst 0) 0)) (tL 130 p (.putfield 138) 38)) (tB 128 p (tB 129 p (tL 129 p (.iconst 1) 0) (tL 128 p (.aload_n 0) 0)) (tL 125 p (.putfield 132) 36))) (tB 120 p (tB 123 p (tB 124 p (tL 124 p .iadd 0) (tL 123 p (.iconst 1) 0)) (tL 120 p (.getfield 132) 36)) (tB 119 p (tL 119 p .dup 0) (tL 118 p (.aload_n 0) 0)))) (tB 111 p (tB 115 p (tB 116 p (tB 117 p (tL 117 p .bastore 0) (tL 116 p .i2b 0)) (tL 115 p (.iload_n 2) 0)) (tB 114 p (tL 114 p (.iload_n 3) 0) (tL 111 p (.getfield 60) 15))) (tB 108 p (tB 109 p (tB 110 p (tL 110 p (.aload_n 0) 0) (tL 109 p .iastore 0)) (tL 108 p (.iload_n 1) 0)) (tB 107 p (tL 107 p (.iload_n 3) 0) (tL 104 p (.getfield 56) 14))))) (tB 87 p (tB 95 p (tB 97 p (tB 100 p (tB 103 p (tL 103 p (.aload_n 0) 0) (tL 100 p (.goto (-41)) 59)) (tL 97 p (.iinc 4 (-1)) 0)) (tB 96 p (tL 96 p .bastore 0) (tL 95 p .baload 0))) (tB 91 p (tB 93 p (tB 94 p (tL 94 p .isub 0) (tL 93 p (.iconst 1) 0)) (tL 91 p (.iload 4) 0)) (tB 88 p (tL 88 p (.getfield 60) 15) (tL 87 p (.aload_n 0) 0)))) (tB 79 p (tB 81 p (tB 82 p (tB 85 p (tL 85 p (.iload 4) 0) (tL 82 p (.getfield 60) 15)) (tL 81 p (.aload_n 0) 0)) (tB 80 p (tL 80 p .iastore 0) (tL 79 p .iaload 0))) (tB 75 p (tB 77 p (tB 78 p (tL 78 p .isub 0) (tL 77 p (.iconst 1) 0)) (tL 75 p (.iload 4) 0)) (tB 72 p (tL 72 p (.getfield 56) 14) (tL 71 p (.aload_n 0) 0)))))) (tB 34 p (tB 52 p (tB 61 p (tB 65 p (tB 66 p (tB 69 p (tL 69 p (.iload 4) 0) (tL 66 p (.getfield 56) 14)) (tL 65 p (.aload_n 0) 0)) (tB 62 p (tL 62 p (.if_icmp .le 41) 103) (tL 61 p (.iload_n 3) 0))) (tB 54 p (tB 57 p (tB 59 p (tL 59 p (.iload 4) 0) (tL 57 p (.istore 4) 0)) (tL 54 p (.getfield 132) 36)) (tB 53 p (tL 53 p (.aload_n 0) 0) (tL 52 p .ireturn 0)))) (tB 41 p (tB 45 p (tB 48 p (tB 51 p (tL 51 p (.iconst 1) 0) (tL 48 p (.if_icmp .lt 5) 53)) (tL 45 p (.getfield 123) 34)) (tB 44 p (tL 44 p (.aload_n 0) 0) (tL 41 p (.getfield 132) 36))) (tB 38 p (tB 39 p (tB 40 p (tL 40 p (.aload_n 0) 0) (tL 39 p .ireturn 0)) (tL 38 p (.iconst 2) 0)) (tB 35 p (tL 35 p (.if_icmp .ne 5) 40) (tL 34 p (.iload_n 1) 0))))) (tB 16 p (tB 25 p (tB 29 p (tB 32 p (tB 33 p (tL 33 p .iaload 0) (tL 32 p (.iload_n 3) 0)) (tL 29 p (.getfield 56) 14)) (tB 28 p (tL 28 p (.aload_n 0) 0) (tL 25 p (.if_icmp .ge 15) 40))) (tB 20 p (tB 21 p (tB 22 p (tL 22 p (.getfield 132) 36) (tL 21 p (.aload_n 0) 0)) (tL 20 p (.iload_n 3) 0)) (tB 19 p (tL 19 p (.istore_n 3) 0) (tL 16 p (.invokevirtual 169) 19)))) (tB 9 p (tB 13 p (tB 14 p (tB 15 p (tL 15 p (.iload_n 1) 0) (tL 14 p (.aload_n 0) 0)) (tL 13 p .ireturn 0)) (tB 12 p (tL 12 p (.iconst 3) 0) (tL 9 p (.if_icmp .lt 5) 14))) (tB 4 p (tB 5 p (tB 6 p (tL 6 p (.getfield 126) 35) (tL 5 p (.aload_n 0) 0)) (tL 4 p (.iload_n 2) 0)) (tB 1 p (tL 1 p (.ifCond .lt 11) 12) (tL 0 p (.iload_n 2) 0)))))))
set_option maxHeartbeats 4000000 in
def cd21 (p : Nat) : Option (Instr × Nat) := (tB 12 p (tB 15 p (tB 19 p (tB 20 p (tL 20 p .ireturn 0) (tL 19 p .iaload 0)) (tB 18 p (tL 18 p (.iload_n 1) 0) (tL 15 p (.getfield 56) 14))) (tB 13 p (tB 14 p (tL 14 p (.aload_n 0) 0) (tL 13 p .ireturn 0)) (tL 12 p (.iconst 0) 0))) (tB 5 p (tB 6 p (tB 9 p (tL 9 p (.if_icmp .lt 5) 14) (tL 6 p (.getfield 132) 36)) (tL 5 p (.aload_n 0) 0)) (tB 1 p (tB 4 p (tL 4 p (.iload_n 1) 0) (tL 1 p (.ifCond .lt 11) 12)) (tL 0 p (.iload_n 1) 0))))
set_option maxHeartbeats 4000000 in
def cd22 (p : Nat) : Option (Instr × Nat) := (tB 14 p (tB 20 p (tB 24 p (tB 25 p (tL 25 p .ireturn 0) (tL 24 p (.iconst 0) 0)) (tB 21 p (tL 21 p (.putfield 138) 38) (tL 20 p (.iconst 1) 0))) (tB 16 p (tB 19 p (tL 19 p (.aload_n 0) 0) (tL 16 p (.putfield 135) 37)) (tB 15 p (tL 15 p (.iload_n 1) 0) (tL 14 p (.aload_n 0) 0)))) (tB 6 p (tB 12 p (tB 13 p (tL 13 p .ireturn 0) (tL 12 p (.iconst 3) 0)) (tB 9 p (tL 9 p (.if_icmp .lt 5) 14) (tL 6 p (.getfield 126) 35))) (tB 4 p (tB 5 p (tL 5 p (.aload_n 0) 0) (tL 4 p (.iload_n 1) 0)) (tB 1 p (tL 1 p (.ifCond .lt 11) 12) (tL 0 p (.iload_n 1) 0)))))
set_option maxHeartbeats 4000000 in
def cd23 (p : Nat) : Option (Instr × Nat) := (tB 29 p (tB 44 p (tB 53 p (tB 57 p (tB 60 p (tB 61 p (tL 61 p .ireturn 0) (tL 60 p (.iconst 0) 0)) (tL 57 p (.goto 4) 61)) (tB 56 p (tL 56 p (.iconst 1) 0) (tL 53 p (.ifCond .eq 7) 60))) (tB 48 p (tB 51 p (tL 51 p (.iload 6) 0) (tL 48 p (.ifCond .ne 8) 56)) (tB 46 p (tL 46 p (.iload 5) 0) (tL 44 p (.istore 6) 0)))) (tB 35 p (tB 39 p (tB 40 p (tB 43 p (tL 43 p (.iconst 0) 0) (tL 40 p (.goto 4) 44)) (tL 39 p (.iconst 1) 0)) (tB 36 p (tL 36 p (.ifCond .gt 7) 43) (tL 35 p .lcmp 0))) (tB 33 p (tB 34 p (tL 34 p .lmul 0) (tL 33 p .i2l 0)) (tB 32 p (tL 32 p (.iload_n 3) 0) (tL 29 p (.ldc2_w 213) 4))))) (tB 12 p (tB 21 p (tB 25 p (tB 26 p (tB 28 p (tL 28 p (.lload_n 1) 0) (tL 26 p (.istore 5) 0)) (tL 25 p (.iconst 0) 0)) (tB 22 p (tL 22 p (.goto 4) 26) (tL 21 p (.iconst 1) 0))) (tB 17 p (tB 18 p (tL 18 p (.if_icmp .gt 7) 25) (tL 17 p (.iconst 3) 0)) (tB 15 p (tL 15 p (.iload 4) 0) (tL 12 p (.ifCond .gt 13) 25)))) (tB 6 p (tB 8 p (tB 11 p (tL 11 p .lcmp 0) (tL 8 p (.ldc2_w 211) 3)) (tB 7 p (tL 7 p (.lload_n 1) 0) (tL 6 p .ireturn 0))) (tB 2 p (tB 5 p (tL 5 p (.iconst 0) 0) (tL 2 p (.if_icmp .ge 5) 7)) (tB 1 p (tL 1 p (.iconst 2) 0) (tL 0 p (.iload_n 3) 0))))))
set_option maxHeartbeats 4000000 in
def cd24 (p : Nat) : Option (Instr × Nat) := (tB 38 p (tB 54 p (tB 62 p (tB 67 p (tB 68 p (tB 71 p (tL 71 p .return_ 0) (tL 68 p (.putfield 166) 47)) (tL 67 p .iadd 0)) (tB 63 p (tB 66 p (tL 66 p (.iconst 1) 0) (tL 63 p (.getfield 166) 47)) (tL 62 p .dup 0))) (tB 58 p (tB 60 p (tB 61 p (tL 61 p (.aload_n 0) 0) (tL 60 p .iastore 0)) (tL 58 p (.iload 4) 0)) (tB 55 p (tL 55 p (.getfield 166) 47) (tL 54 p (.aload_n 0) 0)))) (tB 45 p (tB 49 p (tB 50 p (tB 51 p (tL 51 p (.getfield 116) 33) (tL 50 p (.aload_n 0) 0)) (tL 49 p .iastore 0)) (tB 48 p (tL 48 p (.iload_n 3) 0) (tL 45 p (.getfield 166) 47))) (tB 40 p (tB 41 p (tB 44 p (tL 44 p (.aload_n 0) 0) (tL 41 p (.getfield 113) 32)) (tL 40 p (.aload_n 0) 0)) (tB 39 p (tL 39 p .iastore 0) (tL 38 p (.iload_n 2) 0))))) (tB 20 p (tB 29 p (tB 31 p (tB 34 p (tB 35 p (tL 35 p (.getfield 166) 47) (tL 34 p (.aload_n 0) 0)) (tL 31 p (.getfield 110) 31)) (tB 30 p (tL 30 p (.aload_n 0) 0) (tL 29 p .iastore 0))) (tB 24 p (tB 25 p (tB 28 p (tL 28 p (.iload_n 1) 0) (tL 25 p (.getfield 166) 47)) (tL 24 p (.aload_n 0) 0)) (tB 21 p (tL 21 p (.getfield 107) 30) (tL 20 p (.aload_n 0) 0)))) (tB 11 p (tB 15 p (tB 16 p (tB 19 p (tL 19 p .return_ 0) (tL 16 p (.if_icmp .lt 4) 20)) (tL 15 p .arraylength 0)) (tB 12 p (tL 12 p (.getfield 107) 30) (tL 11 p (.aload_n 0) 0))) (tB 4 p (tB 7 p (tB 8 p (tL 8 p (.getfield 166) 47) (tL 7 p (.aload_n 0) 0)) (tL 4 p (.ifCond .lt 15) 19)) (tB 1 p (tL 1 p (.getfield 166) 47) (tL 0 p (.aload_n 0) 0))))))
set_option maxHeartbeats 4000000 in
def cd25 (p : Nat) : Option (Instr × Nat) := (tB 66 p (tB 94 p (tB 116 p (tB 124 p (tB 127 p (tB 129 p (tB 133 p (tL 133 p .ireturn 0) (tL 129 p .l2i 0)) (tL 127 p (.lload 4) 0)) (tB 125 p (tB 126 p (tL 126 p (.iload_n 3) 0) (tL 125 p (.iload_n 2) 0)) (tL 124 p (.aload_n 0) 0))) (tB 119 p (tB 120 p (tB 123 p (tL 123 p .ireturn 0) (tL 120 p (.invokevirtual 237) 27)) (tL 119 p .l2i 0)) (tB 117 p (tL 117 p (.lload 4) 0) (tL 116 p (.iload_n 3) 0)))) (tB 105 p (tB 111 p (tB 114 p (tB 115 p (tL 115 p (.iload_n 2) 0) (tL 114 p (.aload_n 0) 0)) (tL 111 p (.if_icmp .gt 13) 124)) (tB 108 p (tB 110 p (tL 110 p (.iconst 3) 0) (tL 108 p (.iload 6) 0)) (tL 105 p (.ifCond .gt 19) 124))) (tB 99 p (tB 101 p (tB 104 p (tL 104 p .lcmp 0) (tL 101 p (.ldc2_w 211) 3)) (tL 99 p (.lload 4) 0)) (tB 97 p (tL 97 p (.istore 6) 0) (tL 94 p (.invokevirtual 233) 26))))) (tB 80 p (tB 87 p (tB 91 p (tB 92 p (tB 93 p (tL 93 p (.iload_n 3) 0) (tL 92 p (.iload_n 2) 0)) (tL 91 p (.aload_n 0) 0)) (tB 88 p (tB 89 p (tL 89 p (.lstore 4) 0) (tL 88 p .ladd 0)) (tL 87 p (.lconst 1) 0))) (tB 84 p (tB 85 p (tB 86 p (tL 86 p .lsub 0) (tL 85 p .i2l 0)) (tL 84 p .iaload 0)) (tB 83 p (tL 83 p (.iload_n 2) 0) (tL 80 p (.getfield 64) 16)))) (tB 73 p (tB 77 p (tB 78 p (tB 79 p (tL 79 p (.aload_n 0) 0) (tL 78 p .i2l 0)) (tL 77 p .iaload 0)) (tB 76 p (tL 76 p (.iload_n 3) 0) (tL 73 p (.getfield 64) 16))) (tB 68 p (tB 71 p (tB 72 p (tL 72 p (.aload_n 0) 0) (tL 71 p .ireturn 0)) (tL 68 p (.invokevirtual 215) 9)) (tB 67 p (tL 67 p (.iconst 0) 0) (tL 66 p (.iconst 0) 0)))))) (tB 33 p (tB 49 p (tB 58 p (tB 61 p (tB 64 p (tB 65 p (tL 65 p .baload 0) (tL 64 p (.iload_n 2) 0)) (tL 61 p (.getfield 67) 17)) (tB 59 p (tB 60 p (tL 60 p (.aload_n 0) 0) (tL 59 p .iaload 0)) (tL 58 p (.iload_n 2) 0))) (tB 53 p (tB 54 p (tB 55 p (tL 55 p (.getfield 64) 16) (tL 54 p (.aload_n 0) 0)) (tL 53 p (.iconst 2) 0)) (tB 52 p (tL 52 p (.aload_n 0) 0) (tL 49 p (.if_icmp .ne 23) 72)))) (tB 42 p (tB 46 p (tB 47 p (tB 48 p (tL 48 p (.iload_n 3) 0) (tL 47 p (.iload_n 2) 0)) (tL 46 p .ireturn 0)) (tB 45 p (tL 45 p (.iconst 0) 0) (tL 42 p (.if_icmp .le 5) 47))) (tB 37 p (tB 40 p (tB 41 p (tL 41 p (.iload_n 3) 0) (tL 40 p (.iload_n 2) 0)) (tL 37 p (.if_icmp .ge 8) 45)) (tB 34 p (tL 34 p (.getfield 142) 39) (tL 33 p (.aload_n 0) 0))))) (tB 18 p (tB 25 p (tB 28 p (tB 29 p (tB 32 p (tL 32 p (.iload_n 3) 0) (tL 29 p (.ifCond .lt 16) 45)) (tL 28 p (.iload_n 2) 0)) (tB 26 p (tB 27 p (tL 27 p (.istore_n 3) 0) (tL 26 p .iaload 0)) (tL 25 p (.iload_n 1) 0))) (tB 20 p (tB 21 p (tB 22 p (tL 22 p (.getfield 79) 21) (tL 21 p (.aload_n 0) 0)) (tL 20 p (.istore_n 2) 0)) (tB 19 p (tL 19 p .iaload 0) (tL 18 p (.iload_n 1) 0)))) (tB 9 p (tB 13 p (tB 14 p (tB 15 p (tL 15 p (.getfield 76) 20) (tL 14 p (.aload_n 0) 0)) (tL 13 p .ireturn 0)) (tB 12 p (tL 12 p (.iconst 0) 0) (tL 9 p (.if_icmp .lt 5) 14))) (tB 4 p (tB 5 p (tB 6 p (tL 6 p (.getfield 151) 42) (tL 5 p (.aload_n 0) 0)) (tL 4 p (.iload_n 1) 0)) (tB 1 p (tL 1 p (.ifCond .lt 11) 12) (tL 0 p (.iload_n 1) 0)))))))
set_option maxHeartbeats 4000000 in
def cd26 (p : Nat) : Option (Instr × Nat) := (tB 34 p (tB 51 p (tB 57 p (tB 63 p (tB 66 p (tB 68 p (tL 68 p .ireturn 0) (tL 66 p (.iload 4) 0)) (tL 63 p (.goto (-55)) 8)) (tB 60 p (tL 60 p (.iinc 5 1) 0) (tL 57 p (.iinc 4 1) 0))) (tB 54 p (tB 55 p (tB 56 p (tL 56 p (.istore_n 3) 0) (tL 55 p .ior 0)) (tL 54 p .ishl 0)) (tB 52 p (tL 52 p (.iload 6) 0) (tL 51 p (.iconst 1) 0)))) (tB 43 p (tB 46 p (tB 47 p (tB 50 p (tL 50 p (.iload_n 3) 0) (tL 47 p (.ifCond .ne 13) 60)) (tL 46 p .iand 0)) (tB 45 p (tL 45 p .ishl 0) (tL 43 p (.iload 6) 0))) (tB 38 p (tB 41 p (tB 42 p (tL 42 p (.iconst 1) 0) (tL 41 p (.iload_n 3) 0)) (tL 38 p (.if_icmp .eq 22) 60)) (tB 35 p (tL 35 p (.getfield 145) 40) (tL 34 p (.aload_n 0) 0))))) (tB 14 p (tB 24 p (tB 29 p (tB 30 p (tB 32 p (tL 32 p (.iload 6) 0) (tL 30 p (.istore 6) 0)) (tL 29 p .baload 0)) (tB 27 p (tL 27 p (.iload 5) 0) (tL 24 p (.getfield 67) 17))) (tB 17 p (tB 20 p (tB 23 p (tL 23 p (.aload_n 0) 0) (tL 20 p (.if_icmp .ge 46) 66)) (tL 17 p (.getfield 142) 39)) (tB 16 p (tL 16 p (.aload_n 0) 0) (tL 14 p (.iload 5) 0)))) (tB 5 p (tB 8 p (tB 10 p (tB 11 p (tL 11 p (.if_icmp .gt 55) 66) (tL 10 p (.iload_n 2) 0)) (tL 8 p (.iload 5) 0)) (tB 6 p (tL 6 p (.istore 5) 0) (tL 5 p (.iload_n 1) 0))) (tB 2 p (tB 3 p (tL 3 p (.istore 4) 0) (tL 2 p (.iconst 0) 0)) (tB 1 p (tL 1 p (.istore_n 3) 0) (tL 0 p (.iconst 0) 0))))))
set_option maxHeartbeats 4000000 in
def cd27 (p : Nat) : Option (Instr × Nat) := (tB 94 p (tB 137 p (tB 157 p (tB 167 p (tB 172 p (tB 175 p (tB 178 p (tL 178 p .ireturn 0) (tL 175 p (.invokevirtual 215) 9)) (tB 174 p (tL 174 p (.iload_n 3) 0) (tL 172 p (.iload 6) 0))) (tB 168 p (tB 170 p (tL 170 p (.iload 5) 0) (tL 168 p (.iload 4) 0)) (tL 167 p (.iconst 4) 0))) (tB 162 p (tB 163 p (tB 166 p (tL 166 p (.aload_n 0) 0) (tL 163 p (.putfield 163) 46)) (tL 162 p .iadd 0)) (tB 158 p (tB 160 p (tL 160 p (.iload 6) 0) (tL 158 p (.iload 5) 0)) (tL 157 p (.aload_n 0) 0)))) (tB 146 p (tB 150 p (tB 151 p (tB 154 p (tL 154 p (.goto (-134)) 20) (tL 151 p (.iinc 7 1) 0)) (tL 150 p .lastore 0)) (tB 148 p (tB 149 p (tL 149 p .lor 0) (tL 148 p .lshl 0)) (tL 146 p (.iload 10) 0))) (tB 143 p (tB 144 p (tB 145 p (tL 145 p (.lconst 1) 0) (tL 144 p .laload 0)) (tL 143 p .dup2 0)) (tB 138 p (tB 141 p (tL 141 p (.iload 9) 0) (tL 138 p (.getfield 100) 28)) (tL 137 p (.aload_n 0) 0))))) (tB 115 p (tB 126 p (tB 132 p (tB 134 p (tB 135 p (tL 135 p (.istore 10) 0) (tL 134 p .isub 0)) (tL 132 p (.iload 4) 0)) (tB 129 p (tB 131 p (tL 131 p .iaload 0) (tL 129 p (.iload 7) 0)) (tL 126 p (.getfield 64) 16))) (tB 120 p (tB 122 p (tB 125 p (tL 125 p (.aload_n 0) 0) (tL 122 p (.ifCond .lt 29) 151)) (tL 120 p (.iload 9) 0)) (tB 116 p (tB 117 p (tL 117 p (.iinc 6 1) 0) (tL 116 p .lastore 0)) (tL 115 p (.lconst 0) 0)))) (tB 105 p (tB 109 p (tB 110 p (tB 113 p (tL 113 p (.iload 9) 0) (tL 110 p (.getfield 100) 28)) (tL 109 p (.aload_n 0) 0)) (tB 107 p (tB 108 p (tL 108 p .bastore 0) (tL 107 p .i2b 0)) (tL 105 p (.iload 8) 0))) (tB 99 p (tB 100 p (tB 103 p (tL 103 p (.iload 9) 0) (tL 100 p (.getfield 104) 29)) (tL 99 p (.aload_n 0) 0)) (tB 96 p (tB 97 p (tL 97 p (.istore 9) 0) (tL 96 p .iadd 0)) (tL 94 p (.iload 6) 0)))))) (tB 44 p (tB 70 p (tB 83 p (tB 88 p (tB 89 p (tB 92 p (tL 92 p (.iload 5) 0) (tL 89 p (.if_icmp .ge 31) 120)) (tL 88 p .arraylength 0)) (tB 84 p (tB 85 p (tL 85 p (.getfield 100) 28) (tL 84 p (.aload_n 0) 0)) (tL 83 p .iadd 0))) (tB 76 p (tB 79 p (tB 81 p (tL 81 p (.iload 6) 0) (tL 79 p (.iload 5) 0)) (tL 76 p (.if_icmp .ge 44) 120)) (tB 73 p (tB 75 p (tL 75 p (.iconst 3) 0) (tL 73 p (.iload 6) 0)) (tL 70 p (.ifCond .ge 50) 120)))) (tB 57 p (tB 63 p (tB 66 p (tB 68 p (tL 68 p (.iload 9) 0) (tL 66 p (.istore 9) 0)) (tL 63 p (.invokevirtual 243) 28)) (tB 59 p (tB 61 p (tL 61 p (.iload 8) 0) (tL 59 p (.iload 6) 0)) (tL 57 p (.iload 5) 0))) (tB 50 p (tB 53 p (tB 56 p (tL 56 p (.aload_n 0) 0) (tL 53 p (.goto 98) 151)) (tL 50 p (.if_icmp .ne 6) 56)) (tB 46 p (tB 47 p (tL 47 p (.getfield 145) 40) (tL 46 p (.aload_n 0) 0)) (tL 44 p (.iload 8) 0))))) (tB 20 p (tB 32 p (tB 39 p (tB 41 p (tB 42 p (tL 42 p (.istore 8) 0) (tL 41 p .baload 0)) (tL 39 p (.iload 7) 0)) (tB 35 p (tB 36 p (tL 36 p (.getfield 67) 17) (tL 35 p (.aload_n 0) 0)) (tL 32 p (.if_icmp .ge 125) 157))) (tB 26 p (tB 28 p (tB 29 p (tL 29 p (.getfield 142) 39) (tL 28 p (.aload_n 0) 0)) (tL 26 p (.iload 7) 0)) (tB 22 p (tB 23 p (tL 23 p (.if_icmp .gt 134) 157) (tL 22 p (.iload_n 2) 0)) (tL 20 p (.iload 7) 0)))) (tB 9 p (tB 15 p (tB 17 p (tB 18 p (tL 18 p (.istore 7) 0) (tL 17 p (.iload_n 1) 0)) (tL 15 p (.istore 6) 0)) (tB 12 p (tB 14 p (tL 14 p (.iconst 0) 0) (tL 12 p (.istore 5) 0)) (tL 9 p (.getfield 163) 46))) (tB 5 p (tB 6 p (tB 8 p (tL 8 p (.aload_n 0) 0) (tL 6 p (.istore 4) 0)) (tL 5 p .iaload 0)) (tB 1 p (tB 4 p (tL 4 p (.iload_n 1) 0) (tL 1 p (.getfield 64) 16)) (tL 0 p (.aload_n 0) 0)))))))
set_option maxHeartbeats 4000000 in
def cd28 (p : Nat) : Option (Instr × Nat) := (tB 26 p (tB 38 p (tB 44 p (tB 50 p (tB 51 p (tL 51 p .ireturn 0) (tL 50 p (.iconst (-1)) 0)) (tB 47 p (tL 47 p (.goto (-44)) 3) (tL 44 p (.iinc 4 1) 0))) (tB 41 p (tB 43 p (tL 43 p .ireturn 0) (tL 41 p (.iload 5) 0)) (tL 38 p (.if_icmp .ne 6) 44))) (tB 31 p (tB 36 p (tB 37 p (tL 37 p (.iload_n 3) 0) (tL 36 p .baload 0)) (tB 34 p (tL 34 p (.iload 5) 0) (tL 31 p (.getfield 104) 29))) (tB 27 p (tB 30 p (tL 30 p (.aload_n 0) 0) (tL 27 p (.if_icmp .ge 17) 44)) (tL 26 p .arraylength 0)))) (tB 12 p (tB 17 p (tB 22 p (tB 23 p (tL 23 p (.getfield 104) 29) (tL 22 p (.aload_n 0) 0)) (tB 20 p (tL 20 p (.iload 5) 0) (tL 17 p (.ifCond .lt 27) 44))) (tB 13 p (tB 15 p (tL 15 p (.iload 5) 0) (tL 13 p (.istore 5) 0)) (tL 12 p .iadd 0))) (tB 5 p (tB 9 p (tB 10 p (tL 10 p (.iload 4) 0) (tL 9 p (.iload_n 1) 0)) (tB 6 p (tL 6 p (.if_icmp .ge 44) 50) (tL 5 p (.iload_n 2) 0))) (tB 1 p (tB 3 p (tL 3 p (.iload 4) 0) (tL 1 p (.istore 4) 0)) (tL 0 p (.iconst 0) 0)))))
set_option maxHeartbeats 4000000 in
def cd29 (p : Nat) : Option (Instr × Nat) := (tB 22 p (tB 32 p (tB 37 p (tB 38 p (tB 39 p (tL 39 p .return_ 0) (tL 38 p .iastore 0)) (tL 37 p (.iload_n 3) 0)) (tB 33 p (tB 36 p (tL 36 p (.iload_n 1) 0) (tL 33 p (.getfield 91) 25)) (tL 32 p (.aload_n 0) 0))) (tB 27 p (tB 28 p (tB 29 p (tL 29 p (.goto 10) 39) (tL 28 p .iastore 0)) (tL 27 p (.iload_n 3) 0)) (tB 23 p (tB 26 p (tL 26 p (.iload_n 1) 0) (tL 23 p (.getfield 88) 24)) (tL 22 p (.aload_n 0) 0)))) (tB 12 p (tB 17 p (tB 18 p (tB 19 p (tL 19 p (.ifCond .ne 13) 32) (tL 18 p (.iload_n 2) 0)) (tL 17 p .return_ 0)) (tB 13 p (tB 14 p (tL 14 p (.putfield 157) 44) (tL 13 p (.iload_n 3) 0)) (tL 12 p (.aload_n 0) 0))) (tB 5 p (tB 6 p (tB 9 p (tL 9 p (.if_icmp .lt 9) 18) (tL 6 p (.getfield 154) 43)) (tL 5 p (.aload_n 0) 0)) (tB 1 p (tB 4 p (tL 4 p (.iload_n 1) 0) (tL 1 p (.ifCond .lt 11) 12)) (tL 0 p (.iload_n 1) 0)))))
set_option maxHeartbeats 4000000 in
def cd30 (p : Nat) : Option (Instr × Nat) := (tB 29 p (tB 43 p (tB 50 p (tB 54 p (tB 55 p (tB 56 p (tL 56 p .ireturn 0) (tL 55 p (.iconst (-1)) 0)) (tL 54 p .ireturn 0)) (tB 51 p (tL 51 p (.invokevirtual 252) 31) (tL 50 p (.iload_n 2) 0))) (tB 45 p (tB 48 p (tB 49 p (tL 49 p (.iload_n 1) 0) (tL 48 p (.aload_n 0) 0)) (tL 45 p (.if_icmp .ne 10) 55)) (tB 44 p (tL 44 p (.iconst 4) 0) (tL 43 p (.iload_n 3) 0)))) (tB 33 p (tB 37 p (tB 38 p (tB 42 p (tL 42 p .ireturn 0) (tL 38 p (.iload_n 2) 0)) (tL 37 p (.iload_n 1) 0)) (tB 36 p (tL 36 p (.aload_n 0) 0) (tL 33 p (.if_icmp .ne 10) 43))) (tB 31 p (tB 32 p (tL 32 p (.iconst 3) 0) (tL 31 p (.iload_n 3) 0)) (tB 30 p (tL 30 p .ireturn 0) (tL 29 p (.iconst (-1)) 0))))) (tB 13 p (tB 22 p (tB 26 p (tB 27 p (tB 28 p (tL 28 p .ireturn 0) (tL 27 p .iaload 0)) (tL 26 p (.iload_n 1) 0)) (tB 23 p (tL 23 p (.getfield 88) 24) (tL 22 p (.aload_n 0) 0))) (tB 17 p (tB 18 p (tB 19 p (tL 19 p (.if_icmp .ne 10) 29) (tL 18 p .iaload 0)) (tL 17 p (.iload_n 1) 0)) (tB 14 p (tL 14 p (.getfield 85) 23) (tL 13 p (.aload_n 0) 0)))) (tB 6 p (tB 8 p (tB 9 p (tB 12 p (tL 12 p (.iload_n 2) 0) (tL 9 p (.if_icmp .ne 22) 31)) (tL 8 p (.iconst 2) 0)) (tB 7 p (tL 7 p (.iload_n 3) 0) (tL 6 p (.istore_n 3) 0))) (tB 4 p (tB 5 p (tL 5 p .baload 0) (tL 4 p (.iload_n 1) 0)) (tB 1 p (tL 1 p (.getfield 82) 22) (tL 0 p (.aload_n 0) 0))))))
set_option maxHeartbeats 4000000 in
def cd31 (p : Nat) : Option (Instr × Nat) := (tB 59 p (tB 95 p (tB 108 p (tB 118 p (tB 122 p (tB 125 p (tB 126 p (tL 126 p .ireturn 0) (tL 125 p (.iconst (-1)) 0)) (tL 122 p (.goto (-65)) 57)) (tB 119 p (tL 119 p (.iinc 8 1) 0) (tL 118 p .ireturn 0))) (tB 112 p (tB 115 p (tB 117 p (tL 117 p .baload 0) (tL 115 p (.iload 9) 0)) (tL 112 p (.getfield 104) 29)) (tB 111 p (tL 111 p (.aload_n 0) 0) (tL 108 p (.ifCond .eq 11) 119)))) (tB 103 p (tB 105 p (tB 106 p (tB 107 p (tL 107 p .lcmp 0) (tL 106 p (.lconst 0) 0)) (tL 105 p .land 0)) (tB 104 p (tL 104 p (.lconst 1) 0) (tL 103 p .lushr 0))) (tB 100 p (tB 101 p (tL 101 p (.iload 5) 0) (tL 100 p .laload 0)) (tB 98 p (tL 98 p (.iload 9) 0) (tL 95 p (.getfield 100) 28))))) (tB 77 p (tB 88 p (tB 92 p (tB 93 p (tB 94 p (tL 94 p (.aload_n 0) 0) (tL 93 p .ireturn 0)) (tL 92 p (.iconst (-1)) 0)) (tB 89 p (tL 89 p (.if_icmp .lt 5) 94) (tL 88 p .arraylength 0))) (tB 82 p (tB 84 p (tB 85 p (tL 85 p (.getfield 100) 28) (tL 84 p (.aload_n 0) 0)) (tL 82 p (.iload 9) 0)) (tB 79 p (tL 79 p (.ifCond .lt 13) 92) (tL 77 p (.iload 9) 0)))) (tB 67 p (tB 72 p (tB 74 p (tB 75 p (tL 75 p (.istore 9) 0) (tL 74 p .iadd 0)) (tL 72 p (.iload 8) 0)) (tB 70 p (tL 70 p (.iload 6) 0) (tL 67 p (.if_icmp .ge 58) 125))) (tB 64 p (tB 66 p (tL 66 p (.iconst 3) 0) (tL 64 p (.iload 8) 0)) (tB 61 p (tL 61 p (.if_icmp .ge 64) 125) (tL 59 p (.iload 7) 0)))))) (tB 29 p (tB 43 p (tB 51 p (tB 54 p (tB 55 p (tB 57 p (tL 57 p (.iload 8) 0) (tL 55 p (.istore 8) 0)) (tL 54 p (.iconst 0) 0)) (tB 52 p (tL 52 p (.istore 7) 0) (tL 51 p .iaload 0))) (tB 46 p (tB 47 p (tB 50 p (tL 50 p (.iload_n 1) 0) (tL 47 p (.getfield 91) 25)) (tL 46 p (.aload_n 0) 0)) (tB 44 p (tL 44 p (.istore 6) 0) (tL 43 p .iaload 0)))) (tB 35 p (tB 38 p (tB 39 p (tB 42 p (tL 42 p (.iload_n 1) 0) (tL 39 p (.getfield 88) 24)) (tL 38 p (.aload_n 0) 0)) (tB 36 p (tL 36 p (.istore 5) 0) (tL 35 p .l2i 0))) (tB 33 p (tB 34 p (tL 34 p (.lload_n 3) 0) (tL 33 p .ireturn 0)) (tB 32 p (tL 32 p (.iconst (-1)) 0) (tL 29 p (.ifCond .lt 5) 34))))) (tB 13 p (tB 20 p (tB 24 p (tB 25 p (tB 28 p (tL 28 p .lcmp 0) (tL 25 p (.ldc2_w 211) 3)) (tL 24 p (.lload_n 3) 0)) (tB 21 p (tL 21 p (.ifCond .ge 11) 32) (tL 20 p .lcmp 0))) (tB 17 p (tB 18 p (tB 19 p (tL 19 p .i2l 0) (tL 18 p .iaload 0)) (tL 17 p (.iload_n 1) 0)) (tB 14 p (tL 14 p (.getfield 94) 26) (tL 13 p (.aload_n 0) 0)))) (tB 6 p (tB 8 p (tB 11 p (tB 12 p (tL 12 p (.lload_n 3) 0) (tL 11 p (.lstore_n 3) 0)) (tL 8 p (.invokevirtual 255) 32)) (tB 7 p (tL 7 p .iaload 0) (tL 6 p (.iload_n 1) 0))) (tB 2 p (tB 3 p (tL 3 p (.getfield 85) 23) (tL 2 p (.aload_n 0) 0)) (tB 1 p (tL 1 p (.iload_n 2) 0) (tL 0 p (.aload_n 0) 0)))))))
set_option maxHeartbeats 4000000 in
def cd32 (p : Nat) : Option (Instr × Nat) := (tB 3 p (tB 7 p (tB 8 p (tL 8 p .lreturn 0) (tL 7 p .land 0)) (tB 4 p (tL 4 p (.ldc2_w 46) 0) (tL 3 p .i2l 0))) (tB 1 p (tB 2 p (tL 2 p .isub 0) (tL 1 p (.iload_n 2) 0)) (tL 0 p (.iload_n 1) 0)))
set_option maxHeartbeats 4000000 in
def cd33 (p : Nat) : Option (Instr × Nat) := (tB 36 p (tB 52 p (tB 64 p (tB 69 p (tB 73 p (tB 74 p (tL 74 p .ireturn 0) (tL 73 p (.iconst 0) 0)) (tB 70 p (tL 70 p (.putfield 138) 38) (tL 69 p (.iconst 1) 0))) (tB 65 p (tB 68 p (tL 68 p (.aload_n 0) 0) (tL 65 p (.putfield 132) 36)) (tL 64 p .isub 0))) (tB 59 p (tB 60 p (tB 63 p (tL 63 p (.iconst 1) 0) (tL 60 p (.getfield 132) 36)) (tL 59 p .dup 0)) (tB 55 p (tB 58 p (tL 58 p (.aload_n 0) 0) (tL 55 p (.goto (-41)) 14)) (tL 52 p (.iinc 3 1) 0)))) (tB 44 p (tB 49 p (tB 50 p (tB 51 p (tL 51 p .bastore 0) (tL 50 p .baload 0)) (tL 49 p .iadd 0)) (tB 47 p (tB 48 p (tL 48 p (.iconst 1) 0) (tL 47 p (.iload_n 3) 0)) (tL 44 p (.getfield 60) 15))) (tB 39 p (tB 42 p (tB 43 p (tL 43 p (.aload_n 0) 0) (tL 42 p (.iload_n 3) 0)) (tL 39 p (.getfield 60) 15)) (tB 37 p (tB 38 p (tL 38 p (.aload_n 0) 0) (tL 37 p .iastore 0)) (tL 36 p .iaload 0))))) (tB 16 p (tB 28 p (tB 33 p (tB 34 p (tB 35 p (tL 35 p .iadd 0) (tL 34 p (.iconst 1) 0)) (tL 33 p (.iload_n 3) 0)) (tB 29 p (tB 30 p (tL 30 p (.getfield 56) 14) (tL 29 p (.aload_n 0) 0)) (tL 28 p (.iload_n 3) 0))) (tB 21 p (tB 24 p (tB 25 p (tL 25 p (.getfield 56) 14) (tL 24 p (.aload_n 0) 0)) (tL 21 p (.if_icmp .ge 37) 58)) (tB 17 p (tB 18 p (tL 18 p (.getfield 132) 36) (tL 17 p (.aload_n 0) 0)) (tL 16 p .iadd 0)))) (tB 10 p (tB 13 p (tB 14 p (tB 15 p (tL 15 p (.iconst 1) 0) (tL 14 p (.iload_n 3) 0)) (tL 13 p (.istore_n 3) 0)) (tB 11 p (tB 12 p (tL 12 p (.iload_n 2) 0) (tL 11 p .ireturn 0)) (tL 10 p (.iconst 4) 0))) (tB 5 p (tB 6 p (tB 7 p (tL 7 p (.ifCond .ge 5) 12) (tL 6 p (.iload_n 2) 0)) (tL 5 p (.istore_n 2) 0)) (tB 1 p (tB 2 p (tL 2 p (.invokevirtual 173) 18) (tL 1 p (.iload_n 1) 0)) (tL 0 p (.aload_n 0) 0))))))
set_option maxHeartbeats 4000000 in
def cd34 (p : Nat) : Option (Instr × Nat) := (tB 21 p (tB 33 p (tB 36 p (tB 40 p (tB 41 p (tL 41 p .ireturn 0) (tL 40 p .iaload 0)) (tB 39 p (tL 39 p (.iload_n 2) 0) (tL 36 p (.getfield 64) 16))) (tB 34 p (tB 35 p (tL 35 p (.aload_n 0) 0) (tL 34 p .ireturn 0)) (tL 33 p (.iconst 0) 0))) (tB 26 p (tB 27 p (tB 30 p (tL 30 p (.if_icmp .lt 5) 35) (tL 27 p (.getfield 142) 39)) (tL 26 p (.aload_n 0) 0)) (tB 22 p (tB 25 p (tL 25 p (.iload_n 2) 0) (tL 22 p (.ifCond .lt 11) 33)) (tL 21 p (.iload_n 2) 0)))) (tB 12 p (tB 15 p (tB 19 p (tB 20 p (tL 20 p (.istore_n 2) 0) (tL 19 p .iaload 0)) (tB 18 p (tL 18 p (.iload_n 1) 0) (tL 15 p (.getfield 76) 20))) (tB 13 p (tB 14 p (tL 14 p (.aload_n 0) 0) (tL 13 p .ireturn 0)) (tL 12 p (.iconst 0) 0))) (tB 5 p (tB 6 p (tB 9 p (tL 9 p (.if_icmp .lt 5) 14) (tL 6 p (.getfield 151) 42)) (tL 5 p (.aload_n 0) 0)) (tB 1 p (tB 4 p (tL 4 p (.iload_n 1) 0) (tL 1 p (.ifCond .lt 11) 12)) (tL 0 p (.iload_n 1) 0)))))
def pCode (m pc : Nat) : Option (Instr × Nat) := bif Nat.ble pN m then none else bif Nat.ble (pTop m) pc then none else (bif Nat.ble 17 m then (bif Nat.ble 26 m then (bif Nat.ble 30 m then (bif Nat.ble 32 m then (bif Nat.ble 33 m then (bif Nat.ble 34 m then cd34 pc else cd33 pc) else cd32 pc) else (bif Nat.ble 31 m then cd31 pc else cd30 pc)) else (bif Nat.ble 28 m then (bif Nat.ble 29 m then cd29 pc else cd28 pc) else (bif Nat.ble 27 m then cd27 pc else cd26 pc))) else (bif Nat.ble 21 m then (bif Nat.ble 23 m then (bif Nat.ble 24 m then (bif Nat.ble 25 m then cd25 pc else cd24 pc) else cd23 pc) else (bif Nat.ble 22 m then cd22 pc else cd21 pc)) else (bif Nat.ble 19 m then (bif Nat.ble 20 m then cd20 pc else cd19 pc) else (bif Nat.ble 18 m then cd18 pc else cd17 pc)))) else (bif Nat.ble 8 m then (bif Nat.ble 12 m then (bif Nat.ble 14 m then (bif Nat.ble 15 m then (bif Nat.ble 16 m then cd16 pc else cd15 pc) else cd14 pc) else (bif Nat.ble 13 m then cd13 pc else cd12 pc)) else (bif Nat.ble 10 m then (bif Nat.ble 11 m then cd11 pc else cd10 pc) else (bif Nat.ble 9 m then cd9 pc else cd8 pc))) else (bif Nat.ble 4 m then (bif Nat.ble 6 m then (bif Nat.ble 7 m then cd7 pc else cd6 pc) else (bif Nat.ble 5 m then cd5 pc else cd4 pc)) else (bif Nat.ble 2 m then (bif Nat.ble 3 m then cd3 pc else cd2 pc) else (bif Nat.ble 1 m then cd1 pc else cd0 pc)))))
def lkF : List (Nat × Nat × Nat) := [(1, 7, 0), (1, 13, 1), (1, 16, 2), (1, 19, 3), (1, 22, 4), (1, 25, 5), (1, 28, 6), (1, 31, 7), (1, 34, 8), (1, 37, 9), (1, 40, 10), (1, 43, 11), (1, 48, 12), (1, 53, 13), (1, 56, 14), (1, 60, 15), (1, 64, 16), (1, 67, 17), (1, 70, 18), (1, 73, 19), (1, 76, 20), (1, 79, 21), (1, 82, 22), (1, 85, 23), (1, 88, 24), (1, 91, 25), (1, 94, 26), (1, 97, 27), (1, 100, 28), (1, 104, 29), (1, 107, 30), (1, 110, 31), (1, 113, 32), (1, 116, 33), (1, 123, 34), (1, 126, 35), (1, 132, 36), (1, 135, 37), (1, 138, 38), (1, 142, 39), (1, 145, 40), (1, 148, 41), (1, 151, 42), (1, 154, 43), (1, 157, 44), (1, 160, 45), (1, 163, 46), (1, 166, 47)]
def lkN : List (Nat × Nat) := [(0, 7)]
def lkC : List (Nat × Nat × Nat) := [(1, 52, 1)]
def lkD : List (Nat × Nat × Nat) := [(1, 46, 0), (1, 205, 2), (1, 211, 3), (1, 213, 4)]
def lkV : List (Nat × Nat × Nat) := [(0, 9, 1), (1, 119, 2), (1, 129, 3), (0, 23, 4), (1, 176, 5), (1, 179, 6), (1, 182, 7), (1, 185, 8), (1, 215, 9), (0, 30, 10), (0, 36, 11), (0, 39, 12), (0, 42, 13), (0, 49, 14), (0, 55, 15), (1, 188, 16), (0, 52, 17), (1, 173, 18), (1, 169, 19), (0, 12, 20), (0, 46, 21), (0, 20, 22), (1, 207, 23), (1, 219, 24), (1, 223, 25), (1, 233, 26), (1, 237, 27), (1, 243, 28), (1, 229, 29), (1, 246, 30), (1, 252, 31), (1, 255, 32), (0, 16, 33), (0, 27, 3), (1, 226, 34)]
def lkO : List (Nat × Nat) := [(1, 1)]
def mV : List Nat := [3, 4, 11, 12, 13, 14, 15, 17, 20, 21, 22, 33]
def mP : List Nat := [2, 5, 6, 7, 8, 9, 16, 18, 19, 23, 24, 25, 26, 27, 28, 29, 30, 31, 32, 34]
def mS : List Nat := [10]
def mI : List Nat := [1]
def mA : List Nat := [1, 2, 3, 4, 5, 6, 7, 8, 9, 10, 11, 12, 13, 14, 15, 16, 17, 18, 19, 20, 21, 22, 23, 24, 25, 26, 27, 28, 29, 30, 31, 32, 33, 34]
def aTys : List FieldType := [.int, .byte, .long]
abbrev QCell := List Value ⊕ ((FieldType × List Int32) ⊕ List Int64)
abbrev QHeap := List QCell
abbrev QLoc := List (Option Value)
abbrev vI (x : Int32) : Option Value := some (.int x)
abbrev vR (a : Addr) : Option Value := some (.ref a)
abbrev vL (x : Int64) : Option Value := some (.long x)
abbrev QSt := Nat × QLoc × List Value × QHeap
def qv (ad : Nat → Addr) : Value → Value
 | .ref k => .ref (ad k)
 | v => v
def qsz : QCell → Nat
 | .inl _ => cN
 | .inr (.inl x) => x.2.length
 | .inr (.inr x) => x.length
def qhs : QHeap → Nat
 | [] => 0
 | c :: t => qsz c + qhs t
def aget {α : Type} (xs : List α) (j : Int32) : Option α := if j < 0 then none else xs[j.toNatClampNeg]?
def aset {α : Type} (xs : List α) (j : Int32) (v : α) : Option (List α) := if j < 0 then none else if j.toNatClampNeg < xs.length then some (xs.set j.toNatClampNeg v) else none
def qnew (n : Int32) : Option Nat := if n < 0 then none else if n.toNatClampNeg ≤ 67108864 then some n.toNatClampNeg else none
def qdiv (x y : Int32) : Option Int32 := if y = 0 then none else some (x / y)
def qrem (x y : Int32) : Option Int32 := if y = 0 then none else some (x % y)
def qboo (x : Int32) : Option Int32 := if x = 0 then some x else if x = 1 then some x else none
def lget : QLoc → Nat → Option Value
 | [], _ => none
 | v :: _, 0 => v
 | _ :: t, k + 1 => lget t k
def hget : QHeap → Nat → Option QCell
 | [], _ => none
 | v :: _, 0 => some v
 | _ :: t, k + 1 => hget t k
def vget : List Value → Nat → Option Value
 | [], _ => none
 | v :: _, 0 => some v
 | _ :: t, k + 1 => vget t k
def lkill (L : QLoc) : Nat → QLoc
 | 0 => L
 | k + 1 => match lget L k with
  | some (.long _) => L.set k none
  | some (.double _) => L.set k none
  | _ => L
def lput (L : QLoc) (k : Nat) (v : Value) : Option QLoc :=
 match v with
 | .long x => bif Nat.ble (k + 2) L.length then some (((lkill L k).set k (some (.long x))).set (k + 1) none) else none
 | .double _ => none
 | v => bif Nat.ble (k + 1) L.length then some ((lkill L k).set k (some v)) else none
def qload (pc : Nat) (L : QLoc) (S : List Value) (σ : QHeap) (k : Nat) (ok : Value → Bool) : Option QSt :=
 match lget L k with
 | some v => bif ok v then some (pc, L, v :: S, σ) else none
 | none => none
def isI : Value → Bool | .int _ => true | _ => false
def isJ : Value → Bool | .long _ => true | _ => false
def isR : Value → Bool | .ref _ => true | _ => false
def qstore (pc : Nat) (L : QLoc) (S : List Value) (σ : QHeap) (k : Nat) (ok : Value → Bool) : Option QSt :=
 match S with
 | v :: S' => bif ok v then (match lput L k v with | some L' => some (pc, L', S', σ) | none => none) else none
 | [] => none
def qbin (pc : Nat) (L : QLoc) (S : List Value) (σ : QHeap) (f : Int32 → Int32 → Int32) : Option QSt :=
 match S with
 | .int y :: .int x :: S' => some (pc, L, .int (f x y) :: S', σ)
 | _ => none
def qbino (pc : Nat) (L : QLoc) (S : List Value) (σ : QHeap) (f : Int32 → Int32 → Option Int32) : Option QSt :=
 match S with
 | .int y :: .int x :: S' => (f x y).bind fun z => some (pc, L, .int z :: S', σ)
 | _ => none
def qbinJ (pc : Nat) (L : QLoc) (S : List Value) (σ : QHeap) (f : Int64 → Int64 → Int64) : Option QSt :=
 match S with
 | .long y :: .long x :: S' => some (pc, L, .long (f x y) :: S', σ)
 | _ => none
def qshJ (pc : Nat) (L : QLoc) (S : List Value) (σ : QHeap) (f : Int64 → Int32 → Int64) : Option QSt :=
 match S with
 | .int y :: .long x :: S' => some (pc, L, .long (f x y) :: S', σ)
 | _ => none
def quni (pc : Nat) (L : QLoc) (S : List Value) (σ : QHeap) (f : Int32 → Value) : Option QSt :=
 match S with
 | .int x :: S' => some (pc, L, f x :: S', σ)
 | _ => none
def quniJ (pc : Nat) (L : QLoc) (S : List Value) (σ : QHeap) (f : Int64 → Value) : Option QSt :=
 match S with
 | .long x :: S' => some (pc, L, f x :: S', σ)
 | _ => none
def qald (pc : Nat) (L : QLoc) (S : List Value) (σ : QHeap) (ok : FieldType → Bool) : Option QSt :=
 match S with
 | .int j :: .ref a :: S' => (match hget σ a with
  | some (.inr (.inl x)) => bif ok x.1 then (aget x.2 j).bind fun v => some (pc, L, .int v :: S', σ) else none
  | _ => none)
 | _ => none
def qaldJ (pc : Nat) (L : QLoc) (S : List Value) (σ : QHeap) : Option QSt :=
 match S with
 | .int j :: .ref a :: S' => (match hget σ a with
  | some (.inr (.inr x)) => (aget x j).bind fun v => some (pc, L, .long v :: S', σ)
  | _ => none)
 | _ => none
def qnar : FieldType → Int32 → Int32
 | .boolean, x => x &&& 1
 | .byte, x => x.toInt8.toInt32
 | _, x => x
def qast (pc : Nat) (L : QLoc) (S : List Value) (σ : QHeap) (ok : FieldType → Bool) : Option QSt :=
 match S with
 | .int v :: .int j :: .ref a :: S' => (match hget σ a with
  | some (.inr (.inl x)) => bif ok x.1 && Nat.ble k0 a then (aset x.2 j (qnar x.1 v)).bind fun y => some (pc, L, S', σ.set a (.inr (.inl (x.1, y)))) else none
  | _ => none)
 | _ => none
def qastJ (pc : Nat) (L : QLoc) (S : List Value) (σ : QHeap) : Option QSt :=
 match S with
 | .long v :: .int j :: .ref a :: S' => (match hget σ a with
  | some (.inr (.inr x)) => bif Nat.ble k0 a then (aset x j v).bind fun y => some (pc, L, S', σ.set a (.inr (.inr y))) else none
  | _ => none)
 | _ => none
def tyI : FieldType → Bool | .int => true | _ => false
def tyB : FieldType → Bool | .boolean => true | .byte => true | _ => false
def qfit : FieldType → Value → Option Value
 | .int, .int x => some (.int x)
 | .boolean, .int x => (qboo x).bind fun y => some (.int y)
 | .long, .long x => some (.long x)
 | .array t, .ref a => some (.ref a)
 | _, _ => none
def qget (pc : Nat) (L : QLoc) (S : List Value) (σ : QHeap) (k : Nat) : Option QSt :=
 match S with
 | .ref a :: S' => (match hget σ a with
  | some (.inl vs) => (match vget vs k with | some v => some (pc, L, v :: S', σ) | none => none)
  | _ => none)
 | _ => none
def qput (pc : Nat) (L : QLoc) (S : List Value) (σ : QHeap) (k : Nat) : Option QSt :=
 match S with
 | v :: .ref a :: S' => (match hget σ a with
  | some (.inl vs) => bif Nat.ble k0 a && Nat.ble (k + 1) vs.length then (qfit (fTy k) v).bind fun w => some (pc, L, S', σ.set a (.inl (vs.set k w))) else none
  | _ => none)
 | _ => none
def qnewA (pc : Nat) (L : QLoc) (S : List Value) (σ : QHeap) (t : ArrayType) : Option QSt :=
 match S with
 | .int n :: S' => (match t with
  | .int => (qnew n).bind fun k => some (pc, L, .ref σ.length :: S', σ ++ [.inr (.inl (.int, List.replicate k 0))])
  | .boolean => (qnew n).bind fun k => some (pc, L, .ref σ.length :: S', σ ++ [.inr (.inl (.boolean, List.replicate k 0))])
  | .byte => (qnew n).bind fun k => some (pc, L, .ref σ.length :: S', σ ++ [.inr (.inl (.byte, List.replicate k 0))])
  | .long => (qnew n).bind fun k => some (pc, L, .ref σ.length :: S', σ ++ [.inr (.inr (List.replicate k 0))])
  | _ => none)
 | _ => none
def qlen (pc : Nat) (L : QLoc) (S : List Value) (σ : QHeap) : Option QSt :=
 match S with
 | .ref a :: S' => (match hget σ a with
  | some (.inr (.inl x)) => some (pc, L, .int x.2.length.toInt32 :: S', σ)
  | some (.inr (.inr x)) => some (pc, L, .int x.length.toInt32 :: S', σ)
  | _ => none)
 | _ => none
def qdup (pc : Nat) (L : QLoc) (S : List Value) (σ : QHeap) : Option QSt :=
 match S with
 | .int x :: S' => some (pc, L, .int x :: .int x :: S', σ)
 | .ref x :: S' => some (pc, L, .ref x :: .ref x :: S', σ)
 | _ => none
def qdup2 (pc : Nat) (L : QLoc) (S : List Value) (σ : QHeap) : Option QSt :=
 match S with
 | .int x :: .ref y :: S' => some (pc, L, .int x :: .ref y :: .int x :: .ref y :: S', σ)
 | .int x :: .int y :: S' => some (pc, L, .int x :: .int y :: .int x :: .int y :: S', σ)
 | .long x :: S' => some (pc, L, .long x :: .long x :: S', σ)
 | _ => none
def qpop (pc : Nat) (L : QLoc) (S : List Value) (σ : QHeap) : Option QSt :=
 match S with
 | .int _ :: S' => some (pc, L, S', σ)
 | .ref _ :: S' => some (pc, L, S', σ)
 | _ => none
def qif (pc : Nat) (L : QLoc) (S : List Value) (σ : QHeap) (cd : ClassFile.Cond) (tgt : Nat) : Option QSt :=
 match S with
 | .int x :: S' => some (bif ifCond.holds cd x then tgt else pc, L, S', σ)
 | _ => none
def qicmp (pc : Nat) (L : QLoc) (S : List Value) (σ : QHeap) (cd : ClassFile.Cond) (tgt : Nat) : Option QSt :=
 match S with
 | .int y :: .int x :: S' => some (bif if_icmp.holds cd x y then tgt else pc, L, S', σ)
 | _ => none
def qinc (pc : Nat) (L : QLoc) (S : List Value) (σ : QHeap) (k : Nat) (i : Int) : Option QSt :=
 match lget L k with
 | some (.int x) => (match lput L k (.int (x + Int32.ofInt i)) with | some L' => some (pc, L', S, σ) | none => none)
 | _ => none
def qldc (pc : Nat) (L : QLoc) (S : List Value) (σ : QHeap) (k : Nat) : Option QSt :=
 match vget cK k with
 | some v => some (pc, L, v :: S, σ)
 | none => none
def qexec (pc : Nat) (L : QLoc) (S : List Value) (σ : QHeap) (aux : Nat) : Instr → Option QSt
 | .aload_n k => qload (pc + 1) L S σ k.val isR
 | .aload k => qload (pc + 2) L S σ k isR
 | .iload_n k => qload (pc + 1) L S σ k.val isI
 | .iload k => qload (pc + 2) L S σ k isI
 | .lload_n k => qload (pc + 1) L S σ k.val isJ
 | .lload k => qload (pc + 2) L S σ k isJ
 | .iconst i => some (pc + 1, L, .int (Int32.ofInt i) :: S, σ)
 | .bipush i => some (pc + 2, L, .int (Int8.ofInt i).toInt32 :: S, σ)
 | .sipush i => some (pc + 3, L, .int (Int16.ofInt i).toInt32 :: S, σ)
 | .lconst k => some (pc + 1, L, .long (Int64.ofNat k.val) :: S, σ)
 | .ldc _ => qldc (pc + 2) L S σ aux
 | .ldc2_w _ => qldc (pc + 3) L S σ aux
 | .istore_n k => qstore (pc + 1) L S σ k.val isI
 | .istore k => qstore (pc + 2) L S σ k isI
 | .lstore_n k => qstore (pc + 1) L S σ k.val isJ
 | .lstore k => qstore (pc + 2) L S σ k isJ
 | .astore_n k => qstore (pc + 1) L S σ k.val isR
 | .astore k => qstore (pc + 2) L S σ k isR
 | .iinc k i => qinc (pc + 3) L S σ k i
 | .iadd => qbin (pc + 1) L S σ fun x y => x + y
 | .isub => qbin (pc + 1) L S σ fun x y => x - y
 | .imul => qbin (pc + 1) L S σ fun x y => x * y
 | .iand => qbin (pc + 1) L S σ fun x y => x &&& y
 | .ior => qbin (pc + 1) L S σ fun x y => x ||| y
 | .ixor => qbin (pc + 1) L S σ fun x y => x ^^^ y
 | .ishl => qbin (pc + 1) L S σ fun x y => x <<< (y &&& 31)
 | .ishr => qbin (pc + 1) L S σ fun x y => x >>> (y &&& 31)
 | .iushr => qbin (pc + 1) L S σ fun x y => XT.ushr x y
 | .idiv => qbino (pc + 1) L S σ qdiv
 | .irem => qbino (pc + 1) L S σ qrem
 | .ineg => quni (pc + 1) L S σ fun x => .int (-x)
 | .i2l => quni (pc + 1) L S σ fun x => .long x.toInt64
 | .i2b => quni (pc + 1) L S σ fun x => .int x.toInt8.toInt32
 | .l2i => quniJ (pc + 1) L S σ fun x => .int x.toInt32
 | .lneg => quniJ (pc + 1) L S σ fun x => .long (-x)
 | .ladd => qbinJ (pc + 1) L S σ fun x y => x + y
 | .lsub => qbinJ (pc + 1) L S σ fun x y => x - y
 | .lmul => qbinJ (pc + 1) L S σ fun x y => x * y
 | .land => qbinJ (pc + 1) L S σ fun x y => x &&& y
 | .lor => qbinJ (pc + 1) L S σ fun x y => x ||| y
 | .lxor => qbinJ (pc + 1) L S σ fun x y => x ^^^ y
 | .lshl => qshJ (pc + 1) L S σ fun x y => x <<< (y.toInt64 &&& 63)
 | .lshr => qshJ (pc + 1) L S σ fun x y => x >>> (y.toInt64 &&& 63)
 | .lushr => qshJ (pc + 1) L S σ fun x y => XT.ushrL x y
 | .lcmp => (match S with
  | .long y :: .long x :: S' => some (pc + 1, L, .int (XT.cmpL x y) :: S', σ)
  | _ => none)
 | .goto _ => some (aux, L, S, σ)
 | .ifCond cd _ => qif (pc + 3) L S σ cd aux
 | .if_icmp cd _ => qicmp (pc + 3) L S σ cd aux
 | .dup => qdup (pc + 1) L S σ
 | .dup2 => qdup2 (pc + 1) L S σ
 | .pop => qpop (pc + 1) L S σ
 | .getfield _ => qget (pc + 3) L S σ aux
 | .putfield _ => qput (pc + 3) L S σ aux
 | .iaload => qald (pc + 1) L S σ tyI
 | .baload => qald (pc + 1) L S σ tyB
 | .laload => qaldJ (pc + 1) L S σ
 | .iastore => qast (pc + 1) L S σ tyI
 | .bastore => qast (pc + 1) L S σ tyB
 | .lastore => qastJ (pc + 1) L S σ
 | .arraylength => qlen (pc + 1) L S σ
 | .newarray t => qnewA (pc + 2) L S σ t
 | .new _ => some (pc + 3, L, .ref σ.length :: S, σ ++ [.inl cDef])
 | _ => none
def qstep (m : Nat) (st : QSt) : Option QSt :=
 match pCode m st.1 with
 | some (i, aux) => qexec st.1 st.2.1 st.2.2.1 st.2.2.2 aux i
 | none => none
def qsteps (m : Nat) : Nat → QSt → Option QSt
 | 0, st => some st
 | n + 1, st => match qstep m st with | some st' => qsteps m n st' | none => none
def qentry (args : List Value) (mx : Nat) : QLoc := (args.flatMap fun v => match v with | .long x => [some (.long x), none] | .double x => [some (.double x), none] | v => [some v]) ++ List.replicate (mx - (args.map fun v => v.category).sum) none
def ilen : Instr → Nat
 | .aload _ | .iload _ | .lload _ | .istore _ | .lstore _ | .astore _ | .bipush _ | .ldc _ | .newarray _ => 2
 | .sipush _ | .ldc2_w _ | .iinc _ _ | .goto _ | .ifCond _ _ | .if_icmp _ _ | .getfield _ | .putfield _ | .new _ | .invokevirtual _ | .invokespecial _ | .invokestatic _ => 3
 | _ => 1
def qtgt (pc : Nat) (o : Int) (aux : Nat) : Bool := decide (0 ≤ (pc : Int) + o) && decide (((pc : Int) + o).toNat = aux)
def qlk (m pc : Nat) (i : Instr) (aux : Nat) : Bool :=
 match i with
 | .goto o => qtgt pc o aux
 | .ifCond _ o => qtgt pc o aux
 | .if_icmp _ o => qtgt pc o aux
 | .getfield idx => lkF.contains (pK m, idx, aux)
 | .putfield idx => lkF.contains (pK m, idx, aux) && (!fFin aux || (pK m == 1 && pNm m == "<init>"))
 | .new idx => lkN.contains (pK m, idx)
 | .newarray t => aTys.contains (newarray.typeOf t)
 | .ldc idx => lkC.contains (pK m, idx, aux)
 | .ldc2_w idx => lkD.contains (pK m, idx, aux)
 | _ => true
def qchk (m pc : Nat) (i : Instr) (aux : Nat) : Bool := decide (decode (pBytes m) pc = .ok (i, ilen i)) && qlk m pc i aux
def QCellOk (Z : State) (ad : Nat → Addr) (h : Heap) (a : Addr) : QCell → Prop
 | .inl vs => Exa Z h a cName ∧ vs.length = nF ∧ ∀ (k : Nat) (v : Value), k < nF → vget vs k = some v → Fld Z h a cName (fNm k) (fDs k) (qv ad v)
 | .inr (.inl x) => ∃ c : Cell, Arr Z h a c x.1 ∧ c.slots = (x.2.map Value.int).toArray
 | .inr (.inr x) => ∃ c : Cell, Arr Z h a c .long ∧ c.slots = (x.map Value.long).toArray
def QAd (n0 : Nat) (ad : Nat → Addr) : Prop := (∀ k, k0 ≤ k → ad k = n0 + (k - k0)) ∧ ∀ i j, ad i = ad j → i = j
def QRep (Z : State) (n0 : Nat) (ad : Nat → Addr) (h : Heap) (σ : QHeap) : Prop := k0 ≤ σ.length ∧ h.size = n0 + (σ.length - k0) ∧ ∀ k c, hget σ k = some c → QCellOk Z ad h (ad k) c
def QLocOk (ad : Nat → Addr) (L : QLoc) (C : Array Slot) : Prop :=
 L.length = C.size ∧ (∀ k v, lget L k = some v → C[k]? = some (.val (qv ad v))) ∧ (∀ k w, C[k]? = some (.val w) → w.category = 2 → C[k + 1]? = some .second) ∧ ∀ k, C[k]? = some .second → ∃ j w, k = j + 1 ∧ C[j]? = some (.val w) ∧ w.category = 2
def QW (Z : State) (a0 : Array Value) : Prop :=
 (∀ t ∈ lkF, (Cond.fieldLink (kName t.1) t.2.1 cName (fNm t.2.2) (fDs t.2.2)).before a0 Z = true) ∧
 (∀ t ∈ lkN, (Cond.classLink (kName t.1) t.2 cName).before a0 Z = true) ∧
 (∀ t ∈ lkC, ∃ v, vget cK t.2.2 = some (.int v) ∧ (Cond.constant (kName t.1) t.2.1 v).before a0 Z = true) ∧
 (∀ t ∈ lkD, ∃ v, vget cK t.2.2 = some (.long v) ∧ (Cond.constantLong (kName t.1) t.2.1 v).before a0 Z = true) ∧
 (∀ t ∈ lkV, (Cond.methodLink (kName t.1) t.2.1 (pName t.2.2)).before a0 Z = true) ∧
 (∀ t ∈ lkO, (Cond.methodLink (kName t.1) t.2 Lib.objectInit).before a0 Z = true) ∧
 (∀ m ∈ mV, (Cond.declares (pName m)).before a0 Z = true ∧ (Cond.selects cName (pName m) (pName m)).before a0 Z = true ∧ (Cond.instanceMethod (pName m)).before a0 Z = true) ∧
 (∀ m ∈ mP, (Cond.instanceMethod (pName m)).before a0 Z = true ∧ (Cond.privateMethod (pName m)).before a0 Z = true) ∧
 (∀ m ∈ mS, (Cond.static (pName m)).before a0 Z = true) ∧
 (∀ m ∈ mI, (Cond.instanceMethod (pName m)).before a0 Z = true) ∧
 (∀ m ∈ mA, (Cond.code (pName m) (pBytes m) (pMaxL m) (pRet m)).before a0 Z = true ∧ (Cond.initialized (kName (pK m))).before a0 Z = true) ∧
 (Cond.instanceMethod Lib.objectInit).before a0 Z = true ∧ (Cond.code Lib.objectInit ⟨#[0xb1]⟩ 1 none).before a0 Z = true ∧
 (∀ k, k < nF → bif fFin k then (Cond.laysFinal cName cName (fNm k) (fDs k)).before a0 Z = true else (Cond.lays cName cName (fNm k) (fDs k)).before a0 Z = true) ∧
 (Cond.instantiable cName cN).before a0 Z = true ∧ (Cond.initialized cName).before a0 Z = true ∧
 ∀ ty ∈ aTys, (Cond.arrayClass ty).before a0 Z = true
section Words
variable {Z : State} {a0 : Array Value}
theorem qw_fl (W : QW Z a0) : ∀ t ∈ lkF, (Cond.fieldLink (kName t.1) t.2.1 cName (fNm t.2.2) (fDs t.2.2)).before a0 Z = true := W.1
theorem qw_nw (W : QW Z a0) : ∀ t ∈ lkN, (Cond.classLink (kName t.1) t.2 cName).before a0 Z = true := W.2.1
theorem qw_cI (W : QW Z a0) : ∀ t ∈ lkC, ∃ v, vget cK t.2.2 = some (.int v) ∧ (Cond.constant (kName t.1) t.2.1 v).before a0 Z = true := W.2.2.1
theorem qw_cJ (W : QW Z a0) : ∀ t ∈ lkD, ∃ v, vget cK t.2.2 = some (.long v) ∧ (Cond.constantLong (kName t.1) t.2.1 v).before a0 Z = true := W.2.2.2.1
theorem qw_ml (W : QW Z a0) : ∀ t ∈ lkV, (Cond.methodLink (kName t.1) t.2.1 (pName t.2.2)).before a0 Z = true := W.2.2.2.2.1
theorem qw_mo (W : QW Z a0) : ∀ t ∈ lkO, (Cond.methodLink (kName t.1) t.2 Lib.objectInit).before a0 Z = true := W.2.2.2.2.2.1
theorem qw_vi (W : QW Z a0) : ∀ m ∈ mV, (Cond.declares (pName m)).before a0 Z = true ∧ (Cond.selects cName (pName m) (pName m)).before a0 Z = true ∧ (Cond.instanceMethod (pName m)).before a0 Z = true := W.2.2.2.2.2.2.1
theorem qw_pr (W : QW Z a0) : ∀ m ∈ mP, (Cond.instanceMethod (pName m)).before a0 Z = true ∧ (Cond.privateMethod (pName m)).before a0 Z = true := W.2.2.2.2.2.2.2.1
theorem qw_st (W : QW Z a0) : ∀ m ∈ mS, (Cond.static (pName m)).before a0 Z = true := W.2.2.2.2.2.2.2.2.1
theorem qw_ini (W : QW Z a0) : ∀ m ∈ mI, (Cond.instanceMethod (pName m)).before a0 Z = true := W.2.2.2.2.2.2.2.2.2.1
theorem qw_cod (W : QW Z a0) : ∀ m ∈ mA, (Cond.code (pName m) (pBytes m) (pMaxL m) (pRet m)).before a0 Z = true ∧ (Cond.initialized (kName (pK m))).before a0 Z = true := W.2.2.2.2.2.2.2.2.2.2.1
theorem qw_oi (W : QW Z a0) : (Cond.instanceMethod Lib.objectInit).before a0 Z = true := W.2.2.2.2.2.2.2.2.2.2.2.1
theorem qw_oc (W : QW Z a0) : (Cond.code Lib.objectInit ⟨#[0xb1]⟩ 1 none).before a0 Z = true := W.2.2.2.2.2.2.2.2.2.2.2.2.1
theorem qw_lay (W : QW Z a0) : ∀ k, k < nF → bif fFin k then (Cond.laysFinal cName cName (fNm k) (fDs k)).before a0 Z = true else (Cond.lays cName cName (fNm k) (fDs k)).before a0 Z = true := W.2.2.2.2.2.2.2.2.2.2.2.2.2.1
theorem qw_inst (W : QW Z a0) : (Cond.instantiable cName cN).before a0 Z = true := W.2.2.2.2.2.2.2.2.2.2.2.2.2.2.1
theorem qw_init (W : QW Z a0) : (Cond.initialized cName).before a0 Z = true := W.2.2.2.2.2.2.2.2.2.2.2.2.2.2.2.1
theorem qw_arr (W : QW Z a0) : ∀ ty ∈ aTys, (Cond.arrayClass ty).before a0 Z = true := W.2.2.2.2.2.2.2.2.2.2.2.2.2.2.2.2
end Words
theorem hget_eq : ∀ (σ : QHeap) k, hget σ k = σ[k]?
 | [], _ => by simp [hget]
 | _ :: _, 0 => by simp [hget]
 | _ :: t, k + 1 => by simp [hget, hget_eq t k]
theorem vget_eq : ∀ (σ : List Value) k, vget σ k = σ[k]?
 | [], _ => by simp [vget]
 | _ :: _, 0 => by simp [vget]
 | _ :: t, k + 1 => by simp [vget, vget_eq t k]
theorem lget_eq : ∀ (L : QLoc) k, lget L k = (L[k]?).getD none
 | [], _ => by simp [lget]
 | _ :: _, 0 => by simp [lget]
 | _ :: t, k + 1 => by simp [lget, lget_eq t k]
theorem lget_lt {L : QLoc} {k : Nat} {v : Value} (h : lget L k = some v) : k < L.length := by
 rw [lget_eq] at h
 rcases Nat.lt_or_ge k L.length with q | q
 ·exact q
 ·simp [List.getElem?_eq_none q] at h
theorem lget_set {L : QLoc} {k j : Nat} {o : Option Value} (hk : k < L.length) : lget (L.set k o) j = if j = k then o else lget L j := by
 simp only [lget_eq, List.getElem?_set]
 by_cases e : k = j
 ·subst e; simp [hk]
 ·simp [e, Ne.symm e]
theorem qhs_app (σ τ : QHeap) : qhs (σ ++ τ) = qhs σ + qhs τ := by
 induction σ with
 | nil => simp [qhs]
 | cons c t ih => simp [qhs, ih, Nat.add_assoc]
theorem qhs_set {σ : QHeap} {k : Nat} {c d : QCell} (h : hget σ k = some c) (hs : qsz d = qsz c) : qhs (σ.set k d) = qhs σ := by
 induction σ generalizing k with
 | nil => simp [hget] at h
 | cons x t ih =>
  cases k with
  | zero => simp only [hget, Option.some.injEq] at h; subst h; simp [qhs, hs]
  | succ k => simp only [hget] at h; simp [qhs, ih h]
theorem hget_set {σ : QHeap} {k j : Nat} {c d : QCell} (h : hget σ k = some c) : hget (σ.set k d) j = if j = k then some d else hget σ j := by
 rw [hget_eq] at h
 have hk := (List.getElem?_eq_some_iff.mp h).1
 simp only [hget_eq, List.getElem?_set]
 by_cases e : k = j
 ·subst e; simp [hk]
 ·simp [e, Ne.symm e]
theorem lkill_len (L : QLoc) (k : Nat) : (lkill L k).length = L.length := by
 cases k with
 | zero => rfl
 | succ k => simp only [lkill]; split <;> simp
theorem lget_kill {L : QLoc} {k j : Nat} {v : Value} (h : lget (lkill L k) j = some v) : lget L j = some v ∧ (k = j + 1 → v.category ≠ 2) := by
 cases k with
 | zero => exact ⟨h, fun e => by omega⟩
 | succ k =>
  simp only [lkill] at h
  split at h
  ·rename_i x q
   rw [lget_set (lget_lt q)] at h
   split at h
   ·cases h
   ·rename_i ne; exact ⟨h, fun e => absurd (by omega) ne⟩
  ·rename_i x q
   rw [lget_set (lget_lt q)] at h
   split at h
   ·cases h
   ·rename_i ne; exact ⟨h, fun e => absurd (by omega) ne⟩
  ·rename_i q1 q2
   refine ⟨h, fun e hc => ?_⟩
   obtain rfl : j = k := by omega
   cases v with
   | long x => exact q1 _ h
   | double x => exact q2 _ h
   | _ => simp [Value.category] at hc
theorem qv_cat (ad : Nat → Addr) (v : Value) : (qv ad v).category = v.category := by cases v <;> rfl
def kA (C : Array Slot) (k j : Nat) : Prop := k = j + 1 ∧ C[k]? = some .second
def kB (C : Array Slot) (k j : Nat) : Prop := j = k + 1 ∧ ∃ u, C[k]? = some (.val u) ∧ u.category = 2
def kD (C : Array Slot) (k j : Nat) : Prop := j = k + 2 ∧ ∃ u, C[k + 1]? = some (.val u) ∧ u.category = 2
theorem set1_at {C D : Array Slot} {k : Nat} {w : Value} (hk : k < C.size) (hw : w.category = 1) (h : storeLocals C k w = some D) :
  D.size = C.size ∧ D[k]? = some (.val w) ∧ ∀ j, j ≠ k → (D[j]? = C[j]? ∧ ¬ kA C k j ∧ ¬ kB C k j) ∨ D[j]? = some .unset ∧ (kA C k j ∨ kB C k j) := by
 have hck : C[k]? = some C[k] := Array.getElem?_eq_getElem hk
 unfold storeLocals at h
 simp only [hck, Option.bind_eq_bind, Option.bind_some] at h
 have self : ∀ {E : Array Slot}, k < E.size → storeSelf E k w = some D → D = E.setIfInBounds k (.val w) := by
  intro E hE q
  simp only [storeSelf, setAt, hE, if_true, Option.bind_eq_bind, Option.bind_some, hw] at q
  simpa using q.symm
 split at h
 ·rename_i q
  have hk1 : k - 1 < C.size := by omega
  simp only [setAt, hk1, if_true, Option.bind_some] at h
  have e := self (by simpa using hk) h
  subst e
  refine ⟨by simp, by simp [hk], fun j hj => ?_⟩
  by_cases ej : k = j + 1
  ·refine Or.inr ⟨?_, Or.inl ⟨ej, by rw [hck, q]⟩⟩
   rw [Array.getElem?_setIfInBounds_ne (Ne.symm hj), show j = k - 1 by omega]
   simp [hk1]
  ·refine Or.inl ⟨?_, fun x => ej x.1, fun x => ?_⟩
   ·rw [Array.getElem?_setIfInBounds_ne (Ne.symm hj), Array.getElem?_setIfInBounds_ne (by omega)]
   ·obtain ⟨-, u, x1, -⟩ := x
    rw [hck, q] at x1; cases x1
 ·rename_i u q
  split at h
  ·rename_i hu
   by_cases hk1 : k + 1 < C.size
   ·simp only [setAt, hk1, if_true, Option.bind_some] at h
    have e := self (by simpa using hk) h
    subst e
    refine ⟨by simp, by simp [hk], fun j hj => ?_⟩
    by_cases ej : j = k + 1
    ·refine Or.inr ⟨?_, Or.inr ⟨ej, u, by rw [hck, q], hu⟩⟩
     rw [Array.getElem?_setIfInBounds_ne (Ne.symm hj), ej]
     simp [hk1]
    ·refine Or.inl ⟨?_, fun x => ?_, fun x => ej x.1⟩
     ·rw [Array.getElem?_setIfInBounds_ne (Ne.symm hj), Array.getElem?_setIfInBounds_ne (by omega)]
     ·obtain ⟨-, x1⟩ := x
      rw [hck, q] at x1; cases x1
   ·simp [setAt, hk1] at h
  ·rename_i hu
   have e := self hk h
   subst e
   refine ⟨by simp, by simp [hk], fun j hj => Or.inl ⟨Array.getElem?_setIfInBounds_ne (Ne.symm hj), fun x => ?_, fun x => ?_⟩⟩
   ·obtain ⟨-, x1⟩ := x
    rw [hck, q] at x1; cases x1
   ·obtain ⟨-, u', x1, x2⟩ := x
    rw [hck, q] at x1; cases x1; exact hu x2
 ·rename_i q
  have e := self hk h
  subst e
  refine ⟨by simp, by simp [hk], fun j hj => Or.inl ⟨Array.getElem?_setIfInBounds_ne (Ne.symm hj), fun x => ?_, fun x => ?_⟩⟩
  ·obtain ⟨-, x1⟩ := x
   rw [hck, q] at x1; cases x1
  ·obtain ⟨-, u', x1, x2⟩ := x
   rw [hck, q] at x1; cases x1
theorem set2_at {C D : Array Slot} {k : Nat} {w : Value} (hk : k + 1 < C.size) (hw : w.category = 2) (wf : ∀ k w, C[k]? = some (.val w) → w.category = 2 → C[k + 1]? = some .second) (h : storeLocals C k w = some D) :
  D.size = C.size ∧ D[k]? = some (.val w) ∧ D[k + 1]? = some .second ∧ ∀ j, j ≠ k → j ≠ k + 1 → (D[j]? = C[j]? ∧ ¬ kA C k j ∧ ¬ kD C k j) ∨ D[j]? = some .unset ∧ (kA C k j ∨ kD C k j) := by
 have hk0 : k < C.size := by omega
 have hck : C[k]? = some C[k] := Array.getElem?_eq_getElem hk0
 unfold storeLocals at h
 simp only [hck, Option.bind_eq_bind, Option.bind_some] at h
 have self : ∀ {E : Array Slot}, E.size = C.size → storeSelf E k w = some D → D.size = C.size ∧ D[k]? = some (.val w) ∧ D[k + 1]? = some .second ∧ ∀ j, j ≠ k → j ≠ k + 1 → (D[j]? = E[j]? ∧ ¬ kD E k j) ∨ D[j]? = some .unset ∧ kD E k j := by
  intro E hs q
  have h1 : k < E.size := by omega
  have h2 : k + 1 < E.size := by omega
  have h3 : (E.setIfInBounds k (.val w))[k + 1]? = some E[k + 1] := by rw [Array.getElem?_setIfInBounds_ne (by omega)]; exact Array.getElem?_eq_getElem h2
  simp only [storeSelf, setAt, h1, if_true, Option.bind_eq_bind, Option.bind_some, hw, h3] at q
  have plain : (¬ ∃ u, E[k + 1]? = some (.val u) ∧ u.category = 2) → some ((E.setIfInBounds k (.val w)).setIfInBounds (k + 1) .second) = some D → D.size = C.size ∧ D[k]? = some (.val w) ∧ D[k + 1]? = some .second ∧ ∀ j, j ≠ k → j ≠ k + 1 → (D[j]? = E[j]? ∧ ¬ kD E k j) ∨ D[j]? = some .unset ∧ kD E k j := by
   intro no q
   cases q
   refine ⟨by simp [hs], ?_, ?_, fun j hj hj1 => Or.inl ⟨?_, fun x => no x.2⟩⟩
   ·rw [Array.getElem?_setIfInBounds_ne (by omega)]; simp [h1]
   ·simp [h2]
   ·rw [Array.getElem?_setIfInBounds_ne (by omega), Array.getElem?_setIfInBounds_ne (by omega)]
  split at q
  ·rename_i u hu
   split at q
   ·rename_i hu2
    by_cases h5 : k + 2 < E.size
    ·simp [h5, h2] at q
     cases q
     refine ⟨by simp [hs], ?_, ?_, fun j hj hj1 => ?_⟩
     ·rw [Array.getElem?_setIfInBounds_ne (by omega), Array.getElem?_setIfInBounds_ne (by omega)]; simp [h1]
     ·simp [h2]
     ·by_cases e : j = k + 2
      ·refine Or.inr ⟨?_, e, u, by rw [Array.getElem?_eq_getElem h2, hu], hu2⟩
       rw [Array.getElem?_setIfInBounds_ne (by omega), e]
       simp [h5]
      ·refine Or.inl ⟨?_, fun x => e x.1⟩
       rw [Array.getElem?_setIfInBounds_ne (by omega), Array.getElem?_setIfInBounds_ne (by omega), Array.getElem?_setIfInBounds_ne (by omega)]
    ·simp [h5] at q
   ·rename_i hu2
    refine plain ?_ (by simpa [h2] using q)
    rintro ⟨u', x1, x2⟩
    rw [Array.getElem?_eq_getElem h2, hu] at x1; cases x1; exact hu2 x2
  ·rename_i hu
   refine plain ?_ (by simpa [h2] using q)
   rintro ⟨u', x1, x2⟩
   rw [Array.getElem?_eq_getElem h2] at x1; exact hu _ (Option.some.inj x1)
 split at h
 ·rename_i q
  have hk1 : k - 1 < C.size := by omega
  simp only [setAt, hk1, if_true, Option.bind_some] at h
  obtain ⟨e1, e2, e3, e4⟩ := self (by simp) h
  refine ⟨e1, e2, e3, fun j hj hj1 => ?_⟩
  have h6 : ∀ i, i + 1 ≠ k ∨ k = 0 → i ≠ k ∨ k ≠ 0 → (C.setIfInBounds (k - 1) Slot.unset)[i]? = C[i]? := fun i hi hi2 => Array.getElem?_setIfInBounds_ne (by omega)
  have h7 : (C.setIfInBounds (k - 1) Slot.unset)[k + 1]? = C[k + 1]? := Array.getElem?_setIfInBounds_ne (by omega)
  rcases e4 j hj hj1 with ⟨r, r'⟩ | ⟨r, r1, u, r2, r3⟩
  ·by_cases ej : k = j + 1
   ·refine Or.inr ⟨?_, Or.inl ⟨ej, by rw [hck, q]⟩⟩
    rw [r, show j = k - 1 by omega]; simp [hk1]
   ·refine Or.inl ⟨by rw [r]; exact h6 _ (by omega) (by omega), fun x => ej x.1, fun x => r' ⟨x.1, ?_⟩⟩
    rw [h7]; exact x.2
  ·exact Or.inr ⟨r, Or.inr ⟨r1, u, by rw [← h7]; exact r2, r3⟩⟩
 ·rename_i u q
  split at h
  ·rename_i hu
   simp only [setAt, hk, if_true, Option.bind_some] at h
   obtain ⟨e1, e2, e3, e4⟩ := self (by simp) h
   have hsec := wf k u (by rw [hck, q]) hu
   refine ⟨e1, e2, e3, fun j hj hj1 => ?_⟩
   rcases e4 j hj hj1 with ⟨r, r'⟩ | ⟨r, r1, u', r2, r3⟩
   ·refine Or.inl ⟨by rw [r]; exact Array.getElem?_setIfInBounds_ne (by omega), fun x => ?_, fun x => ?_⟩
    ·obtain ⟨-, x1⟩ := x
     rw [hck, q] at x1; cases x1
    ·obtain ⟨-, u', x1, x2⟩ := x
     rw [hsec] at x1; cases x1
   ·simp [hk] at r2
  ·rename_i hu
   obtain ⟨e1, e2, e3, e4⟩ := self rfl h
   refine ⟨e1, e2, e3, fun j hj hj1 => ?_⟩
   rcases e4 j hj hj1 with ⟨r, r'⟩ | ⟨r, r'⟩
   ·refine Or.inl ⟨r, fun x => ?_, r'⟩
    obtain ⟨-, x1⟩ := x
    rw [hck, q] at x1; cases x1
   ·exact Or.inr ⟨r, Or.inr r'⟩
 ·rename_i q
  obtain ⟨e1, e2, e3, e4⟩ := self rfl h
  refine ⟨e1, e2, e3, fun j hj hj1 => ?_⟩
  rcases e4 j hj hj1 with ⟨r, r'⟩ | ⟨r, r'⟩
  ·refine Or.inl ⟨r, fun x => ?_, r'⟩
   obtain ⟨-, x1⟩ := x
   rw [hck, q] at x1; cases x1
  ·exact Or.inr ⟨r, Or.inr r'⟩
theorem store_some {C : Array Slot} {k : Nat} {w : Value} (hk : k + (w.category - 1) < C.size) (hc : w.category = 1 ∨ w.category = 2) (wf : ∀ k w, C[k]? = some (.val w) → w.category = 2 → C[k + 1]? = some .second) :
  ∃ D, storeLocals C k w = some D := by
 have hk0 : k < C.size := by omega
 have hck : C[k]? = some C[k] := Array.getElem?_eq_getElem hk0
 have self : ∀ {E : Array Slot}, E.size = C.size → (∀ u, E[k + 1]? = some (.val u) → u.category = 2 → k + 2 < E.size) → ∃ D, storeSelf E k w = some D := by
  intro E hs hn
  have h1 : k < E.size := by omega
  simp only [storeSelf, setAt, h1, if_true, Option.bind_eq_bind, Option.bind_some]
  rcases hc with hc | hc
  ·exact ⟨E.setIfInBounds k (.val w), by simp [hc]⟩
  ·have h2 : k + 1 < E.size := by omega
   have h3 : (E.setIfInBounds k (.val w))[k + 1]? = some E[k + 1] := by rw [Array.getElem?_setIfInBounds_ne (by omega)]; exact Array.getElem?_eq_getElem h2
   simp only [hc, if_true, h3, Option.bind_some]
   split
   ·rename_i u hu
    split
    ·rename_i hu2
     have h5 := hn u (by rw [Array.getElem?_eq_getElem h2, hu]) hu2
     exact ⟨_, by simp [h5, h2]; rfl⟩
    ·exact ⟨_, by simp [h2]; rfl⟩
   ·exact ⟨_, by simp [h2]; rfl⟩
 have next : ∀ u, C[k + 1]? = some (.val u) → u.category = 2 → k + 2 < C.size := fun u h1 h2 => (Array.getElem?_eq_some_iff.mp (wf _ _ h1 h2)).1
 unfold storeLocals
 simp only [hck, Option.bind_eq_bind, Option.bind_some]
 split
 ·have hk1 : k - 1 < C.size := by omega
  simp only [setAt, hk1, if_true, Option.bind_some]
  refine self (by simp) fun u h1 h2 => ?_
  rw [Array.getElem?_setIfInBounds_ne (by omega)] at h1
  simpa using next u h1 h2
 ·rename_i u q
  split
  ·rename_i hu
   have h5 := (Array.getElem?_eq_some_iff.mp (wf k u (by rw [hck, q]) hu)).1
   simp only [setAt, h5, if_true, Option.bind_some]
   refine self (by simp) fun u h1 h2 => ?_
   simp [h5] at h1
  ·exact self rfl next
 ·exact self rfl next
theorem store_ok1 {ad : Nat → Addr} {L : QLoc} {C : Array Slot} {k : Nat} {v : Value} (H : QLocOk ad L C) (hv : v.category = 1) (hk : k < L.length) :
  ∃ D, storeLocals C k (qv ad v) = some D ∧ QLocOk ad ((lkill L k).set k (some v)) D ∧ D.size = C.size := by
 obtain ⟨H1, H2, H3, H4⟩ := H
 have hc : (qv ad v).category = 1 := by rw [qv_cat, hv]
 obtain ⟨D, hD⟩ := store_some (C := C) (k := k) (w := qv ad v) (by rw [hc]; omega) (Or.inl hc) H3
 obtain ⟨d1, d2, d3⟩ := set1_at (by omega) hc hD
 refine ⟨D, hD, ⟨by simp [lkill_len, H1, d1], fun j u hj => ?_, fun j w hj hw => ?_, fun j hj => ?_⟩, d1⟩
 ·rw [lget_set (by rw [lkill_len]; exact hk)] at hj
  split at hj
  ·rename_i e; cases hj; rw [e]; exact d2
  ·rename_i ne
   obtain ⟨g1, g2⟩ := lget_kill hj
   have g3 := H2 j u g1
   rcases d3 j ne with ⟨r, -, -⟩ | ⟨-, ⟨r1, r2⟩ | ⟨r1, w, r2, r3⟩⟩
   ·rw [r]; exact g3
   ·obtain ⟨i, w, z1, z2, z3⟩ := H4 k r2
    obtain rfl : i = j := by omega
    rw [g3] at z2
    cases z2
    rw [qv_cat] at z3
    exact absurd z3 (g2 r1)
   ·have := H3 k w r2 r3
    rw [← r1, g3] at this
    cases this
 ·by_cases e : j = k
  ·subst e; rw [d2] at hj; cases hj; rw [hc] at hw; cases hw
  ·rcases d3 j e with ⟨r, nA, nB⟩ | ⟨r, -⟩
   ·rw [r] at hj
    have g := H3 j w hj hw
    have e2 : j + 1 ≠ k := fun q => nA ⟨q.symm, by rw [← q]; exact g⟩
    rcases d3 (j + 1) e2 with ⟨z, -, -⟩ | ⟨-, ⟨z1, z2⟩ | ⟨z1, -⟩⟩
    ·rw [z]; exact g
    ·obtain ⟨i, u, y1, y2, y3⟩ := H4 k z2
     obtain rfl : i = j + 1 := by omega
     rw [g] at y2; cases y2
    ·omega
   ·rw [r] at hj; cases hj
 ·by_cases e : j = k
  ·subst e; rw [d2] at hj; cases hj
  ·rcases d3 j e with ⟨r, nA, nB⟩ | ⟨r, -⟩
   ·rw [r] at hj
    obtain ⟨i, w, y1, y2, y3⟩ := H4 j hj
    refine ⟨i, w, y1, ?_, y3⟩
    have ei : i ≠ k := fun q => nB ⟨by omega, w, by rw [← q]; exact y2, y3⟩
    rcases d3 i ei with ⟨z, -, -⟩ | ⟨-, ⟨z1, z2⟩ | ⟨z1, u, z2, z3⟩⟩
    ·rw [z]; exact y2
    ·omega
    ·have := H3 k u z2 z3
     rw [← z1, y2] at this; cases this
   ·rw [r] at hj; cases hj
theorem store_ok2 {ad : Nat → Addr} {L : QLoc} {C : Array Slot} {k : Nat} {x : Int64} (H : QLocOk ad L C) (hk : k + 1 < L.length) :
  ∃ D, storeLocals C k (.long x) = some D ∧ QLocOk ad (((lkill L k).set k (some (.long x))).set (k + 1) none) D ∧ D.size = C.size := by
 obtain ⟨H1, H2, H3, H4⟩ := H
 have hc : (Value.long x).category = 2 := rfl
 obtain ⟨D, hD⟩ := store_some (C := C) (k := k) (w := .long x) (by rw [hc]; omega) (Or.inr hc) H3
 obtain ⟨d1, d2, d2', d3⟩ := set2_at (by omega) hc H3 hD
 refine ⟨D, hD, ⟨by simp [lkill_len, H1, d1], fun j u hj => ?_, fun j w hj hw => ?_, fun j hj => ?_⟩, d1⟩
 ·rw [lget_set (by simp [lkill_len]; exact hk)] at hj
  split at hj
  ·cases hj
  ·rename_i ne1
   rw [lget_set (by rw [lkill_len]; omega)] at hj
   split at hj
   ·rename_i e; cases hj; rw [e]; exact d2
   ·rename_i ne
    obtain ⟨g1, g2⟩ := lget_kill hj
    have g3 := H2 j u g1
    rcases d3 j ne ne1 with ⟨r, -, -⟩ | ⟨-, ⟨r1, r2⟩ | ⟨r1, w, r2, r3⟩⟩
    ·rw [r]; exact g3
    ·obtain ⟨i, w, z1, z2, z3⟩ := H4 k r2
     obtain rfl : i = j := by omega
     rw [g3] at z2
     cases z2
     rw [qv_cat] at z3
     exact absurd z3 (g2 r1)
    ·have := H3 (k + 1) w r2 r3
     rw [show k + 1 + 1 = j by omega, g3] at this
     cases this
 ·by_cases e : j = k
  ·rw [e]; exact d2'
  ·by_cases e1 : j = k + 1
   ·rw [e1, d2'] at hj; cases hj
   ·rcases d3 j e e1 with ⟨r, nA, nB⟩ | ⟨r, -⟩
    ·rw [r] at hj
     have g := H3 j w hj hw
     have e2 : j + 1 ≠ k := fun q => nA ⟨q.symm, by rw [← q]; exact g⟩
     rcases d3 (j + 1) e2 (by omega) with ⟨z, -, -⟩ | ⟨-, ⟨z1, z2⟩ | ⟨z1, -⟩⟩
     ·rw [z]; exact g
     ·obtain ⟨i, u, y1, y2, y3⟩ := H4 k z2
      obtain rfl : i = j + 1 := by omega
      rw [g] at y2; cases y2
     ·omega
    ·rw [r] at hj; cases hj
 ·by_cases e : j = k
  ·rw [e, d2] at hj; cases hj
  ·by_cases e1 : j = k + 1
   ·exact ⟨k, _, e1, d2, hc⟩
   ·rcases d3 j e e1 with ⟨r, nA, nB⟩ | ⟨r, -⟩
    ·rw [r] at hj
     obtain ⟨i, w, y1, y2, y3⟩ := H4 j hj
     refine ⟨i, w, y1, ?_, y3⟩
     have ei : i ≠ k := fun q => e1 (by omega)
     have ei1 : i ≠ k + 1 := fun q => nB ⟨by omega, w, by rw [← q]; exact y2, y3⟩
     rcases d3 i ei ei1 with ⟨z, -, -⟩ | ⟨-, ⟨z1, z2⟩ | ⟨z1, u, z2, z3⟩⟩
     ·rw [z]; exact y2
     ·omega
     ·have := H3 (k + 1) u z2 z3
      rw [show k + 1 + 1 = i by omega, y2] at this; cases this
    ·rw [r] at hj; cases hj
theorem store_ok {ad : Nat → Addr} {L L' : QLoc} {C : Array Slot} {k : Nat} {v : Value} (H : QLocOk ad L C) (h : lput L k v = some L') :
  ∃ D, storeLocals C k (qv ad v) = some D ∧ QLocOk ad L' D ∧ D.size = C.size := by
 have one : v.category = 1 → (bif Nat.ble (k + 1) L.length then some ((lkill L k).set k (some v)) else none) = some L' → ∃ D, storeLocals C k (qv ad v) = some D ∧ QLocOk ad L' D ∧ D.size = C.size := by
  intro hv h
  cases hb : Nat.ble (k + 1) L.length with
  | false => rw [hb] at h; cases h
  | true => rw [hb] at h; cases h; exact store_ok1 H hv (Nat.le_of_ble_eq_true hb)
 cases v with
 | long x =>
  simp only [lput] at h
  cases hb : Nat.ble (k + 2) L.length with
  | false => rw [hb] at h; cases h
  | true => rw [hb] at h; cases h; exact store_ok2 H (Nat.le_of_ble_eq_true hb)
 | double x => simp [lput] at h
 | int x => exact one rfl h
 | float x => exact one rfl h
 | null => exact one rfl h
 | ref x => exact one rfl h
 | retAddr x => exact one rfl h
theorem fInj : ∀ i, i < nF → ∀ j, j < nF → fNm i = fNm j → i = j := by decide +kernel
theorem fPrs : ∀ i, i < nF → parseFieldDescriptor (fDs i) = some (fTy i) := by decide +kernel
theorem cDefs : ∀ i, i < nF → vget cDef i = some (defaultValue (fTy i)) := by decide +kernel
theorem cDefL : cDef.length = nF := by decide +kernel
theorem fDef : ∀ i, i < nF → ∀ a, defaultValue (fTy i) ≠ .ref a := by
 intro i _ a
 cases fTy i <;> simp [defaultValue]
theorem kPlain : ∀ k, k < 2 → plainName (kName k) = true := by
 intro k hk
 rcases k with _ | _ | k
 ·first | decide +kernel | (simp [kName, plainName, overriddenIn]; done)
 ·first | decide +kernel | (simp [kName, plainName, overriddenIn]; done)
 ·omega
theorem pKlt : ∀ m, m < pN → pK m < 2 := by decide +kernel
theorem pSig : ∀ m, m < pN → (parseMethodDescriptor (pDs m)).map (fun sg => sg.parameters.length) = some (pNA m) := by decide +kernel
theorem pOwn : ∀ k, k < 2 → kName k ≠ "java/lang/invoke/MethodHandle" ∧ kName k ≠ "java/lang/invoke/VarHandle" := by decide +kernel
theorem mAlt : ∀ m ∈ mA, m < pN := by decide +kernel
theorem mVlt : ∀ m ∈ mV, m ∈ mA ∧ pK m = 1 := by decide +kernel
theorem mPlt : ∀ m ∈ mP, m ∈ mA ∧ pK m = 1 := by decide +kernel
theorem mSlt : ∀ m ∈ mS, m ∈ mA := by decide +kernel
theorem mIlt : ∀ m ∈ mI, m ∈ mA ∧ pK m = 1 ∧ pNm m = "<init>" ∧ pRet m = none := by decide +kernel
theorem kOne : kName 1 = cName := rfl
def pX (m pc : Nat) : Bool := match pCode m pc with | some t => qchk m pc t.1 t.2 | none => true
set_option maxRecDepth 100000 in
set_option maxHeartbeats 4000000 in
theorem pC0_0 : ∀ q, q < 128 → pX 0 (0 + q) = true := by decide +kernel
set_option maxRecDepth 100000 in
set_option maxHeartbeats 4000000 in
theorem pC0_128 : ∀ q, q < 28 → pX 0 (128 + q) = true := by decide +kernel
theorem pCm0 (pc : Nat) (h : pc < pTop 0) : pX 0 pc = true := by
 replace h : pc < 156 := h
 by_cases h0 : pc < 128
 ·have q := pC0_0 (pc - 0) (by omega)
  rwa [show 0 + (pc - 0) = pc from by omega] at q
 have q := pC0_128 (pc - 128) (by omega)
 rwa [show 128 + (pc - 128) = pc from by omega] at q
set_option maxRecDepth 100000 in
set_option maxHeartbeats 4000000 in
theorem pC1_0 : ∀ q, q < 128 → pX 1 (0 + q) = true := by decide +kernel
set_option maxRecDepth 100000 in
set_option maxHeartbeats 4000000 in
theorem pC1_128 : ∀ q, q < 128 → pX 1 (128 + q) = true := by decide +kernel
set_option maxRecDepth 100000 in
set_option maxHeartbeats 4000000 in
theorem pC1_256 : ∀ q, q < 28 → pX 1 (256 + q) = true := by decide +kernel
theorem pCm1 (pc : Nat) (h : pc < pTop 1) : pX 1 pc = true := by
 replace h : pc < 284 := h
 by_cases h0 : pc < 128
 ·have q := pC1_0 (pc - 0) (by omega)
  rwa [show 0 + (pc - 0) = pc from by omega] at q
 by_cases h128 : pc < 256
 ·have q := pC1_128 (pc - 128) (by omega)
  rwa [show 128 + (pc - 128) = pc from by omega] at q
 have q := pC1_256 (pc - 256) (by omega)
 rwa [show 256 + (pc - 256) = pc from by omega] at q
set_option maxRecDepth 100000 in
set_option maxHeartbeats 4000000 in
theorem pC2_0 : ∀ q, q < 16 → pX 2 (0 + q) = true := by decide +kernel
theorem pCm2 (pc : Nat) (h : pc < pTop 2) : pX 2 pc = true := by
 replace h : pc < 16 := h
 have q := pC2_0 (pc - 0) (by omega)
 rwa [show 0 + (pc - 0) = pc from by omega] at q
set_option maxRecDepth 100000 in
set_option maxHeartbeats 4000000 in
theorem pC3_0 : ∀ q, q < 61 → pX 3 (0 + q) = true := by decide +kernel
theorem pCm3 (pc : Nat) (h : pc < pTop 3) : pX 3 pc = true := by
 replace h : pc < 61 := h
 have q := pC3_0 (pc - 0) (by omega)
 rwa [show 0 + (pc - 0) = pc from by omega] at q
set_option maxRecDepth 100000 in
set_option maxHeartbeats 4000000 in
theorem pC4_0 : ∀ q, q < 21 → pX 4 (0 + q) = true := by decide +kernel
theorem pCm4 (pc : Nat) (h : pc < pTop 4) : pX 4 pc = true := by
 replace h : pc < 21 := h
 have q := pC4_0 (pc - 0) (by omega)
 rwa [show 0 + (pc - 0) = pc from by omega] at q
set_option maxRecDepth 100000 in
set_option maxHeartbeats 4000000 in
theorem pC5_0 : ∀ q, q < 67 → pX 5 (0 + q) = true := by decide +kernel
theorem pCm5 (pc : Nat) (h : pc < pTop 5) : pX 5 pc = true := by
 replace h : pc < 67 := h
 have q := pC5_0 (pc - 0) (by omega)
 rwa [show 0 + (pc - 0) = pc from by omega] at q
set_option maxRecDepth 100000 in
set_option maxHeartbeats 4000000 in
theorem pC6_0 : ∀ q, q < 128 → pX 6 (0 + q) = true := by decide +kernel
set_option maxRecDepth 100000 in
set_option maxHeartbeats 4000000 in
theorem pC6_128 : ∀ q, q < 79 → pX 6 (128 + q) = true := by decide +kernel
theorem pCm6 (pc : Nat) (h : pc < pTop 6) : pX 6 pc = true := by
 replace h : pc < 207 := h
 by_cases h0 : pc < 128
 ·have q := pC6_0 (pc - 0) (by omega)
  rwa [show 0 + (pc - 0) = pc from by omega] at q
 have q := pC6_128 (pc - 128) (by omega)
 rwa [show 128 + (pc - 128) = pc from by omega] at q
set_option maxRecDepth 100000 in
set_option maxHeartbeats 4000000 in
theorem pC7_0 : ∀ q, q < 89 → pX 7 (0 + q) = true := by decide +kernel
theorem pCm7 (pc : Nat) (h : pc < pTop 7) : pX 7 pc = true := by
 replace h : pc < 89 := h
 have q := pC7_0 (pc - 0) (by omega)
 rwa [show 0 + (pc - 0) = pc from by omega] at q
set_option maxRecDepth 100000 in
set_option maxHeartbeats 4000000 in
theorem pC8_0 : ∀ q, q < 128 → pX 8 (0 + q) = true := by decide +kernel
set_option maxRecDepth 100000 in
set_option maxHeartbeats 4000000 in
theorem pC8_128 : ∀ q, q < 82 → pX 8 (128 + q) = true := by decide +kernel
theorem pCm8 (pc : Nat) (h : pc < pTop 8) : pX 8 pc = true := by
 replace h : pc < 210 := h
 by_cases h0 : pc < 128
 ·have q := pC8_0 (pc - 0) (by omega)
  rwa [show 0 + (pc - 0) = pc from by omega] at q
 have q := pC8_128 (pc - 128) (by omega)
 rwa [show 128 + (pc - 128) = pc from by omega] at q
set_option maxRecDepth 100000 in
set_option maxHeartbeats 4000000 in
theorem pC9_0 : ∀ q, q < 77 → pX 9 (0 + q) = true := by decide +kernel
theorem pCm9 (pc : Nat) (h : pc < pTop 9) : pX 9 pc = true := by
 replace h : pc < 77 := h
 have q := pC9_0 (pc - 0) (by omega)
 rwa [show 0 + (pc - 0) = pc from by omega] at q
set_option maxRecDepth 100000 in
set_option maxHeartbeats 4000000 in
theorem pC10_0 : ∀ q, q < 128 → pX 10 (0 + q) = true := by decide +kernel
set_option maxRecDepth 100000 in
set_option maxHeartbeats 4000000 in
theorem pC10_128 : ∀ q, q < 109 → pX 10 (128 + q) = true := by decide +kernel
theorem pCm10 (pc : Nat) (h : pc < pTop 10) : pX 10 pc = true := by
 replace h : pc < 237 := h
 by_cases h0 : pc < 128
 ·have q := pC10_0 (pc - 0) (by omega)
  rwa [show 0 + (pc - 0) = pc from by omega] at q
 have q := pC10_128 (pc - 128) (by omega)
 rwa [show 128 + (pc - 128) = pc from by omega] at q
set_option maxRecDepth 100000 in
set_option maxHeartbeats 4000000 in
theorem pC11_0 : ∀ q, q < 5 → pX 11 (0 + q) = true := by decide +kernel
theorem pCm11 (pc : Nat) (h : pc < pTop 11) : pX 11 pc = true := by
 replace h : pc < 5 := h
 have q := pC11_0 (pc - 0) (by omega)
 rwa [show 0 + (pc - 0) = pc from by omega] at q
set_option maxRecDepth 100000 in
set_option maxHeartbeats 4000000 in
theorem pC12_0 : ∀ q, q < 5 → pX 12 (0 + q) = true := by decide +kernel
theorem pCm12 (pc : Nat) (h : pc < pTop 12) : pX 12 pc = true := by
 replace h : pc < 5 := h
 have q := pC12_0 (pc - 0) (by omega)
 rwa [show 0 + (pc - 0) = pc from by omega] at q
set_option maxRecDepth 100000 in
set_option maxHeartbeats 4000000 in
theorem pC13_0 : ∀ q, q < 20 → pX 13 (0 + q) = true := by decide +kernel
theorem pCm13 (pc : Nat) (h : pc < pTop 13) : pX 13 pc = true := by
 replace h : pc < 20 := h
 have q := pC13_0 (pc - 0) (by omega)
 rwa [show 0 + (pc - 0) = pc from by omega] at q
set_option maxRecDepth 100000 in
set_option maxHeartbeats 4000000 in
theorem pC14_0 : ∀ q, q < 21 → pX 14 (0 + q) = true := by decide +kernel
theorem pCm14 (pc : Nat) (h : pc < pTop 14) : pX 14 pc = true := by
 replace h : pc < 21 := h
 have q := pC14_0 (pc - 0) (by omega)
 rwa [show 0 + (pc - 0) = pc from by omega] at q
set_option maxRecDepth 100000 in
set_option maxHeartbeats 4000000 in
theorem pC15_0 : ∀ q, q < 15 → pX 15 (0 + q) = true := by decide +kernel
theorem pCm15 (pc : Nat) (h : pc < pTop 15) : pX 15 pc = true := by
 replace h : pc < 15 := h
 have q := pC15_0 (pc - 0) (by omega)
 rwa [show 0 + (pc - 0) = pc from by omega] at q
set_option maxRecDepth 100000 in
set_option maxHeartbeats 4000000 in
theorem pC16_0 : ∀ q, q < 114 → pX 16 (0 + q) = true := by decide +kernel
theorem pCm16 (pc : Nat) (h : pc < pTop 16) : pX 16 pc = true := by
 replace h : pc < 114 := h
 have q := pC16_0 (pc - 0) (by omega)
 rwa [show 0 + (pc - 0) = pc from by omega] at q
set_option maxRecDepth 100000 in
set_option maxHeartbeats 4000000 in
theorem pC17_0 : ∀ q, q < 22 → pX 17 (0 + q) = true := by decide +kernel
theorem pCm17 (pc : Nat) (h : pc < pTop 17) : pX 17 pc = true := by
 replace h : pc < 22 := h
 have q := pC17_0 (pc - 0) (by omega)
 rwa [show 0 + (pc - 0) = pc from by omega] at q
set_option maxRecDepth 100000 in
set_option maxHeartbeats 4000000 in
theorem pC18_0 : ∀ q, q < 28 → pX 18 (0 + q) = true := by decide +kernel
theorem pCm18 (pc : Nat) (h : pc < pTop 18) : pX 18 pc = true := by
 replace h : pc < 28 := h
 have q := pC18_0 (pc - 0) (by omega)
 rwa [show 0 + (pc - 0) = pc from by omega] at q
set_option maxRecDepth 100000 in
set_option maxHeartbeats 4000000 in
theorem pC19_0 : ∀ q, q < 59 → pX 19 (0 + q) = true := by decide +kernel
theorem pCm19 (pc : Nat) (h : pc < pTop 19) : pX 19 pc = true := by
 replace h : pc < 59 := h
 have q := pC19_0 (pc - 0) (by omega)
 rwa [show 0 + (pc - 0) = pc from by omega] at q
set_option maxRecDepth 100000 in
set_option maxHeartbeats 4000000 in
theorem pC20_0 : ∀ q, q < 128 → pX 20 (0 + q) = true := by decide +kernel
set_option maxRecDepth 100000 in
set_option maxHeartbeats 4000000 in
theorem pC20_128 : ∀ q, q < 7 → pX 20 (128 + q) = true := by decide +kernel
theorem pCm20 (pc : Nat) (h : pc < pTop 20) : pX 20 pc = true := by
 replace h : pc < 135 := h
 by_cases h0 : pc < 128
 ·have q := pC20_0 (pc - 0) (by omega)
  rwa [show 0 + (pc - 0) = pc from by omega] at q
 have q := pC20_128 (pc - 128) (by omega)
 rwa [show 128 + (pc - 128) = pc from by omega] at q
set_option maxRecDepth 100000 in
set_option maxHeartbeats 4000000 in
theorem pC21_0 : ∀ q, q < 21 → pX 21 (0 + q) = true := by decide +kernel
theorem pCm21 (pc : Nat) (h : pc < pTop 21) : pX 21 pc = true := by
 replace h : pc < 21 := h
 have q := pC21_0 (pc - 0) (by omega)
 rwa [show 0 + (pc - 0) = pc from by omega] at q
set_option maxRecDepth 100000 in
set_option maxHeartbeats 4000000 in
theorem pC22_0 : ∀ q, q < 26 → pX 22 (0 + q) = true := by decide +kernel
theorem pCm22 (pc : Nat) (h : pc < pTop 22) : pX 22 pc = true := by
 replace h : pc < 26 := h
 have q := pC22_0 (pc - 0) (by omega)
 rwa [show 0 + (pc - 0) = pc from by omega] at q
set_option maxRecDepth 100000 in
set_option maxHeartbeats 4000000 in
theorem pC23_0 : ∀ q, q < 62 → pX 23 (0 + q) = true := by decide +kernel
theorem pCm23 (pc : Nat) (h : pc < pTop 23) : pX 23 pc = true := by
 replace h : pc < 62 := h
 have q := pC23_0 (pc - 0) (by omega)
 rwa [show 0 + (pc - 0) = pc from by omega] at q
set_option maxRecDepth 100000 in
set_option maxHeartbeats 4000000 in
theorem pC24_0 : ∀ q, q < 72 → pX 24 (0 + q) = true := by decide +kernel
theorem pCm24 (pc : Nat) (h : pc < pTop 24) : pX 24 pc = true := by
 replace h : pc < 72 := h
 have q := pC24_0 (pc - 0) (by omega)
 rwa [show 0 + (pc - 0) = pc from by omega] at q
set_option maxRecDepth 100000 in
set_option maxHeartbeats 4000000 in
theorem pC25_0 : ∀ q, q < 128 → pX 25 (0 + q) = true := by decide +kernel
set_option maxRecDepth 100000 in
set_option maxHeartbeats 4000000 in
theorem pC25_128 : ∀ q, q < 6 → pX 25 (128 + q) = true := by decide +kernel
theorem pCm25 (pc : Nat) (h : pc < pTop 25) : pX 25 pc = true := by
 replace h : pc < 134 := h
 by_cases h0 : pc < 128
 ·have q := pC25_0 (pc - 0) (by omega)
  rwa [show 0 + (pc - 0) = pc from by omega] at q
 have q := pC25_128 (pc - 128) (by omega)
 rwa [show 128 + (pc - 128) = pc from by omega] at q
set_option maxRecDepth 100000 in
set_option maxHeartbeats 4000000 in
theorem pC26_0 : ∀ q, q < 69 → pX 26 (0 + q) = true := by decide +kernel
theorem pCm26 (pc : Nat) (h : pc < pTop 26) : pX 26 pc = true := by
 replace h : pc < 69 := h
 have q := pC26_0 (pc - 0) (by omega)
 rwa [show 0 + (pc - 0) = pc from by omega] at q
set_option maxRecDepth 100000 in
set_option maxHeartbeats 4000000 in
theorem pC27_0 : ∀ q, q < 128 → pX 27 (0 + q) = true := by decide +kernel
set_option maxRecDepth 100000 in
set_option maxHeartbeats 4000000 in
theorem pC27_128 : ∀ q, q < 51 → pX 27 (128 + q) = true := by decide +kernel
theorem pCm27 (pc : Nat) (h : pc < pTop 27) : pX 27 pc = true := by
 replace h : pc < 179 := h
 by_cases h0 : pc < 128
 ·have q := pC27_0 (pc - 0) (by omega)
  rwa [show 0 + (pc - 0) = pc from by omega] at q
 have q := pC27_128 (pc - 128) (by omega)
 rwa [show 128 + (pc - 128) = pc from by omega] at q
set_option maxRecDepth 100000 in
set_option maxHeartbeats 4000000 in
theorem pC28_0 : ∀ q, q < 52 → pX 28 (0 + q) = true := by decide +kernel
theorem pCm28 (pc : Nat) (h : pc < pTop 28) : pX 28 pc = true := by
 replace h : pc < 52 := h
 have q := pC28_0 (pc - 0) (by omega)
 rwa [show 0 + (pc - 0) = pc from by omega] at q
set_option maxRecDepth 100000 in
set_option maxHeartbeats 4000000 in
theorem pC29_0 : ∀ q, q < 40 → pX 29 (0 + q) = true := by decide +kernel
theorem pCm29 (pc : Nat) (h : pc < pTop 29) : pX 29 pc = true := by
 replace h : pc < 40 := h
 have q := pC29_0 (pc - 0) (by omega)
 rwa [show 0 + (pc - 0) = pc from by omega] at q
set_option maxRecDepth 100000 in
set_option maxHeartbeats 4000000 in
theorem pC30_0 : ∀ q, q < 57 → pX 30 (0 + q) = true := by decide +kernel
theorem pCm30 (pc : Nat) (h : pc < pTop 30) : pX 30 pc = true := by
 replace h : pc < 57 := h
 have q := pC30_0 (pc - 0) (by omega)
 rwa [show 0 + (pc - 0) = pc from by omega] at q
set_option maxRecDepth 100000 in
set_option maxHeartbeats 4000000 in
theorem pC31_0 : ∀ q, q < 127 → pX 31 (0 + q) = true := by decide +kernel
theorem pCm31 (pc : Nat) (h : pc < pTop 31) : pX 31 pc = true := by
 replace h : pc < 127 := h
 have q := pC31_0 (pc - 0) (by omega)
 rwa [show 0 + (pc - 0) = pc from by omega] at q
set_option maxRecDepth 100000 in
set_option maxHeartbeats 4000000 in
theorem pC32_0 : ∀ q, q < 9 → pX 32 (0 + q) = true := by decide +kernel
theorem pCm32 (pc : Nat) (h : pc < pTop 32) : pX 32 pc = true := by
 replace h : pc < 9 := h
 have q := pC32_0 (pc - 0) (by omega)
 rwa [show 0 + (pc - 0) = pc from by omega] at q
set_option maxRecDepth 100000 in
set_option maxHeartbeats 4000000 in
theorem pC33_0 : ∀ q, q < 75 → pX 33 (0 + q) = true := by decide +kernel
theorem pCm33 (pc : Nat) (h : pc < pTop 33) : pX 33 pc = true := by
 replace h : pc < 75 := h
 have q := pC33_0 (pc - 0) (by omega)
 rwa [show 0 + (pc - 0) = pc from by omega] at q
set_option maxRecDepth 100000 in
set_option maxHeartbeats 4000000 in
theorem pC34_0 : ∀ q, q < 42 → pX 34 (0 + q) = true := by decide +kernel
theorem pCm34 (pc : Nat) (h : pc < pTop 34) : pX 34 pc = true := by
 replace h : pc < 42 := h
 have q := pC34_0 (pc - 0) (by omega)
 rwa [show 0 + (pc - 0) = pc from by omega] at q
theorem pChk0 : ∀ m, m < pN → ∀ pc, pc < pTop m → (match pCode m pc with | some t => qchk m pc t.1 t.2 | none => true) = true := by
 intro m hm pc hp
 change pX m pc = true
 match m, hm, hp with
 | 0, _, hp => exact pCm0 pc hp
 | 1, _, hp => exact pCm1 pc hp
 | 2, _, hp => exact pCm2 pc hp
 | 3, _, hp => exact pCm3 pc hp
 | 4, _, hp => exact pCm4 pc hp
 | 5, _, hp => exact pCm5 pc hp
 | 6, _, hp => exact pCm6 pc hp
 | 7, _, hp => exact pCm7 pc hp
 | 8, _, hp => exact pCm8 pc hp
 | 9, _, hp => exact pCm9 pc hp
 | 10, _, hp => exact pCm10 pc hp
 | 11, _, hp => exact pCm11 pc hp
 | 12, _, hp => exact pCm12 pc hp
 | 13, _, hp => exact pCm13 pc hp
 | 14, _, hp => exact pCm14 pc hp
 | 15, _, hp => exact pCm15 pc hp
 | 16, _, hp => exact pCm16 pc hp
 | 17, _, hp => exact pCm17 pc hp
 | 18, _, hp => exact pCm18 pc hp
 | 19, _, hp => exact pCm19 pc hp
 | 20, _, hp => exact pCm20 pc hp
 | 21, _, hp => exact pCm21 pc hp
 | 22, _, hp => exact pCm22 pc hp
 | 23, _, hp => exact pCm23 pc hp
 | 24, _, hp => exact pCm24 pc hp
 | 25, _, hp => exact pCm25 pc hp
 | 26, _, hp => exact pCm26 pc hp
 | 27, _, hp => exact pCm27 pc hp
 | 28, _, hp => exact pCm28 pc hp
 | 29, _, hp => exact pCm29 pc hp
 | 30, _, hp => exact pCm30 pc hp
 | 31, _, hp => exact pCm31 pc hp
 | 32, _, hp => exact pCm32 pc hp
 | 33, _, hp => exact pCm33 pc hp
 | 34, _, hp => exact pCm34 pc hp
 | m + 35, hm, _ => exact absurd hm (by unfold pN; omega)
theorem pIn {m pc : Nat} {t : Instr × Nat} (h : pCode m pc = some t) : m < pN ∧ pc < pTop m := by
 unfold pCode at h
 cases h1 : Nat.ble pN m with
 | true => rw [h1] at h; cases h
 | false =>
  cases h2 : Nat.ble (pTop m) pc with
  | true => rw [h1, h2] at h; cases h
  | false => exact ⟨Nat.lt_of_not_le (fun q => by rw [Nat.ble_eq_true_of_le q] at h1; cases h1), Nat.lt_of_not_le (fun q => by rw [Nat.ble_eq_true_of_le q] at h2; cases h2)⟩
theorem pChk {m pc : Nat} {i : Instr} {aux : Nat} (h : pCode m pc = some (i, aux)) : qchk m pc i aux = true := by
 have q := pChk0 m (pIn h).1 pc (pIn h).2
 rw [h] at q
 exact q
theorem pDec {m pc : Nat} {i : Instr} {aux : Nat} (h : pCode m pc = some (i, aux)) : decode (pBytes m) pc = .ok (i, ilen i) := by
 have q := pChk h
 unfold qchk at q
 exact of_decide_eq_true (Bool.and_eq_true_iff.mp q).1
theorem pDecN {m pc n : Nat} {i : Instr} {aux : Nat} (h : pCode m pc = some (i, aux)) (hn : ilen i = n) : decode (pBytes m) pc = .ok (i, n) := by
 rw [← hn]; exact pDec h
theorem pRest {m pc : Nat} {i : Instr} {aux : Nat} (h : pCode m pc = some (i, aux)) : qlk m pc i aux = true := by
 have q := pChk h
 unfold qchk at q
 exact (Bool.and_eq_true_iff.mp q).2
theorem qtgt_spec {pc : Nat} {o : Int} {aux : Nat} (h : qtgt pc o aux = true) : 0 ≤ (pc : Int) + o ∧ ((pc : Int) + o).toNat = aux := by
 unfold qtgt at h
 have h2 := Bool.and_eq_true_iff.mp h
 exact ⟨of_decide_eq_true h2.1, of_decide_eq_true h2.2⟩
def QCx (Z : State) (p : Program) (R : Room) (s : State) (mid : MethodId) (meth : Method) (c : Code) (m : Nat) : Prop :=
 p.tables.exec = Jvm.exec ∧ Z.Warmed39 s.vm ∧ c.code = pBytes m ∧ c.maxLocals = pMaxL m ∧ meth.sig.returnType = pRet m ∧ s.vm.findClass (kName (pK m)) = some mid.cls ∧ meth.name = pNm m ∧ pFr m ≤ R.frames ∧ pLo m ≤ R.locals
def QTri (l : Launch) (Z : State) (n0 : Nat) (ad : Nat → Addr) (m : Nat) (st : QSt) (v : Option Value) (σ' : QHeap) : Prop :=
 st.2.2.2.length ≤ σ'.length ∧ qhs st.2.2.2 ≤ qhs σ' ∧
 ∀ (p : Program) (e : Env) (R : Room) (s : State) (mid : MethodId) (args : Array Value) (below : List Frame) (meth : Method) (c : Code) (T : State) (locs : List Loc) (cells slots : Nat) (C : Array Slot),
  QCx Z p R s mid meth c m → Stand p l e R s mid args below meth c T locs cells slots → QRep Z n0 ad T.heap st.2.2.2 → Fr n0 locs → QLocOk ad st.2.1 C → C.size = c.maxLocals →
  n0 + (st.2.2.2.length - k0) = s.heap.size + cells → cells + (σ'.length - st.2.2.2.length) ≤ R.cells → slots + (qhs σ' - qhs st.2.2.2) ≤ R.slots →
  ∃ T' locs', Stand p l e R s mid args below meth c T' locs' (cells + (σ'.length - st.2.2.2.length)) (slots + (qhs σ' - qhs st.2.2.2)) ∧ QRep Z n0 ad T'.heap σ' ∧ Fr n0 locs' ∧
   ∀ fs, (∀ (f : JFrame) (acts : List Action), f.method = mid → f.locked = none → f.entered = [] → (doReturn e (T'.setTop f) acts (v.map (qv ad))).1 = T'.setFrames fs) →
    Steps p.tables e below (T.setTop (mkF mid st.1 C (st.2.2.1.map (qv ad)))) (T'.setFrames fs)
section Triples
variable {l : Launch} {Z : State} {n0 : Nat} {ad : Nat → Addr} {a0 : Array Value} {m : Nat} {v : Option Value} {σ' : QHeap}
theorem QTri.gen {st st' : QSt} (h : QTri l Z n0 ad m st' v σ') (g1 : st.2.2.2.length ≤ st'.2.2.2.length) (g2 : qhs st.2.2.2 ≤ qhs st'.2.2.2)
  (hs : ∀ (p : Program) (e : Env) (R : Room) (s : State) (mid : MethodId) (args : Array Value) (below : List Frame) (meth : Method) (c : Code) (T : State) (locs : List Loc) (cells slots : Nat) (C : Array Slot),
   QCx Z p R s mid meth c m → Stand p l e R s mid args below meth c T locs cells slots → QRep Z n0 ad T.heap st.2.2.2 → Fr n0 locs → QLocOk ad st.2.1 C → C.size = c.maxLocals →
   n0 + (st.2.2.2.length - k0) = s.heap.size + cells → cells + (st'.2.2.2.length - st.2.2.2.length) ≤ R.cells → slots + (qhs st'.2.2.2 - qhs st.2.2.2) ≤ R.slots →
   ∃ T₁ locs₁ C₁, Stand p l e R s mid args below meth c T₁ locs₁ (cells + (st'.2.2.2.length - st.2.2.2.length)) (slots + (qhs st'.2.2.2 - qhs st.2.2.2)) ∧ QRep Z n0 ad T₁.heap st'.2.2.2 ∧ Fr n0 locs₁ ∧ QLocOk ad st'.2.1 C₁ ∧ C₁.size = c.maxLocals ∧
    ∀ target, Steps p.tables e below (T₁.setTop (mkF mid st'.1 C₁ (st'.2.2.1.map (qv ad)))) target → Steps p.tables e below (T.setTop (mkF mid st.1 C (st.2.2.1.map (qv ad)))) target) :
  QTri l Z n0 ad m st v σ' := by
 obtain ⟨h1, h2, h3⟩ := h
 refine ⟨Nat.le_trans g1 h1, Nat.le_trans g2 h2, fun p e R s mid args below meth c T locs cells slots C hcx X hR hF hL hC hn hc hsl => ?_⟩
 obtain ⟨T₁, locs₁, C₁, X₁, R₁, F₁, L₁, C1, S₁⟩ := hs p e R s mid args below meth c T locs cells slots C hcx X hR hF hL hC hn (by omega) (by omega)
 have hk := hR.1
 obtain ⟨T', locs', X', R', F', S'⟩ := h3 p e R s mid args below meth c T₁ locs₁ _ _ C₁ hcx X₁ R₁ F₁ L₁ C1 (by omega) (by omega) (by omega)
 have e1 : cells + (st'.2.2.2.length - st.2.2.2.length) + (σ'.length - st'.2.2.2.length) = cells + (σ'.length - st.2.2.2.length) := by omega
 have e2 : slots + (qhs st'.2.2.2 - qhs st.2.2.2) + (qhs σ' - qhs st'.2.2.2) = slots + (qhs σ' - qhs st.2.2.2) := by omega
 rw [e1, e2] at X'
 exact ⟨T', locs', X', R', F', fun fs hf => S₁ _ (S' fs hf)⟩
theorem QTri.pure {st st' : QSt} (h : QTri l Z n0 ad m st' v σ') (hσ : st'.2.2.2 = st.2.2.2)
  (hs : ∀ (p : Program) (e : Env) (R : Room) (s : State) (mid : MethodId) (args : Array Value) (below : List Frame) (meth : Method) (c : Code) (T : State) (locs : List Loc) (cells slots : Nat) (C : Array Slot),
   QCx Z p R s mid meth c m → Stand p l e R s mid args below meth c T locs cells slots → QRep Z n0 ad T.heap st.2.2.2 → QLocOk ad st.2.1 C → C.size = c.maxLocals →
   ∃ T₁ C₁, Stand p l e R s mid args below meth c T₁ locs cells slots ∧ T₁.heap = T.heap ∧ QLocOk ad st'.2.1 C₁ ∧ C₁.size = c.maxLocals ∧
    ∀ target, Steps p.tables e below (T₁.setTop (mkF mid st'.1 C₁ (st'.2.2.1.map (qv ad)))) target → Steps p.tables e below (T.setTop (mkF mid st.1 C (st.2.2.1.map (qv ad)))) target) :
  QTri l Z n0 ad m st v σ' := by
 refine QTri.gen h (by rw [hσ]; exact Nat.le_refl _) (by rw [hσ]; exact Nat.le_refl _) fun p e R s mid args below meth c T locs cells slots C hcx X hR hF hL hC hn hc hsl => ?_
 obtain ⟨T₁, C₁, X₁, hh, L₁, C1, S₁⟩ := hs p e R s mid args below meth c T locs cells slots C hcx X hR hL hC
 refine ⟨T₁, locs, C₁, ?_, by rw [hσ, hh]; exact hR, hF, L₁, C1, S₁⟩
 rw [hσ, Nat.sub_self, Nat.sub_self]
 exact X₁
theorem QTri.frame {pc pc' : Nat} {L L' : QLoc} {S S' : List Value} {σ : QHeap} (h : QTri l Z n0 ad m (pc', L', S', σ) v σ')
  (hs : ∀ (p : Program) (e : Env) (R : Room) (s : State) (mid : MethodId) (args : Array Value) (below : List Frame) (meth : Method) (c : Code) (T : State) (locs : List Loc) (cells slots : Nat) (C : Array Slot),
   QCx Z p R s mid meth c m → Stand p l e R s mid args below meth c T locs cells slots → QRep Z n0 ad T.heap σ → QLocOk ad L C → C.size = c.maxLocals →
   ∃ C₁, QLocOk ad L' C₁ ∧ C₁.size = c.maxLocals ∧ ∀ target, Steps p.tables e below (T.setTop (mkF mid pc' C₁ (S'.map (qv ad)))) target → Steps p.tables e below (T.setTop (mkF mid pc C (S.map (qv ad)))) target) :
  QTri l Z n0 ad m (pc, L, S, σ) v σ' :=
 QTri.pure h rfl fun p e R s mid args below meth c T locs cells slots C hcx X hR hL hC => by
  obtain ⟨C₁, h1, h2, h3⟩ := hs p e R s mid args below meth c T locs cells slots C hcx X hR hL hC
  exact ⟨T, C₁, X, rfl, h1, h2, h3⟩
theorem QTri.stack {pc pc' : Nat} {L : QLoc} {S S' : List Value} {σ : QHeap} (h : QTri l Z n0 ad m (pc', L, S', σ) v σ')
  (hs : ∀ (p : Program) (e : Env) (R : Room) (s : State) (mid : MethodId) (args : Array Value) (below : List Frame) (meth : Method) (c : Code) (T : State) (locs : List Loc) (cells slots : Nat) (C : Array Slot) (target : State),
   p.tables.exec = Jvm.exec → Z.Warmed39 s.vm → c.code = pBytes m → s.vm.findClass (kName (pK m)) = some mid.cls → Stand p l e R s mid args below meth c T locs cells slots → QRep Z n0 ad T.heap σ → QLocOk ad L C →
   Steps p.tables e below (T.setTop (mkF mid pc' C (S'.map (qv ad)))) target → Steps p.tables e below (T.setTop (mkF mid pc C (S.map (qv ad)))) target) :
  QTri l Z n0 ad m (pc, L, S, σ) v σ' :=
 QTri.frame h fun p e R s mid args below meth c T locs cells slots C hcx X hR hL hC => ⟨C, hL, hC, fun target k => hs p e R s mid args below meth c T locs cells slots C target hcx.1 hcx.2.1 hcx.2.2.1 hcx.2.2.2.2.2.1 X hR hL k⟩
theorem qload_inv {pc : Nat} {L : QLoc} {S : List Value} {σ : QHeap} {k : Nat} {ok : Value → Bool} {st' : QSt} (h : qload pc L S σ k ok = some st') : ∃ v, lget L k = some v ∧ ok v = true ∧ st' = (pc, L, v :: S, σ) := by
 unfold qload at h
 split at h
 ·rename_i v hv
  cases ho : ok v with
  | true => rw [ho] at h; cases h; exact ⟨v, hv, ho, rfl⟩
  | false => rw [ho] at h; cases h
 ·cases h
theorem qstore_inv {pc : Nat} {L : QLoc} {S : List Value} {σ : QHeap} {k : Nat} {ok : Value → Bool} {st' : QSt} (h : qstore pc L S σ k ok = some st') : ∃ v S' L', S = v :: S' ∧ ok v = true ∧ lput L k v = some L' ∧ st' = (pc, L', S', σ) := by
 unfold qstore at h
 split at h
 ·rename_i v S'
  cases ho : ok v with
  | true =>
   rw [ho] at h
   simp only [cond_true] at h
   split at h
   ·rename_i L' hL'
    cases h; exact ⟨v, S', L', rfl, ho, hL', rfl⟩
   ·cases h
  | false => rw [ho] at h; cases h
 ·cases h
theorem qbin_inv {pc : Nat} {L : QLoc} {S : List Value} {σ : QHeap} {f : Int32 → Int32 → Int32} {st' : QSt} (h : qbin pc L S σ f = some st') : ∃ x y S', S = .int y :: .int x :: S' ∧ st' = (pc, L, .int (f x y) :: S', σ) := by
 unfold qbin at h
 split at h
 ·cases h; exact ⟨_, _, _, rfl, rfl⟩
 ·cases h
theorem qbino_inv {pc : Nat} {L : QLoc} {S : List Value} {σ : QHeap} {f : Int32 → Int32 → Option Int32} {st' : QSt} (h : qbino pc L S σ f = some st') : ∃ x y z S', S = .int y :: .int x :: S' ∧ f x y = some z ∧ st' = (pc, L, .int z :: S', σ) := by
 unfold qbino at h
 split at h
 ·obtain ⟨z, hz, h⟩ := Option.bind_eq_some_iff.mp h
  cases h; exact ⟨_, _, _, _, rfl, hz, rfl⟩
 ·cases h
theorem qbinJ_inv {pc : Nat} {L : QLoc} {S : List Value} {σ : QHeap} {f : Int64 → Int64 → Int64} {st' : QSt} (h : qbinJ pc L S σ f = some st') : ∃ x y S', S = .long y :: .long x :: S' ∧ st' = (pc, L, .long (f x y) :: S', σ) := by
 unfold qbinJ at h
 split at h
 ·cases h; exact ⟨_, _, _, rfl, rfl⟩
 ·cases h
theorem qshJ_inv {pc : Nat} {L : QLoc} {S : List Value} {σ : QHeap} {f : Int64 → Int32 → Int64} {st' : QSt} (h : qshJ pc L S σ f = some st') : ∃ x y S', S = .int y :: .long x :: S' ∧ st' = (pc, L, .long (f x y) :: S', σ) := by
 unfold qshJ at h
 split at h
 ·cases h; exact ⟨_, _, _, rfl, rfl⟩
 ·cases h
theorem quni_inv {pc : Nat} {L : QLoc} {S : List Value} {σ : QHeap} {f : Int32 → Value} {st' : QSt} (h : quni pc L S σ f = some st') : ∃ x S', S = .int x :: S' ∧ st' = (pc, L, f x :: S', σ) := by
 unfold quni at h
 split at h
 ·cases h; exact ⟨_, _, rfl, rfl⟩
 ·cases h
theorem quniJ_inv {pc : Nat} {L : QLoc} {S : List Value} {σ : QHeap} {f : Int64 → Value} {st' : QSt} (h : quniJ pc L S σ f = some st') : ∃ x S', S = .long x :: S' ∧ st' = (pc, L, f x :: S', σ) := by
 unfold quniJ at h
 split at h
 ·cases h; exact ⟨_, _, rfl, rfl⟩
 ·cases h
theorem qif_inv {pc : Nat} {L : QLoc} {S : List Value} {σ : QHeap} {cd : ClassFile.Cond} {t : Nat} {st' : QSt} (h : qif pc L S σ cd t = some st') : ∃ x S', S = .int x :: S' ∧ st' = (bif ifCond.holds cd x then t else pc, L, S', σ) := by
 unfold qif at h
 split at h
 ·cases h; exact ⟨_, _, rfl, rfl⟩
 ·cases h
theorem qicmp_inv {pc : Nat} {L : QLoc} {S : List Value} {σ : QHeap} {cd : ClassFile.Cond} {t : Nat} {st' : QSt} (h : qicmp pc L S σ cd t = some st') : ∃ x y S', S = .int y :: .int x :: S' ∧ st' = (bif if_icmp.holds cd x y then t else pc, L, S', σ) := by
 unfold qicmp at h
 split at h
 ·cases h; exact ⟨_, _, _, rfl, rfl⟩
 ·cases h
theorem qget_inv {pc : Nat} {L : QLoc} {S : List Value} {σ : QHeap} {k : Nat} {st' : QSt} (h : qget pc L S σ k = some st') : ∃ a S' vs v, S = .ref a :: S' ∧ hget σ a = some (.inl vs) ∧ vget vs k = some v ∧ st' = (pc, L, v :: S', σ) := by
 unfold qget at h
 split at h
 ·split at h
  ·split at h
   ·cases h; exact ⟨_, _, _, _, rfl, by assumption, by assumption, rfl⟩
   ·cases h
  ·cases h
 ·cases h
theorem qput_inv {pc : Nat} {L : QLoc} {S : List Value} {σ : QHeap} {k : Nat} {st' : QSt} (h : qput pc L S σ k = some st') : ∃ v a S' vs w, S = v :: .ref a :: S' ∧ hget σ a = some (.inl vs) ∧ k0 ≤ a ∧ k < vs.length ∧ qfit (fTy k) v = some w ∧ st' = (pc, L, S', σ.set a (.inl (vs.set k w))) := by
 unfold qput at h
 split at h
 ·rename_i v a S'
  split at h
  ·rename_i vs hvs
   cases hbb : (Nat.ble k0 a && Nat.ble (k + 1) vs.length) with
   | false => rw [hbb] at h; cases h
   | true =>
    rw [hbb] at h
    simp only [cond_true] at h
    obtain ⟨u, hu, h⟩ := Option.bind_eq_some_iff.mp h
    cases h
    obtain ⟨b1, b2⟩ := Bool.and_eq_true_iff.mp hbb
    exact ⟨v, a, S', vs, u, rfl, hvs, Nat.le_of_ble_eq_true b1, Nat.le_of_ble_eq_true b2, hu, rfl⟩
  ·cases h
 ·cases h
theorem qald_inv {pc : Nat} {L : QLoc} {S : List Value} {σ : QHeap} {ok : FieldType → Bool} {st' : QSt} (h : qald pc L S σ ok = some st') : ∃ j a S' ty xs v, S = .int j :: .ref a :: S' ∧ hget σ a = some (.inr (.inl (ty, xs))) ∧ ok ty = true ∧ aget xs j = some v ∧ st' = (pc, L, .int v :: S', σ) := by
 unfold qald at h
 split at h
 ·rename_i j a S'
  split at h
  ·rename_i x hx
   cases ht : ok x.1 with
   | false => rw [ht] at h; cases h
   | true =>
    rw [ht] at h
    simp only [cond_true] at h
    obtain ⟨u, hu, h⟩ := Option.bind_eq_some_iff.mp h
    cases h
    exact ⟨j, a, S', x.1, x.2, u, rfl, hx, ht, hu, rfl⟩
  ·cases h
 ·cases h
theorem qaldJ_inv {pc : Nat} {L : QLoc} {S : List Value} {σ : QHeap} {st' : QSt} (h : qaldJ pc L S σ = some st') : ∃ j a S' xs v, S = .int j :: .ref a :: S' ∧ hget σ a = some (.inr (.inr xs)) ∧ aget xs j = some v ∧ st' = (pc, L, .long v :: S', σ) := by
 unfold qaldJ at h
 split at h
 ·rename_i j a S'
  split at h
  ·rename_i x hx
   obtain ⟨u, hu, h⟩ := Option.bind_eq_some_iff.mp h
   cases h
   exact ⟨j, a, S', x, u, rfl, hx, hu, rfl⟩
  ·cases h
 ·cases h
theorem qast_inv {pc : Nat} {L : QLoc} {S : List Value} {σ : QHeap} {ok : FieldType → Bool} {st' : QSt} (h : qast pc L S σ ok = some st') : ∃ v j a S' ty xs ys, S = .int v :: .int j :: .ref a :: S' ∧ hget σ a = some (.inr (.inl (ty, xs))) ∧ ok ty = true ∧ k0 ≤ a ∧ aset xs j (qnar ty v) = some ys ∧ st' = (pc, L, S', σ.set a (.inr (.inl (ty, ys)))) := by
 unfold qast at h
 split at h
 ·rename_i v j a S'
  split at h
  ·rename_i x hx
   cases ht : (ok x.1 && Nat.ble k0 a) with
   | false => rw [ht] at h; cases h
   | true =>
    rw [ht] at h
    simp only [cond_true] at h
    obtain ⟨u, hu, h⟩ := Option.bind_eq_some_iff.mp h
    cases h
    obtain ⟨b1, b2⟩ := Bool.and_eq_true_iff.mp ht
    exact ⟨v, j, a, S', x.1, x.2, u, rfl, hx, b1, Nat.le_of_ble_eq_true b2, hu, rfl⟩
  ·cases h
 ·cases h
theorem qastJ_inv {pc : Nat} {L : QLoc} {S : List Value} {σ : QHeap} {st' : QSt} (h : qastJ pc L S σ = some st') : ∃ v j a S' xs ys, S = .long v :: .int j :: .ref a :: S' ∧ hget σ a = some (.inr (.inr xs)) ∧ k0 ≤ a ∧ aset xs j v = some ys ∧ st' = (pc, L, S', σ.set a (.inr (.inr ys))) := by
 unfold qastJ at h
 split at h
 ·rename_i v j a S'
  split at h
  ·rename_i x hx
   cases ht : (Nat.ble k0 a) with
   | false => rw [ht] at h; cases h
   | true =>
    rw [ht] at h
    simp only [cond_true] at h
    obtain ⟨u, hu, h⟩ := Option.bind_eq_some_iff.mp h
    cases h
    exact ⟨v, j, a, S', x, u, rfl, hx, Nat.le_of_ble_eq_true ht, hu, rfl⟩
  ·cases h
 ·cases h
theorem qlen_inv {pc : Nat} {L : QLoc} {S : List Value} {σ : QHeap} {st' : QSt} (h : qlen pc L S σ = some st') : ∃ a S' n, S = .ref a :: S' ∧ ((∃ ty xs, hget σ a = some (.inr (.inl (ty, xs))) ∧ n = xs.length) ∨ ∃ xs, hget σ a = some (.inr (.inr xs)) ∧ n = xs.length) ∧ st' = (pc, L, .int n.toInt32 :: S', σ) := by
 unfold qlen at h
 split at h
 ·rename_i a S'
  split at h
  ·rename_i x hx
   cases h; exact ⟨a, S', _, rfl, Or.inl ⟨x.1, x.2, hx, rfl⟩, rfl⟩
  ·rename_i x hx
   cases h; exact ⟨a, S', _, rfl, Or.inr ⟨x, hx, rfl⟩, rfl⟩
  ·cases h
 ·cases h
theorem isI_inv {v : Value} (h : isI v = true) : ∃ x, v = .int x := by cases v <;> simp [isI] at h; exact ⟨_, rfl⟩
theorem isJ_inv {v : Value} (h : isJ v = true) : ∃ x, v = .long x := by cases v <;> simp [isJ] at h; exact ⟨_, rfl⟩
theorem isR_inv {v : Value} (h : isR v = true) : ∃ x, v = .ref x := by cases v <;> simp [isR] at h; exact ⟨_, rfl⟩
theorem aget_inv {α : Type} {xs : List α} {j : Int32} {x : α} (h : aget xs j = some x) : ¬ j < 0 ∧ xs[j.toNatClampNeg]? = some x := by
 unfold aget at h
 split at h
 ·cases h
 ·rename_i q; exact ⟨q, h⟩
theorem aset_inv {α : Type} {xs ys : List α} {j : Int32} {x : α} (h : aset xs j x = some ys) : ¬ j < 0 ∧ j.toNatClampNeg < xs.length ∧ ys = xs.set j.toNatClampNeg x := by
 unfold aset at h
 split at h
 ·cases h
 ·rename_i q
  split at h
  ·rename_i q2; cases h; exact ⟨q, q2, rfl⟩
  ·cases h
theorem qnew_inv {n : Int32} {k : Nat} (h : qnew n = some k) : ¬ n < 0 ∧ n.toNatClampNeg = k ∧ k ≤ 67108864 := by
 unfold qnew at h
 split at h
 ·cases h
 ·rename_i q
  split at h
  ·rename_i q2; cases h; exact ⟨q, rfl, q2⟩
  ·cases h
theorem QCellOk.other {h h' : Heap} {a b : Addr} {sl : Nat} {w : Value} {c : QCell} (H : QCellOk Z ad h b c) (W : Wr h h' a sl w) (ne : b ≠ a) : QCellOk Z ad h' b c := by
 rcases c with vs | ⟨ty, xs⟩ | xs
 ·obtain ⟨h1, h2, h3⟩ := H
  exact ⟨h1.wr W, h2, fun k u hk hu => (h3 k u hk hu).other W (Or.inl ne)⟩
 ·obtain ⟨c, h1, h2⟩ := H
  exact ⟨c, h1.other W ne, h2⟩
 ·obtain ⟨c, h1, h2⟩ := H
  exact ⟨c, h1.other W ne, h2⟩
theorem QCellOk.ext {h h' : Heap} {b : Addr} {c : QCell} (H : QCellOk Z ad h b c) (E : Ext h h') : QCellOk Z ad h' b c := by
 rcases c with vs | ⟨ty, xs⟩ | xs
 ·obtain ⟨h1, h2, h3⟩ := H
  exact ⟨h1.ext E, h2, fun k u hk hu => (h3 k u hk hu).ext E⟩
 ·obtain ⟨c, h1, h2⟩ := H
  exact ⟨c, h1.ext E, h2⟩
 ·obtain ⟨c, h1, h2⟩ := H
  exact ⟨c, h1.ext E, h2⟩
theorem QRep.set {h h' : Heap} {σ : QHeap} {a : Nat} {sl : Nat} {w : Value} {c d : QCell} (H : QRep Z n0 ad h σ) (Ad : QAd n0 ad) (W : Wr h h' (ad a) sl w) (hc : hget σ a = some c) (hd : QCellOk Z ad h' (ad a) d) : QRep Z n0 ad h' (σ.set a d) := by
 obtain ⟨h1, h2, h3⟩ := H
 refine ⟨by simpa using h1, by rw [W.size, h2]; simp, fun k e he => ?_⟩
 rw [hget_set hc] at he
 split at he
 ·rename_i q; cases he; rw [q]; exact hd
 ·rename_i q; exact (h3 k e he).other W fun z => q (Ad.2 _ _ z)
theorem QRep.push {h h' : Heap} {σ : QHeap} {c : QCell} (H : QRep Z n0 ad h σ) (Ad : QAd n0 ad) (E : Ext h h') (hs : h'.size = h.size + 1) (hc : QCellOk Z ad h' h.size c) : QRep Z n0 ad h' (σ ++ [c]) := by
 obtain ⟨h1, h2, h3⟩ := H
 refine ⟨by simp; omega, by rw [hs, h2]; simp; omega, fun k e he => ?_⟩
 rw [hget_eq] at he
 rcases Nat.lt_or_ge k σ.length with q | q
 ·rw [List.getElem?_append_left q, ← hget_eq] at he
  exact (h3 k e he).ext E
 ·rw [List.getElem?_append_right q] at he
  obtain rfl : k = σ.length := by
   rcases Nat.lt_or_ge (k - σ.length) 1 with z | z
   ·omega
   ·rw [List.getElem?_eq_none (by simpa using z)] at he; cases he
  simp at he
  rw [← he, Ad.1 _ h1, ← h2]
  exact hc
theorem mem_of_contains {α : Type} [BEq α] [LawfulBEq α] {L : List α} {a : α} (h : L.contains a = true) : a ∈ L := by simpa using h
theorem lkF_lt : ∀ t ∈ lkF, t.2.2 < nF := by decide +kernel
theorem laid_of (W : QW Z a0) {k : Nat} (hk : k < nF) : Laid Z a0 cName cName (fNm k) (fDs k) := by
 have q := (qw_lay W) k hk
 cases hf : fFin k with
 | true => rw [hf] at q; exact Or.inr q
 | false => rw [hf] at q; exact Or.inl q
theorem qfit_inv {ty : FieldType} {v w : Value} (h : qfit ty v = some w) : v = w ∧ narrow ty (qv ad w) = qv ad w ∧ fits ty (qv ad w) = true := by
 unfold qfit at h
 split at h
 ·cases h; exact ⟨rfl, rfl, rfl⟩
 ·rename_i x
  obtain ⟨y, hy, h⟩ := Option.bind_eq_some_iff.mp h
  cases h
  unfold qboo at hy
  split at hy
  ·rename_i e; cases hy; subst e; exact ⟨rfl, rfl, rfl⟩
  ·split at hy
   ·rename_i e; cases hy; subst e; exact ⟨rfl, rfl, rfl⟩
   ·cases hy
 ·cases h; exact ⟨rfl, rfl, rfl⟩
 ·cases h; exact ⟨rfl, rfl, rfl⟩
 ·cases h
theorem vget_set {vs : List Value} {k j : Nat} {w : Value} (hk : k < vs.length) : vget (vs.set k w) j = if j = k then some w else vget vs j := by
 simp only [vget_eq, List.getElem?_set]
 by_cases e : k = j
 ·subst e; simp [hk]
 ·simp [e, Ne.symm e]
theorem ald_in {α : Type} {f : α → Value} {xs : List α} {c : Cell} {j : Int32} {x : α} (hc : c.slots = (xs.map f).toArray) (h : aget xs j = some x) : ¬ (j < 0 ∨ c.slots.size ≤ j.toNatClampNeg) ∧ c.slots[j.toNatClampNeg]? = some (f x) := by
 obtain ⟨h1, h2⟩ := aget_inv h
 have h3 := (List.getElem?_eq_some_iff.mp h2).1
 refine ⟨fun q => ?_, by rw [hc]; simp [h2]⟩
 rcases q with q | q
 ·exact h1 q
 ·rw [hc] at q; simp at q; omega
theorem ast_in {α : Type} {f : α → Value} {xs ys : List α} {c : Cell} {j : Int32} {x : α} (hc : c.slots = (xs.map f).toArray) (h : aset xs j x = some ys) : ¬ (j < 0 ∨ c.slots.size ≤ j.toNatClampNeg) ∧ (c.setSlot j.toNatClampNeg (f x)).slots = (ys.map f).toArray := by
 obtain ⟨h1, h2, rfl⟩ := aset_inv h
 refine ⟨fun q => ?_, by simp [Cell.setSlot, hc, List.map_set]⟩
 rcases q with q | q
 ·exact h1 q
 ·rw [hc] at q; simp at q; omega
theorem qgrow {σ : QHeap} {c : QCell} : qhs (σ ++ [c]) - qhs σ = qsz c := by rw [qhs_app]; simp [qhs]
set_option maxHeartbeats 4000000 in
theorem QTri.newArr (Ad : QAd n0 ad) (W : QW Z a0) {pc aux : Nat} {L : QLoc} {S : List Value} {σ : QHeap} {aty : ArrayType} {n : Int32} {k : Nat} {c : QCell} (hk : qnew n = some k) (hc : pCode m pc = some (.newarray aty, aux)) (hz : qsz c = k)
  (hq : ∀ (h' : Heap) (a : Addr) (cA : ClassId), Arr Z h' a (newA cA (newarray.typeOf aty) n) (newarray.typeOf aty) → QCellOk Z ad h' a c)
  (h : QTri l Z n0 ad m (pc + 2, L, .ref σ.length :: S, σ ++ [c]) v σ') : QTri l Z n0 ad m (pc, L, .int n :: S, σ) v σ' := by
 have hd : decode (pBytes m) pc = .ok (.newarray aty, 2) := pDecN hc rfl
 obtain ⟨n1, n2, n3⟩ := qnew_inv hk
 refine QTri.gen h (by simp) (by simp [qhs_app]) fun p e R s mid args below meth c' T locs cells slots C hcx X hR hF hL hC hn hc1 hsl => ?_
 obtain ⟨hx, hZ, hby, hml, hret, hown, hnm, hfr, hlo⟩ := hcx
 have hd2 : decode c'.code pc = .ok (.newarray aty, 2) := by rw [hby]; exact hd
 simp only [List.length_append, List.length_singleton, Nat.add_sub_cancel_left, qgrow, hz] at hc1 hsl ⊢
 obtain ⟨T₁, h₁, cA, X₁, e₁, E₁, A₁, st⟩ := newP X hx hZ (aty := aty) (qw_arr W (newarray.typeOf aty) (mem_of_contains (show aTys.contains (newarray.typeOf aty) = true from pRest hc))) rfl (g := mkF mid pc C (.int n :: S.map (qv ad))) rfl hd2 rfl n1 (cap := k) (by omega) (by omega) hc1 hsl
 have hsz : h₁.size = T.heap.size + 1 := by
  have q1 := X₁.heapSize
  have q2 : T.heap.size < h₁.size := A₁.lt
  have q3 := hR.2.1
  rw [e₁] at q1
  have : n0 + (σ.length - k0) = s.heap.size + cells := hn
  have q3' : T.heap.size = n0 + (σ.length - k0) := q3
  omega
 refine ⟨T₁, locs, C, X₁, ?_, hF, hL, hC, fun target q => ?_⟩
 ·rw [e₁]; exact QRep.push hR Ad E₁ hsz (hq _ _ _ A₁)
 ·refine st _ ?_
  have e2 : ad σ.length = T.heap.size := by rw [Ad.1 _ hR.1]; exact hR.2.1.symm
  simp only [List.map_cons, qv, e2] at q
  exact q
set_option maxHeartbeats 4000000 in
theorem QTri.getfield (W : QW Z a0) {pc idx aux : Nat} {L : QLoc} {S : List Value} {σ : QHeap} {st' : QSt} (h : QTri l Z n0 ad m st' v σ') (hc : pCode m pc = some (.getfield idx, aux)) (hs : qget (pc + 3) L S σ aux = some st') : QTri l Z n0 ad m (pc, L, S, σ) v σ' := by
 have hd : decode (pBytes m) pc = .ok (.getfield idx, 3) := pDecN hc rfl
 obtain ⟨a, S', vs, w, rfl, hvs, hw, rfl⟩ := qget_inv hs
 have hm := mem_of_contains (show lkF.contains (pK m, idx, aux) = true from pRest hc)
 have hlt := lkF_lt _ hm
 refine QTri.pure h rfl fun p e R s mid args below meth c T locs cells slots C hcx X hR hL hC => ?_
 obtain ⟨hx, hZ, hby, hml, hret, hown, hnm, hfr, hlo⟩ := hcx
 have hd2 : decode c.code pc = .ok (.getfield idx, 3) := by rw [hby]; exact hd
 have F := (hR.2.2 _ _ hvs).2.2 aux w hlt hw
 obtain ⟨T₁, X₁, e₁, st⟩ := getF X hx hZ hown (host := "") (index := idx) (Or.inl (qw_fl W (pK m, idx, aux) hm)) Via.refl rfl F (g := mkF mid pc C (List.map (qv ad) (.ref a :: S'))) rfl rfl hd2
 exact ⟨T₁, C, X₁, e₁, hL, hC, st⟩
set_option maxHeartbeats 4000000 in
theorem QTri.putfield (Ad : QAd n0 ad) (W : QW Z a0) {pc idx aux : Nat} {L : QLoc} {S : List Value} {σ : QHeap} {st' : QSt} (h : QTri l Z n0 ad m st' v σ') (hc : pCode m pc = some (.putfield idx, aux)) (hs : qput (pc + 3) L S σ aux = some st') : QTri l Z n0 ad m (pc, L, S, σ) v σ' := by
 have hd : decode (pBytes m) pc = .ok (.putfield idx, 3) := pDecN hc rfl
 obtain ⟨w, a, S', vs, u, rfl, hvs, b1, b2, hu, rfl⟩ := qput_inv hs
 obtain ⟨r1, r2⟩ := Bool.and_eq_true_iff.mp (show (lkF.contains (pK m, idx, aux) && (!fFin aux || (pK m == 1 && pNm m == "<init>"))) = true from pRest hc)
 have hm := mem_of_contains r1
 have hlt := lkF_lt _ hm
 obtain ⟨rfl, q2, q3⟩ := qfit_inv (ad := ad) hu
 have hsz : qhs (σ.set a (Sum.inl (vs.set aux w))) = qhs σ := qhs_set hvs rfl
 refine QTri.gen h (by simp) (by show qhs σ ≤ qhs (σ.set a (Sum.inl (vs.set aux w))); rw [hsz]; exact Nat.le_refl _) fun p e R s mid args below meth c T locs cells slots C hcx X hR hF hL hC hn hc1 hsl => ?_
 obtain ⟨hx, hZ, hby, hml, hret, hown, hnm, hfr, hlo⟩ := hcx
 have hd2 : decode c.code pc = .ok (.putfield idx, 3) := by rw [hby]; exact hd
 obtain ⟨E, l1, Fs⟩ := hR.2.2 _ _ hvs
 obtain ⟨old, hold⟩ : ∃ old, vget vs aux = some old := by rw [vget_eq]; exact ⟨_, List.getElem?_eq_getElem b2⟩
 have lay : (Cond.lays cName cName (fNm aux) (fDs aux)).before a0 Z = true ∨ ((Cond.laysFinal cName cName (fNm aux) (fDs aux)).before a0 Z = true ∧ kName (pK m) = cName ∧ meth.name = "<init>") := by
  have q := (qw_lay W) aux hlt
  cases hf : fFin aux with
  | false => rw [hf] at q; exact Or.inl q
  | true =>
   rw [hf] at q r2
   simp at r2
   exact Or.inr ⟨q, by rw [r2.1]; exact kOne, by rw [hnm]; exact r2.2⟩
 obtain ⟨T₁, h₁, X₁, e₁, W₁, st⟩ := putF X hx hZ hown (host := "") (index := idx) (Or.inl (qw_fl W (pK m, idx, aux) hm)) Via.refl rfl (Fs aux old hlt hold) E lay ((qw_inst W)) (fPrs aux hlt) q2 q3 (g := mkF mid pc C (List.map (qv ad) (w :: .ref a :: S'))) rfl rfl hd2
 refine ⟨T₁, _, C, ?_, ?_, Fr.snoc X₁ hF (by rw [Ad.1 a b1]; exact Nat.le_add_right _ _), hL, hC, st⟩
 ·show Stand _ _ _ _ _ _ _ _ _ _ _ _ (cells + ((σ.set a (Sum.inl (vs.set aux w))).length - σ.length)) (slots + (qhs (σ.set a (Sum.inl (vs.set aux w))) - qhs σ))
  rw [hsz, Nat.sub_self, List.length_set, Nat.sub_self]
  exact X₁
 ·rw [e₁]
  refine QRep.set hR Ad W₁ hvs ⟨E.wr W₁, by simpa using l1, fun k u hk hu => ?_⟩
  rw [vget_set b2] at hu
  split at hu
  ·rename_i e; cases hu; rw [e]; exact (Fs aux old hlt hold).same W₁
  ·rename_i ne
   exact (Fs k u hk hu).other W₁ (Or.inr (slot_ne (laid_of W hk) (laid_of W hlt) (fun z => ne (fInj _ hk _ hlt z)) (fPrs _ hk) (fPrs _ hlt)))
theorem tyI_inv {ty : FieldType} (h : tyI ty = true) : ty = .int := by cases ty <;> simp [tyI] at h; rfl
theorem tyB_inv {ty : FieldType} (h : tyB ty = true) : ty = .boolean ∨ ty = .byte := by cases ty <;> simp [tyB] at h <;> simp
set_option maxHeartbeats 4000000 in
theorem QTri.iaload {pc aux : Nat} {L : QLoc} {S : List Value} {σ : QHeap} {st' : QSt} (h : QTri l Z n0 ad m st' v σ') (hc : pCode m pc = some (.iaload, aux)) (hs : qald (pc + 1) L S σ tyI = some st') : QTri l Z n0 ad m (pc, L, S, σ) v σ' := by
 have hd : decode (pBytes m) pc = .ok (.iaload, 1) := pDecN hc rfl
 obtain ⟨j, a, S', ty, xs, w, rfl, hx1, ht, hw, rfl⟩ := qald_inv hs
 obtain rfl := tyI_inv ht
 refine QTri.stack h fun p e R s mid args below meth c T locs cells slots C target hx hZ hby hown X hR hL k => ?_
 have hd2 : decode c.code pc = .ok (.iaload, 1) := by rw [hby]; exact hd
 obtain ⟨cl, A, hsl⟩ := hR.2.2 _ _ hx1
 obtain ⟨i1, i2⟩ := ald_in hsl hw
 exact X.iaload hx A.1 (State.isArrayOf_alike hZ.alike A.2.1) A.2.2 i1 i2 (g := mkF mid pc C (List.map (qv ad) (.int j :: .ref a :: S'))) rfl rfl hd2 _ k
set_option maxHeartbeats 4000000 in
theorem QTri.baload {pc aux : Nat} {L : QLoc} {S : List Value} {σ : QHeap} {st' : QSt} (h : QTri l Z n0 ad m st' v σ') (hc : pCode m pc = some (.baload, aux)) (hs : qald (pc + 1) L S σ tyB = some st') : QTri l Z n0 ad m (pc, L, S, σ) v σ' := by
 have hd : decode (pBytes m) pc = .ok (.baload, 1) := pDecN hc rfl
 obtain ⟨j, a, S', ty, xs, w, rfl, hx1, ht, hw, rfl⟩ := qald_inv hs
 refine QTri.stack h fun p e R s mid args below meth c T locs cells slots C target hx hZ hby hown X hR hL k => ?_
 have hd2 : decode c.code pc = .ok (.baload, 1) := by rw [hby]; exact hd
 obtain ⟨cl, A, hsl⟩ := hR.2.2 _ _ hx1
 obtain ⟨i1, i2⟩ := ald_in hsl hw
 rcases tyB_inv ht with rfl | rfl
 ·exact X.baloadBooleans hx A.1 (State.isArrayOf_alike hZ.alike A.2.1) A.2.2 i1 i2 (g := mkF mid pc C (List.map (qv ad) (.int j :: .ref a :: S'))) rfl rfl hd2 _ k
 ·exact X.baloadBytes hx A.1 (State.isArrayOf_alike hZ.alike A.2.1) A.2.2 i1 i2 (g := mkF mid pc C (List.map (qv ad) (.int j :: .ref a :: S'))) rfl rfl hd2 _ k
set_option maxHeartbeats 4000000 in
theorem QTri.laload {pc aux : Nat} {L : QLoc} {S : List Value} {σ : QHeap} {st' : QSt} (h : QTri l Z n0 ad m st' v σ') (hc : pCode m pc = some (.laload, aux)) (hs : qaldJ (pc + 1) L S σ = some st') : QTri l Z n0 ad m (pc, L, S, σ) v σ' := by
 have hd : decode (pBytes m) pc = .ok (.laload, 1) := pDecN hc rfl
 obtain ⟨j, a, S', xs, w, rfl, hx1, hw, rfl⟩ := qaldJ_inv hs
 refine QTri.stack h fun p e R s mid args below meth c T locs cells slots C target hx hZ hby hown X hR hL k => ?_
 have hd2 : decode c.code pc = .ok (.laload, 1) := by rw [hby]; exact hd
 obtain ⟨cl, A, hsl⟩ := hR.2.2 _ _ hx1
 obtain ⟨i1, i2⟩ := ald_in hsl hw
 exact X.laload hx A.1 (State.isArrayOf_alike hZ.alike A.2.1) A.2.2 i1 i2 (g := mkF mid pc C (List.map (qv ad) (.int j :: .ref a :: S'))) rfl rfl hd2 _ k
theorem QTri.stored (Ad : QAd n0 ad) {pc : Nat} {L : QLoc} {S S' : List Value} {σ : QHeap} {a j : Nat} {w : Value} {c d : QCell} (hx1 : hget σ a = some c) (b1 : k0 ≤ a) (hz : qsz d = qsz c) (h : QTri l Z n0 ad m (pc + 1, L, S', σ.set a d) v σ')
  (hs : ∀ (p : Program) (e : Env) (R : Room) (s : State) (mid : MethodId) (args : Array Value) (below : List Frame) (meth : Method) (c : Code) (T : State) (locs : List Loc) (cells slots : Nat) (C : Array Slot),
   QCx Z p R s mid meth c m → Stand p l e R s mid args below meth c T locs cells slots → QRep Z n0 ad T.heap σ →
   ∃ T' h', Stand p l e R s mid args below meth c T' (locs ++ [⟨ad a, j⟩]) cells slots ∧ T'.heap = h' ∧ Wr T.heap h' (ad a) j w ∧ QCellOk Z ad h' (ad a) d ∧ ∀ target, Steps p.tables e below (T'.setTop (mkF mid (pc + 1) C (S'.map (qv ad)))) target → Steps p.tables e below (T.setTop (mkF mid pc C (S.map (qv ad)))) target) :
  QTri l Z n0 ad m (pc, L, S, σ) v σ' := by
 have hsz : qhs (σ.set a d) = qhs σ := qhs_set hx1 hz
 refine QTri.gen h (by simp) (by show qhs σ ≤ qhs (σ.set a d); rw [hsz]; exact Nat.le_refl _) fun p e R s mid args below meth c T locs cells slots C hcx X hR hF hL hC hn hc1 hsl => ?_
 obtain ⟨T₁, h₁, X₁, e₁, W₁, Q₁, st⟩ := hs p e R s mid args below meth c T locs cells slots C hcx X hR
 refine ⟨T₁, _, C, ?_, ?_, Fr.snoc X₁ hF (by rw [Ad.1 a b1]; exact Nat.le_add_right _ _), hL, hC, st⟩
 ·show Stand _ _ _ _ _ _ _ _ _ _ _ _ (cells + ((σ.set a d).length - σ.length)) (slots + (qhs (σ.set a d) - qhs σ))
  rw [hsz, Nat.sub_self, List.length_set, Nat.sub_self]
  exact X₁
 ·rw [e₁]
  exact QRep.set hR Ad W₁ hx1 Q₁
set_option maxHeartbeats 4000000 in
theorem QTri.iastore (Ad : QAd n0 ad) {pc aux : Nat} {L : QLoc} {S : List Value} {σ : QHeap} {st' : QSt} (h : QTri l Z n0 ad m st' v σ') (hc : pCode m pc = some (.iastore, aux)) (hs : qast (pc + 1) L S σ tyI = some st') : QTri l Z n0 ad m (pc, L, S, σ) v σ' := by
 have hd : decode (pBytes m) pc = .ok (.iastore, 1) := pDecN hc rfl
 obtain ⟨w, j, a, S', ty, xs, ys, rfl, hx1, ht, b1, hw, rfl⟩ := qast_inv hs
 obtain rfl := tyI_inv ht
 refine QTri.stored Ad (j := j.toNatClampNeg) (w := .int w) hx1 b1 (by rw [(aset_inv hw).2.2]; simp [qsz]) h fun p e R s mid args below meth c T locs cells slots C hcx X hR => ?_
 have hd2 : decode c.code pc = .ok (.iastore, 1) := by rw [hcx.2.2.1]; exact hd
 obtain ⟨cl, A, hsl⟩ := hR.2.2 _ _ hx1
 obtain ⟨i1, i2⟩ := ast_in hsl hw
 obtain ⟨T₁, h₁, X₁, e₁, W₁, st⟩ := stI X hcx.1 hcx.2.1 rfl A i1 (g := mkF mid pc C (List.map (qv ad) (.int w :: .int j :: .ref a :: S'))) rfl rfl hd2
 exact ⟨T₁, h₁, X₁, e₁, W₁, ⟨_, A.same W₁, i2⟩, st⟩
set_option maxHeartbeats 4000000 in
theorem QTri.bastore (Ad : QAd n0 ad) {pc aux : Nat} {L : QLoc} {S : List Value} {σ : QHeap} {st' : QSt} (h : QTri l Z n0 ad m st' v σ') (hc : pCode m pc = some (.bastore, aux)) (hs : qast (pc + 1) L S σ tyB = some st') : QTri l Z n0 ad m (pc, L, S, σ) v σ' := by
 have hd : decode (pBytes m) pc = .ok (.bastore, 1) := pDecN hc rfl
 obtain ⟨w, j, a, S', ty, xs, ys, rfl, hx1, ht, b1, hw, rfl⟩ := qast_inv hs
 refine QTri.stored Ad (j := j.toNatClampNeg) (w := .int (qnar ty w)) hx1 b1 (by rw [(aset_inv hw).2.2]; simp [qsz]) h fun p e R s mid args below meth c T locs cells slots C hcx X hR => ?_
 have hd2 : decode c.code pc = .ok (.bastore, 1) := by rw [hcx.2.2.1]; exact hd
 obtain ⟨cl, A, hsl⟩ := hR.2.2 _ _ hx1
 obtain ⟨i1, i2⟩ := ast_in hsl hw
 rcases tyB_inv ht with rfl | rfl
 ·obtain ⟨T₁, h₁, X₁, e₁, W₁, st⟩ := stZ X hcx.1 hcx.2.1 rfl A i1 (g := mkF mid pc C (List.map (qv ad) (.int w :: .int j :: .ref a :: S'))) rfl rfl hd2
  exact ⟨T₁, h₁, X₁, e₁, W₁, ⟨_, A.same W₁, i2⟩, st⟩
 ·obtain ⟨T₁, h₁, X₁, e₁, W₁, st⟩ := stB X hcx.1 hcx.2.1 rfl A i1 (g := mkF mid pc C (List.map (qv ad) (.int w :: .int j :: .ref a :: S'))) rfl rfl hd2
  exact ⟨T₁, h₁, X₁, e₁, W₁, ⟨_, A.same W₁, i2⟩, st⟩
set_option maxHeartbeats 4000000 in
theorem QTri.lastore (Ad : QAd n0 ad) {pc aux : Nat} {L : QLoc} {S : List Value} {σ : QHeap} {st' : QSt} (h : QTri l Z n0 ad m st' v σ') (hc : pCode m pc = some (.lastore, aux)) (hs : qastJ (pc + 1) L S σ = some st') : QTri l Z n0 ad m (pc, L, S, σ) v σ' := by
 have hd : decode (pBytes m) pc = .ok (.lastore, 1) := pDecN hc rfl
 obtain ⟨w, j, a, S', xs, ys, rfl, hx1, b1, hw, rfl⟩ := qastJ_inv hs
 refine QTri.stored Ad (j := j.toNatClampNeg) (w := .long w) hx1 b1 (by rw [(aset_inv hw).2.2]; simp [qsz]) h fun p e R s mid args below meth c T locs cells slots C hcx X hR => ?_
 have hd2 : decode c.code pc = .ok (.lastore, 1) := by rw [hcx.2.2.1]; exact hd
 obtain ⟨cl, A, hsl⟩ := hR.2.2 _ _ hx1
 obtain ⟨i1, i2⟩ := ast_in hsl hw
 obtain ⟨T₁, h₁, X₁, e₁, W₁, st⟩ := stJ X hcx.1 hcx.2.1 rfl A i1 (g := mkF mid pc C (List.map (qv ad) (.long w :: .int j :: .ref a :: S'))) rfl rfl hd2
 exact ⟨T₁, h₁, X₁, e₁, W₁, ⟨_, A.same W₁, i2⟩, st⟩
set_option maxHeartbeats 4000000 in
theorem QTri.alen {pc aux : Nat} {L : QLoc} {S : List Value} {σ : QHeap} {st' : QSt} (h : QTri l Z n0 ad m st' v σ') (hc : pCode m pc = some (.arraylength, aux)) (hs : qlen (pc + 1) L S σ = some st') : QTri l Z n0 ad m (pc, L, S, σ) v σ' := by
 have hd : decode (pBytes m) pc = .ok (.arraylength, 1) := pDecN hc rfl
 obtain ⟨a, S', n, rfl, hx1, rfl⟩ := qlen_inv hs
 refine QTri.stack h fun p e R s mid args below meth c T locs cells slots C target hx hZ hby hown X hR hL k => ?_
 have hd2 : decode c.code pc = .ok (.arraylength, 1) := by rw [hby]; exact hd
 rcases hx1 with ⟨ty, xs, hx1, rfl⟩ | ⟨xs, hx1, rfl⟩
 ·obtain ⟨cl, A, hsl⟩ := hR.2.2 _ _ hx1
  have e1 : cl.slots.size = xs.length := by rw [hsl]; simp
  rw [← e1] at k
  exact X.arraylength hx A.1 (State.isArrayOf_alike hZ.alike A.2.1) (g := mkF mid pc C (List.map (qv ad) (.ref a :: S'))) rfl rfl hd2 _ k
 ·obtain ⟨cl, A, hsl⟩ := hR.2.2 _ _ hx1
  have e1 : cl.slots.size = xs.length := by rw [hsl]; simp
  rw [← e1] at k
  exact X.arraylength hx A.1 (State.isArrayOf_alike hZ.alike A.2.1) (g := mkF mid pc C (List.map (qv ad) (.ref a :: S'))) rfl rfl hd2 _ k
set_option maxHeartbeats 4000000 in
theorem QTri.newObj (Ad : QAd n0 ad) (W : QW Z a0) {pc idx aux : Nat} {L : QLoc} {S : List Value} {σ : QHeap} (h : QTri l Z n0 ad m (pc + 3, L, .ref σ.length :: S, σ ++ [.inl cDef]) v σ') (hc : pCode m pc = some (.new idx, aux)) : QTri l Z n0 ad m (pc, L, S, σ) v σ' := by
 have hd : decode (pBytes m) pc = .ok (.new idx, 3) := pDecN hc rfl
 have hm := mem_of_contains (show lkN.contains (pK m, idx) = true from pRest hc)
 refine QTri.gen h (by simp) (by simp [qhs_app]) fun p e R s mid args below meth c T locs cells slots C hcx X hR hF hL hC hn hc1 hsl => ?_
 obtain ⟨hx, hZ, hby, hml, hret, hown, hnm, hfr, hlo⟩ := hcx
 have hd2 : decode c.code pc = .ok (.new idx, 3) := by rw [hby]; exact hd
 simp only [List.length_append, List.length_singleton, Nat.add_sub_cancel_left, qgrow, qsz] at hc1 hsl ⊢
 obtain ⟨T₁, h₁, X₁, e₁, E₁, A₁, D₁, -, st⟩ := newO X hx hZ hown (index := idx) (qw_nw W (pK m, idx) hm) ((qw_inst W)) ((qw_init W)) rfl (g := mkF mid pc C (S.map (qv ad))) rfl hd2 hc1 hsl
 have hsz : h₁.size = T.heap.size + 1 := by
  have q1 := X₁.heapSize
  have q2 : T.heap.size < h₁.size := A₁.lt
  have q3 : T.heap.size = n0 + (σ.length - k0) := hR.2.1
  rw [e₁] at q1
  have : n0 + (σ.length - k0) = s.heap.size + cells := hn
  omega
 refine ⟨T₁, locs, C, X₁, ?_, hF, hL, hC, fun target q => ?_⟩
 ·rw [e₁]
  refine QRep.push hR Ad E₁ hsz ⟨A₁, cDefL, fun k u hk hu => ?_⟩
  rw [cDefs k hk] at hu
  cases hu
  have e3 : qv ad (defaultValue (fTy k)) = defaultValue (fTy k) := by
   cases hq : defaultValue (fTy k) with
   | ref a => exact absurd hq (fDef k hk a)
   | _ => rfl
  rw [e3]
  exact D₁ (laid_of W hk) (fPrs k hk)
 ·refine st _ ?_
  have e2 : ad σ.length = T.heap.size := by rw [Ad.1 _ hR.1]; exact hR.2.1.symm
  simp only [List.map_cons, qv, e2] at q
  exact q
set_option maxHeartbeats 8000000 in
theorem QTri.step (Ad : QAd n0 ad) (W : QW Z a0) {st st' : QSt} (h : QTri l Z n0 ad m st' v σ') (hs : qstep m st = some st') : QTri l Z n0 ad m st v σ' := by
 obtain ⟨pc, L, S, σ⟩ := st
 unfold qstep at hs
 dsimp only at hs
 split at hs
 rotate_left
 ·cases hs
 rename_i i aux hc
 have hd := pDecN hc rfl
 have hr := pRest hc
 unfold qexec at hs
 split at hs
 ·-- aload_n
  obtain ⟨w, h1, h2, rfl⟩ := qload_inv hs
  obtain ⟨a, rfl⟩ := isR_inv h2
  exact QTri.stack h fun p e R s mid args below meth c T locs cells slots C target hx hZ hby hown X hR hL k => XS.aloadN X.here hx rfl (hb hby hd) (hL.2.1 _ _ h1) rfl k
 ·obtain ⟨w, h1, h2, rfl⟩ := qload_inv hs
  obtain ⟨a, rfl⟩ := isR_inv h2
  exact QTri.stack h fun p e R s mid args below meth c T locs cells slots C target hx hZ hby hown X hR hL k => XS.aload X.here hx rfl (hb hby hd) (hL.2.1 _ _ h1) rfl k
 ·obtain ⟨w, h1, h2, rfl⟩ := qload_inv hs
  obtain ⟨a, rfl⟩ := isI_inv h2
  exact QTri.stack h fun p e R s mid args below meth c T locs cells slots C target hx hZ hby hown X hR hL k => XS.iloadN X.here hx rfl (hb hby hd) (hL.2.1 _ _ h1) k
 ·obtain ⟨w, h1, h2, rfl⟩ := qload_inv hs
  obtain ⟨a, rfl⟩ := isI_inv h2
  exact QTri.stack h fun p e R s mid args below meth c T locs cells slots C target hx hZ hby hown X hR hL k => XS.iload X.here hx rfl (hb hby hd) (hL.2.1 _ _ h1) k
 ·obtain ⟨w, h1, h2, rfl⟩ := qload_inv hs
  obtain ⟨a, rfl⟩ := isJ_inv h2
  exact QTri.stack h fun p e R s mid args below meth c T locs cells slots C target hx hZ hby hown X hR hL k => XT.lloadN X.here hx rfl (hb hby hd) (hL.2.1 _ _ h1) k
 ·obtain ⟨w, h1, h2, rfl⟩ := qload_inv hs
  obtain ⟨a, rfl⟩ := isJ_inv h2
  exact QTri.stack h fun p e R s mid args below meth c T locs cells slots C target hx hZ hby hown X hR hL k => XT.lload X.here hx rfl (hb hby hd) (hL.2.1 _ _ h1) k
 ·cases hs -- iconst
  exact QTri.stack h fun p e R s mid args below meth c T locs cells slots C target hx hZ hby hown X hR hL k => XS.iconst X.here hx rfl (hb hby hd) k
 ·cases hs
  exact QTri.stack h fun p e R s mid args below meth c T locs cells slots C target hx hZ hby hown X hR hL k => XS.bipush X.here hx rfl (hb hby hd) k
 ·cases hs
  exact QTri.stack h fun p e R s mid args below meth c T locs cells slots C target hx hZ hby hown X hR hL k => XS.sipush X.here hx rfl (hb hby hd) k
 ·cases hs
  exact QTri.stack h fun p e R s mid args below meth c T locs cells slots C target hx hZ hby hown X hR hL k => XT.lconst X.here hx rfl (hb hby hd) k
 ·-- ldc
  unfold qldc at hs
  split at hs
  ·rename_i w hw
   cases hs
   obtain ⟨x, hx1, hx2⟩ := qw_cI W (pK m, _, aux) (mem_of_contains (show lkC.contains (pK m, _, aux) = true from hr))
   rw [show vget cK aux = some w from hw] at hx1
   cases hx1
   exact QTri.stack h fun p e R s mid args below meth c T locs cells slots C target hx hZ hby hown X hR hL k => X.ldcI hx hown (mv hZ hx2) rfl (hb hby hd) k
  ·cases hs
 ·unfold qldc at hs
  split at hs
  ·rename_i w hw
   cases hs
   obtain ⟨x, hx1, hx2⟩ := qw_cJ W (pK m, _, aux) (mem_of_contains (show lkD.contains (pK m, _, aux) = true from hr))
   rw [show vget cK aux = some w from hw] at hx1
   cases hx1
   exact QTri.stack h fun p e R s mid args below meth c T locs cells slots C target hx hZ hby hown X hR hL k => X.ldc2J hx hown (mv hZ hx2) rfl (hb hby hd) k
  ·cases hs
 ·-- istore_n
  obtain ⟨w, S', L', rfl, h2, h3, rfl⟩ := qstore_inv hs
  obtain ⟨a, rfl⟩ := isI_inv h2
  exact QTri.frame h fun p e R s mid args below meth c T locs cells slots C hcx X hR hL hC => by
   obtain ⟨D, d1, d2, d3⟩ := store_ok hL h3
   exact ⟨D, d2, d3.trans hC, fun target k => XS.istoreN X.here hcx.1 rfl (hb hcx.2.2.1 hd) rfl d1 k⟩
 ·obtain ⟨w, S', L', rfl, h2, h3, rfl⟩ := qstore_inv hs
  obtain ⟨a, rfl⟩ := isI_inv h2
  exact QTri.frame h fun p e R s mid args below meth c T locs cells slots C hcx X hR hL hC => by
   obtain ⟨D, d1, d2, d3⟩ := store_ok hL h3
   exact ⟨D, d2, d3.trans hC, fun target k => XS.istore X.here hcx.1 rfl (hb hcx.2.2.1 hd) rfl d1 k⟩
 ·obtain ⟨w, S', L', rfl, h2, h3, rfl⟩ := qstore_inv hs
  obtain ⟨a, rfl⟩ := isJ_inv h2
  exact QTri.frame h fun p e R s mid args below meth c T locs cells slots C hcx X hR hL hC => by
   obtain ⟨D, d1, d2, d3⟩ := store_ok hL h3
   exact ⟨D, d2, d3.trans hC, fun target k => XT.lstoreN X.here hcx.1 rfl (hb hcx.2.2.1 hd) rfl d1 k⟩
 ·obtain ⟨w, S', L', rfl, h2, h3, rfl⟩ := qstore_inv hs
  obtain ⟨a, rfl⟩ := isJ_inv h2
  exact QTri.frame h fun p e R s mid args below meth c T locs cells slots C hcx X hR hL hC => by
   obtain ⟨D, d1, d2, d3⟩ := store_ok hL h3
   exact ⟨D, d2, d3.trans hC, fun target k => XT.lstore X.here hcx.1 rfl (hb hcx.2.2.1 hd) rfl d1 k⟩
 ·obtain ⟨w, S', L', rfl, h2, h3, rfl⟩ := qstore_inv hs
  obtain ⟨a, rfl⟩ := isR_inv h2
  exact QTri.frame h fun p e R s mid args below meth c T locs cells slots C hcx X hR hL hC => by
   obtain ⟨D, d1, d2, d3⟩ := store_ok hL h3
   exact ⟨D, d2, d3.trans hC, fun target k => XS.astoreN X.here hcx.1 rfl (hb hcx.2.2.1 hd) rfl rfl d1 k⟩
 ·obtain ⟨w, S', L', rfl, h2, h3, rfl⟩ := qstore_inv hs
  obtain ⟨a, rfl⟩ := isR_inv h2
  exact QTri.frame h fun p e R s mid args below meth c T locs cells slots C hcx X hR hL hC => by
   obtain ⟨D, d1, d2, d3⟩ := store_ok hL h3
   exact ⟨D, d2, d3.trans hC, fun target k => XS.astore X.here hcx.1 rfl (hb hcx.2.2.1 hd) rfl rfl d1 k⟩
 ·-- iinc
  unfold qinc at hs
  split at hs
  ·rename_i x hx1
   split at hs
   ·rename_i L' hL'
    cases hs
    exact QTri.frame h fun p e R s mid args below meth c T locs cells slots C hcx X hR hL hC => by
     obtain ⟨D, d1, d2, d3⟩ := store_ok hL hL'
     exact ⟨D, d2, d3.trans hC, fun target k => XS.iinc X.here hcx.1 rfl (hb hcx.2.2.1 hd) (hL.2.1 _ _ hx1) d1 k⟩
   ·cases hs
  ·cases hs
 ·obtain ⟨x, y, S', rfl, rfl⟩ := qbin_inv hs -- iadd
  exact QTri.stack h fun p e R s mid args below meth c T locs cells slots C target hx hZ hby hown X hR hL k => XS.iadd X.here hx rfl (hb hby hd) rfl k
 ·obtain ⟨x, y, S', rfl, rfl⟩ := qbin_inv hs
  exact QTri.stack h fun p e R s mid args below meth c T locs cells slots C target hx hZ hby hown X hR hL k => XS.isub X.here hx rfl (hb hby hd) rfl k
 ·obtain ⟨x, y, S', rfl, rfl⟩ := qbin_inv hs
  exact QTri.stack h fun p e R s mid args below meth c T locs cells slots C target hx hZ hby hown X hR hL k => XS.imul X.here hx rfl (hb hby hd) rfl k
 ·obtain ⟨x, y, S', rfl, rfl⟩ := qbin_inv hs
  exact QTri.stack h fun p e R s mid args below meth c T locs cells slots C target hx hZ hby hown X hR hL k => XS.iand X.here hx rfl (hb hby hd) rfl k
 ·obtain ⟨x, y, S', rfl, rfl⟩ := qbin_inv hs
  exact QTri.stack h fun p e R s mid args below meth c T locs cells slots C target hx hZ hby hown X hR hL k => XT.ior X.here hx rfl (hb hby hd) rfl k
 ·obtain ⟨x, y, S', rfl, rfl⟩ := qbin_inv hs
  exact QTri.stack h fun p e R s mid args below meth c T locs cells slots C target hx hZ hby hown X hR hL k => XT.ixor X.here hx rfl (hb hby hd) rfl k
 ·obtain ⟨x, y, S', rfl, rfl⟩ := qbin_inv hs
  exact QTri.stack h fun p e R s mid args below meth c T locs cells slots C target hx hZ hby hown X hR hL k => XT.ishl X.here hx rfl (hb hby hd) rfl k
 ·obtain ⟨x, y, S', rfl, rfl⟩ := qbin_inv hs
  exact QTri.stack h fun p e R s mid args below meth c T locs cells slots C target hx hZ hby hown X hR hL k => XT.ishr X.here hx rfl (hb hby hd) rfl k
 ·obtain ⟨x, y, S', rfl, rfl⟩ := qbin_inv hs
  exact QTri.stack h fun p e R s mid args below meth c T locs cells slots C target hx hZ hby hown X hR hL k => XT.iushr X.here hx rfl (hb hby hd) rfl k
 ·obtain ⟨x, y, z, S', rfl, hz, rfl⟩ := qbino_inv hs -- idiv
  unfold qdiv at hz
  split at hz
  ·cases hz
  ·rename_i hy
   cases hz
   exact QTri.stack h fun p e R s mid args below meth c T locs cells slots C target hx hZ hby hown X hR hL k => XS.idiv X.here hx rfl (hb hby hd) rfl hy k
 ·obtain ⟨x, y, z, S', rfl, hz, rfl⟩ := qbino_inv hs
  unfold qrem at hz
  split at hz
  ·cases hz
  ·rename_i hy
   cases hz
   exact QTri.stack h fun p e R s mid args below meth c T locs cells slots C target hx hZ hby hown X hR hL k => iremM X hx rfl (hb hby hd) rfl hy k
 ·obtain ⟨x, S', rfl, rfl⟩ := quni_inv hs -- ineg
  exact QTri.stack h fun p e R s mid args below meth c T locs cells slots C target hx hZ hby hown X hR hL k => XS.ineg X.here hx rfl (hb hby hd) rfl k
 ·obtain ⟨x, S', rfl, rfl⟩ := quni_inv hs
  exact QTri.stack h fun p e R s mid args below meth c T locs cells slots C target hx hZ hby hown X hR hL k => XT.i2l X.here hx rfl (hb hby hd) rfl k
 ·obtain ⟨x, S', rfl, rfl⟩ := quni_inv hs
  exact QTri.stack h fun p e R s mid args below meth c T locs cells slots C target hx hZ hby hown X hR hL k => XT.i2b X.here hx rfl (hb hby hd) rfl k
 ·obtain ⟨x, S', rfl, rfl⟩ := quniJ_inv hs
  exact QTri.stack h fun p e R s mid args below meth c T locs cells slots C target hx hZ hby hown X hR hL k => XT.l2i X.here hx rfl (hb hby hd) rfl k
 ·obtain ⟨x, S', rfl, rfl⟩ := quniJ_inv hs
  exact QTri.stack h fun p e R s mid args below meth c T locs cells slots C target hx hZ hby hown X hR hL k => XT.lneg X.here hx rfl (hb hby hd) rfl k
 ·obtain ⟨x, y, S', rfl, rfl⟩ := qbinJ_inv hs
  exact QTri.stack h fun p e R s mid args below meth c T locs cells slots C target hx hZ hby hown X hR hL k => XT.ladd X.here hx rfl (hb hby hd) rfl k
 ·obtain ⟨x, y, S', rfl, rfl⟩ := qbinJ_inv hs
  exact QTri.stack h fun p e R s mid args below meth c T locs cells slots C target hx hZ hby hown X hR hL k => XT.lsub X.here hx rfl (hb hby hd) rfl k
 ·obtain ⟨x, y, S', rfl, rfl⟩ := qbinJ_inv hs
  exact QTri.stack h fun p e R s mid args below meth c T locs cells slots C target hx hZ hby hown X hR hL k => XT.lmul X.here hx rfl (hb hby hd) rfl k
 ·obtain ⟨x, y, S', rfl, rfl⟩ := qbinJ_inv hs
  exact QTri.stack h fun p e R s mid args below meth c T locs cells slots C target hx hZ hby hown X hR hL k => XT.land X.here hx rfl (hb hby hd) rfl k
 ·obtain ⟨x, y, S', rfl, rfl⟩ := qbinJ_inv hs
  exact QTri.stack h fun p e R s mid args below meth c T locs cells slots C target hx hZ hby hown X hR hL k => XT.lor X.here hx rfl (hb hby hd) rfl k
 ·obtain ⟨x, y, S', rfl, rfl⟩ := qbinJ_inv hs
  exact QTri.stack h fun p e R s mid args below meth c T locs cells slots C target hx hZ hby hown X hR hL k => XT.lxor X.here hx rfl (hb hby hd) rfl k
 ·obtain ⟨x, y, S', rfl, rfl⟩ := qshJ_inv hs
  exact QTri.stack h fun p e R s mid args below meth c T locs cells slots C target hx hZ hby hown X hR hL k => XT.lshl X.here hx rfl (hb hby hd) rfl k
 ·obtain ⟨x, y, S', rfl, rfl⟩ := qshJ_inv hs
  exact QTri.stack h fun p e R s mid args below meth c T locs cells slots C target hx hZ hby hown X hR hL k => XT.lshr X.here hx rfl (hb hby hd) rfl k
 ·obtain ⟨x, y, S', rfl, rfl⟩ := qshJ_inv hs
  exact QTri.stack h fun p e R s mid args below meth c T locs cells slots C target hx hZ hby hown X hR hL k => XT.lushr X.here hx rfl (hb hby hd) rfl k
 ·split at hs -- lcmp
  ·cases hs
   exact QTri.stack h fun p e R s mid args below meth c T locs cells slots C target hx hZ hby hown X hR hL k => XT.lcmp X.here hx rfl (hb hby hd) rfl k
  ·cases hs
 ·cases hs -- goto
  obtain ⟨t1, t2⟩ := qtgt_spec hr
  exact QTri.stack h fun p e R s mid args below meth c T locs cells slots C target hx hZ hby hown X hR hL k => XS.goto X.here hx rfl rfl (hb hby hd) t1 t2 k
 ·obtain ⟨x, S', rfl, rfl⟩ := qif_inv hs
  obtain ⟨t1, t2⟩ := qtgt_spec hr
  cases hh : ifCond.holds _ x with
  | true => rw [hh] at h; exact QTri.stack h fun p e R s mid args below meth c T locs cells slots C target hx hZ hby hown X hR hL k => XS.ifYes X.here hx rfl rfl (hb hby hd) rfl hh t1 t2 k
  | false => rw [hh] at h; exact QTri.stack h fun p e R s mid args below meth c T locs cells slots C target hx hZ hby hown X hR hL k => XS.ifNo X.here hx rfl (hb hby hd) rfl hh k
 ·obtain ⟨x, y, S', rfl, rfl⟩ := qicmp_inv hs
  obtain ⟨t1, t2⟩ := qtgt_spec hr
  cases hh : if_icmp.holds _ x y with
  | true => rw [hh] at h; exact QTri.stack h fun p e R s mid args below meth c T locs cells slots C target hx hZ hby hown X hR hL k => XS.icmpYes X.here hx rfl rfl (hb hby hd) rfl hh t1 t2 k
  | false => rw [hh] at h; exact QTri.stack h fun p e R s mid args below meth c T locs cells slots C target hx hZ hby hown X hR hL k => XS.icmpNo X.here hx rfl (hb hby hd) rfl hh k
 ·unfold qdup at hs
  split at hs
  ·cases hs
   exact QTri.stack h fun p e R s mid args below meth c T locs cells slots C target hx hZ hby hown X hR hL k => XS.dup X.here hx rfl (hb hby hd) rfl rfl k
  ·cases hs
   exact QTri.stack h fun p e R s mid args below meth c T locs cells slots C target hx hZ hby hown X hR hL k => XS.dup X.here hx rfl (hb hby hd) rfl rfl k
  ·cases hs
 ·unfold qdup2 at hs
  split at hs
  ·cases hs
   exact QTri.stack h fun p e R s mid args below meth c T locs cells slots C target hx hZ hby hown X hR hL k => XT.dup2 X.here hx rfl (hb hby hd) rfl rfl rfl k
  ·cases hs
   exact QTri.stack h fun p e R s mid args below meth c T locs cells slots C target hx hZ hby hown X hR hL k => XT.dup2 X.here hx rfl (hb hby hd) rfl rfl rfl k
  ·cases hs
   exact QTri.stack h fun p e R s mid args below meth c T locs cells slots C target hx hZ hby hown X hR hL k => XT.dup2L X.here hx rfl (hb hby hd) rfl k
  ·cases hs
 ·unfold qpop at hs
  split at hs
  ·cases hs
   exact QTri.stack h fun p e R s mid args below meth c T locs cells slots C target hx hZ hby hown X hR hL k => XT.pop X.here hx rfl (hb hby hd) rfl rfl k
  ·cases hs
   exact QTri.stack h fun p e R s mid args below meth c T locs cells slots C target hx hZ hby hown X hR hL k => XT.pop X.here hx rfl (hb hby hd) rfl rfl k
  ·cases hs
 ·exact QTri.getfield W h hc hs
 ·exact QTri.putfield Ad W h hc hs
 ·exact QTri.iaload h hc hs
 ·exact QTri.baload h hc hs
 ·exact QTri.laload h hc hs
 ·exact QTri.iastore Ad h hc hs
 ·exact QTri.bastore Ad h hc hs
 ·exact QTri.lastore Ad h hc hs
 ·exact QTri.alen h hc hs
 ·-- newarray
  unfold qnewA at hs
  split at hs
  ·split at hs
   ·obtain ⟨k, hk, hs⟩ := Option.bind_eq_some_iff.mp hs
    cases hs
    exact QTri.newArr (c := .inr (.inl (.int, List.replicate k 0))) Ad W hk hc (by simp [qsz]) (fun h' a cA A => ⟨_, A, by simp [newA, (qnew_inv hk).2.1]; exact Or.inr rfl⟩) h
   ·obtain ⟨k, hk, hs⟩ := Option.bind_eq_some_iff.mp hs
    cases hs
    exact QTri.newArr (c := .inr (.inl (.boolean, List.replicate k 0))) Ad W hk hc (by simp [qsz]) (fun h' a cA A => ⟨_, A, by simp [newA, (qnew_inv hk).2.1]; exact Or.inr rfl⟩) h
   ·obtain ⟨k, hk, hs⟩ := Option.bind_eq_some_iff.mp hs
    cases hs
    exact QTri.newArr (c := .inr (.inl (.byte, List.replicate k 0))) Ad W hk hc (by simp [qsz]) (fun h' a cA A => ⟨_, A, by simp [newA, (qnew_inv hk).2.1]; exact Or.inr rfl⟩) h
   ·obtain ⟨k, hk, hs⟩ := Option.bind_eq_some_iff.mp hs
    cases hs
    exact QTri.newArr (c := .inr (.inr (List.replicate k 0))) Ad W hk hc (by simp [qsz]) (fun h' a cA A => ⟨_, A, by simp [newA, (qnew_inv hk).2.1]; exact Or.inr rfl⟩) h
   ·cases hs
  ·cases hs
 ·cases hs; exact QTri.newObj Ad W h hc
 ·cases hs
theorem QTri.steps (Ad : QAd n0 ad) (W : QW Z a0) : ∀ (n : Nat) {st st' : QSt}, qsteps m n st = some st' → QTri l Z n0 ad m st' v σ' → QTri l Z n0 ad m st v σ'
 | 0, st, st', h, k => by cases h; exact k
 | n + 1, st, st', h, k => by
  simp only [qsteps] at h
  split at h
  ·rename_i st₁ h1
   exact QTri.step Ad W (QTri.steps Ad W n h k) h1
  ·cases h
def lmask : List Bool → QLoc → QLoc
 | b :: t, x :: u => (bif b then x else none) :: lmask t u
 | _, L => L.map fun _ => none
theorem lmask_len : ∀ (b : List Bool) (L : QLoc), (lmask b L).length = L.length
 | [], L => by simp [lmask]
 | _ :: _, [] => by simp [lmask]
 | _ :: t, _ :: u => by simp [lmask, lmask_len t u]
theorem lmask_get : ∀ (b : List Bool) (L : QLoc) (k : Nat) (v : Value), lget (lmask b L) k = some v → lget L k = some v
 | [], L, k, v, h => by
  simp only [lmask, lget_eq, List.getElem?_map] at h
  cases hq : L[k]? <;> simp [hq] at h
 | _ :: _, [], k, v, h => by simp [lmask, lget] at h
 | b :: t, x :: u, 0, v, h => by
  simp only [lmask, lget] at h ⊢
  cases b
  ·cases h
  ·exact h
 | b :: t, x :: u, k + 1, v, h => by
  simp only [lmask, lget] at h ⊢
  exact lmask_get t u k v h
theorem QTri.mask {pc : Nat} {L : QLoc} {S : List Value} {σ : QHeap} (b : List Bool) (h : QTri l Z n0 ad m (pc, lmask b L, S, σ) v σ') : QTri l Z n0 ad m (pc, L, S, σ) v σ' :=
 QTri.frame h fun p e R s mid args below meth c T locs cells slots C hcx X hR hL hC => ⟨C, ⟨by rw [lmask_len]; exact hL.1, fun k u hk => hL.2.1 k u (lmask_get b L k u hk), hL.2.2⟩, hC, fun target k => k⟩
theorem QTri.ret0 {pc aux : Nat} {L : QLoc} {σ : QHeap} (hc : pCode m pc = some (.return_, aux)) (hr : pRet m = none) : QTri l Z n0 ad m (pc, L, [], σ) none σ :=
 have hd : decode (pBytes m) pc = .ok (.return_, 1) := pDecN hc rfl
 ⟨Nat.le_refl _, Nat.le_refl _, fun p e R s mid args below meth c T locs cells slots C hcx X hR hF hL hC hn hc1 hsl => ⟨T, locs, by simpa using X, hR, hF, fun fs hf => X.returnOut hcx.1 (hcx.2.2.2.2.1.trans hr) (hb hcx.2.2.1 hd) hf⟩⟩
theorem QTri.retI {pc aux : Nat} {L : QLoc} {S : List Value} {σ : QHeap} {x : Int32} (hc : pCode m pc = some (.ireturn, aux)) (hr : pRet m = some .int) : QTri l Z n0 ad m (pc, L, .int x :: S, σ) (some (.int x)) σ :=
 have hd : decode (pBytes m) pc = .ok (.ireturn, 1) := pDecN hc rfl
 ⟨Nat.le_refl _, Nat.le_refl _, fun p e R s mid args below meth c T locs cells slots C hcx X hR hF hL hC hn hc1 hsl => ⟨T, locs, by simpa using X, hR, hF, fun fs hf => Jvm.RoadKit.retI X hcx.1 (hcx.2.2.2.2.1.trans hr) (hb hcx.2.2.1 hd) hf⟩⟩
theorem QTri.retZ {pc aux : Nat} {L : QLoc} {S : List Value} {σ : QHeap} {x : Int32} (hc : pCode m pc = some (.ireturn, aux)) (hr : pRet m = some .boolean) : QTri l Z n0 ad m (pc, L, .int x :: S, σ) (some (.int (x &&& 1))) σ :=
 have hd : decode (pBytes m) pc = .ok (.ireturn, 1) := pDecN hc rfl
 ⟨Nat.le_refl _, Nat.le_refl _, fun p e R s mid args below meth c T locs cells slots C hcx X hR hF hL hC hn hc1 hsl => ⟨T, locs, by simpa using X, hR, hF, fun fs hf => retN X hcx.1 (t := .boolean) (hcx.2.2.2.2.1.trans hr) (by simp) (hb hcx.2.2.1 hd) hf⟩⟩
theorem QTri.retJ {pc aux : Nat} {L : QLoc} {S : List Value} {σ : QHeap} {x : Int64} (hc : pCode m pc = some (.lreturn, aux)) (hr : pRet m = some .long) : QTri l Z n0 ad m (pc, L, .long x :: S, σ) (some (.long x)) σ :=
 have hd : decode (pBytes m) pc = .ok (.lreturn, 1) := pDecN hc rfl
 ⟨Nat.le_refl _, Nat.le_refl _, fun p e R s mid args below meth c T locs cells slots C hcx X hR hF hL hC hn hc1 hsl => ⟨T, locs, by simpa using X, hR, hF, fun fs hf => retOut X hcx.1 (t := .long) (hcx.2.2.2.2.1.trans hr) rfl (Or.inr (Or.inl ⟨rfl, rfl, _, rfl⟩)) (hb hcx.2.2.1 hd) hf⟩⟩
def LOk (ad : Nat → Addr) (L : QLoc) (C : List Slot) : Prop :=
 L.length = C.length ∧ (∀ k v, lget L k = some v → C[k]? = some (.val (qv ad v))) ∧ (∀ k w, C[k]? = some (.val w) → w.category = 2 → C[k + 1]? = some .second) ∧ ∀ k, C[k]? = some .second → ∃ j w, k = j + 1 ∧ C[j]? = some (.val w) ∧ w.category = 2
theorem LOk.base (ad : Nat → Addr) (n : Nat) : LOk ad (List.replicate n none) (List.replicate n .unset) := by
 refine ⟨by simp, fun k u h => ?_, fun k w h => ?_, fun k h => ?_⟩
 ·rw [lget_eq] at h
  rcases Nat.lt_or_ge k n with q | q
  ·simp [List.getElem?_replicate, q] at h
  ·simp [List.getElem?_eq_none, q] at h
 ·rcases Nat.lt_or_ge k n with q | q
  ·simp [List.getElem?_replicate, q] at h
  ·simp [List.getElem?_eq_none, q] at h
 ·rcases Nat.lt_or_ge k n with q | q
  ·simp [List.getElem?_replicate, q] at h
  ·simp [List.getElem?_eq_none, q] at h
theorem LOk.one {L : QLoc} {C : List Slot} (H : LOk ad L C) {u : Value} (hu : u.category = 1) : LOk ad (some u :: L) (.val (qv ad u) :: C) := by
 obtain ⟨h1, h2, h3, h4⟩ := H
 refine ⟨by simp [h1], fun k w h => ?_, fun k w h hw => ?_, fun k h => ?_⟩
 ·cases k with
  | zero => simp only [lget] at h; cases h; simp
  | succ k => simp only [lget] at h; simpa using h2 k w h
 ·cases k with
  | zero => simp at h; rw [← h, qv_cat, hu] at hw; cases hw
  | succ k => simpa using h3 k w (by simpa using h) hw
 ·cases k with
  | zero => simp at h
  | succ k =>
   obtain ⟨j, w, z1, z2, z3⟩ := h4 k (by simpa using h)
   exact ⟨j + 1, w, by omega, by simpa using z2, z3⟩
theorem LOk.two {L : QLoc} {C : List Slot} (H : LOk ad L C) {u : Value} (hu : u.category = 2) : LOk ad (some u :: none :: L) (.val (qv ad u) :: .second :: C) := by
 obtain ⟨h1, h2, h3, h4⟩ := H
 refine ⟨by simp [h1], fun k w h => ?_, fun k w h hw => ?_, fun k h => ?_⟩
 ·rcases k with _ | _ | k
  ·simp only [lget] at h; cases h; simp
  ·simp [lget] at h
  ·simp only [lget] at h; simpa using h2 k w h
 ·rcases k with _ | _ | k
  ·simp
  ·simp at h
  ·simpa using h3 k w (by simpa using h) hw
 ·rcases k with _ | _ | k
  ·simp at h
  ·exact ⟨0, qv ad u, rfl, by simp, by rw [qv_cat]; exact hu⟩
  ·obtain ⟨j, w, z1, z2, z3⟩ := h4 k (by simpa using h)
   exact ⟨j + 2, w, by omega, by simpa using z2, z3⟩
def slotsOf (u : Value) : List Slot := if u.category = 2 then [.val u, .second] else [.val u]
theorem fold_slots : ∀ (as : List Value) (acc : Array Slot), (as.foldl (fun acc v => if v.category = 2 then (acc.push (.val v)).push .second else acc.push (.val v)) acc).toList = acc.toList ++ as.flatMap slotsOf
 | [], acc => by simp
 | u :: t, acc => by
  rw [List.foldl_cons, fold_slots t]
  by_cases hc : u.category = 2 <;> simp [slotsOf, hc]
theorem slots_len : ∀ (as : List Value), (as.flatMap slotsOf).length = (as.map fun v => v.category).sum
 | [] => rfl
 | u :: t => by
  rw [List.flatMap_cons, List.length_append, slots_len t, List.map_cons, List.sum_cons]
  cases u <;> simp [slotsOf, Value.category]
theorem cats_qv (as : List Value) : ((as.map (qv ad)).map fun v => v.category).sum = (as.map fun v => v.category).sum := by
 rw [List.map_map]
 congr 1
 exact List.map_congr_left fun x _ => qv_cat ad x
theorem entry_list : ∀ (as : List Value) (n : Nat), LOk ad ((as.flatMap fun v => match v with | .long x => [some (.long x), none] | .double x => [some (.double x), none] | v => [some v]) ++ List.replicate n none) ((as.map (qv ad)).flatMap slotsOf ++ List.replicate n .unset)
 | [], n => by simpa using LOk.base ad n
 | u :: t, n => by
  have ih := entry_list t n
  cases u with
  | long x => exact LOk.two ih rfl
  | double x => exact LOk.two ih rfl
  | int x => exact LOk.one ih rfl
  | float x => exact LOk.one ih rfl
  | null => exact LOk.one ih rfl
  | ref x => exact LOk.one ih rfl
  | retAddr x => exact LOk.one ih rfl
theorem qentry_ok (as : List Value) (mx : Nat) (h : (as.map fun v => v.category).sum ≤ mx) : QLocOk ad (qentry as mx) (argsToLocals (as.map (qv ad)).toArray mx) ∧ (argsToLocals (as.map (qv ad)).toArray mx).size = mx := by
 have e : (argsToLocals (as.map (qv ad)).toArray mx).toList = (as.map (qv ad)).flatMap slotsOf ++ List.replicate (mx - (as.map fun v => v.category).sum) .unset := by
  unfold argsToLocals
  have q := fold_slots (as.map (qv ad)) #[]
  simp only [List.foldl_toArray', Array.toList_append, Array.toList_replicate]
  have q2 : ((as.map (qv ad)).foldl (fun (acc : Array Slot) (v : Value) => if v.category = 2 then (acc.push (.val v)).push .second else acc.push (.val v)) #[]).size = (as.map fun v => v.category).sum := by
   rw [← Array.length_toList, q]
   simp only [List.nil_append]
   rw [slots_len, cats_qv]
  rw [q, q2]
  simp
 have H := entry_list (ad := ad) as (mx - (as.map fun v => v.category).sum)
 rw [← e] at H
 obtain ⟨h1, h2, h3, h4⟩ := H
 have hs : (argsToLocals (as.map (qv ad)).toArray mx).size = mx := by
  rw [← Array.length_toList, e, List.length_append, slots_len, cats_qv, List.length_replicate]
  omega
 refine ⟨⟨h1.trans Array.length_toList, fun k u hk => ?_, fun k w hk hw => ?_, fun k hk => ?_⟩, hs⟩
 ·have := h2 k u hk; rwa [Array.getElem?_toList] at this
 ·have := h3 k w (by rw [Array.getElem?_toList]; exact hk) hw; rwa [Array.getElem?_toList] at this
 ·obtain ⟨j, w, z1, z2, z3⟩ := h4 k (by rw [Array.getElem?_toList]; exact hk)
  exact ⟨j, w, z1, by rwa [Array.getElem?_toList] at z2, z3⟩
set_option maxHeartbeats 4000000 in
theorem QTri.met {k : Nat} {as : List Value} {σ σ₁ : QHeap} {w : Option Value} {h0 : Heap} (hk : k < pN) (h : QTri l Z n0 ad k (0, qentry as (pMaxL k), [], σ) w σ₁) (hR : QRep Z n0 ad h0 σ) (hlen : (as.map fun v => v.category).sum ≤ pMaxL k) (hret : pRet k = none → w = none) (ws : List Jvm.Cond) {rm : Room}
  (r1 : pFr k ≤ rm.frames) (r2 : pLo k ≤ rm.locals) (r3 : σ₁.length - σ.length ≤ rm.cells) (r4 : qhs σ₁ - qhs σ ≤ rm.slots) :
  MetFree l (pName k) (head1 (Jvm.Cond.code (pName k) (pBytes k) (pMaxL k) (pRet k) :: ws) rm) (fun a U => a = (as.map (qv ad)).toArray ∧ Z.Warmed39 U.vm ∧ U.heap = h0) (fun _ _ _ _ _ => True)
   (fun _ U o U' => ∃ v L, o = .returned v ∧ (v = w.map (qv ad) ∧ QRep Z n0 ad U'.heap σ₁ ∧ Fr n0 L) ∧ FrameEnd U o U' L (σ₁.length - σ.length) (qhs σ₁ - qhs σ)) := by
 refine MetFree.of_bodySF (plainFor_of_name (kPlain _ (pKlt k hk))) hisR ?_
 intro p e s mid args below meth c s₁ Bd hml0 hP hK
 obtain ⟨rfl, hZ, hh⟩ := hP
 have e0 : s₁.heap = h0 := by rw [← hh, Bd.state]; rfl
 obtain ⟨hl1, hl2⟩ := qentry_ok (ad := ad) as (pMaxL k) hlen
 have hX : Stand p l e rm s mid (as.map (qv ad)).toArray below meth c s₁ [] 0 0 := Stand.of_body Bd
 obtain ⟨T', locs', X', R', F', S'⟩ := h.2.2 p e rm s mid _ below meth c s₁ [] 0 0 _ ⟨Bd.exec, hZ, Bd.bytes, hml0, Bd.returns, findClass_of_methodNamed Bd.named, (name_of_methodNamed Bd.named Bd.method).1, r1, r2⟩ hX (by rw [e0]; exact hR) (Fr.nil _) hl1 (hl2.trans hml0.symm) (by rw [hh, Nat.add_zero]; exact hR.2.1.symm) (by rw [Nat.zero_add]; exact r3) (by rw [Nat.zero_add]; exact r4)
 obtain ⟨fs, hr, hrun, hended, hW, hsame⟩ := X'.leave (v := w.map (qv ad)) (fun q => by rw [hret (Bd.returns.symm.trans q)]; rfl)
 refine ⟨_, _, S' fs hr, hrun, hended, _, _, rfl, ⟨rfl, R', F'⟩, ⟨_, rfl⟩, hW, ?_⟩
 simp only [Nat.zero_add] at hsame
 exact hsame
theorem QTri.room {k : Nat} {σ σ₁ : QHeap} {rest : List Value} {R : Room} (hroom : (Nat.ble (pFr k + 1) (pFr m) && Nat.ble ((rest.map fun v => v.category).sum + (pMaxL k + 11) + pLo k) (pLo m)) = true) (hfr : pFr m ≤ R.frames) (hlo : pLo m ≤ R.locals) :
  pFr k + 1 ≤ R.frames ∧ (rest.map fun v => v.category).sum + (pMaxL k + 11) + pLo k ≤ R.locals := by
 obtain ⟨q1, q2⟩ := Bool.and_eq_true_iff.mp hroom
 exact ⟨Nat.le_trans (Nat.le_of_ble_eq_true q1) hfr, Nat.le_trans (Nat.le_of_ble_eq_true q2) hlo⟩
theorem sig_len {k : Nat} (hk : k < pN) {as : List Value} (hna : as.length = pNA k) : ∀ sig, parseMethodDescriptor (pName k).desc = some sig → (as.map (qv ad)).length = sig.parameters.length := fun sig hs => by
 have q := pSig k hk
 rw [show parseMethodDescriptor (pDs k) = some sig from hs] at q
 simp at q
 simp [hna, q]
theorem ret_map (w : Option Value) (rest : List Value) : (w.toList ++ rest).map (qv ad) = (w.map (qv ad)).toList ++ rest.map (qv ad) := by cases w <;> simp
theorem QTri.after {as0 : List Value} {pc : Nat} {L : QLoc} {S rest : List Value} {σ σ₁ : QHeap} {w : Option Value} {k : Nat} (hcal : QTri l Z n0 ad k (0, qentry as0 (pMaxL k), [], σ) w σ₁) (h : QTri l Z n0 ad m (pc + 3, L, w.toList ++ rest, σ₁) v σ')
  (hs : ∀ (p : Program) (e : Env) (R : Room) (s : State) (mid : MethodId) (args : Array Value) (below : List Frame) (meth : Method) (c : Code) (T : State) (locs : List Loc) (cells slots : Nat) (C : Array Slot),
   QCx Z p R s mid meth c m → Stand p l e R s mid args below meth c T locs cells slots → QRep Z n0 ad T.heap σ → C.size = c.maxLocals → cells + (σ₁.length - σ.length) ≤ R.cells → slots + (qhs σ₁ - qhs σ) ≤ R.slots →
   ∃ T₁ Lc, Stand p l e R s mid args below meth c T₁ (locs ++ Lc) (cells + (σ₁.length - σ.length)) (slots + (qhs σ₁ - qhs σ)) ∧ QRep Z n0 ad T₁.heap σ₁ ∧ Fr n0 Lc ∧
    ∀ target, Steps p.tables e below (T₁.setTop (mkF mid (pc + 3) C ((w.map (qv ad)).toList ++ rest.map (qv ad)))) target → Steps p.tables e below (T.setTop (mkF mid pc C (S.map (qv ad)))) target) :
  QTri l Z n0 ad m (pc, L, S, σ) v σ' := by
 refine QTri.gen h hcal.1 hcal.2.1 fun p e R s mid args below meth c T locs cells slots C hcx X hR hF hL hC hn hc1 hsl => ?_
 obtain ⟨T₁, Lc, X₁, R₁, F₁, st⟩ := hs p e R s mid args below meth c T locs cells slots C hcx X hR hC hc1 hsl
 refine ⟨T₁, locs ++ Lc, C, X₁, R₁, hF.app F₁, hL, hC, fun target q => st target ?_⟩
 rw [← ret_map]
 exact q
set_option maxHeartbeats 4000000 in
theorem QTri.callV (W : QW Z a0) {pc idx k a : Nat} {L : QLoc} {S as rest vs : List Value} {σ σ₁ : QHeap} {w : Option Value} (hc : pCode m pc = some (.invokevirtual idx, k)) (hm : (lkV.contains (pK m, idx, k) && mV.contains k) = true) (hcell : hget σ a = some (.inl vs)) (hS : S = as.reverse ++ .ref a :: rest)
  (hna : as.length = pNA k) (hlen : Nat.ble (((Value.ref a :: as).map fun v => v.category).sum) (pMaxL k) = true) (hroom : (Nat.ble (pFr k + 1) (pFr m) && Nat.ble ((rest.map fun v => v.category).sum + (pMaxL k + 11) + pLo k) (pLo m)) = true) (hrb : (w.isNone || (pRet k).isSome) = true)
  (hcal : QTri l Z n0 ad k (0, qentry (.ref a :: as) (pMaxL k), [], σ) w σ₁) (h : QTri l Z n0 ad m (pc + 3, L, w.toList ++ rest, σ₁) v σ') : QTri l Z n0 ad m (pc, L, S, σ) v σ' := by
 have hd : decode (pBytes m) pc = .ok (.invokevirtual idx, 3) := pDecN hc rfl
 subst hS
 obtain ⟨m1, m2⟩ := Bool.and_eq_true_iff.mp hm
 have m1 := mem_of_contains m1
 have m2 := mem_of_contains m2
 have hkA := (mVlt k m2).1
 have hkN := mAlt k hkA
 have hret : pRet k = none → w = none := fun q => by
  rw [q] at hrb
  cases w with
  | none => rfl
  | some w => simp at hrb
 refine QTri.after hcal h fun p e R s mid args below meth c T locs cells slots C hcx X hR hC hc1 hsl => ?_
 obtain ⟨hx, hZ, hby, hml, hret', hown, hnm, hfr, hlo⟩ := hcx
 have hd2 : decode c.code pc = .ok (.invokevirtual idx, 3) := by rw [hby]; exact hd
 obtain ⟨f1, f2⟩ := QTri.room (σ := σ) (σ₁ := σ₁) hroom hfr hlo
 obtain ⟨cq, kq, q1, q2, q3⟩ := isOf hZ rfl (hR.2.2 _ _ hcell).1
 obtain ⟨w1, w2, w3⟩ := (qw_vi W) k m2
 obtain ⟨c1, c2⟩ := (qw_cod W) k hkA
 obtain ⟨_, _, ⟨T₁, L₁, k₁, n₁⟩, -, X₁, ⟨Lc, ⟨rfl, hR1, hF1⟩, l₁, y₁, z₁⟩, st⟩ := X.virtualBack hx (own := kName (pK m)) (index := idx) (y := pName k) (z := pName k) hown (mvT hZ (qw_ml W (pK m, idx, k) m1)) (mvT hZ w1) (notFace_of_selects (args := #[]) (mvT hZ w2)) (mvT hZ w2) (mvT hZ w3) (pOwn _ (pKlt k hkN))
  (backOf (W := (rest.map fun v => v.category).sum) (rm := ⟨pFr k, σ₁.length - σ.length, qhs σ₁ - qhs σ, pLo k⟩) (Q := fun v h L => v = Option.map (qv ad) w ∧ QRep Z n0 ad h σ₁ ∧ Fr n0 L) (QTri.met hkN hcal hR (Nat.le_of_ble_eq_true hlen) hret [] (Nat.le_refl _) (Nat.le_refl _) (Nat.le_refl _) (Nat.le_refl _)) hZ c1 c2 f1 f2) q1 q3 (g := mkF mid pc C (List.map (qv ad) (as.reverse ++ .ref a :: rest))) rfl hC (Steps.refl _) (argsL := as.map (qv ad)) (rest := rest.map (qv ad)) (sig_len hkN hna) (by simp [qv]) (by show 2 * 0 + _ ≤ _; rw [cats_qv]; omega) hd2 (fun _ _ => ⟨rfl, rfl, hc1, hsl⟩)
 dsimp only [Pt.U, Pt.locs, Pt.cells, Pt.slots] at X₁ l₁ y₁ z₁ st hR1
 subst l₁ y₁ z₁
 exact ⟨T₁, Lc, X₁, hR1, hF1, fun target q => st.trans q⟩
set_option maxHeartbeats 4000000 in
theorem QTri.callI (W : QW Z a0) {pc idx k a : Nat} {L : QLoc} {S as rest : List Value} {σ σ₁ : QHeap} (hc : pCode m pc = some (.invokespecial idx, k)) (hm : (lkV.contains (pK m, idx, k) && mI.contains k) = true) (hS : S = as.reverse ++ .ref a :: rest)
  (hna : as.length = pNA k) (hlen : Nat.ble (((Value.ref a :: as).map fun v => v.category).sum) (pMaxL k) = true) (hroom : (Nat.ble (pFr k + 1) (pFr m) && Nat.ble ((rest.map fun v => v.category).sum + (pMaxL k + 11) + pLo k) (pLo m)) = true)
  (hcal : QTri l Z n0 ad k (0, qentry (.ref a :: as) (pMaxL k), [], σ) none σ₁) (h : QTri l Z n0 ad m (pc + 3, L, rest, σ₁) v σ') : QTri l Z n0 ad m (pc, L, S, σ) v σ' := by
 have hd : decode (pBytes m) pc = .ok (.invokespecial idx, 3) := pDecN hc rfl
 subst hS
 obtain ⟨m1, m2⟩ := Bool.and_eq_true_iff.mp hm
 have m1 := mem_of_contains m1
 have m2 := mem_of_contains m2
 obtain ⟨hkA, -, hin, hrt⟩ := mIlt k m2
 have hkN := mAlt k hkA
 refine QTri.after (w := none) hcal h fun p e R s mid args below meth c T locs cells slots C hcx X hR hC hc1 hsl => ?_
 obtain ⟨hx, hZ, hby, hml, hret', hown, hnm, hfr, hlo⟩ := hcx
 have hd2 : decode c.code pc = .ok (.invokespecial idx, 3) := by rw [hby]; exact hd
 obtain ⟨f1, f2⟩ := QTri.room (σ := σ) (σ₁ := σ₁) hroom hfr hlo
 obtain ⟨c1, c2⟩ := (qw_cod W) k hkA
 have c1' := c1
 rw [hrt] at c1'
 obtain ⟨_, _, ⟨T₁, L₁, k₁, n₁⟩, -, X₁, ⟨Lc, ⟨rfl, hR1, hF1⟩, l₁, y₁, z₁⟩, st⟩ := X.specialBack hx (own := kName (pK m)) (index := idx) (y := pName k) hin hown (mvT hZ (qw_ml W (pK m, idx, k) m1)) (mvT hZ ((qw_ini W) k m2)) (mvT hZ c1') (pOwn _ (pKlt k hkN))
  (backOf (W := (rest.map fun v => v.category).sum) (rm := ⟨pFr k, σ₁.length - σ.length, qhs σ₁ - qhs σ, pLo k⟩) (Q := fun v h L => v = Option.map (qv ad) none ∧ QRep Z n0 ad h σ₁ ∧ Fr n0 L) (QTri.met hkN hcal hR (Nat.le_of_ble_eq_true hlen) (fun _ => rfl) [] (Nat.le_refl _) (Nat.le_refl _) (Nat.le_refl _) (Nat.le_refl _)) hZ c1 c2 f1 f2) (g := mkF mid pc C (List.map (qv ad) (as.reverse ++ .ref a :: rest))) rfl hC (Steps.refl _) (a := ad a) (argsL := as.map (qv ad)) (rest := rest.map (qv ad)) (sig_len hkN hna) (by simp [qv]) (by show 2 * 0 + _ ≤ _; rw [cats_qv]; omega) hd2 (fun _ _ => ⟨rfl, rfl, hc1, hsl⟩)
 dsimp only [Pt.U, Pt.locs, Pt.cells, Pt.slots] at X₁ l₁ y₁ z₁ st hR1
 subst l₁ y₁ z₁
 exact ⟨T₁, Lc, X₁, hR1, hF1, fun target q => st.trans q⟩
set_option maxHeartbeats 4000000 in
theorem QTri.callP (W : QW Z a0) {pc idx k a : Nat} {L : QLoc} {S as rest vs : List Value} {σ σ₁ : QHeap} {w : Option Value} (hc : pCode m pc = some (.invokevirtual idx, k)) (hm : (lkV.contains (pK m, idx, k) && mP.contains k) = true) (hcell : hget σ a = some (.inl vs)) (hS : S = as.reverse ++ .ref a :: rest)
  (hna : as.length = pNA k) (hlen : Nat.ble (((Value.ref a :: as).map fun v => v.category).sum) (pMaxL k) = true) (hroom : (Nat.ble (pFr k + 1) (pFr m) && Nat.ble ((rest.map fun v => v.category).sum + (pMaxL k + 11) + pLo k) (pLo m)) = true) (hrb : (w.isNone || (pRet k).isSome) = true)
  (hcal : QTri l Z n0 ad k (0, qentry (.ref a :: as) (pMaxL k), [], σ) w σ₁) (h : QTri l Z n0 ad m (pc + 3, L, w.toList ++ rest, σ₁) v σ') : QTri l Z n0 ad m (pc, L, S, σ) v σ' := by
 have hd : decode (pBytes m) pc = .ok (.invokevirtual idx, 3) := pDecN hc rfl
 subst hS
 obtain ⟨m1, m2⟩ := Bool.and_eq_true_iff.mp hm
 have m1 := mem_of_contains m1
 have m2 := mem_of_contains m2
 obtain ⟨hkA, hk1⟩ := mPlt k m2
 have hkN := mAlt k hkA
 have hret : pRet k = none → w = none := fun q => by
  rw [q] at hrb
  cases w with
  | none => rfl
  | some w => simp at hrb
 refine QTri.after hcal h fun p e R s mid args below meth c T locs cells slots C hcx X hR hC hc1 hsl => ?_
 obtain ⟨hx, hZ, hby, hml, hret', hown, hnm, hfr, hlo⟩ := hcx
 have hd2 : decode c.code pc = .ok (.invokevirtual idx, 3) := by rw [hby]; exact hd
 obtain ⟨f1, f2⟩ := QTri.room (σ := σ) (σ₁ := σ₁) hroom hfr hlo
 obtain ⟨cell, h1, h2⟩ := (hR.2.2 _ _ hcell).1.cell
 obtain ⟨w1, w2⟩ := (qw_pr W) k m2
 obtain ⟨c1, c2⟩ := (qw_cod W) k hkA
 have hpr : s.PrivateAt (pName k) := Cond.privateMethod_at (mvP hZ w2 (args := #[]))
 obtain ⟨cC, kC, i1, i2, i3, i4⟩ := Cond.instantiable_spec (args := #[]) (mvT hZ (qw_inst W))
 have hsel : (Cond.selects (pName k).cls (pName k) (pName k)).before args s = true := selects_self_of_private (c := cC) (k := kC) (by show s.vm.findClass (kName (pK k)) = _; rw [hk1]; exact i1) i2 (by have q := i4.1; cases hq : kC.isInterface with | false => rfl | true => rw [hq] at q; simp at q) hpr (mvT hZ w1) (pOwn _ (pKlt k hkN))
 obtain ⟨_, _, ⟨T₁, L₁, k₁, n₁⟩, -, X₁, ⟨Lc, ⟨rfl, hR1, hF1⟩, l₁, y₁, z₁⟩, st⟩ := X.privateBack hx (own := kName (pK m)) (index := idx) (y := pName k) hown (mvT hZ (qw_ml W (pK m, idx, k) m1)) (mvT hZ w1) hsel hpr (mvT hZ c1) (pOwn _ (pKlt k hkN))
  (backOf (W := (rest.map fun v => v.category).sum) (rm := ⟨pFr k, σ₁.length - σ.length, qhs σ₁ - qhs σ, pLo k⟩) (Q := fun v h L => v = Option.map (qv ad) w ∧ QRep Z n0 ad h σ₁ ∧ Fr n0 L) (QTri.met hkN hcal hR (Nat.le_of_ble_eq_true hlen) hret [] (Nat.le_refl _) (Nat.le_refl _) (Nat.le_refl _) (Nat.le_refl _)) hZ c1 c2 f1 f2) (g := mkF mid pc C (List.map (qv ad) (as.reverse ++ .ref a :: rest))) rfl hC (Steps.refl _) (a := ad a) h1 h2 (argsL := as.map (qv ad)) (rest := rest.map (qv ad)) (sig_len hkN hna) (by simp [qv]) (by show 2 * 0 + _ ≤ _; rw [cats_qv]; omega) hd2 (fun _ _ => ⟨rfl, rfl, hc1, hsl⟩)
 dsimp only [Pt.U, Pt.locs, Pt.cells, Pt.slots] at X₁ l₁ y₁ z₁ st hR1
 subst l₁ y₁ z₁
 exact ⟨T₁, Lc, X₁, hR1, hF1, fun target q => st.trans q⟩
set_option maxHeartbeats 4000000 in
theorem QTri.callS (W : QW Z a0) {pc idx k : Nat} {L : QLoc} {S as rest : List Value} {σ σ₁ : QHeap} {w : Option Value} (hc : pCode m pc = some (.invokestatic idx, k)) (hm : (lkV.contains (pK m, idx, k) && mS.contains k) = true) (hS : S = as.reverse ++ rest)
  (hna : as.length = pNA k) (hlen : Nat.ble ((as.map fun v => v.category).sum) (pMaxL k) = true) (hroom : (Nat.ble (pFr k + 1) (pFr m) && Nat.ble ((rest.map fun v => v.category).sum + (pMaxL k + 11) + pLo k) (pLo m)) = true) (hrb : (w.isNone || (pRet k).isSome) = true)
  (hcal : QTri l Z n0 ad k (0, qentry as (pMaxL k), [], σ) w σ₁) (h : QTri l Z n0 ad m (pc + 3, L, w.toList ++ rest, σ₁) v σ') : QTri l Z n0 ad m (pc, L, S, σ) v σ' := by
 have hd : decode (pBytes m) pc = .ok (.invokestatic idx, 3) := pDecN hc rfl
 subst hS
 obtain ⟨m1, m2⟩ := Bool.and_eq_true_iff.mp hm
 have m1 := mem_of_contains m1
 have m2 := mem_of_contains m2
 have hkA := mSlt k m2
 have hkN := mAlt k hkA
 have hret : pRet k = none → w = none := fun q => by
  rw [q] at hrb
  cases w with
  | none => rfl
  | some w => simp at hrb
 refine QTri.after hcal h fun p e R s mid args below meth c T locs cells slots C hcx X hR hC hc1 hsl => ?_
 obtain ⟨hx, hZ, hby, hml, hret', hown, hnm, hfr, hlo⟩ := hcx
 have hd2 : decode c.code pc = .ok (.invokestatic idx, 3) := by rw [hby]; exact hd
 obtain ⟨f1, f2⟩ := QTri.room (σ := σ) (σ₁ := σ₁) hroom hfr hlo
 obtain ⟨c1, c2⟩ := (qw_cod W) k hkA
 obtain ⟨_, _, ⟨T₁, L₁, k₁, n₁⟩, -, X₁, ⟨Lc, ⟨rfl, hR1, hF1⟩, l₁, y₁, z₁⟩, st⟩ := Jvm.LawKit.callS X hx (own := kName (pK m)) (index := idx) (y := pName k) hown (mvT hZ (qw_ml W (pK m, idx, k) m1)) (mvT hZ ((qw_st W) k m2)) (mvT hZ c2) (mvT hZ c1) (pOwn _ (pKlt k hkN))
  (backOf (W := (rest.map fun v => v.category).sum) (rm := ⟨pFr k, σ₁.length - σ.length, qhs σ₁ - qhs σ, pLo k⟩) (Q := fun v h L => v = Option.map (qv ad) w ∧ QRep Z n0 ad h σ₁ ∧ Fr n0 L) (QTri.met hkN hcal hR (Nat.le_of_ble_eq_true hlen) hret [] (Nat.le_refl _) (Nat.le_refl _) (Nat.le_refl _) (Nat.le_refl _)) hZ c1 c2 f1 f2) (g := mkF mid pc C (List.map (qv ad) (as.reverse ++ rest))) rfl hC (argsL := as.map (qv ad)) (rest := rest.map (qv ad)) (sig_len hkN hna) (by simp) (by show 2 * 0 + _ ≤ _; rw [cats_qv]; omega) hd2 (fun _ _ => ⟨rfl, rfl, hc1, hsl⟩)
 dsimp only [Pt.U, Pt.locs, Pt.cells, Pt.slots] at X₁ l₁ y₁ z₁ st hR1
 subst l₁ y₁ z₁
 exact ⟨T₁, Lc, X₁, hR1, hF1, fun target q => st target q⟩
set_option maxHeartbeats 4000000 in
theorem QTri.callO (W : QW Z a0) {pc idx k a : Nat} {L : QLoc} {rest : List Value} {σ : QHeap} (hc : pCode m pc = some (.invokespecial idx, k)) (hm : lkO.contains (pK m, idx) = true) (hroom : (Nat.ble 1 (pFr m) && Nat.ble ((rest.map fun v => v.category).sum + 12) (pLo m)) = true)
  (h : QTri l Z n0 ad m (pc + 3, L, rest, σ) v σ') : QTri l Z n0 ad m (pc, L, .ref a :: rest, σ) v σ' :=
 have hd : decode (pBytes m) pc = .ok (.invokespecial idx, 3) := pDecN hc rfl
 QTri.pure h rfl fun p e R s mid args below meth c T locs cells slots C hcx X hR hL hC => by
  obtain ⟨hx, hZ, hby, hml, hret', hown, hnm, hfr, hlo⟩ := hcx
  have hd2 : decode c.code pc = .ok (.invokespecial idx, 3) := by rw [hby]; exact hd
  obtain ⟨q1, q2⟩ := Bool.and_eq_true_iff.mp hroom
  obtain ⟨T₁, X₁, e₁, st⟩ := initO X hx hZ hown (idx := idx) (qw_mo W (pK m, idx) (mem_of_contains hm)) ((qw_oi W)) ((qw_oc W)) rfl (g := mkF mid pc C (List.map (qv ad) (.ref a :: rest))) rfl hC rfl hd2 (Nat.le_trans (Nat.le_of_ble_eq_true q1) hfr) (W := (rest.map fun v => v.category).sum) (by show 2 * 0 + _ ≤ _; rw [cats_qv]; omega) (Nat.le_trans (Nat.le_of_ble_eq_true q2) hlo)
  exact ⟨T₁, C, X₁, e₁, hL, hC, st⟩
theorem QTri.brT (Ad : QAd n0 ad) (W : QW Z a0) {st : QSt} {t f : Nat} {L : QLoc} {S : List Value} {σ : QHeap} {b : Bool} (hs : qstep m st = some (bif b then t else f, L, S, σ)) (hb : b = true) (h : QTri l Z n0 ad m (t, L, S, σ) v σ') : QTri l Z n0 ad m st v σ' := by
 subst hb; exact QTri.step Ad W h hs
theorem QTri.brF (Ad : QAd n0 ad) (W : QW Z a0) {st : QSt} {t f : Nat} {L : QLoc} {S : List Value} {σ : QHeap} {b : Bool} (hs : qstep m st = some (bif b then t else f, L, S, σ)) (hb : b = false) (h : QTri l Z n0 ad m (f, L, S, σ) v σ') : QTri l Z n0 ad m st v σ' := by
 subst hb; exact QTri.step Ad W h hs
theorem QTri.bnd {α : Type} (Ad : QAd n0 ad) (W : QW Z a0) {st : QSt} {x : Option α} {f : α → QSt} {a : α} (hs : qstep m st = x.bind fun v => some (f v)) (hx : x = some a) (h : QTri l Z n0 ad m (f a) v σ') : QTri l Z n0 ad m st v σ' :=
 QTri.step Ad W h (by rw [hs, hx]; rfl)
theorem QTri.bndB (Ad : QAd n0 ad) (W : QW Z a0) {st : QSt} {x y : Int32} {g : Value → QSt} (hs : qstep m st = ((qboo x).bind fun y => some (Value.int y)).bind fun w => some (g w)) (hx : qboo x = some y) (h : QTri l Z n0 ad m (g (.int y)) v σ') : QTri l Z n0 ad m st v σ' :=
 QTri.step Ad W h (by rw [hs, hx]; rfl)
end Triples
theorem qite {α : Type} {c : Prop} [Decidable c] {a b : Option α} {r : α} (h : (if c then a else b) = some r) : (c ∧ a = some r) ∨ (¬ c ∧ b = some r) := by
 by_cases hc : c
 ·exact Or.inl ⟨hc, by rwa [if_pos hc] at h⟩
 ·exact Or.inr ⟨hc, by rwa [if_neg hc] at h⟩
def qN : Nat := 4000
def loopN {V E : Type} (B : V → Option (E ⊕ V)) : Nat → V → Option E
 | 0, _ => none
 | n + 1, v => match B v with
  | none => none
  | some (.inl e) => some e
  | some (.inr v') => loopN B n v'
theorem loopN_tri {V E : Type} {B : V → Option (E ⊕ V)} {T : V → Prop} {KE : E → Prop} (hB : ∀ v r, B v = some r → (∀ e, r = .inl e → KE e) → (∀ v', r = .inr v' → T v') → T v) : ∀ (n : Nat) (v : V) (e : E), loopN B n v = some e → KE e → T v
 | 0, _, _, h, _ => by cases h
 | n + 1, v, e, h, k => by
  simp only [loopN] at h
  split at h
  ·cases h
  ·rename_i e' he
   cases h
   exact hB v _ he (fun e q => by cases q; exact k) (fun v' q => by cases q)
  ·rename_i v' he
   exact hB v _ he (fun e q => by cases q) (fun v'' q => by cases q; exact loopN_tri hB n v' e h k)
theorem loopN_inv {V E : Type} {B : V → Option (E ⊕ V)} (I : V → Prop) (P : E → Prop) (μ : V → Nat) (hB : ∀ v, I v → (∃ e, B v = some (.inl e) ∧ P e) ∨ ∃ v', B v = some (.inr v') ∧ I v' ∧ μ v' < μ v) : ∀ (n : Nat) (v : V), I v → μ v < n → ∃ e, loopN B n v = some e ∧ P e
 | 0, _, _, h => absurd h (Nat.not_lt_zero _)
 | n + 1, v, hv, hm => by
  rcases hB v hv with ⟨e, h1, h2⟩ | ⟨v', h1, h2, h3⟩
  ·exact ⟨e, by simp only [loopN, h1], h2⟩
  ·obtain ⟨e, g1, g2⟩ := loopN_inv I P μ hB n v' h2 (by omega)
   exact ⟨e, by simp only [loopN, h1]; exact g1, g2⟩
theorem qfn {α : Type} {P : α → Prop} : ∀ t ∈ ([] : List α), P t := fun _ h => nomatch h
theorem qfc {α : Type} {P : α → Prop} {a : α} {t : List α} (h : P a) (ht : ∀ x ∈ t, P x) : ∀ x ∈ a :: t, P x := fun x hx => by rcases List.mem_cons.mp hx with rfl | q; exact h; exact ht x q
theorem QW_ok {Z : State} {a0 : Array Value} (hw : ∀ d ∈ tables_1, d.before a0 Z = true) : QW Z a0 := by
  have w0 : ∀ k ∈ List.range nF, bif fFin k then (Jvm.Cond.laysFinal cName cName (fNm k) (fDs k)).before a0 Z = true else (Jvm.Cond.lays cName cName (fNm k) (fDs k)).before a0 Z = true :=
    show ∀ k ∈ [0, 1, 2, 3, 4, 5, 6, 7, 8, 9, 10, 11, 12, 13, 14, 15, 16, 17, 18, 19, 20, 21, 22, 23, 24, 25, 26, 27, 28, 29, 30, 31, 32, 33, 34, 35, 36, 37, 38, 39, 40, 41, 42, 43, 44, 45, 46, 47], bif fFin k then (Jvm.Cond.laysFinal cName cName (fNm k) (fDs k)).before a0 Z = true else (Jvm.Cond.lays cName cName (fNm k) (fDs k)).before a0 Z = true from
    (qfc (hw _ (List.mem_of_getElem? (i := 10) rfl)) (qfc (hw _ (List.mem_of_getElem? (i := 12) rfl)) (qfc (hw _ (List.mem_of_getElem? (i := 14) rfl)) (qfc (hw _ (List.mem_of_getElem? (i := 16) rfl)) (qfc (hw _ (List.mem_of_getElem? (i := 18) rfl)) (qfc (hw _ (List.mem_of_getElem? (i := 20) rfl)) (qfc (hw _ (List.mem_of_getElem? (i := 22) rfl)) (qfc (hw _ (List.mem_of_getElem? (i := 24) rfl)) (qfc (hw _ (List.mem_of_getElem? (i := 26) rfl)) (qfc (hw _ (List.mem_of_getElem? (i := 28) rfl)) (qfc (hw _ (List.mem_of_getElem? (i := 30) rfl)) (qfc (hw _ (List.mem_of_getElem? (i := 32) rfl)) (qfc (hw _ (List.mem_of_getElem? (i := 35) rfl)) (qfc (hw _ (List.mem_of_getElem? (i := 38) rfl)) (qfc (hw _ (List.mem_of_getElem? (i := 41) rfl)) (qfc (hw _ (List.mem_of_getElem? (i := 44) rfl)) (qfc (hw _ (List.mem_of_getElem? (i := 46) rfl)) (qfc (hw _ (List.mem_of_getElem? (i := 48) rfl)) (qfc (hw _ (List.mem_of_getElem? (i := 50) rfl)) (qfc (hw _ (List.mem_of_getElem? (i := 52) rfl)) (qfc (hw _ (List.mem_of_getElem? (i := 54) rfl)) (qfc (hw _ (List.mem_of_getElem? (i := 56) rfl)) (qfc (hw _ (List.mem_of_getElem? (i := 58) rfl)) (qfc (hw _ (List.mem_of_getElem? (i := 60) rfl)) (qfc (hw _ (List.mem_of_getElem? (i := 62) rfl)) (qfc (hw _ (List.mem_of_getElem? (i := 64) rfl)) (qfc (hw _ (List.mem_of_getElem? (i := 66) rfl)) (qfc (hw _ (List.mem_of_getElem? (i := 68) rfl)) (qfc (hw _ (List.mem_of_getElem? (i := 71) rfl)) (qfc (hw _ (List.mem_of_getElem? (i := 73) rfl)) (qfc (hw _ (List.mem_of_getElem? (i := 75) rfl)) (qfc (hw _ (List.mem_of_getElem? (i := 77) rfl)) (qfc (hw _ (List.mem_of_getElem? (i := 79) rfl)) (qfc (hw _ (List.mem_of_getElem? (i := 81) rfl)) (qfc (hw _ (List.mem_of_getElem? (i := 87) rfl)) (qfc (hw _ (List.mem_of_getElem? (i := 89) rfl)) (qfc (hw _ (List.mem_of_getElem? (i := 96) rfl)) (qfc (hw _ (List.mem_of_getElem? (i := 98) rfl)) (qfc (hw _ (List.mem_of_getElem? (i := 100) rfl)) (qfc (hw _ (List.mem_of_getElem? (i := 102) rfl)) (qfc (hw _ (List.mem_of_getElem? (i := 104) rfl)) (qfc (hw _ (List.mem_of_getElem? (i := 106) rfl)) (qfc (hw _ (List.mem_of_getElem? (i := 108) rfl)) (qfc (hw _ (List.mem_of_getElem? (i := 110) rfl)) (qfc (hw _ (List.mem_of_getElem? (i := 112) rfl)) (qfc (hw _ (List.mem_of_getElem? (i := 114) rfl)) (qfc (hw _ (List.mem_of_getElem? (i := 116) rfl)) (qfc (hw _ (List.mem_of_getElem? (i := 118) rfl)) qfn))))))))))))))))))))))))))))))))))))))))))))))))
  refine ⟨?_, ?_, ?_, ?_, ?_, ?_, ?_, ?_, ?_, ?_, ?_, ?_, ?_, (fun k hk => w0 k (List.mem_range.mpr hk)), ?_, ?_, ?_⟩
  · exact (qfc (hw _ (List.mem_of_getElem? (i := 9) rfl)) (qfc (hw _ (List.mem_of_getElem? (i := 11) rfl)) (qfc (hw _ (List.mem_of_getElem? (i := 13) rfl)) (qfc (hw _ (List.mem_of_getElem? (i := 15) rfl)) (qfc (hw _ (List.mem_of_getElem? (i := 17) rfl)) (qfc (hw _ (List.mem_of_getElem? (i := 19) rfl)) (qfc (hw _ (List.mem_of_getElem? (i := 21) rfl)) (qfc (hw _ (List.mem_of_getElem? (i := 23) rfl)) (qfc (hw _ (List.mem_of_getElem? (i := 25) rfl)) (qfc (hw _ (List.mem_of_getElem? (i := 27) rfl)) (qfc (hw _ (List.mem_of_getElem? (i := 29) rfl)) (qfc (hw _ (List.mem_of_getElem? (i := 31) rfl)) (qfc (hw _ (List.mem_of_getElem? (i := 34) rfl)) (qfc (hw _ (List.mem_of_getElem? (i := 37) rfl)) (qfc (hw _ (List.mem_of_getElem? (i := 40) rfl)) (qfc (hw _ (List.mem_of_getElem? (i := 43) rfl)) (qfc (hw _ (List.mem_of_getElem? (i := 45) rfl)) (qfc (hw _ (List.mem_of_getElem? (i := 47) rfl)) (qfc (hw _ (List.mem_of_getElem? (i := 49) rfl)) (qfc (hw _ (List.mem_of_getElem? (i := 51) rfl)) (qfc (hw _ (List.mem_of_getElem? (i := 53) rfl)) (qfc (hw _ (List.mem_of_getElem? (i := 55) rfl)) (qfc (hw _ (List.mem_of_getElem? (i := 57) rfl)) (qfc (hw _ (List.mem_of_getElem? (i := 59) rfl)) (qfc (hw _ (List.mem_of_getElem? (i := 61) rfl)) (qfc (hw _ (List.mem_of_getElem? (i := 63) rfl)) (qfc (hw _ (List.mem_of_getElem? (i := 65) rfl)) (qfc (hw _ (List.mem_of_getElem? (i := 67) rfl)) (qfc (hw _ (List.mem_of_getElem? (i := 70) rfl)) (qfc (hw _ (List.mem_of_getElem? (i := 72) rfl)) (qfc (hw _ (List.mem_of_getElem? (i := 74) rfl)) (qfc (hw _ (List.mem_of_getElem? (i := 76) rfl)) (qfc (hw _ (List.mem_of_getElem? (i := 78) rfl)) (qfc (hw _ (List.mem_of_getElem? (i := 80) rfl)) (qfc (hw _ (List.mem_of_getElem? (i := 86) rfl)) (qfc (hw _ (List.mem_of_getElem? (i := 88) rfl)) (qfc (hw _ (List.mem_of_getElem? (i := 95) rfl)) (qfc (hw _ (List.mem_of_getElem? (i := 97) rfl)) (qfc (hw _ (List.mem_of_getElem? (i := 99) rfl)) (qfc (hw _ (List.mem_of_getElem? (i := 101) rfl)) (qfc (hw _ (List.mem_of_getElem? (i := 103) rfl)) (qfc (hw _ (List.mem_of_getElem? (i := 105) rfl)) (qfc (hw _ (List.mem_of_getElem? (i := 107) rfl)) (qfc (hw _ (List.mem_of_getElem? (i := 109) rfl)) (qfc (hw _ (List.mem_of_getElem? (i := 111) rfl)) (qfc (hw _ (List.mem_of_getElem? (i := 113) rfl)) (qfc (hw _ (List.mem_of_getElem? (i := 115) rfl)) (qfc (hw _ (List.mem_of_getElem? (i := 117) rfl)) qfn))))))))))))))))))))))))))))))))))))))))))))))))
  · exact (qfc (hw _ (List.mem_of_getElem? (i := 0) rfl)) qfn)
  · exact (qfc ⟨_, rfl, (hw _ (List.mem_of_getElem? (i := 36) rfl))⟩ qfn)
  · exact (qfc ⟨_, rfl, (hw _ (List.mem_of_getElem? (i := 33) rfl))⟩ (qfc ⟨_, rfl, (hw _ (List.mem_of_getElem? (i := 205) rfl))⟩ (qfc ⟨_, rfl, (hw _ (List.mem_of_getElem? (i := 210) rfl))⟩ (qfc ⟨_, rfl, (hw _ (List.mem_of_getElem? (i := 211) rfl))⟩ qfn))))
  · exact (qfc (hw _ (List.mem_of_getElem? (i := 3) rfl)) (qfc (hw _ (List.mem_of_getElem? (i := 82) rfl)) (qfc (hw _ (List.mem_of_getElem? (i := 90) rfl)) (qfc (hw _ (List.mem_of_getElem? (i := 119) rfl)) (qfc (hw _ (List.mem_of_getElem? (i := 124) rfl)) (qfc (hw _ (List.mem_of_getElem? (i := 128) rfl)) (qfc (hw _ (List.mem_of_getElem? (i := 132) rfl)) (qfc (hw _ (List.mem_of_getElem? (i := 136) rfl)) (qfc (hw _ (List.mem_of_getElem? (i := 140) rfl)) (qfc (hw _ (List.mem_of_getElem? (i := 144) rfl)) (qfc (hw _ (List.mem_of_getElem? (i := 148) rfl)) (qfc (hw _ (List.mem_of_getElem? (i := 153) rfl)) (qfc (hw _ (List.mem_of_getElem? (i := 158) rfl)) (qfc (hw _ (List.mem_of_getElem? (i := 163) rfl)) (qfc (hw _ (List.mem_of_getElem? (i := 168) rfl)) (qfc (hw _ (List.mem_of_getElem? (i := 173) rfl)) (qfc (hw _ (List.mem_of_getElem? (i := 177) rfl)) (qfc (hw _ (List.mem_of_getElem? (i := 182) rfl)) (qfc (hw _ (List.mem_of_getElem? (i := 186) rfl)) (qfc (hw _ (List.mem_of_getElem? (i := 190) rfl)) (qfc (hw _ (List.mem_of_getElem? (i := 195) rfl)) (qfc (hw _ (List.mem_of_getElem? (i := 200) rfl)) (qfc (hw _ (List.mem_of_getElem? (i := 206) rfl)) (qfc (hw _ (List.mem_of_getElem? (i := 212) rfl)) (qfc (hw _ (List.mem_of_getElem? (i := 216) rfl)) (qfc (hw _ (List.mem_of_getElem? (i := 220) rfl)) (qfc (hw _ (List.mem_of_getElem? (i := 224) rfl)) (qfc (hw _ (List.mem_of_getElem? (i := 228) rfl)) (qfc (hw _ (List.mem_of_getElem? (i := 232) rfl)) (qfc (hw _ (List.mem_of_getElem? (i := 236) rfl)) (qfc (hw _ (List.mem_of_getElem? (i := 240) rfl)) (qfc (hw _ (List.mem_of_getElem? (i := 244) rfl)) (qfc (hw _ (List.mem_of_getElem? (i := 248) rfl)) (qfc (hw _ (List.mem_of_getElem? (i := 253) rfl)) (qfc (hw _ (List.mem_of_getElem? (i := 254) rfl)) qfn)))))))))))))))))))))))))))))))))))
  · exact (qfc (hw _ (List.mem_of_getElem? (i := 6) rfl)) qfn)
  · exact (qfc ⟨(hw _ (List.mem_of_getElem? (i := 91) rfl)), (hw _ (List.mem_of_getElem? (i := 93) rfl)), (hw _ (List.mem_of_getElem? (i := 92) rfl))⟩ (qfc ⟨(hw _ (List.mem_of_getElem? (i := 120) rfl)), (hw _ (List.mem_of_getElem? (i := 122) rfl)), (hw _ (List.mem_of_getElem? (i := 121) rfl))⟩ (qfc ⟨(hw _ (List.mem_of_getElem? (i := 149) rfl)), (hw _ (List.mem_of_getElem? (i := 151) rfl)), (hw _ (List.mem_of_getElem? (i := 150) rfl))⟩ (qfc ⟨(hw _ (List.mem_of_getElem? (i := 154) rfl)), (hw _ (List.mem_of_getElem? (i := 156) rfl)), (hw _ (List.mem_of_getElem? (i := 155) rfl))⟩ (qfc ⟨(hw _ (List.mem_of_getElem? (i := 159) rfl)), (hw _ (List.mem_of_getElem? (i := 161) rfl)), (hw _ (List.mem_of_getElem? (i := 160) rfl))⟩ (qfc ⟨(hw _ (List.mem_of_getElem? (i := 164) rfl)), (hw _ (List.mem_of_getElem? (i := 166) rfl)), (hw _ (List.mem_of_getElem? (i := 165) rfl))⟩ (qfc ⟨(hw _ (List.mem_of_getElem? (i := 169) rfl)), (hw _ (List.mem_of_getElem? (i := 171) rfl)), (hw _ (List.mem_of_getElem? (i := 170) rfl))⟩ (qfc ⟨(hw _ (List.mem_of_getElem? (i := 178) rfl)), (hw _ (List.mem_of_getElem? (i := 180) rfl)), (hw _ (List.mem_of_getElem? (i := 179) rfl))⟩ (qfc ⟨(hw _ (List.mem_of_getElem? (i := 191) rfl)), (hw _ (List.mem_of_getElem? (i := 193) rfl)), (hw _ (List.mem_of_getElem? (i := 192) rfl))⟩ (qfc ⟨(hw _ (List.mem_of_getElem? (i := 196) rfl)), (hw _ (List.mem_of_getElem? (i := 198) rfl)), (hw _ (List.mem_of_getElem? (i := 197) rfl))⟩ (qfc ⟨(hw _ (List.mem_of_getElem? (i := 201) rfl)), (hw _ (List.mem_of_getElem? (i := 203) rfl)), (hw _ (List.mem_of_getElem? (i := 202) rfl))⟩ (qfc ⟨(hw _ (List.mem_of_getElem? (i := 249) rfl)), (hw _ (List.mem_of_getElem? (i := 251) rfl)), (hw _ (List.mem_of_getElem? (i := 250) rfl))⟩ qfn))))))))))))
  · exact (qfc ⟨(hw _ (List.mem_of_getElem? (i := 83) rfl)), (hw _ (List.mem_of_getElem? (i := 84) rfl))⟩ (qfc ⟨(hw _ (List.mem_of_getElem? (i := 125) rfl)), (hw _ (List.mem_of_getElem? (i := 126) rfl))⟩ (qfc ⟨(hw _ (List.mem_of_getElem? (i := 129) rfl)), (hw _ (List.mem_of_getElem? (i := 130) rfl))⟩ (qfc ⟨(hw _ (List.mem_of_getElem? (i := 133) rfl)), (hw _ (List.mem_of_getElem? (i := 134) rfl))⟩ (qfc ⟨(hw _ (List.mem_of_getElem? (i := 137) rfl)), (hw _ (List.mem_of_getElem? (i := 138) rfl))⟩ (qfc ⟨(hw _ (List.mem_of_getElem? (i := 141) rfl)), (hw _ (List.mem_of_getElem? (i := 142) rfl))⟩ (qfc ⟨(hw _ (List.mem_of_getElem? (i := 174) rfl)), (hw _ (List.mem_of_getElem? (i := 175) rfl))⟩ (qfc ⟨(hw _ (List.mem_of_getElem? (i := 183) rfl)), (hw _ (List.mem_of_getElem? (i := 184) rfl))⟩ (qfc ⟨(hw _ (List.mem_of_getElem? (i := 187) rfl)), (hw _ (List.mem_of_getElem? (i := 188) rfl))⟩ (qfc ⟨(hw _ (List.mem_of_getElem? (i := 207) rfl)), (hw _ (List.mem_of_getElem? (i := 208) rfl))⟩ (qfc ⟨(hw _ (List.mem_of_getElem? (i := 213) rfl)), (hw _ (List.mem_of_getElem? (i := 214) rfl))⟩ (qfc ⟨(hw _ (List.mem_of_getElem? (i := 217) rfl)), (hw _ (List.mem_of_getElem? (i := 218) rfl))⟩ (qfc ⟨(hw _ (List.mem_of_getElem? (i := 221) rfl)), (hw _ (List.mem_of_getElem? (i := 222) rfl))⟩ (qfc ⟨(hw _ (List.mem_of_getElem? (i := 225) rfl)), (hw _ (List.mem_of_getElem? (i := 226) rfl))⟩ (qfc ⟨(hw _ (List.mem_of_getElem? (i := 229) rfl)), (hw _ (List.mem_of_getElem? (i := 230) rfl))⟩ (qfc ⟨(hw _ (List.mem_of_getElem? (i := 233) rfl)), (hw _ (List.mem_of_getElem? (i := 234) rfl))⟩ (qfc ⟨(hw _ (List.mem_of_getElem? (i := 237) rfl)), (hw _ (List.mem_of_getElem? (i := 238) rfl))⟩ (qfc ⟨(hw _ (List.mem_of_getElem? (i := 241) rfl)), (hw _ (List.mem_of_getElem? (i := 242) rfl))⟩ (qfc ⟨(hw _ (List.mem_of_getElem? (i := 245) rfl)), (hw _ (List.mem_of_getElem? (i := 246) rfl))⟩ (qfc ⟨(hw _ (List.mem_of_getElem? (i := 255) rfl)), (hw _ (List.mem_of_getElem? (i := 256) rfl))⟩ qfn))))))))))))))))))))
  · exact (qfc (hw _ (List.mem_of_getElem? (i := 145) rfl)) qfn)
  · exact (qfc (hw _ (List.mem_of_getElem? (i := 4) rfl)) qfn)
  · exact (qfc ⟨(hw _ (List.mem_of_getElem? (i := 5) rfl)), (hw _ (List.mem_of_getElem? (i := 2) rfl))⟩ (qfc ⟨(hw _ (List.mem_of_getElem? (i := 85) rfl)), (hw _ (List.mem_of_getElem? (i := 2) rfl))⟩ (qfc ⟨(hw _ (List.mem_of_getElem? (i := 94) rfl)), (hw _ (List.mem_of_getElem? (i := 2) rfl))⟩ (qfc ⟨(hw _ (List.mem_of_getElem? (i := 123) rfl)), (hw _ (List.mem_of_getElem? (i := 2) rfl))⟩ (qfc ⟨(hw _ (List.mem_of_getElem? (i := 127) rfl)), (hw _ (List.mem_of_getElem? (i := 2) rfl))⟩ (qfc ⟨(hw _ (List.mem_of_getElem? (i := 131) rfl)), (hw _ (List.mem_of_getElem? (i := 2) rfl))⟩ (qfc ⟨(hw _ (List.mem_of_getElem? (i := 135) rfl)), (hw _ (List.mem_of_getElem? (i := 2) rfl))⟩ (qfc ⟨(hw _ (List.mem_of_getElem? (i := 139) rfl)), (hw _ (List.mem_of_getElem? (i := 2) rfl))⟩ (qfc ⟨(hw _ (List.mem_of_getElem? (i := 143) rfl)), (hw _ (List.mem_of_getElem? (i := 2) rfl))⟩ (qfc ⟨(hw _ (List.mem_of_getElem? (i := 147) rfl)), (hw _ (List.mem_of_getElem? (i := 146) rfl))⟩ (qfc ⟨(hw _ (List.mem_of_getElem? (i := 152) rfl)), (hw _ (List.mem_of_getElem? (i := 2) rfl))⟩ (qfc ⟨(hw _ (List.mem_of_getElem? (i := 157) rfl)), (hw _ (List.mem_of_getElem? (i := 2) rfl))⟩ (qfc ⟨(hw _ (List.mem_of_getElem? (i := 162) rfl)), (hw _ (List.mem_of_getElem? (i := 2) rfl))⟩ (qfc ⟨(hw _ (List.mem_of_getElem? (i := 167) rfl)), (hw _ (List.mem_of_getElem? (i := 2) rfl))⟩ (qfc ⟨(hw _ (List.mem_of_getElem? (i := 172) rfl)), (hw _ (List.mem_of_getElem? (i := 2) rfl))⟩ (qfc ⟨(hw _ (List.mem_of_getElem? (i := 176) rfl)), (hw _ (List.mem_of_getElem? (i := 2) rfl))⟩ (qfc ⟨(hw _ (List.mem_of_getElem? (i := 181) rfl)), (hw _ (List.mem_of_getElem? (i := 2) rfl))⟩ (qfc ⟨(hw _ (List.mem_of_getElem? (i := 185) rfl)), (hw _ (List.mem_of_getElem? (i := 2) rfl))⟩ (qfc ⟨(hw _ (List.mem_of_getElem? (i := 189) rfl)), (hw _ (List.mem_of_getElem? (i := 2) rfl))⟩ (qfc ⟨(hw _ (List.mem_of_getElem? (i := 194) rfl)), (hw _ (List.mem_of_getElem? (i := 2) rfl))⟩ (qfc ⟨(hw _ (List.mem_of_getElem? (i := 199) rfl)), (hw _ (List.mem_of_getElem? (i := 2) rfl))⟩ (qfc ⟨(hw _ (List.mem_of_getElem? (i := 204) rfl)), (hw _ (List.mem_of_getElem? (i := 2) rfl))⟩ (qfc ⟨(hw _ (List.mem_of_getElem? (i := 209) rfl)), (hw _ (List.mem_of_getElem? (i := 2) rfl))⟩ (qfc ⟨(hw _ (List.mem_of_getElem? (i := 215) rfl)), (hw _ (List.mem_of_getElem? (i := 2) rfl))⟩ (qfc ⟨(hw _ (List.mem_of_getElem? (i := 219) rfl)), (hw _ (List.mem_of_getElem? (i := 2) rfl))⟩ (qfc ⟨(hw _ (List.mem_of_getElem? (i := 223) rfl)), (hw _ (List.mem_of_getElem? (i := 2) rfl))⟩ (qfc ⟨(hw _ (List.mem_of_getElem? (i := 227) rfl)), (hw _ (List.mem_of_getElem? (i := 2) rfl))⟩ (qfc ⟨(hw _ (List.mem_of_getElem? (i := 231) rfl)), (hw _ (List.mem_of_getElem? (i := 2) rfl))⟩ (qfc ⟨(hw _ (List.mem_of_getElem? (i := 235) rfl)), (hw _ (List.mem_of_getElem? (i := 2) rfl))⟩ (qfc ⟨(hw _ (List.mem_of_getElem? (i := 239) rfl)), (hw _ (List.mem_of_getElem? (i := 2) rfl))⟩ (qfc ⟨(hw _ (List.mem_of_getElem? (i := 243) rfl)), (hw _ (List.mem_of_getElem? (i := 2) rfl))⟩ (qfc ⟨(hw _ (List.mem_of_getElem? (i := 247) rfl)), (hw _ (List.mem_of_getElem? (i := 2) rfl))⟩ (qfc ⟨(hw _ (List.mem_of_getElem? (i := 252) rfl)), (hw _ (List.mem_of_getElem? (i := 2) rfl))⟩ (qfc ⟨(hw _ (List.mem_of_getElem? (i := 257) rfl)), (hw _ (List.mem_of_getElem? (i := 2) rfl))⟩ qfn))))))))))))))))))))))))))))))))))
  · exact (hw _ (List.mem_of_getElem? (i := 7) rfl))
  · exact (hw _ (List.mem_of_getElem? (i := 8) rfl))
  · exact (hw _ (List.mem_of_getElem? (i := 1) rfl))
  · exact (hw _ (List.mem_of_getElem? (i := 2) rfl))
  · exact (qfc (hw _ (List.mem_of_getElem? (i := 39) rfl)) (qfc (hw _ (List.mem_of_getElem? (i := 42) rfl)) (qfc (hw _ (List.mem_of_getElem? (i := 69) rfl)) qfn)))
abbrev Ob := Int32 × Int32 × Int32 × Int32 × Int32 × Int32 × Int32 × Int32 × Int32 × Int32 × Int32 × Int32 × Int64 × Int32 × List Int32 × List Int32 × List Int32 × List Int32 × List Int32 × List Int32 × List Int32 × List Int32 × List Int32 × List Int32 × List Int32 × List Int32 × List Int32 × List Int32 × List Int64 × List Int32 × List Int32 × List Int32 × List Int32 × List Int32 × Int32 × Int32 × Int32 × Int32 × Int32 × Int32 × Int32 × Int32 × Int32 × Int32 × Int32 × Int32 × Int32 × Int32
def f_opRet (o : Ob) : Int32 := o.1
def f_opLess (o : Ob) : Int32 := o.2.1
def f_opEq (o : Ob) : Int32 := o.2.2.1
def f_opTable (o : Ob) : Int32 := o.2.2.2.1
def f_opBits (o : Ob) : Int32 := o.2.2.2.2.1
def f_maxCap (o : Ob) : Int32 := o.2.2.2.2.2.1
def f_maxTargets (o : Ob) : Int32 := o.2.2.2.2.2.2.1
def f_maxSteps (o : Ob) : Int32 := o.2.2.2.2.2.2.2.1
def f_tableSpanPerCase (o : Ob) : Int32 := o.2.2.2.2.2.2.2.2.1
def f_maxTableSpan (o : Ob) : Int32 := o.2.2.2.2.2.2.2.2.2.1
def f_maxBitSpan (o : Ob) : Int32 := o.2.2.2.2.2.2.2.2.2.2.1
def f_maxBitTargets (o : Ob) : Int32 := o.2.2.2.2.2.2.2.2.2.2.2.1
def f_unsignedMask (o : Ob) : Int64 := o.2.2.2.2.2.2.2.2.2.2.2.2.1
def f_maxInt (o : Ob) : Int32 := o.2.2.2.2.2.2.2.2.2.2.2.2.2.1
def f_curVal (o : Ob) : List Int32 := o.2.2.2.2.2.2.2.2.2.2.2.2.2.2.1
def f_curTgt (o : Ob) : List Int32 := o.2.2.2.2.2.2.2.2.2.2.2.2.2.2.2.1
def f_snapVal (o : Ob) : List Int32 := o.2.2.2.2.2.2.2.2.2.2.2.2.2.2.2.2.1
def f_snapTgt (o : Ob) : List Int32 := o.2.2.2.2.2.2.2.2.2.2.2.2.2.2.2.2.2.1
def f_bestCost (o : Ob) : List Int32 := o.2.2.2.2.2.2.2.2.2.2.2.2.2.2.2.2.2.2.1
def f_bestCut (o : Ob) : List Int32 := o.2.2.2.2.2.2.2.2.2.2.2.2.2.2.2.2.2.2.2.1
def f_clStart (o : Ob) : List Int32 := o.2.2.2.2.2.2.2.2.2.2.2.2.2.2.2.2.2.2.2.2.1
def f_clEnd (o : Ob) : List Int32 := o.2.2.2.2.2.2.2.2.2.2.2.2.2.2.2.2.2.2.2.2.2.1
def f_opc (o : Ob) : List Int32 := o.2.2.2.2.2.2.2.2.2.2.2.2.2.2.2.2.2.2.2.2.2.2.1
def f_argA (o : Ob) : List Int32 := o.2.2.2.2.2.2.2.2.2.2.2.2.2.2.2.2.2.2.2.2.2.2.2.1
def f_argB (o : Ob) : List Int32 := o.2.2.2.2.2.2.2.2.2.2.2.2.2.2.2.2.2.2.2.2.2.2.2.2.1
def f_argC (o : Ob) : List Int32 := o.2.2.2.2.2.2.2.2.2.2.2.2.2.2.2.2.2.2.2.2.2.2.2.2.2.1
def f_argD (o : Ob) : List Int32 := o.2.2.2.2.2.2.2.2.2.2.2.2.2.2.2.2.2.2.2.2.2.2.2.2.2.2.1
def f_tablePool (o : Ob) : List Int32 := o.2.2.2.2.2.2.2.2.2.2.2.2.2.2.2.2.2.2.2.2.2.2.2.2.2.2.2.1
def f_maskPool (o : Ob) : List Int64 := o.2.2.2.2.2.2.2.2.2.2.2.2.2.2.2.2.2.2.2.2.2.2.2.2.2.2.2.2.1
def f_maskTarget (o : Ob) : List Int32 := o.2.2.2.2.2.2.2.2.2.2.2.2.2.2.2.2.2.2.2.2.2.2.2.2.2.2.2.2.2.1
def f_stLo (o : Ob) : List Int32 := o.2.2.2.2.2.2.2.2.2.2.2.2.2.2.2.2.2.2.2.2.2.2.2.2.2.2.2.2.2.2.1
def f_stHi (o : Ob) : List Int32 := o.2.2.2.2.2.2.2.2.2.2.2.2.2.2.2.2.2.2.2.2.2.2.2.2.2.2.2.2.2.2.2.1
def f_stParent (o : Ob) : List Int32 := o.2.2.2.2.2.2.2.2.2.2.2.2.2.2.2.2.2.2.2.2.2.2.2.2.2.2.2.2.2.2.2.2.1
def f_stSlot (o : Ob) : List Int32 := o.2.2.2.2.2.2.2.2.2.2.2.2.2.2.2.2.2.2.2.2.2.2.2.2.2.2.2.2.2.2.2.2.2.1
def f_cap (o : Ob) : Int32 := o.2.2.2.2.2.2.2.2.2.2.2.2.2.2.2.2.2.2.2.2.2.2.2.2.2.2.2.2.2.2.2.2.2.2.1
def f_targets (o : Ob) : Int32 := o.2.2.2.2.2.2.2.2.2.2.2.2.2.2.2.2.2.2.2.2.2.2.2.2.2.2.2.2.2.2.2.2.2.2.2.1
def f_curCount (o : Ob) : Int32 := o.2.2.2.2.2.2.2.2.2.2.2.2.2.2.2.2.2.2.2.2.2.2.2.2.2.2.2.2.2.2.2.2.2.2.2.2.1
def f_curDefault (o : Ob) : Int32 := o.2.2.2.2.2.2.2.2.2.2.2.2.2.2.2.2.2.2.2.2.2.2.2.2.2.2.2.2.2.2.2.2.2.2.2.2.2.1
def f_dirty (o : Ob) : Int32 := o.2.2.2.2.2.2.2.2.2.2.2.2.2.2.2.2.2.2.2.2.2.2.2.2.2.2.2.2.2.2.2.2.2.2.2.2.2.2.1
def f_snapCount (o : Ob) : Int32 := o.2.2.2.2.2.2.2.2.2.2.2.2.2.2.2.2.2.2.2.2.2.2.2.2.2.2.2.2.2.2.2.2.2.2.2.2.2.2.2.1
def f_snapDefault (o : Ob) : Int32 := o.2.2.2.2.2.2.2.2.2.2.2.2.2.2.2.2.2.2.2.2.2.2.2.2.2.2.2.2.2.2.2.2.2.2.2.2.2.2.2.2.1
def f_hasSnap (o : Ob) : Int32 := o.2.2.2.2.2.2.2.2.2.2.2.2.2.2.2.2.2.2.2.2.2.2.2.2.2.2.2.2.2.2.2.2.2.2.2.2.2.2.2.2.2.1
def f_clCount (o : Ob) : Int32 := o.2.2.2.2.2.2.2.2.2.2.2.2.2.2.2.2.2.2.2.2.2.2.2.2.2.2.2.2.2.2.2.2.2.2.2.2.2.2.2.2.2.2.1
def f_codeLen (o : Ob) : Int32 := o.2.2.2.2.2.2.2.2.2.2.2.2.2.2.2.2.2.2.2.2.2.2.2.2.2.2.2.2.2.2.2.2.2.2.2.2.2.2.2.2.2.2.2.1
def f_rootPc (o : Ob) : Int32 := o.2.2.2.2.2.2.2.2.2.2.2.2.2.2.2.2.2.2.2.2.2.2.2.2.2.2.2.2.2.2.2.2.2.2.2.2.2.2.2.2.2.2.2.2.1
def f_tableUsed (o : Ob) : Int32 := o.2.2.2.2.2.2.2.2.2.2.2.2.2.2.2.2.2.2.2.2.2.2.2.2.2.2.2.2.2.2.2.2.2.2.2.2.2.2.2.2.2.2.2.2.2.1
def f_maskUsed (o : Ob) : Int32 := o.2.2.2.2.2.2.2.2.2.2.2.2.2.2.2.2.2.2.2.2.2.2.2.2.2.2.2.2.2.2.2.2.2.2.2.2.2.2.2.2.2.2.2.2.2.2.1
def f_sp (o : Ob) : Int32 := o.2.2.2.2.2.2.2.2.2.2.2.2.2.2.2.2.2.2.2.2.2.2.2.2.2.2.2.2.2.2.2.2.2.2.2.2.2.2.2.2.2.2.2.2.2.2.2
def s_opRet (o : Ob) (v : Int32) : Ob := (v, o.2.1, o.2.2.1, o.2.2.2.1, o.2.2.2.2.1, o.2.2.2.2.2.1, o.2.2.2.2.2.2.1, o.2.2.2.2.2.2.2.1, o.2.2.2.2.2.2.2.2.1, o.2.2.2.2.2.2.2.2.2.1, o.2.2.2.2.2.2.2.2.2.2.1, o.2.2.2.2.2.2.2.2.2.2.2.1, o.2.2.2.2.2.2.2.2.2.2.2.2.1, o.2.2.2.2.2.2.2.2.2.2.2.2.2.1, o.2.2.2.2.2.2.2.2.2.2.2.2.2.2.1, o.2.2.2.2.2.2.2.2.2.2.2.2.2.2.2.1, o.2.2.2.2.2.2.2.2.2.2.2.2.2.2.2.2.1, o.2.2.2.2.2.2.2.2.2.2.2.2.2.2.2.2.2.1, o.2.2.2.2.2.2.2.2.2.2.2.2.2.2.2.2.2.2.1, o.2.2.2.2.2.2.2.2.2.2.2.2.2.2.2.2.2.2.2.1, o.2.2.2.2.2.2.2.2.2.2.2.2.2.2.2.2.2.2.2.2.1, o.2.2.2.2.2.2.2.2.2.2.2.2.2.2.2.2.2.2.2.2.2.1, o.2.2.2.2.2.2.2.2.2.2.2.2.2.2.2.2.2.2.2.2.2.2.1, o.2.2.2.2.2.2.2.2.2.2.2.2.2.2.2.2.2.2.2.2.2.2.2.1, o.2.2.2.2.2.2.2.2.2.2.2.2.2.2.2.2.2.2.2.2.2.2.2.2.1, o.2.2.2.2.2.2.2.2.2.2.2.2.2.2.2.2.2.2.2.2.2.2.2.2.2.1, o.2.2.2.2.2.2.2.2.2.2.2.2.2.2.2.2.2.2.2.2.2.2.2.2.2.2.1, o.2.2.2.2.2.2.2.2.2.2.2.2.2.2.2.2.2.2.2.2.2.2.2.2.2.2.2.1, o.2.2.2.2.2.2.2.2.2.2.2.2.2.2.2.2.2.2.2.2.2.2.2.2.2.2.2.2.1, o.2.2.2.2.2.2.2.2.2.2.2.2.2.2.2.2.2.2.2.2.2.2.2.2.2.2.2.2.2.1, o.2.2.2.2.2.2.2.2.2.2.2.2.2.2.2.2.2.2.2.2.2.2.2.2.2.2.2.2.2.2.1, o.2.2.2.2.2.2.2.2.2.2.2.2.2.2.2.2.2.2.2.2.2.2.2.2.2.2.2.2.2.2.2.1, o.2.2.2.2.2.2.2.2.2.2.2.2.2.2.2.2.2.2.2.2.2.2.2.2.2.2.2.2.2.2.2.2.1, o.2.2.2.2.2.2.2.2.2.2.2.2.2.2.2.2.2.2.2.2.2.2.2.2.2.2.2.2.2.2.2.2.2.1, o.2.2.2.2.2.2.2.2.2.2.2.2.2.2.2.2.2.2.2.2.2.2.2.2.2.2.2.2.2.2.2.2.2.2.1, o.2.2.2.2.2.2.2.2.2.2.2.2.2.2.2.2.2.2.2.2.2.2.2.2.2.2.2.2.2.2.2.2.2.2.2.1, o.2.2.2.2.2.2.2.2.2.2.2.2.2.2.2.2.2.2.2.2.2.2.2.2.2.2.2.2.2.2.2.2.2.2.2.2.1, o.2.2.2.2.2.2.2.2.2.2.2.2.2.2.2.2.2.2.2.2.2.2.2.2.2.2.2.2.2.2.2.2.2.2.2.2.2.1, o.2.2.2.2.2.2.2.2.2.2.2.2.2.2.2.2.2.2.2.2.2.2.2.2.2.2.2.2.2.2.2.2.2.2.2.2.2.2.1, o.2.2.2.2.2.2.2.2.2.2.2.2.2.2.2.2.2.2.2.2.2.2.2.2.2.2.2.2.2.2.2.2.2.2.2.2.2.2.2.1, o.2.2.2.2.2.2.2.2.2.2.2.2.2.2.2.2.2.2.2.2.2.2.2.2.2.2.2.2.2.2.2.2.2.2.2.2.2.2.2.2.1, o.2.2.2.2.2.2.2.2.2.2.2.2.2.2.2.2.2.2.2.2.2.2.2.2.2.2.2.2.2.2.2.2.2.2.2.2.2.2.2.2.2.1, o.2.2.2.2.2.2.2.2.2.2.2.2.2.2.2.2.2.2.2.2.2.2.2.2.2.2.2.2.2.2.2.2.2.2.2.2.2.2.2.2.2.2.1, o.2.2.2.2.2.2.2.2.2.2.2.2.2.2.2.2.2.2.2.2.2.2.2.2.2.2.2.2.2.2.2.2.2.2.2.2.2.2.2.2.2.2.2.1, o.2.2.2.2.2.2.2.2.2.2.2.2.2.2.2.2.2.2.2.2.2.2.2.2.2.2.2.2.2.2.2.2.2.2.2.2.2.2.2.2.2.2.2.2.1, o.2.2.2.2.2.2.2.2.2.2.2.2.2.2.2.2.2.2.2.2.2.2.2.2.2.2.2.2.2.2.2.2.2.2.2.2.2.2.2.2.2.2.2.2.2.1, o.2.2.2.2.2.2.2.2.2.2.2.2.2.2.2.2.2.2.2.2.2.2.2.2.2.2.2.2.2.2.2.2.2.2.2.2.2.2.2.2.2.2.2.2.2.2.1, o.2.2.2.2.2.2.2.2.2.2.2.2.2.2.2.2.2.2.2.2.2.2.2.2.2.2.2.2.2.2.2.2.2.2.2.2.2.2.2.2.2.2.2.2.2.2.2)
def s_opLess (o : Ob) (v : Int32) : Ob := (o.1, v, o.2.2.1, o.2.2.2.1, o.2.2.2.2.1, o.2.2.2.2.2.1, o.2.2.2.2.2.2.1, o.2.2.2.2.2.2.2.1, o.2.2.2.2.2.2.2.2.1, o.2.2.2.2.2.2.2.2.2.1, o.2.2.2.2.2.2.2.2.2.2.1, o.2.2.2.2.2.2.2.2.2.2.2.1, o.2.2.2.2.2.2.2.2.2.2.2.2.1, o.2.2.2.2.2.2.2.2.2.2.2.2.2.1, o.2.2.2.2.2.2.2.2.2.2.2.2.2.2.1, o.2.2.2.2.2.2.2.2.2.2.2.2.2.2.2.1, o.2.2.2.2.2.2.2.2.2.2.2.2.2.2.2.2.1, o.2.2.2.2.2.2.2.2.2.2.2.2.2.2.2.2.2.1, o.2.2.2.2.2.2.2.2.2.2.2.2.2.2.2.2.2.2.1, o.2.2.2.2.2.2.2.2.2.2.2.2.2.2.2.2.2.2.2.1, o.2.2.2.2.2.2.2.2.2.2.2.2.2.2.2.2.2.2.2.2.1, o.2.2.2.2.2.2.2.2.2.2.2.2.2.2.2.2.2.2.2.2.2.1, o.2.2.2.2.2.2.2.2.2.2.2.2.2.2.2.2.2.2.2.2.2.2.1, o.2.2.2.2.2.2.2.2.2.2.2.2.2.2.2.2.2.2.2.2.2.2.2.1, o.2.2.2.2.2.2.2.2.2.2.2.2.2.2.2.2.2.2.2.2.2.2.2.2.1, o.2.2.2.2.2.2.2.2.2.2.2.2.2.2.2.2.2.2.2.2.2.2.2.2.2.1, o.2.2.2.2.2.2.2.2.2.2.2.2.2.2.2.2.2.2.2.2.2.2.2.2.2.2.1, o.2.2.2.2.2.2.2.2.2.2.2.2.2.2.2.2.2.2.2.2.2.2.2.2.2.2.2.1, o.2.2.2.2.2.2.2.2.2.2.2.2.2.2.2.2.2.2.2.2.2.2.2.2.2.2.2.2.1, o.2.2.2.2.2.2.2.2.2.2.2.2.2.2.2.2.2.2.2.2.2.2.2.2.2.2.2.2.2.1, o.2.2.2.2.2.2.2.2.2.2.2.2.2.2.2.2.2.2.2.2.2.2.2.2.2.2.2.2.2.2.1, o.2.2.2.2.2.2.2.2.2.2.2.2.2.2.2.2.2.2.2.2.2.2.2.2.2.2.2.2.2.2.2.1, o.2.2.2.2.2.2.2.2.2.2.2.2.2.2.2.2.2.2.2.2.2.2.2.2.2.2.2.2.2.2.2.2.1, o.2.2.2.2.2.2.2.2.2.2.2.2.2.2.2.2.2.2.2.2.2.2.2.2.2.2.2.2.2.2.2.2.2.1, o.2.2.2.2.2.2.2.2.2.2.2.2.2.2.2.2.2.2.2.2.2.2.2.2.2.2.2.2.2.2.2.2.2.2.1, o.2.2.2.2.2.2.2.2.2.2.2.2.2.2.2.2.2.2.2.2.2.2.2.2.2.2.2.2.2.2.2.2.2.2.2.1, o.2.2.2.2.2.2.2.2.2.2.2.2.2.2.2.2.2.2.2.2.2.2.2.2.2.2.2.2.2.2.2.2.2.2.2.2.1, o.2.2.2.2.2.2.2.2.2.2.2.2.2.2.2.2.2.2.2.2.2.2.2.2.2.2.2.2.2.2.2.2.2.2.2.2.2.1, o.2.2.2.2.2.2.2.2.2.2.2.2.2.2.2.2.2.2.2.2.2.2.2.2.2.2.2.2.2.2.2.2.2.2.2.2.2.2.1, o.2.2.2.2.2.2.2.2.2.2.2.2.2.2.2.2.2.2.2.2.2.2.2.2.2.2.2.2.2.2.2.2.2.2.2.2.2.2.2.1, o.2.2.2.2.2.2.2.2.2.2.2.2.2.2.2.2.2.2.2.2.2.2.2.2.2.2.2.2.2.2.2.2.2.2.2.2.2.2.2.2.1, o.2.2.2.2.2.2.2.2.2.2.2.2.2.2.2.2.2.2.2.2.2.2.2.2.2.2.2.2.2.2.2.2.2.2.2.2.2.2.2.2.2.1, o.2.2.2.2.2.2.2.2.2.2.2.2.2.2.2.2.2.2.2.2.2.2.2.2.2.2.2.2.2.2.2.2.2.2.2.2.2.2.2.2.2.2.1, o.2.2.2.2.2.2.2.2.2.2.2.2.2.2.2.2.2.2.2.2.2.2.2.2.2.2.2.2.2.2.2.2.2.2.2.2.2.2.2.2.2.2.2.1, o.2.2.2.2.2.2.2.2.2.2.2.2.2.2.2.2.2.2.2.2.2.2.2.2.2.2.2.2.2.2.2.2.2.2.2.2.2.2.2.2.2.2.2.2.1, o.2.2.2.2.2.2.2.2.2.2.2.2.2.2.2.2.2.2.2.2.2.2.2.2.2.2.2.2.2.2.2.2.2.2.2.2.2.2.2.2.2.2.2.2.2.1, o.2.2.2.2.2.2.2.2.2.2.2.2.2.2.2.2.2.2.2.2.2.2.2.2.2.2.2.2.2.2.2.2.2.2.2.2.2.2.2.2.2.2.2.2.2.2.1, o.2.2.2.2.2.2.2.2.2.2.2.2.2.2.2.2.2.2.2.2.2.2.2.2.2.2.2.2.2.2.2.2.2.2.2.2.2.2.2.2.2.2.2.2.2.2.2)
def s_opEq (o : Ob) (v : Int32) : Ob := (o.1, o.2.1, v, o.2.2.2.1, o.2.2.2.2.1, o.2.2.2.2.2.1, o.2.2.2.2.2.2.1, o.2.2.2.2.2.2.2.1, o.2.2.2.2.2.2.2.2.1, o.2.2.2.2.2.2.2.2.2.1, o.2.2.2.2.2.2.2.2.2.2.1, o.2.2.2.2.2.2.2.2.2.2.2.1, o.2.2.2.2.2.2.2.2.2.2.2.2.1, o.2.2.2.2.2.2.2.2.2.2.2.2.2.1, o.2.2.2.2.2.2.2.2.2.2.2.2.2.2.1, o.2.2.2.2.2.2.2.2.2.2.2.2.2.2.2.1, o.2.2.2.2.2.2.2.2.2.2.2.2.2.2.2.2.1, o.2.2.2.2.2.2.2.2.2.2.2.2.2.2.2.2.2.1, o.2.2.2.2.2.2.2.2.2.2.2.2.2.2.2.2.2.2.1, o.2.2.2.2.2.2.2.2.2.2.2.2.2.2.2.2.2.2.2.1, o.2.2.2.2.2.2.2.2.2.2.2.2.2.2.2.2.2.2.2.2.1, o.2.2.2.2.2.2.2.2.2.2.2.2.2.2.2.2.2.2.2.2.2.1, o.2.2.2.2.2.2.2.2.2.2.2.2.2.2.2.2.2.2.2.2.2.2.1, o.2.2.2.2.2.2.2.2.2.2.2.2.2.2.2.2.2.2.2.2.2.2.2.1, o.2.2.2.2.2.2.2.2.2.2.2.2.2.2.2.2.2.2.2.2.2.2.2.2.1, o.2.2.2.2.2.2.2.2.2.2.2.2.2.2.2.2.2.2.2.2.2.2.2.2.2.1, o.2.2.2.2.2.2.2.2.2.2.2.2.2.2.2.2.2.2.2.2.2.2.2.2.2.2.1, o.2.2.2.2.2.2.2.2.2.2.2.2.2.2.2.2.2.2.2.2.2.2.2.2.2.2.2.1, o.2.2.2.2.2.2.2.2.2.2.2.2.2.2.2.2.2.2.2.2.2.2.2.2.2.2.2.2.1, o.2.2.2.2.2.2.2.2.2.2.2.2.2.2.2.2.2.2.2.2.2.2.2.2.2.2.2.2.2.1, o.2.2.2.2.2.2.2.2.2.2.2.2.2.2.2.2.2.2.2.2.2.2.2.2.2.2.2.2.2.2.1, o.2.2.2.2.2.2.2.2.2.2.2.2.2.2.2.2.2.2.2.2.2.2.2.2.2.2.2.2.2.2.2.1, o.2.2.2.2.2.2.2.2.2.2.2.2.2.2.2.2.2.2.2.2.2.2.2.2.2.2.2.2.2.2.2.2.1, o.2.2.2.2.2.2.2.2.2.2.2.2.2.2.2.2.2.2.2.2.2.2.2.2.2.2.2.2.2.2.2.2.2.1, o.2.2.2.2.2.2.2.2.2.2.2.2.2.2.2.2.2.2.2.2.2.2.2.2.2.2.2.2.2.2.2.2.2.2.1, o.2.2.2.2.2.2.2.2.2.2.2.2.2.2.2.2.2.2.2.2.2.2.2.2.2.2.2.2.2.2.2.2.2.2.2.1, o.2.2.2.2.2.2.2.2.2.2.2.2.2.2.2.2.2.2.2.2.2.2.2.2.2.2.2.2.2.2.2.2.2.2.2.2.1, o.2.2.2.2.2.2.2.2.2.2.2.2.2.2.2.2.2.2.2.2.2.2.2.2.2.2.2.2.2.2.2.2.2.2.2.2.2.1, o.2.2.2.2.2.2.2.2.2.2.2.2.2.2.2.2.2.2.2.2.2.2.2.2.2.2.2.2.2.2.2.2.2.2.2.2.2.2.1, o.2.2.2.2.2.2.2.2.2.2.2.2.2.2.2.2.2.2.2.2.2.2.2.2.2.2.2.2.2.2.2.2.2.2.2.2.2.2.2.1, o.2.2.2.2.2.2.2.2.2.2.2.2.2.2.2.2.2.2.2.2.2.2.2.2.2.2.2.2.2.2.2.2.2.2.2.2.2.2.2.2.1, o.2.2.2.2.2.2.2.2.2.2.2.2.2.2.2.2.2.2.2.2.2.2.2.2.2.2.2.2.2.2.2.2.2.2.2.2.2.2.2.2.2.1, o.2.2.2.2.2.2.2.2.2.2.2.2.2.2.2.2.2.2.2.2.2.2.2.2.2.2.2.2.2.2.2.2.2.2.2.2.2.2.2.2.2.2.1, o.2.2.2.2.2.2.2.2.2.2.2.2.2.2.2.2.2.2.2.2.2.2.2.2.2.2.2.2.2.2.2.2.2.2.2.2.2.2.2.2.2.2.2.1, o.2.2.2.2.2.2.2.2.2.2.2.2.2.2.2.2.2.2.2.2.2.2.2.2.2.2.2.2.2.2.2.2.2.2.2.2.2.2.2.2.2.2.2.2.1, o.2.2.2.2.2.2.2.2.2.2.2.2.2.2.2.2.2.2.2.2.2.2.2.2.2.2.2.2.2.2.2.2.2.2.2.2.2.2.2.2.2.2.2.2.2.1, o.2.2.2.2.2.2.2.2.2.2.2.2.2.2.2.2.2.2.2.2.2.2.2.2.2.2.2.2.2.2.2.2.2.2.2.2.2.2.2.2.2.2.2.2.2.2.1, o.2.2.2.2.2.2.2.2.2.2.2.2.2.2.2.2.2.2.2.2.2.2.2.2.2.2.2.2.2.2.2.2.2.2.2.2.2.2.2.2.2.2.2.2.2.2.2)
def s_opTable (o : Ob) (v : Int32) : Ob := (o.1, o.2.1, o.2.2.1, v, o.2.2.2.2.1, o.2.2.2.2.2.1, o.2.2.2.2.2.2.1, o.2.2.2.2.2.2.2.1, o.2.2.2.2.2.2.2.2.1, o.2.2.2.2.2.2.2.2.2.1, o.2.2.2.2.2.2.2.2.2.2.1, o.2.2.2.2.2.2.2.2.2.2.2.1, o.2.2.2.2.2.2.2.2.2.2.2.2.1, o.2.2.2.2.2.2.2.2.2.2.2.2.2.1, o.2.2.2.2.2.2.2.2.2.2.2.2.2.2.1, o.2.2.2.2.2.2.2.2.2.2.2.2.2.2.2.1, o.2.2.2.2.2.2.2.2.2.2.2.2.2.2.2.2.1, o.2.2.2.2.2.2.2.2.2.2.2.2.2.2.2.2.2.1, o.2.2.2.2.2.2.2.2.2.2.2.2.2.2.2.2.2.2.1, o.2.2.2.2.2.2.2.2.2.2.2.2.2.2.2.2.2.2.2.1, o.2.2.2.2.2.2.2.2.2.2.2.2.2.2.2.2.2.2.2.2.1, o.2.2.2.2.2.2.2.2.2.2.2.2.2.2.2.2.2.2.2.2.2.1, o.2.2.2.2.2.2.2.2.2.2.2.2.2.2.2.2.2.2.2.2.2.2.1, o.2.2.2.2.2.2.2.2.2.2.2.2.2.2.2.2.2.2.2.2.2.2.2.1, o.2.2.2.2.2.2.2.2.2.2.2.2.2.2.2.2.2.2.2.2.2.2.2.2.1, o.2.2.2.2.2.2.2.2.2.2.2.2.2.2.2.2.2.2.2.2.2.2.2.2.2.1, o.2.2.2.2.2.2.2.2.2.2.2.2.2.2.2.2.2.2.2.2.2.2.2.2.2.2.1, o.2.2.2.2.2.2.2.2.2.2.2.2.2.2.2.2.2.2.2.2.2.2.2.2.2.2.2.1, o.2.2.2.2.2.2.2.2.2.2.2.2.2.2.2.2.2.2.2.2.2.2.2.2.2.2.2.2.1, o.2.2.2.2.2.2.2.2.2.2.2.2.2.2.2.2.2.2.2.2.2.2.2.2.2.2.2.2.2.1, o.2.2.2.2.2.2.2.2.2.2.2.2.2.2.2.2.2.2.2.2.2.2.2.2.2.2.2.2.2.2.1, o.2.2.2.2.2.2.2.2.2.2.2.2.2.2.2.2.2.2.2.2.2.2.2.2.2.2.2.2.2.2.2.1, o.2.2.2.2.2.2.2.2.2.2.2.2.2.2.2.2.2.2.2.2.2.2.2.2.2.2.2.2.2.2.2.2.1, o.2.2.2.2.2.2.2.2.2.2.2.2.2.2.2.2.2.2.2.2.2.2.2.2.2.2.2.2.2.2.2.2.2.1, o.2.2.2.2.2.2.2.2.2.2.2.2.2.2.2.2.2.2.2.2.2.2.2.2.2.2.2.2.2.2.2.2.2.2.1, o.2.2.2.2.2.2.2.2.2.2.2.2.2.2.2.2.2.2.2.2.2.2.2.2.2.2.2.2.2.2.2.2.2.2.2.1, o.2.2.2.2.2.2.2.2.2.2.2.2.2.2.2.2.2.2.2.2.2.2.2.2.2.2.2.2.2.2.2.2.2.2.2.2.1, o.2.2.2.2.2.2.2.2.2.2.2.2.2.2.2.2.2.2.2.2.2.2.2.2.2.2.2.2.2.2.2.2.2.2.2.2.2.1, o.2.2.2.2.2.2.2.2.2.2.2.2.2.2.2.2.2.2.2.2.2.2.2.2.2.2.2.2.2.2.2.2.2.2.2.2.2.2.1, o.2.2.2.2.2.2.2.2.2.2.2.2.2.2.2.2.2.2.2.2.2.2.2.2.2.2.2.2.2.2.2.2.2.2.2.2.2.2.2.1, o.2.2.2.2.2.2.2.2.2.2.2.2.2.2.2.2.2.2.2.2.2.2.2.2.2.2.2.2.2.2.2.2.2.2.2.2.2.2.2.2.1, o.2.2.2.2.2.2.2.2.2.2.2.2.2.2.2.2.2.2.2.2.2.2.2.2.2.2.2.2.2.2.2.2.2.2.2.2.2.2.2.2.2.1, o.2.2.2.2.2.2.2.2.2.2.2.2.2.2.2.2.2.2.2.2.2.2.2.2.2.2.2.2.2.2.2.2.2.2.2.2.2.2.2.2.2.2.1, o.2.2.2.2.2.2.2.2.2.2.2.2.2.2.2.2.2.2.2.2.2.2.2.2.2.2.2.2.2.2.2.2.2.2.2.2.2.2.2.2.2.2.2.1, o.2.2.2.2.2.2.2.2.2.2.2.2.2.2.2.2.2.2.2.2.2.2.2.2.2.2.2.2.2.2.2.2.2.2.2.2.2.2.2.2.2.2.2.2.1, o.2.2.2.2.2.2.2.2.2.2.2.2.2.2.2.2.2.2.2.2.2.2.2.2.2.2.2.2.2.2.2.2.2.2.2.2.2.2.2.2.2.2.2.2.2.1, o.2.2.2.2.2.2.2.2.2.2.2.2.2.2.2.2.2.2.2.2.2.2.2.2.2.2.2.2.2.2.2.2.2.2.2.2.2.2.2.2.2.2.2.2.2.2.1, o.2.2.2.2.2.2.2.2.2.2.2.2.2.2.2.2.2.2.2.2.2.2.2.2.2.2.2.2.2.2.2.2.2.2.2.2.2.2.2.2.2.2.2.2.2.2.2)
def s_opBits (o : Ob) (v : Int32) : Ob := (o.1, o.2.1, o.2.2.1, o.2.2.2.1, v, o.2.2.2.2.2.1, o.2.2.2.2.2.2.1, o.2.2.2.2.2.2.2.1, o.2.2.2.2.2.2.2.2.1, o.2.2.2.2.2.2.2.2.2.1, o.2.2.2.2.2.2.2.2.2.2.1, o.2.2.2.2.2.2.2.2.2.2.2.1, o.2.2.2.2.2.2.2.2.2.2.2.2.1, o.2.2.2.2.2.2.2.2.2.2.2.2.2.1, o.2.2.2.2.2.2.2.2.2.2.2.2.2.2.1, o.2.2.2.2.2.2.2.2.2.2.2.2.2.2.2.1, o.2.2.2.2.2.2.2.2.2.2.2.2.2.2.2.2.1, o.2.2.2.2.2.2.2.2.2.2.2.2.2.2.2.2.2.1, o.2.2.2.2.2.2.2.2.2.2.2.2.2.2.2.2.2.2.1, o.2.2.2.2.2.2.2.2.2.2.2.2.2.2.2.2.2.2.2.1, o.2.2.2.2.2.2.2.2.2.2.2.2.2.2.2.2.2.2.2.2.1, o.2.2.2.2.2.2.2.2.2.2.2.2.2.2.2.2.2.2.2.2.2.1, o.2.2.2.2.2.2.2.2.2.2.2.2.2.2.2.2.2.2.2.2.2.2.1, o.2.2.2.2.2.2.2.2.2.2.2.2.2.2.2.2.2.2.2.2.2.2.2.1, o.2.2.2.2.2.2.2.2.2.2.2.2.2.2.2.2.2.2.2.2.2.2.2.2.1, o.2.2.2.2.2.2.2.2.2.2.2.2.2.2.2.2.2.2.2.2.2.2.2.2.2.1, o.2.2.2.2.2.2.2.2.2.2.2.2.2.2.2.2.2.2.2.2.2.2.2.2.2.2.1, o.2.2.2.2.2.2.2.2.2.2.2.2.2.2.2.2.2.2.2.2.2.2.2.2.2.2.2.1, o.2.2.2.2.2.2.2.2.2.2.2.2.2.2.2.2.2.2.2.2.2.2.2.2.2.2.2.2.1, o.2.2.2.2.2.2.2.2.2.2.2.2.2.2.2.2.2.2.2.2.2.2.2.2.2.2.2.2.2.1, o.2.2.2.2.2.2.2.2.2.2.2.2.2.2.2.2.2.2.2.2.2.2.2.2.2.2.2.2.2.2.1, o.2.2.2.2.2.2.2.2.2.2.2.2.2.2.2.2.2.2.2.2.2.2.2.2.2.2.2.2.2.2.2.1, o.2.2.2.2.2.2.2.2.2.2.2.2.2.2.2.2.2.2.2.2.2.2.2.2.2.2.2.2.2.2.2.2.1, o.2.2.2.2.2.2.2.2.2.2.2.2.2.2.2.2.2.2.2.2.2.2.2.2.2.2.2.2.2.2.2.2.2.1, o.2.2.2.2.2.2.2.2.2.2.2.2.2.2.2.2.2.2.2.2.2.2.2.2.2.2.2.2.2.2.2.2.2.2.1, o.2.2.2.2.2.2.2.2.2.2.2.2.2.2.2.2.2.2.2.2.2.2.2.2.2.2.2.2.2.2.2.2.2.2.2.1, o.2.2.2.2.2.2.2.2.2.2.2.2.2.2.2.2.2.2.2.2.2.2.2.2.2.2.2.2.2.2.2.2.2.2.2.2.1, o.2.2.2.2.2.2.2.2.2.2.2.2.2.2.2.2.2.2.2.2.2.2.2.2.2.2.2.2.2.2.2.2.2.2.2.2.2.1, o.2.2.2.2.2.2.2.2.2.2.2.2.2.2.2.2.2.2.2.2.2.2.2.2.2.2.2.2.2.2.2.2.2.2.2.2.2.2.1, o.2.2.2.2.2.2.2.2.2.2.2.2.2.2.2.2.2.2.2.2.2.2.2.2.2.2.2.2.2.2.2.2.2.2.2.2.2.2.2.1, o.2.2.2.2.2.2.2.2.2.2.2.2.2.2.2.2.2.2.2.2.2.2.2.2.2.2.2.2.2.2.2.2.2.2.2.2.2.2.2.2.1, o.2.2.2.2.2.2.2.2.2.2.2.2.2.2.2.2.2.2.2.2.2.2.2.2.2.2.2.2.2.2.2.2.2.2.2.2.2.2.2.2.2.1, o.2.2.2.2.2.2.2.2.2.2.2.2.2.2.2.2.2.2.2.2.2.2.2.2.2.2.2.2.2.2.2.2.2.2.2.2.2.2.2.2.2.2.1, o.2.2.2.2.2.2.2.2.2.2.2.2.2.2.2.2.2.2.2.2.2.2.2.2.2.2.2.2.2.2.2.2.2.2.2.2.2.2.2.2.2.2.2.1, o.2.2.2.2.2.2.2.2.2.2.2.2.2.2.2.2.2.2.2.2.2.2.2.2.2.2.2.2.2.2.2.2.2.2.2.2.2.2.2.2.2.2.2.2.1, o.2.2.2.2.2.2.2.2.2.2.2.2.2.2.2.2.2.2.2.2.2.2.2.2.2.2.2.2.2.2.2.2.2.2.2.2.2.2.2.2.2.2.2.2.2.1, o.2.2.2.2.2.2.2.2.2.2.2.2.2.2.2.2.2.2.2.2.2.2.2.2.2.2.2.2.2.2.2.2.2.2.2.2.2.2.2.2.2.2.2.2.2.2.1, o.2.2.2.2.2.2.2.2.2.2.2.2.2.2.2.2.2.2.2.2.2.2.2.2.2.2.2.2.2.2.2.2.2.2.2.2.2.2.2.2.2.2.2.2.2.2.2)
def s_maxCap (o : Ob) (v : Int32) : Ob := (o.1, o.2.1, o.2.2.1, o.2.2.2.1, o.2.2.2.2.1, v, o.2.2.2.2.2.2.1, o.2.2.2.2.2.2.2.1, o.2.2.2.2.2.2.2.2.1, o.2.2.2.2.2.2.2.2.2.1, o.2.2.2.2.2.2.2.2.2.2.1, o.2.2.2.2.2.2.2.2.2.2.2.1, o.2.2.2.2.2.2.2.2.2.2.2.2.1, o.2.2.2.2.2.2.2.2.2.2.2.2.2.1, o.2.2.2.2.2.2.2.2.2.2.2.2.2.2.1, o.2.2.2.2.2.2.2.2.2.2.2.2.2.2.2.1, o.2.2.2.2.2.2.2.2.2.2.2.2.2.2.2.2.1, o.2.2.2.2.2.2.2.2.2.2.2.2.2.2.2.2.2.1, o.2.2.2.2.2.2.2.2.2.2.2.2.2.2.2.2.2.2.1, o.2.2.2.2.2.2.2.2.2.2.2.2.2.2.2.2.2.2.2.1, o.2.2.2.2.2.2.2.2.2.2.2.2.2.2.2.2.2.2.2.2.1, o.2.2.2.2.2.2.2.2.2.2.2.2.2.2.2.2.2.2.2.2.2.1, o.2.2.2.2.2.2.2.2.2.2.2.2.2.2.2.2.2.2.2.2.2.2.1, o.2.2.2.2.2.2.2.2.2.2.2.2.2.2.2.2.2.2.2.2.2.2.2.1, o.2.2.2.2.2.2.2.2.2.2.2.2.2.2.2.2.2.2.2.2.2.2.2.2.1, o.2.2.2.2.2.2.2.2.2.2.2.2.2.2.2.2.2.2.2.2.2.2.2.2.2.1, o.2.2.2.2.2.2.2.2.2.2.2.2.2.2.2.2.2.2.2.2.2.2.2.2.2.2.1, o.2.2.2.2.2.2.2.2.2.2.2.2.2.2.2.2.2.2.2.2.2.2.2.2.2.2.2.1, o.2.2.2.2.2.2.2.2.2.2.2.2.2.2.2.2.2.2.2.2.2.2.2.2.2.2.2.2.1, o.2.2.2.2.2.2.2.2.2.2.2.2.2.2.2.2.2.2.2.2.2.2.2.2.2.2.2.2.2.1, o.2.2.2.2.2.2.2.2.2.2.2.2.2.2.2.2.2.2.2.2.2.2.2.2.2.2.2.2.2.2.1, o.2.2.2.2.2.2.2.2.2.2.2.2.2.2.2.2.2.2.2.2.2.2.2.2.2.2.2.2.2.2.2.1, o.2.2.2.2.2.2.2.2.2.2.2.2.2.2.2.2.2.2.2.2.2.2.2.2.2.2.2.2.2.2.2.2.1, o.2.2.2.2.2.2.2.2.2.2.2.2.2.2.2.2.2.2.2.2.2.2.2.2.2.2.2.2.2.2.2.2.2.1, o.2.2.2.2.2.2.2.2.2.2.2.2.2.2.2.2.2.2.2.2.2.2.2.2.2.2.2.2.2.2.2.2.2.2.1, o.2.2.2.2.2.2.2.2.2.2.2.2.2.2.2.2.2.2.2.2.2.2.2.2.2.2.2.2.2.2.2.2.2.2.2.1, o.2.2.2.2.2.2.2.2.2.2.2.2.2.2.2.2.2.2.2.2.2.2.2.2.2.2.2.2.2.2.2.2.2.2.2.2.1, o.2.2.2.2.2.2.2.2.2.2.2.2.2.2.2.2.2.2.2.2.2.2.2.2.2.2.2.2.2.2.2.2.2.2.2.2.2.1, o.2.2.2.2.2.2.2.2.2.2.2.2.2.2.2.2.2.2.2.2.2.2.2.2.2.2.2.2.2.2.2.2.2.2.2.2.2.2.1, o.2.2.2.2.2.2.2.2.2.2.2.2.2.2.2.2.2.2.2.2.2.2.2.2.2.2.2.2.2.2.2.2.2.2.2.2.2.2.2.1, o.2.2.2.2.2.2.2.2.2.2.2.2.2.2.2.2.2.2.2.2.2.2.2.2.2.2.2.2.2.2.2.2.2.2.2.2.2.2.2.2.1, o.2.2.2.2.2.2.2.2.2.2.2.2.2.2.2.2.2.2.2.2.2.2.2.2.2.2.2.2.2.2.2.2.2.2.2.2.2.2.2.2.2.1, o.2.2.2.2.2.2.2.2.2.2.2.2.2.2.2.2.2.2.2.2.2.2.2.2.2.2.2.2.2.2.2.2.2.2.2.2.2.2.2.2.2.2.1, o.2.2.2.2.2.2.2.2.2.2.2.2.2.2.2.2.2.2.2.2.2.2.2.2.2.2.2.2.2.2.2.2.2.2.2.2.2.2.2.2.2.2.2.1, o.2.2.2.2.2.2.2.2.2.2.2.2.2.2.2.2.2.2.2.2.2.2.2.2.2.2.2.2.2.2.2.2.2.2.2.2.2.2.2.2.2.2.2.2.1, o.2.2.2.2.2.2.2.2.2.2.2.2.2.2.2.2.2.2.2.2.2.2.2.2.2.2.2.2.2.2.2.2.2.2.2.2.2.2.2.2.2.2.2.2.2.1, o.2.2.2.2.2.2.2.2.2.2.2.2.2.2.2.2.2.2.2.2.2.2.2.2.2.2.2.2.2.2.2.2.2.2.2.2.2.2.2.2.2.2.2.2.2.2.1, o.2.2.2.2.2.2.2.2.2.2.2.2.2.2.2.2.2.2.2.2.2.2.2.2.2.2.2.2.2.2.2.2.2.2.2.2.2.2.2.2.2.2.2.2.2.2.2)
def s_maxTargets (o : Ob) (v : Int32) : Ob := (o.1, o.2.1, o.2.2.1, o.2.2.2.1, o.2.2.2.2.1, o.2.2.2.2.2.1, v, o.2.2.2.2.2.2.2.1, o.2.2.2.2.2.2.2.2.1, o.2.2.2.2.2.2.2.2.2.1, o.2.2.2.2.2.2.2.2.2.2.1, o.2.2.2.2.2.2.2.2.2.2.2.1, o.2.2.2.2.2.2.2.2.2.2.2.2.1, o.2.2.2.2.2.2.2.2.2.2.2.2.2.1, o.2.2.2.2.2.2.2.2.2.2.2.2.2.2.1, o.2.2.2.2.2.2.2.2.2.2.2.2.2.2.2.1, o.2.2.2.2.2.2.2.2.2.2.2.2.2.2.2.2.1, o.2.2.2.2.2.2.2.2.2.2.2.2.2.2.2.2.2.1, o.2.2.2.2.2.2.2.2.2.2.2.2.2.2.2.2.2.2.1, o.2.2.2.2.2.2.2.2.2.2.2.2.2.2.2.2.2.2.2.1, o.2.2.2.2.2.2.2.2.2.2.2.2.2.2.2.2.2.2.2.2.1, o.2.2.2.2.2.2.2.2.2.2.2.2.2.2.2.2.2.2.2.2.2.1, o.2.2.2.2.2.2.2.2.2.2.2.2.2.2.2.2.2.2.2.2.2.2.1, o.2.2.2.2.2.2.2.2.2.2.2.2.2.2.2.2.2.2.2.2.2.2.2.1, o.2.2.2.2.2.2.2.2.2.2.2.2.2.2.2.2.2.2.2.2.2.2.2.2.1, o.2.2.2.2.2.2.2.2.2.2.2.2.2.2.2.2.2.2.2.2.2.2.2.2.2.1, o.2.2.2.2.2.2.2.2.2.2.2.2.2.2.2.2.2.2.2.2.2.2.2.2.2.2.1, o.2.2.2.2.2.2.2.2.2.2.2.2.2.2.2.2.2.2.2.2.2.2.2.2.2.2.2.1, o.2.2.2.2.2.2.2.2.2.2.2.2.2.2.2.2.2.2.2.2.2.2.2.2.2.2.2.2.1, o.2.2.2.2.2.2.2.2.2.2.2.2.2.2.2.2.2.2.2.2.2.2.2.2.2.2.2.2.2.1, o.2.2.2.2.2.2.2.2.2.2.2.2.2.2.2.2.2.2.2.2.2.2.2.2.2.2.2.2.2.2.1, o.2.2.2.2.2.2.2.2.2.2.2.2.2.2.2.2.2.2.2.2.2.2.2.2.2.2.2.2.2.2.2.1, o.2.2.2.2.2.2.2.2.2.2.2.2.2.2.2.2.2.2.2.2.2.2.2.2.2.2.2.2.2.2.2.2.1, o.2.2.2.2.2.2.2.2.2.2.2.2.2.2.2.2.2.2.2.2.2.2.2.2.2.2.2.2.2.2.2.2.2.1, o.2.2.2.2.2.2.2.2.2.2.2.2.2.2.2.2.2.2.2.2.2.2.2.2.2.2.2.2.2.2.2.2.2.2.1, o.2.2.2.2.2.2.2.2.2.2.2.2.2.2.2.2.2.2.2.2.2.2.2.2.2.2.2.2.2.2.2.2.2.2.2.1, o.2.2.2.2.2.2.2.2.2.2.2.2.2.2.2.2.2.2.2.2.2.2.2.2.2.2.2.2.2.2.2.2.2.2.2.2.1, o.2.2.2.2.2.2.2.2.2.2.2.2.2.2.2.2.2.2.2.2.2.2.2.2.2.2.2.2.2.2.2.2.2.2.2.2.2.1, o.2.2.2.2.2.2.2.2.2.2.2.2.2.2.2.2.2.2.2.2.2.2.2.2.2.2.2.2.2.2.2.2.2.2.2.2.2.2.1, o.2.2.2.2.2.2.2.2.2.2.2.2.2.2.2.2.2.2.2.2.2.2.2.2.2.2.2.2.2.2.2.2.2.2.2.2.2.2.2.1, o.2.2.2.2.2.2.2.2.2.2.2.2.2.2.2.2.2.2.2.2.2.2.2.2.2.2.2.2.2.2.2.2.2.2.2.2.2.2.2.2.1, o.2.2.2.2.2.2.2.2.2.2.2.2.2.2.2.2.2.2.2.2.2.2.2.2.2.2.2.2.2.2.2.2.2.2.2.2.2.2.2.2.2.1, o.2.2.2.2.2.2.2.2.2.2.2.2.2.2.2.2.2.2.2.2.2.2.2.2.2.2.2.2.2.2.2.2.2.2.2.2.2.2.2.2.2.2.1, o.2.2.2.2.2.2.2.2.2.2.2.2.2.2.2.2.2.2.2.2.2.2.2.2.2.2.2.2.2.2.2.2.2.2.2.2.2.2.2.2.2.2.2.1, o.2.2.2.2.2.2.2.2.2.2.2.2.2.2.2.2.2.2.2.2.2.2.2.2.2.2.2.2.2.2.2.2.2.2.2.2.2.2.2.2.2.2.2.2.1, o.2.2.2.2.2.2.2.2.2.2.2.2.2.2.2.2.2.2.2.2.2.2.2.2.2.2.2.2.2.2.2.2.2.2.2.2.2.2.2.2.2.2.2.2.2.1, o.2.2.2.2.2.2.2.2.2.2.2.2.2.2.2.2.2.2.2.2.2.2.2.2.2.2.2.2.2.2.2.2.2.2.2.2.2.2.2.2.2.2.2.2.2.2.1, o.2.2.2.2.2.2.2.2.2.2.2.2.2.2.2.2.2.2.2.2.2.2.2.2.2.2.2.2.2.2.2.2.2.2.2.2.2.2.2.2.2.2.2.2.2.2.2)
def s_maxSteps (o : Ob) (v : Int32) : Ob := (o.1, o.2.1, o.2.2.1, o.2.2.2.1, o.2.2.2.2.1, o.2.2.2.2.2.1, o.2.2.2.2.2.2.1, v, o.2.2.2.2.2.2.2.2.1, o.2.2.2.2.2.2.2.2.2.1, o.2.2.2.2.2.2.2.2.2.2.1, o.2.2.2.2.2.2.2.2.2.2.2.1, o.2.2.2.2.2.2.2.2.2.2.2.2.1, o.2.2.2.2.2.2.2.2.2.2.2.2.2.1, o.2.2.2.2.2.2.2.2.2.2.2.2.2.2.1, o.2.2.2.2.2.2.2.2.2.2.2.2.2.2.2.1, o.2.2.2.2.2.2.2.2.2.2.2.2.2.2.2.2.1, o.2.2.2.2.2.2.2.2.2.2.2.2.2.2.2.2.2.1, o.2.2.2.2.2.2.2.2.2.2.2.2.2.2.2.2.2.2.1, o.2.2.2.2.2.2.2.2.2.2.2.2.2.2.2.2.2.2.2.1, o.2.2.2.2.2.2.2.2.2.2.2.2.2.2.2.2.2.2.2.2.1, o.2.2.2.2.2.2.2.2.2.2.2.2.2.2.2.2.2.2.2.2.2.1, o.2.2.2.2.2.2.2.2.2.2.2.2.2.2.2.2.2.2.2.2.2.2.1, o.2.2.2.2.2.2.2.2.2.2.2.2.2.2.2.2.2.2.2.2.2.2.2.1, o.2.2.2.2.2.2.2.2.2.2.2.2.2.2.2.2.2.2.2.2.2.2.2.2.1, o.2.2.2.2.2.2.2.2.2.2.2.2.2.2.2.2.2.2.2.2.2.2.2.2.2.1, o.2.2.2.2.2.2.2.2.2.2.2.2.2.2.2.2.2.2.2.2.2.2.2.2.2.2.1, o.2.2.2.2.2.2.2.2.2.2.2.2.2.2.2.2.2.2.2.2.2.2.2.2.2.2.2.1, o.2.2.2.2.2.2.2.2.2.2.2.2.2.2.2.2.2.2.2.2.2.2.2.2.2.2.2.2.1, o.2.2.2.2.2.2.2.2.2.2.2.2.2.2.2.2.2.2.2.2.2.2.2.2.2.2.2.2.2.1, o.2.2.2.2.2.2.2.2.2.2.2.2.2.2.2.2.2.2.2.2.2.2.2.2.2.2.2.2.2.2.1, o.2.2.2.2.2.2.2.2.2.2.2.2.2.2.2.2.2.2.2.2.2.2.2.2.2.2.2.2.2.2.2.1, o.2.2.2.2.2.2.2.2.2.2.2.2.2.2.2.2.2.2.2.2.2.2.2.2.2.2.2.2.2.2.2.2.1, o.2.2.2.2.2.2.2.2.2.2.2.2.2.2.2.2.2.2.2.2.2.2.2.2.2.2.2.2.2.2.2.2.2.1, o.2.2.2.2.2.2.2.2.2.2.2.2.2.2.2.2.2.2.2.2.2.2.2.2.2.2.2.2.2.2.2.2.2.2.1, o.2.2.2.2.2.2.2.2.2.2.2.2.2.2.2.2.2.2.2.2.2.2.2.2.2.2.2.2.2.2.2.2.2.2.2.1, o.2.2.2.2.2.2.2.2.2.2.2.2.2.2.2.2.2.2.2.2.2.2.2.2.2.2.2.2.2.2.2.2.2.2.2.2.1, o.2.2.2.2.2.2.2.2.2.2.2.2.2.2.2.2.2.2.2.2.2.2.2.2.2.2.2.2.2.2.2.2.2.2.2.2.2.1, o.2.2.2.2.2.2.2.2.2.2.2.2.2.2.2.2.2.2.2.2.2.2.2.2.2.2.2.2.2.2.2.2.2.2.2.2.2.2.1, o.2.2.2.2.2.2.2.2.2.2.2.2.2.2.2.2.2.2.2.2.2.2.2.2.2.2.2.2.2.2.2.2.2.2.2.2.2.2.2.1, o.2.2.2.2.2.2.2.2.2.2.2.2.2.2.2.2.2.2.2.2.2.2.2.2.2.2.2.2.2.2.2.2.2.2.2.2.2.2.2.2.1, o.2.2.2.2.2.2.2.2.2.2.2.2.2.2.2.2.2.2.2.2.2.2.2.2.2.2.2.2.2.2.2.2.2.2.2.2.2.2.2.2.2.1, o.2.2.2.2.2.2.2.2.2.2.2.2.2.2.2.2.2.2.2.2.2.2.2.2.2.2.2.2.2.2.2.2.2.2.2.2.2.2.2.2.2.2.1, o.2.2.2.2.2.2.2.2.2.2.2.2.2.2.2.2.2.2.2.2.2.2.2.2.2.2.2.2.2.2.2.2.2.2.2.2.2.2.2.2.2.2.2.1, o.2.2.2.2.2.2.2.2.2.2.2.2.2.2.2.2.2.2.2.2.2.2.2.2.2.2.2.2.2.2.2.2.2.2.2.2.2.2.2.2.2.2.2.2.1, o.2.2.2.2.2.2.2.2.2.2.2.2.2.2.2.2.2.2.2.2.2.2.2.2.2.2.2.2.2.2.2.2.2.2.2.2.2.2.2.2.2.2.2.2.2.1, o.2.2.2.2.2.2.2.2.2.2.2.2.2.2.2.2.2.2.2.2.2.2.2.2.2.2.2.2.2.2.2.2.2.2.2.2.2.2.2.2.2.2.2.2.2.2.1, o.2.2.2.2.2.2.2.2.2.2.2.2.2.2.2.2.2.2.2.2.2.2.2.2.2.2.2.2.2.2.2.2.2.2.2.2.2.2.2.2.2.2.2.2.2.2.2)
def s_tableSpanPerCase (o : Ob) (v : Int32) : Ob := (o.1, o.2.1, o.2.2.1, o.2.2.2.1, o.2.2.2.2.1, o.2.2.2.2.2.1, o.2.2.2.2.2.2.1, o.2.2.2.2.2.2.2.1, v, o.2.2.2.2.2.2.2.2.2.1, o.2.2.2.2.2.2.2.2.2.2.1, o.2.2.2.2.2.2.2.2.2.2.2.1, o.2.2.2.2.2.2.2.2.2.2.2.2.1, o.2.2.2.2.2.2.2.2.2.2.2.2.2.1, o.2.2.2.2.2.2.2.2.2.2.2.2.2.2.1, o.2.2.2.2.2.2.2.2.2.2.2.2.2.2.2.1, o.2.2.2.2.2.2.2.2.2.2.2.2.2.2.2.2.1, o.2.2.2.2.2.2.2.2.2.2.2.2.2.2.2.2.2.1, o.2.2.2.2.2.2.2.2.2.2.2.2.2.2.2.2.2.2.1, o.2.2.2.2.2.2.2.2.2.2.2.2.2.2.2.2.2.2.2.1, o.2.2.2.2.2.2.2.2.2.2.2.2.2.2.2.2.2.2.2.2.1, o.2.2.2.2.2.2.2.2.2.2.2.2.2.2.2.2.2.2.2.2.2.1, o.2.2.2.2.2.2.2.2.2.2.2.2.2.2.2.2.2.2.2.2.2.2.1, o.2.2.2.2.2.2.2.2.2.2.2.2.2.2.2.2.2.2.2.2.2.2.2.1, o.2.2.2.2.2.2.2.2.2.2.2.2.2.2.2.2.2.2.2.2.2.2.2.2.1, o.2.2.2.2.2.2.2.2.2.2.2.2.2.2.2.2.2.2.2.2.2.2.2.2.2.1, o.2.2.2.2.2.2.2.2.2.2.2.2.2.2.2.2.2.2.2.2.2.2.2.2.2.2.1, o.2.2.2.2.2.2.2.2.2.2.2.2.2.2.2.2.2.2.2.2.2.2.2.2.2.2.2.1, o.2.2.2.2.2.2.2.2.2.2.2.2.2.2.2.2.2.2.2.2.2.2.2.2.2.2.2.2.1, o.2.2.2.2.2.2.2.2.2.2.2.2.2.2.2.2.2.2.2.2.2.2.2.2.2.2.2.2.2.1, o.2.2.2.2.2.2.2.2.2.2.2.2.2.2.2.2.2.2.2.2.2.2.2.2.2.2.2.2.2.2.1, o.2.2.2.2.2.2.2.2.2.2.2.2.2.2.2.2.2.2.2.2.2.2.2.2.2.2.2.2.2.2.2.1, o.2.2.2.2.2.2.2.2.2.2.2.2.2.2.2.2.2.2.2.2.2.2.2.2.2.2.2.2.2.2.2.2.1, o.2.2.2.2.2.2.2.2.2.2.2.2.2.2.2.2.2.2.2.2.2.2.2.2.2.2.2.2.2.2.2.2.2.1, o.2.2.2.2.2.2.2.2.2.2.2.2.2.2.2.2.2.2.2.2.2.2.2.2.2.2.2.2.2.2.2.2.2.2.1, o.2.2.2.2.2.2.2.2.2.2.2.2.2.2.2.2.2.2.2.2.2.2.2.2.2.2.2.2.2.2.2.2.2.2.2.1, o.2.2.2.2.2.2.2.2.2.2.2.2.2.2.2.2.2.2.2.2.2.2.2.2.2.2.2.2.2.2.2.2.2.2.2.2.1, o.2.2.2.2.2.2.2.2.2.2.2.2.2.2.2.2.2.2.2.2.2.2.2.2.2.2.2.2.2.2.2.2.2.2.2.2.2.1, o.2.2.2.2.2.2.2.2.2.2.2.2.2.2.2.2.2.2.2.2.2.2.2.2.2.2.2.2.2.2.2.2.2.2.2.2.2.2.1, o.2.2.2.2.2.2.2.2.2.2.2.2.2.2.2.2.2.2.2.2.2.2.2.2.2.2.2.2.2.2.2.2.2.2.2.2.2.2.2.1, o.2.2.2.2.2.2.2.2.2.2.2.2.2.2.2.2.2.2.2.2.2.2.2.2.2.2.2.2.2.2.2.2.2.2.2.2.2.2.2.2.1, o.2.2.2.2.2.2.2.2.2.2.2.2.2.2.2.2.2.2.2.2.2.2.2.2.2.2.2.2.2.2.2.2.2.2.2.2.2.2.2.2.2.1, o.2.2.2.2.2.2.2.2.2.2.2.2.2.2.2.2.2.2.2.2.2.2.2.2.2.2.2.2.2.2.2.2.2.2.2.2.2.2.2.2.2.2.1, o.2.2.2.2.2.2.2.2.2.2.2.2.2.2.2.2.2.2.2.2.2.2.2.2.2.2.2.2.2.2.2.2.2.2.2.2.2.2.2.2.2.2.2.1, o.2.2.2.2.2.2.2.2.2.2.2.2.2.2.2.2.2.2.2.2.2.2.2.2.2.2.2.2.2.2.2.2.2.2.2.2.2.2.2.2.2.2.2.2.1, o.2.2.2.2.2.2.2.2.2.2.2.2.2.2.2.2.2.2.2.2.2.2.2.2.2.2.2.2.2.2.2.2.2.2.2.2.2.2.2.2.2.2.2.2.2.1, o.2.2.2.2.2.2.2.2.2.2.2.2.2.2.2.2.2.2.2.2.2.2.2.2.2.2.2.2.2.2.2.2.2.2.2.2.2.2.2.2.2.2.2.2.2.2.1, o.2.2.2.2.2.2.2.2.2.2.2.2.2.2.2.2.2.2.2.2.2.2.2.2.2.2.2.2.2.2.2.2.2.2.2.2.2.2.2.2.2.2.2.2.2.2.2)
def s_maxTableSpan (o : Ob) (v : Int32) : Ob := (o.1, o.2.1, o.2.2.1, o.2.2.2.1, o.2.2.2.2.1, o.2.2.2.2.2.1, o.2.2.2.2.2.2.1, o.2.2.2.2.2.2.2.1, o.2.2.2.2.2.2.2.2.1, v, o.2.2.2.2.2.2.2.2.2.2.1, o.2.2.2.2.2.2.2.2.2.2.2.1, o.2.2.2.2.2.2.2.2.2.2.2.2.1, o.2.2.2.2.2.2.2.2.2.2.2.2.2.1, o.2.2.2.2.2.2.2.2.2.2.2.2.2.2.1, o.2.2.2.2.2.2.2.2.2.2.2.2.2.2.2.1, o.2.2.2.2.2.2.2.2.2.2.2.2.2.2.2.2.1, o.2.2.2.2.2.2.2.2.2.2.2.2.2.2.2.2.2.1, o.2.2.2.2.2.2.2.2.2.2.2.2.2.2.2.2.2.2.1, o.2.2.2.2.2.2.2.2.2.2.2.2.2.2.2.2.2.2.2.1, o.2.2.2.2.2.2.2.2.2.2.2.2.2.2.2.2.2.2.2.2.1, o.2.2.2.2.2.2.2.2.2.2.2.2.2.2.2.2.2.2.2.2.2.1, o.2.2.2.2.2.2.2.2.2.2.2.2.2.2.2.2.2.2.2.2.2.2.1, o.2.2.2.2.2.2.2.2.2.2.2.2.2.2.2.2.2.2.2.2.2.2.2.1, o.2.2.2.2.2.2.2.2.2.2.2.2.2.2.2.2.2.2.2.2.2.2.2.2.1, o.2.2.2.2.2.2.2.2.2.2.2.2.2.2.2.2.2.2.2.2.2.2.2.2.2.1, o.2.2.2.2.2.2.2.2.2.2.2.2.2.2.2.2.2.2.2.2.2.2.2.2.2.2.1, o.2.2.2.2.2.2.2.2.2.2.2.2.2.2.2.2.2.2.2.2.2.2.2.2.2.2.2.1, o.2.2.2.2.2.2.2.2.2.2.2.2.2.2.2.2.2.2.2.2.2.2.2.2.2.2.2.2.1, o.2.2.2.2.2.2.2.2.2.2.2.2.2.2.2.2.2.2.2.2.2.2.2.2.2.2.2.2.2.1, o.2.2.2.2.2.2.2.2.2.2.2.2.2.2.2.2.2.2.2.2.2.2.2.2.2.2.2.2.2.2.1, o.2.2.2.2.2.2.2.2.2.2.2.2.2.2.2.2.2.2.2.2.2.2.2.2.2.2.2.2.2.2.2.1, o.2.2.2.2.2.2.2.2.2.2.2.2.2.2.2.2.2.2.2.2.2.2.2.2.2.2.2.2.2.2.2.2.1, o.2.2.2.2.2.2.2.2.2.2.2.2.2.2.2.2.2.2.2.2.2.2.2.2.2.2.2.2.2.2.2.2.2.1, o.2.2.2.2.2.2.2.2.2.2.2.2.2.2.2.2.2.2.2.2.2.2.2.2.2.2.2.2.2.2.2.2.2.2.1, o.2.2.2.2.2.2.2.2.2.2.2.2.2.2.2.2.2.2.2.2.2.2.2.2.2.2.2.2.2.2.2.2.2.2.2.1, o.2.2.2.2.2.2.2.2.2.2.2.2.2.2.2.2.2.2.2.2.2.2.2.2.2.2.2.2.2.2.2.2.2.2.2.2.1, o.2.2.2.2.2.2.2.2.2.2.2.2.2.2.2.2.2.2.2.2.2.2.2.2.2.2.2.2.2.2.2.2.2.2.2.2.2.1, o.2.2.2.2.2.2.2.2.2.2.2.2.2.2.2.2.2.2.2.2.2.2.2.2.2.2.2.2.2.2.2.2.2.2.2.2.2.2.1, o.2.2.2.2.2.2.2.2.2.2.2.2.2.2.2.2.2.2.2.2.2.2.2.2.2.2.2.2.2.2.2.2.2.2.2.2.2.2.2.1, o.2.2.2.2.2.2.2.2.2.2.2.2.2.2.2.2.2.2.2.2.2.2.2.2.2.2.2.2.2.2.2.2.2.2.2.2.2.2.2.2.1, o.2.2.2.2.2.2.2.2.2.2.2.2.2.2.2.2.2.2.2.2.2.2.2.2.2.2.2.2.2.2.2.2.2.2.2.2.2.2.2.2.2.1, o.2.2.2.2.2.2.2.2.2.2.2.2.2.2.2.2.2.2.2.2.2.2.2.2.2.2.2.2.2.2.2.2.2.2.2.2.2.2.2.2.2.2.1, o.2.2.2.2.2.2.2.2.2.2.2.2.2.2.2.2.2.2.2.2.2.2.2.2.2.2.2.2.2.2.2.2.2.2.2.2.2.2.2.2.2.2.2.1, o.2.2.2.2.2.2.2.2.2.2.2.2.2.2.2.2.2.2.2.2.2.2.2.2.2.2.2.2.2.2.2.2.2.2.2.2.2.2.2.2.2.2.2.2.1, o.2.2.2.2.2.2.2.2.2.2.2.2.2.2.2.2.2.2.2.2.2.2.2.2.2.2.2.2.2.2.2.2.2.2.2.2.2.2.2.2.2.2.2.2.2.1, o.2.2.2.2.2.2.2.2.2.2.2.2.2.2.2.2.2.2.2.2.2.2.2.2.2.2.2.2.2.2.2.2.2.2.2.2.2.2.2.2.2.2.2.2.2.2.1, o.2.2.2.2.2.2.2.2.2.2.2.2.2.2.2.2.2.2.2.2.2.2.2.2.2.2.2.2.2.2.2.2.2.2.2.2.2.2.2.2.2.2.2.2.2.2.2)
def s_maxBitSpan (o : Ob) (v : Int32) : Ob := (o.1, o.2.1, o.2.2.1, o.2.2.2.1, o.2.2.2.2.1, o.2.2.2.2.2.1, o.2.2.2.2.2.2.1, o.2.2.2.2.2.2.2.1, o.2.2.2.2.2.2.2.2.1, o.2.2.2.2.2.2.2.2.2.1, v, o.2.2.2.2.2.2.2.2.2.2.2.1, o.2.2.2.2.2.2.2.2.2.2.2.2.1, o.2.2.2.2.2.2.2.2.2.2.2.2.2.1, o.2.2.2.2.2.2.2.2.2.2.2.2.2.2.1, o.2.2.2.2.2.2.2.2.2.2.2.2.2.2.2.1, o.2.2.2.2.2.2.2.2.2.2.2.2.2.2.2.2.1, o.2.2.2.2.2.2.2.2.2.2.2.2.2.2.2.2.2.1, o.2.2.2.2.2.2.2.2.2.2.2.2.2.2.2.2.2.2.1, o.2.2.2.2.2.2.2.2.2.2.2.2.2.2.2.2.2.2.2.1, o.2.2.2.2.2.2.2.2.2.2.2.2.2.2.2.2.2.2.2.2.1, o.2.2.2.2.2.2.2.2.2.2.2.2.2.2.2.2.2.2.2.2.2.1, o.2.2.2.2.2.2.2.2.2.2.2.2.2.2.2.2.2.2.2.2.2.2.1, o.2.2.2.2.2.2.2.2.2.2.2.2.2.2.2.2.2.2.2.2.2.2.2.1, o.2.2.2.2.2.2.2.2.2.2.2.2.2.2.2.2.2.2.2.2.2.2.2.2.1, o.2.2.2.2.2.2.2.2.2.2.2.2.2.2.2.2.2.2.2.2.2.2.2.2.2.1, o.2.2.2.2.2.2.2.2.2.2.2.2.2.2.2.2.2.2.2.2.2.2.2.2.2.2.1, o.2.2.2.2.2.2.2.2.2.2.2.2.2.2.2.2.2.2.2.2.2.2.2.2.2.2.2.1, o.2.2.2.2.2.2.2.2.2.2.2.2.2.2.2.2.2.2.2.2.2.2.2.2.2.2.2.2.1, o.2.2.2.2.2.2.2.2.2.2.2.2.2.2.2.2.2.2.2.2.2.2.2.2.2.2.2.2.2.1, o.2.2.2.2.2.2.2.2.2.2.2.2.2.2.2.2.2.2.2.2.2.2.2.2.2.2.2.2.2.2.1, o.2.2.2.2.2.2.2.2.2.2.2.2.2.2.2.2.2.2.2.2.2.2.2.2.2.2.2.2.2.2.2.1, o.2.2.2.2.2.2.2.2.2.2.2.2.2.2.2.2.2.2.2.2.2.2.2.2.2.2.2.2.2.2.2.2.1, o.2.2.2.2.2.2.2.2.2.2.2.2.2.2.2.2.2.2.2.2.2.2.2.2.2.2.2.2.2.2.2.2.2.1, o.2.2.2.2.2.2.2.2.2.2.2.2.2.2.2.2.2.2.2.2.2.2.2.2.2.2.2.2.2.2.2.2.2.2.1, o.2.2.2.2.2.2.2.2.2.2.2.2.2.2.2.2.2.2.2.2.2.2.2.2.2.2.2.2.2.2.2.2.2.2.2.1, o.2.2.2.2.2.2.2.2.2.2.2.2.2.2.2.2.2.2.2.2.2.2.2.2.2.2.2.2.2.2.2.2.2.2.2.2.1, o.2.2.2.2.2.2.2.2.2.2.2.2.2.2.2.2.2.2.2.2.2.2.2.2.2.2.2.2.2.2.2.2.2.2.2.2.2.1, o.2.2.2.2.2.2.2.2.2.2.2.2.2.2.2.2.2.2.2.2.2.2.2.2.2.2.2.2.2.2.2.2.2.2.2.2.2.2.1, o.2.2.2.2.2.2.2.2.2.2.2.2.2.2.2.2.2.2.2.2.2.2.2.2.2.2.2.2.2.2.2.2.2.2.2.2.2.2.2.1, o.2.2.2.2.2.2.2.2.2.2.2.2.2.2.2.2.2.2.2.2.2.2.2.2.2.2.2.2.2.2.2.2.2.2.2.2.2.2.2.2.1, o.2.2.2.2.2.2.2.2.2.2.2.2.2.2.2.2.2.2.2.2.2.2.2.2.2.2.2.2.2.2.2.2.2.2.2.2.2.2.2.2.2.1, o.2.2.2.2.2.2.2.2.2.2.2.2.2.2.2.2.2.2.2.2.2.2.2.2.2.2.2.2.2.2.2.2.2.2.2.2.2.2.2.2.2.2.1, o.2.2.2.2.2.2.2.2.2.2.2.2.2.2.2.2.2.2.2.2.2.2.2.2.2.2.2.2.2.2.2.2.2.2.2.2.2.2.2.2.2.2.2.1, o.2.2.2.2.2.2.2.2.2.2.2.2.2.2.2.2.2.2.2.2.2.2.2.2.2.2.2.2.2.2.2.2.2.2.2.2.2.2.2.2.2.2.2.2.1, o.2.2.2.2.2.2.2.2.2.2.2.2.2.2.2.2.2.2.2.2.2.2.2.2.2.2.2.2.2.2.2.2.2.2.2.2.2.2.2.2.2.2.2.2.2.1, o.2.2.2.2.2.2.2.2.2.2.2.2.2.2.2.2.2.2.2.2.2.2.2.2.2.2.2.2.2.2.2.2.2.2.2.2.2.2.2.2.2.2.2.2.2.2.1, o.2.2.2.2.2.2.2.2.2.2.2.2.2.2.2.2.2.2.2.2.2.2.2.2.2.2.2.2.2.2.2.2.2.2.2.2.2.2.2.2.2.2.2.2.2.2.2)
def s_maxBitTargets (o : Ob) (v : Int32) : Ob := (o.1, o.2.1, o.2.2.1, o.2.2.2.1, o.2.2.2.2.1, o.2.2.2.2.2.1, o.2.2.2.2.2.2.1, o.2.2.2.2.2.2.2.1, o.2.2.2.2.2.2.2.2.1, o.2.2.2.2.2.2.2.2.2.1, o.2.2.2.2.2.2.2.2.2.2.1, v, o.2.2.2.2.2.2.2.2.2.2.2.2.1, o.2.2.2.2.2.2.2.2.2.2.2.2.2.1, o.2.2.2.2.2.2.2.2.2.2.2.2.2.2.1, o.2.2.2.2.2.2.2.2.2.2.2.2.2.2.2.1, o.2.2.2.2.2.2.2.2.2.2.2.2.2.2.2.2.1, o.2.2.2.2.2.2.2.2.2.2.2.2.2.2.2.2.2.1, o.2.2.2.2.2.2.2.2.2.2.2.2.2.2.2.2.2.2.1, o.2.2.2.2.2.2.2.2.2.2.2.2.2.2.2.2.2.2.2.1, o.2.2.2.2.2.2.2.2.2.2.2.2.2.2.2.2.2.2.2.2.1, o.2.2.2.2.2.2.2.2.2.2.2.2.2.2.2.2.2.2.2.2.2.1, o.2.2.2.2.2.2.2.2.2.2.2.2.2.2.2.2.2.2.2.2.2.2.1, o.2.2.2.2.2.2.2.2.2.2.2.2.2.2.2.2.2.2.2.2.2.2.2.1, o.2.2.2.2.2.2.2.2.2.2.2.2.2.2.2.2.2.2.2.2.2.2.2.2.1, o.2.2.2.2.2.2.2.2.2.2.2.2.2.2.2.2.2.2.2.2.2.2.2.2.2.1, o.2.2.2.2.2.2.2.2.2.2.2.2.2.2.2.2.2.2.2.2.2.2.2.2.2.2.1, o.2.2.2.2.2.2.2.2.2.2.2.2.2.2.2.2.2.2.2.2.2.2.2.2.2.2.2.1, o.2.2.2.2.2.2.2.2.2.2.2.2.2.2.2.2.2.2.2.2.2.2.2.2.2.2.2.2.1, o.2.2.2.2.2.2.2.2.2.2.2.2.2.2.2.2.2.2.2.2.2.2.2.2.2.2.2.2.2.1, o.2.2.2.2.2.2.2.2.2.2.2.2.2.2.2.2.2.2.2.2.2.2.2.2.2.2.2.2.2.2.1, o.2.2.2.2.2.2.2.2.2.2.2.2.2.2.2.2.2.2.2.2.2.2.2.2.2.2.2.2.2.2.2.1, o.2.2.2.2.2.2.2.2.2.2.2.2.2.2.2.2.2.2.2.2.2.2.2.2.2.2.2.2.2.2.2.2.1, o.2.2.2.2.2.2.2.2.2.2.2.2.2.2.2.2.2.2.2.2.2.2.2.2.2.2.2.2.2.2.2.2.2.1, o.2.2.2.2.2.2.2.2.2.2.2.2.2.2.2.2.2.2.2.2.2.2.2.2.2.2.2.2.2.2.2.2.2.2.1, o.2.2.2.2.2.2.2.2.2.2.2.2.2.2.2.2.2.2.2.2.2.2.2.2.2.2.2.2.2.2.2.2.2.2.2.1, o.2.2.2.2.2.2.2.2.2.2.2.2.2.2.2.2.2.2.2.2.2.2.2.2.2.2.2.2.2.2.2.2.2.2.2.2.1, o.2.2.2.2.2.2.2.2.2.2.2.2.2.2.2.2.2.2.2.2.2.2.2.2.2.2.2.2.2.2.2.2.2.2.2.2.2.1, o.2.2.2.2.2.2.2.2.2.2.2.2.2.2.2.2.2.2.2.2.2.2.2.2.2.2.2.2.2.2.2.2.2.2.2.2.2.2.1, o.2.2.2.2.2.2.2.2.2.2.2.2.2.2.2.2.2.2.2.2.2.2.2.2.2.2.2.2.2.2.2.2.2.2.2.2.2.2.2.1, o.2.2.2.2.2.2.2.2.2.2.2.2.2.2.2.2.2.2.2.2.2.2.2.2.2.2.2.2.2.2.2.2.2.2.2.2.2.2.2.2.1, o.2.2.2.2.2.2.2.2.2.2.2.2.2.2.2.2.2.2.2.2.2.2.2.2.2.2.2.2.2.2.2.2.2.2.2.2.2.2.2.2.2.1, o.2.2.2.2.2.2.2.2.2.2.2.2.2.2.2.2.2.2.2.2.2.2.2.2.2.2.2.2.2.2.2.2.2.2.2.2.2.2.2.2.2.2.1, o.2.2.2.2.2.2.2.2.2.2.2.2.2.2.2.2.2.2.2.2.2.2.2.2.2.2.2.2.2.2.2.2.2.2.2.2.2.2.2.2.2.2.2.1, o.2.2.2.2.2.2.2.2.2.2.2.2.2.2.2.2.2.2.2.2.2.2.2.2.2.2.2.2.2.2.2.2.2.2.2.2.2.2.2.2.2.2.2.2.1, o.2.2.2.2.2.2.2.2.2.2.2.2.2.2.2.2.2.2.2.2.2.2.2.2.2.2.2.2.2.2.2.2.2.2.2.2.2.2.2.2.2.2.2.2.2.1, o.2.2.2.2.2.2.2.2.2.2.2.2.2.2.2.2.2.2.2.2.2.2.2.2.2.2.2.2.2.2.2.2.2.2.2.2.2.2.2.2.2.2.2.2.2.2.1, o.2.2.2.2.2.2.2.2.2.2.2.2.2.2.2.2.2.2.2.2.2.2.2.2.2.2.2.2.2.2.2.2.2.2.2.2.2.2.2.2.2.2.2.2.2.2.2)
def s_unsignedMask (o : Ob) (v : Int64) : Ob := (o.1, o.2.1, o.2.2.1, o.2.2.2.1, o.2.2.2.2.1, o.2.2.2.2.2.1, o.2.2.2.2.2.2.1, o.2.2.2.2.2.2.2.1, o.2.2.2.2.2.2.2.2.1, o.2.2.2.2.2.2.2.2.2.1, o.2.2.2.2.2.2.2.2.2.2.1, o.2.2.2.2.2.2.2.2.2.2.2.1, v, o.2.2.2.2.2.2.2.2.2.2.2.2.2.1, o.2.2.2.2.2.2.2.2.2.2.2.2.2.2.1, o.2.2.2.2.2.2.2.2.2.2.2.2.2.2.2.1, o.2.2.2.2.2.2.2.2.2.2.2.2.2.2.2.2.1, o.2.2.2.2.2.2.2.2.2.2.2.2.2.2.2.2.2.1, o.2.2.2.2.2.2.2.2.2.2.2.2.2.2.2.2.2.2.1, o.2.2.2.2.2.2.2.2.2.2.2.2.2.2.2.2.2.2.2.1, o.2.2.2.2.2.2.2.2.2.2.2.2.2.2.2.2.2.2.2.2.1, o.2.2.2.2.2.2.2.2.2.2.2.2.2.2.2.2.2.2.2.2.2.1, o.2.2.2.2.2.2.2.2.2.2.2.2.2.2.2.2.2.2.2.2.2.2.1, o.2.2.2.2.2.2.2.2.2.2.2.2.2.2.2.2.2.2.2.2.2.2.2.1, o.2.2.2.2.2.2.2.2.2.2.2.2.2.2.2.2.2.2.2.2.2.2.2.2.1, o.2.2.2.2.2.2.2.2.2.2.2.2.2.2.2.2.2.2.2.2.2.2.2.2.2.1, o.2.2.2.2.2.2.2.2.2.2.2.2.2.2.2.2.2.2.2.2.2.2.2.2.2.2.1, o.2.2.2.2.2.2.2.2.2.2.2.2.2.2.2.2.2.2.2.2.2.2.2.2.2.2.2.1, o.2.2.2.2.2.2.2.2.2.2.2.2.2.2.2.2.2.2.2.2.2.2.2.2.2.2.2.2.1, o.2.2.2.2.2.2.2.2.2.2.2.2.2.2.2.2.2.2.2.2.2.2.2.2.2.2.2.2.2.1, o.2.2.2.2.2.2.2.2.2.2.2.2.2.2.2.2.2.2.2.2.2.2.2.2.2.2.2.2.2.2.1, o.2.2.2.2.2.2.2.2.2.2.2.2.2.2.2.2.2.2.2.2.2.2.2.2.2.2.2.2.2.2.2.1, o.2.2.2.2.2.2.2.2.2.2.2.2.2.2.2.2.2.2.2.2.2.2.2.2.2.2.2.2.2.2.2.2.1, o.2.2.2.2.2.2.2.2.2.2.2.2.2.2.2.2.2.2.2.2.2.2.2.2.2.2.2.2.2.2.2.2.2.1, o.2.2.2.2.2.2.2.2.2.2.2.2.2.2.2.2.2.2.2.2.2.2.2.2.2.2.2.2.2.2.2.2.2.2.1, o.2.2.2.2.2.2.2.2.2.2.2.2.2.2.2.2.2.2.2.2.2.2.2.2.2.2.2.2.2.2.2.2.2.2.2.1, o.2.2.2.2.2.2.2.2.2.2.2.2.2.2.2.2.2.2.2.2.2.2.2.2.2.2.2.2.2.2.2.2.2.2.2.2.1, o.2.2.2.2.2.2.2.2.2.2.2.2.2.2.2.2.2.2.2.2.2.2.2.2.2.2.2.2.2.2.2.2.2.2.2.2.2.1, o.2.2.2.2.2.2.2.2.2.2.2.2.2.2.2.2.2.2.2.2.2.2.2.2.2.2.2.2.2.2.2.2.2.2.2.2.2.2.1, o.2.2.2.2.2.2.2.2.2.2.2.2.2.2.2.2.2.2.2.2.2.2.2.2.2.2.2.2.2.2.2.2.2.2.2.2.2.2.2.1, o.2.2.2.2.2.2.2.2.2.2.2.2.2.2.2.2.2.2.2.2.2.2.2.2.2.2.2.2.2.2.2.2.2.2.2.2.2.2.2.2.1, o.2.2.2.2.2.2.2.2.2.2.2.2.2.2.2.2.2.2.2.2.2.2.2.2.2.2.2.2.2.2.2.2.2.2.2.2.2.2.2.2.2.1, o.2.2.2.2.2.2.2.2.2.2.2.2.2.2.2.2.2.2.2.2.2.2.2.2.2.2.2.2.2.2.2.2.2.2.2.2.2.2.2.2.2.2.1, o.2.2.2.2.2.2.2.2.2.2.2.2.2.2.2.2.2.2.2.2.2.2.2.2.2.2.2.2.2.2.2.2.2.2.2.2.2.2.2.2.2.2.2.1, o.2.2.2.2.2.2.2.2.2.2.2.2.2.2.2.2.2.2.2.2.2.2.2.2.2.2.2.2.2.2.2.2.2.2.2.2.2.2.2.2.2.2.2.2.1, o.2.2.2.2.2.2.2.2.2.2.2.2.2.2.2.2.2.2.2.2.2.2.2.2.2.2.2.2.2.2.2.2.2.2.2.2.2.2.2.2.2.2.2.2.2.1, o.2.2.2.2.2.2.2.2.2.2.2.2.2.2.2.2.2.2.2.2.2.2.2.2.2.2.2.2.2.2.2.2.2.2.2.2.2.2.2.2.2.2.2.2.2.2.1, o.2.2.2.2.2.2.2.2.2.2.2.2.2.2.2.2.2.2.2.2.2.2.2.2.2.2.2.2.2.2.2.2.2.2.2.2.2.2.2.2.2.2.2.2.2.2.2)
def s_maxInt (o : Ob) (v : Int32) : Ob := (o.1, o.2.1, o.2.2.1, o.2.2.2.1, o.2.2.2.2.1, o.2.2.2.2.2.1, o.2.2.2.2.2.2.1, o.2.2.2.2.2.2.2.1, o.2.2.2.2.2.2.2.2.1, o.2.2.2.2.2.2.2.2.2.1, o.2.2.2.2.2.2.2.2.2.2.1, o.2.2.2.2.2.2.2.2.2.2.2.1, o.2.2.2.2.2.2.2.2.2.2.2.2.1, v, o.2.2.2.2.2.2.2.2.2.2.2.2.2.2.1, o.2.2.2.2.2.2.2.2.2.2.2.2.2.2.2.1, o.2.2.2.2.2.2.2.2.2.2.2.2.2.2.2.2.1, o.2.2.2.2.2.2.2.2.2.2.2.2.2.2.2.2.2.1, o.2.2.2.2.2.2.2.2.2.2.2.2.2.2.2.2.2.2.1, o.2.2.2.2.2.2.2.2.2.2.2.2.2.2.2.2.2.2.2.1, o.2.2.2.2.2.2.2.2.2.2.2.2.2.2.2.2.2.2.2.2.1, o.2.2.2.2.2.2.2.2.2.2.2.2.2.2.2.2.2.2.2.2.2.1, o.2.2.2.2.2.2.2.2.2.2.2.2.2.2.2.2.2.2.2.2.2.2.1, o.2.2.2.2.2.2.2.2.2.2.2.2.2.2.2.2.2.2.2.2.2.2.2.1, o.2.2.2.2.2.2.2.2.2.2.2.2.2.2.2.2.2.2.2.2.2.2.2.2.1, o.2.2.2.2.2.2.2.2.2.2.2.2.2.2.2.2.2.2.2.2.2.2.2.2.2.1, o.2.2.2.2.2.2.2.2.2.2.2.2.2.2.2.2.2.2.2.2.2.2.2.2.2.2.1, o.2.2.2.2.2.2.2.2.2.2.2.2.2.2.2.2.2.2.2.2.2.2.2.2.2.2.2.1, o.2.2.2.2.2.2.2.2.2.2.2.2.2.2.2.2.2.2.2.2.2.2.2.2.2.2.2.2.1, o.2.2.2.2.2.2.2.2.2.2.2.2.2.2.2.2.2.2.2.2.2.2.2.2.2.2.2.2.2.1, o.2.2.2.2.2.2.2.2.2.2.2.2.2.2.2.2.2.2.2.2.2.2.2.2.2.2.2.2.2.2.1, o.2.2.2.2.2.2.2.2.2.2.2.2.2.2.2.2.2.2.2.2.2.2.2.2.2.2.2.2.2.2.2.1, o.2.2.2.2.2.2.2.2.2.2.2.2.2.2.2.2.2.2.2.2.2.2.2.2.2.2.2.2.2.2.2.2.1, o.2.2.2.2.2.2.2.2.2.2.2.2.2.2.2.2.2.2.2.2.2.2.2.2.2.2.2.2.2.2.2.2.2.1, o.2.2.2.2.2.2.2.2.2.2.2.2.2.2.2.2.2.2.2.2.2.2.2.2.2.2.2.2.2.2.2.2.2.2.1, o.2.2.2.2.2.2.2.2.2.2.2.2.2.2.2.2.2.2.2.2.2.2.2.2.2.2.2.2.2.2.2.2.2.2.2.1, o.2.2.2.2.2.2.2.2.2.2.2.2.2.2.2.2.2.2.2.2.2.2.2.2.2.2.2.2.2.2.2.2.2.2.2.2.1, o.2.2.2.2.2.2.2.2.2.2.2.2.2.2.2.2.2.2.2.2.2.2.2.2.2.2.2.2.2.2.2.2.2.2.2.2.2.1, o.2.2.2.2.2.2.2.2.2.2.2.2.2.2.2.2.2.2.2.2.2.2.2.2.2.2.2.2.2.2.2.2.2.2.2.2.2.2.1, o.2.2.2.2.2.2.2.2.2.2.2.2.2.2.2.2.2.2.2.2.2.2.2.2.2.2.2.2.2.2.2.2.2.2.2.2.2.2.2.1, o.2.2.2.2.2.2.2.2.2.2.2.2.2.2.2.2.2.2.2.2.2.2.2.2.2.2.2.2.2.2.2.2.2.2.2.2.2.2.2.2.1, o.2.2.2.2.2.2.2.2.2.2.2.2.2.2.2.2.2.2.2.2.2.2.2.2.2.2.2.2.2.2.2.2.2.2.2.2.2.2.2.2.2.1, o.2.2.2.2.2.2.2.2.2.2.2.2.2.2.2.2.2.2.2.2.2.2.2.2.2.2.2.2.2.2.2.2.2.2.2.2.2.2.2.2.2.2.1, o.2.2.2.2.2.2.2.2.2.2.2.2.2.2.2.2.2.2.2.2.2.2.2.2.2.2.2.2.2.2.2.2.2.2.2.2.2.2.2.2.2.2.2.1, o.2.2.2.2.2.2.2.2.2.2.2.2.2.2.2.2.2.2.2.2.2.2.2.2.2.2.2.2.2.2.2.2.2.2.2.2.2.2.2.2.2.2.2.2.1, o.2.2.2.2.2.2.2.2.2.2.2.2.2.2.2.2.2.2.2.2.2.2.2.2.2.2.2.2.2.2.2.2.2.2.2.2.2.2.2.2.2.2.2.2.2.1, o.2.2.2.2.2.2.2.2.2.2.2.2.2.2.2.2.2.2.2.2.2.2.2.2.2.2.2.2.2.2.2.2.2.2.2.2.2.2.2.2.2.2.2.2.2.2.1, o.2.2.2.2.2.2.2.2.2.2.2.2.2.2.2.2.2.2.2.2.2.2.2.2.2.2.2.2.2.2.2.2.2.2.2.2.2.2.2.2.2.2.2.2.2.2.2)
def s_curVal (o : Ob) (v : List Int32) : Ob := (o.1, o.2.1, o.2.2.1, o.2.2.2.1, o.2.2.2.2.1, o.2.2.2.2.2.1, o.2.2.2.2.2.2.1, o.2.2.2.2.2.2.2.1, o.2.2.2.2.2.2.2.2.1, o.2.2.2.2.2.2.2.2.2.1, o.2.2.2.2.2.2.2.2.2.2.1, o.2.2.2.2.2.2.2.2.2.2.2.1, o.2.2.2.2.2.2.2.2.2.2.2.2.1, o.2.2.2.2.2.2.2.2.2.2.2.2.2.1, v, o.2.2.2.2.2.2.2.2.2.2.2.2.2.2.2.1, o.2.2.2.2.2.2.2.2.2.2.2.2.2.2.2.2.1, o.2.2.2.2.2.2.2.2.2.2.2.2.2.2.2.2.2.1, o.2.2.2.2.2.2.2.2.2.2.2.2.2.2.2.2.2.2.1, o.2.2.2.2.2.2.2.2.2.2.2.2.2.2.2.2.2.2.2.1, o.2.2.2.2.2.2.2.2.2.2.2.2.2.2.2.2.2.2.2.2.1, o.2.2.2.2.2.2.2.2.2.2.2.2.2.2.2.2.2.2.2.2.2.1, o.2.2.2.2.2.2.2.2.2.2.2.2.2.2.2.2.2.2.2.2.2.2.1, o.2.2.2.2.2.2.2.2.2.2.2.2.2.2.2.2.2.2.2.2.2.2.2.1, o.2.2.2.2.2.2.2.2.2.2.2.2.2.2.2.2.2.2.2.2.2.2.2.2.1, o.2.2.2.2.2.2.2.2.2.2.2.2.2.2.2.2.2.2.2.2.2.2.2.2.2.1, o.2.2.2.2.2.2.2.2.2.2.2.2.2.2.2.2.2.2.2.2.2.2.2.2.2.2.1, o.2.2.2.2.2.2.2.2.2.2.2.2.2.2.2.2.2.2.2.2.2.2.2.2.2.2.2.1, o.2.2.2.2.2.2.2.2.2.2.2.2.2.2.2.2.2.2.2.2.2.2.2.2.2.2.2.2.1, o.2.2.2.2.2.2.2.2.2.2.2.2.2.2.2.2.2.2.2.2.2.2.2.2.2.2.2.2.2.1, o.2.2.2.2.2.2.2.2.2.2.2.2.2.2.2.2.2.2.2.2.2.2.2.2.2.2.2.2.2.2.1, o.2.2.2.2.2.2.2.2.2.2.2.2.2.2.2.2.2.2.2.2.2.2.2.2.2.2.2.2.2.2.2.1, o.2.2.2.2.2.2.2.2.2.2.2.2.2.2.2.2.2.2.2.2.2.2.2.2.2.2.2.2.2.2.2.2.1, o.2.2.2.2.2.2.2.2.2.2.2.2.2.2.2.2.2.2.2.2.2.2.2.2.2.2.2.2.2.2.2.2.2.1, o.2.2.2.2.2.2.2.2.2.2.2.2.2.2.2.2.2.2.2.2.2.2.2.2.2.2.2.2.2.2.2.2.2.2.1, o.2.2.2.2.2.2.2.2.2.2.2.2.2.2.2.2.2.2.2.2.2.2.2.2.2.2.2.2.2.2.2.2.2.2.2.1, o.2.2.2.2.2.2.2.2.2.2.2.2.2.2.2.2.2.2.2.2.2.2.2.2.2.2.2.2.2.2.2.2.2.2.2.2.1, o.2.2.2.2.2.2.2.2.2.2.2.2.2.2.2.2.2.2.2.2.2.2.2.2.2.2.2.2.2.2.2.2.2.2.2.2.2.1, o.2.2.2.2.2.2.2.2.2.2.2.2.2.2.2.2.2.2.2.2.2.2.2.2.2.2.2.2.2.2.2.2.2.2.2.2.2.2.1, o.2.2.2.2.2.2.2.2.2.2.2.2.2.2.2.2.2.2.2.2.2.2.2.2.2.2.2.2.2.2.2.2.2.2.2.2.2.2.2.1, o.2.2.2.2.2.2.2.2.2.2.2.2.2.2.2.2.2.2.2.2.2.2.2.2.2.2.2.2.2.2.2.2.2.2.2.2.2.2.2.2.1, o.2.2.2.2.2.2.2.2.2.2.2.2.2.2.2.2.2.2.2.2.2.2.2.2.2.2.2.2.2.2.2.2.2.2.2.2.2.2.2.2.2.1, o.2.2.2.2.2.2.2.2.2.2.2.2.2.2.2.2.2.2.2.2.2.2.2.2.2.2.2.2.2.2.2.2.2.2.2.2.2.2.2.2.2.2.1, o.2.2.2.2.2.2.2.2.2.2.2.2.2.2.2.2.2.2.2.2.2.2.2.2.2.2.2.2.2.2.2.2.2.2.2.2.2.2.2.2.2.2.2.1, o.2.2.2.2.2.2.2.2.2.2.2.2.2.2.2.2.2.2.2.2.2.2.2.2.2.2.2.2.2.2.2.2.2.2.2.2.2.2.2.2.2.2.2.2.1, o.2.2.2.2.2.2.2.2.2.2.2.2.2.2.2.2.2.2.2.2.2.2.2.2.2.2.2.2.2.2.2.2.2.2.2.2.2.2.2.2.2.2.2.2.2.1, o.2.2.2.2.2.2.2.2.2.2.2.2.2.2.2.2.2.2.2.2.2.2.2.2.2.2.2.2.2.2.2.2.2.2.2.2.2.2.2.2.2.2.2.2.2.2.1, o.2.2.2.2.2.2.2.2.2.2.2.2.2.2.2.2.2.2.2.2.2.2.2.2.2.2.2.2.2.2.2.2.2.2.2.2.2.2.2.2.2.2.2.2.2.2.2)
def s_curTgt (o : Ob) (v : List Int32) : Ob := (o.1, o.2.1, o.2.2.1, o.2.2.2.1, o.2.2.2.2.1, o.2.2.2.2.2.1, o.2.2.2.2.2.2.1, o.2.2.2.2.2.2.2.1, o.2.2.2.2.2.2.2.2.1, o.2.2.2.2.2.2.2.2.2.1, o.2.2.2.2.2.2.2.2.2.2.1, o.2.2.2.2.2.2.2.2.2.2.2.1, o.2.2.2.2.2.2.2.2.2.2.2.2.1, o.2.2.2.2.2.2.2.2.2.2.2.2.2.1, o.2.2.2.2.2.2.2.2.2.2.2.2.2.2.1, v, o.2.2.2.2.2.2.2.2.2.2.2.2.2.2.2.2.1, o.2.2.2.2.2.2.2.2.2.2.2.2.2.2.2.2.2.1, o.2.2.2.2.2.2.2.2.2.2.2.2.2.2.2.2.2.2.1, o.2.2.2.2.2.2.2.2.2.2.2.2.2.2.2.2.2.2.2.1, o.2.2.2.2.2.2.2.2.2.2.2.2.2.2.2.2.2.2.2.2.1, o.2.2.2.2.2.2.2.2.2.2.2.2.2.2.2.2.2.2.2.2.2.1, o.2.2.2.2.2.2.2.2.2.2.2.2.2.2.2.2.2.2.2.2.2.2.1, o.2.2.2.2.2.2.2.2.2.2.2.2.2.2.2.2.2.2.2.2.2.2.2.1, o.2.2.2.2.2.2.2.2.2.2.2.2.2.2.2.2.2.2.2.2.2.2.2.2.1, o.2.2.2.2.2.2.2.2.2.2.2.2.2.2.2.2.2.2.2.2.2.2.2.2.2.1, o.2.2.2.2.2.2.2.2.2.2.2.2.2.2.2.2.2.2.2.2.2.2.2.2.2.2.1, o.2.2.2.2.2.2.2.2.2.2.2.2.2.2.2.2.2.2.2.2.2.2.2.2.2.2.2.1, o.2.2.2.2.2.2.2.2.2.2.2.2.2.2.2.2.2.2.2.2.2.2.2.2.2.2.2.2.1, o.2.2.2.2.2.2.2.2.2.2.2.2.2.2.2.2.2.2.2.2.2.2.2.2.2.2.2.2.2.1, o.2.2.2.2.2.2.2.2.2.2.2.2.2.2.2.2.2.2.2.2.2.2.2.2.2.2.2.2.2.2.1, o.2.2.2.2.2.2.2.2.2.2.2.2.2.2.2.2.2.2.2.2.2.2.2.2.2.2.2.2.2.2.2.1, o.2.2.2.2.2.2.2.2.2.2.2.2.2.2.2.2.2.2.2.2.2.2.2.2.2.2.2.2.2.2.2.2.1, o.2.2.2.2.2.2.2.2.2.2.2.2.2.2.2.2.2.2.2.2.2.2.2.2.2.2.2.2.2.2.2.2.2.1, o.2.2.2.2.2.2.2.2.2.2.2.2.2.2.2.2.2.2.2.2.2.2.2.2.2.2.2.2.2.2.2.2.2.2.1, o.2.2.2.2.2.2.2.2.2.2.2.2.2.2.2.2.2.2.2.2.2.2.2.2.2.2.2.2.2.2.2.2.2.2.2.1, o.2.2.2.2.2.2.2.2.2.2.2.2.2.2.2.2.2.2.2.2.2.2.2.2.2.2.2.2.2.2.2.2.2.2.2.2.1, o.2.2.2.2.2.2.2.2.2.2.2.2.2.2.2.2.2.2.2.2.2.2.2.2.2.2.2.2.2.2.2.2.2.2.2.2.2.1, o.2.2.2.2.2.2.2.2.2.2.2.2.2.2.2.2.2.2.2.2.2.2.2.2.2.2.2.2.2.2.2.2.2.2.2.2.2.2.1, o.2.2.2.2.2.2.2.2.2.2.2.2.2.2.2.2.2.2.2.2.2.2.2.2.2.2.2.2.2.2.2.2.2.2.2.2.2.2.2.1, o.2.2.2.2.2.2.2.2.2.2.2.2.2.2.2.2.2.2.2.2.2.2.2.2.2.2.2.2.2.2.2.2.2.2.2.2.2.2.2.2.1, o.2.2.2.2.2.2.2.2.2.2.2.2.2.2.2.2.2.2.2.2.2.2.2.2.2.2.2.2.2.2.2.2.2.2.2.2.2.2.2.2.2.1, o.2.2.2.2.2.2.2.2.2.2.2.2.2.2.2.2.2.2.2.2.2.2.2.2.2.2.2.2.2.2.2.2.2.2.2.2.2.2.2.2.2.2.1, o.2.2.2.2.2.2.2.2.2.2.2.2.2.2.2.2.2.2.2.2.2.2.2.2.2.2.2.2.2.2.2.2.2.2.2.2.2.2.2.2.2.2.2.1, o.2.2.2.2.2.2.2.2.2.2.2.2.2.2.2.2.2.2.2.2.2.2.2.2.2.2.2.2.2.2.2.2.2.2.2.2.2.2.2.2.2.2.2.2.1, o.2.2.2.2.2.2.2.2.2.2.2.2.2.2.2.2.2.2.2.2.2.2.2.2.2.2.2.2.2.2.2.2.2.2.2.2.2.2.2.2.2.2.2.2.2.1, o.2.2.2.2.2.2.2.2.2.2.2.2.2.2.2.2.2.2.2.2.2.2.2.2.2.2.2.2.2.2.2.2.2.2.2.2.2.2.2.2.2.2.2.2.2.2.1, o.2.2.2.2.2.2.2.2.2.2.2.2.2.2.2.2.2.2.2.2.2.2.2.2.2.2.2.2.2.2.2.2.2.2.2.2.2.2.2.2.2.2.2.2.2.2.2)
def s_snapVal (o : Ob) (v : List Int32) : Ob := (o.1, o.2.1, o.2.2.1, o.2.2.2.1, o.2.2.2.2.1, o.2.2.2.2.2.1, o.2.2.2.2.2.2.1, o.2.2.2.2.2.2.2.1, o.2.2.2.2.2.2.2.2.1, o.2.2.2.2.2.2.2.2.2.1, o.2.2.2.2.2.2.2.2.2.2.1, o.2.2.2.2.2.2.2.2.2.2.2.1, o.2.2.2.2.2.2.2.2.2.2.2.2.1, o.2.2.2.2.2.2.2.2.2.2.2.2.2.1, o.2.2.2.2.2.2.2.2.2.2.2.2.2.2.1, o.2.2.2.2.2.2.2.2.2.2.2.2.2.2.2.1, v, o.2.2.2.2.2.2.2.2.2.2.2.2.2.2.2.2.2.1, o.2.2.2.2.2.2.2.2.2.2.2.2.2.2.2.2.2.2.1, o.2.2.2.2.2.2.2.2.2.2.2.2.2.2.2.2.2.2.2.1, o.2.2.2.2.2.2.2.2.2.2.2.2.2.2.2.2.2.2.2.2.1, o.2.2.2.2.2.2.2.2.2.2.2.2.2.2.2.2.2.2.2.2.2.1, o.2.2.2.2.2.2.2.2.2.2.2.2.2.2.2.2.2.2.2.2.2.2.1, o.2.2.2.2.2.2.2.2.2.2.2.2.2.2.2.2.2.2.2.2.2.2.2.1, o.2.2.2.2.2.2.2.2.2.2.2.2.2.2.2.2.2.2.2.2.2.2.2.2.1, o.2.2.2.2.2.2.2.2.2.2.2.2.2.2.2.2.2.2.2.2.2.2.2.2.2.1, o.2.2.2.2.2.2.2.2.2.2.2.2.2.2.2.2.2.2.2.2.2.2.2.2.2.2.1, o.2.2.2.2.2.2.2.2.2.2.2.2.2.2.2.2.2.2.2.2.2.2.2.2.2.2.2.1, o.2.2.2.2.2.2.2.2.2.2.2.2.2.2.2.2.2.2.2.2.2.2.2.2.2.2.2.2.1, o.2.2.2.2.2.2.2.2.2.2.2.2.2.2.2.2.2.2.2.2.2.2.2.2.2.2.2.2.2.1, o.2.2.2.2.2.2.2.2.2.2.2.2.2.2.2.2.2.2.2.2.2.2.2.2.2.2.2.2.2.2.1, o.2.2.2.2.2.2.2.2.2.2.2.2.2.2.2.2.2.2.2.2.2.2.2.2.2.2.2.2.2.2.2.1, o.2.2.2.2.2.2.2.2.2.2.2.2.2.2.2.2.2.2.2.2.2.2.2.2.2.2.2.2.2.2.2.2.1, o.2.2.2.2.2.2.2.2.2.2.2.2.2.2.2.2.2.2.2.2.2.2.2.2.2.2.2.2.2.2.2.2.2.1, o.2.2.2.2.2.2.2.2.2.2.2.2.2.2.2.2.2.2.2.2.2.2.2.2.2.2.2.2.2.2.2.2.2.2.1, o.2.2.2.2.2.2.2.2.2.2.2.2.2.2.2.2.2.2.2.2.2.2.2.2.2.2.2.2.2.2.2.2.2.2.2.1, o.2.2.2.2.2.2.2.2.2.2.2.2.2.2.2.2.2.2.2.2.2.2.2.2.2.2.2.2.2.2.2.2.2.2.2.2.1, o.2.2.2.2.2.2.2.2.2.2.2.2.2.2.2.2.2.2.2.2.2.2.2.2.2.2.2.2.2.2.2.2.2.2.2.2.2.1, o.2.2.2.2.2.2.2.2.2.2.2.2.2.2.2.2.2.2.2.2.2.2.2.2.2.2.2.2.2.2.2.2.2.2.2.2.2.2.1, o.2.2.2.2.2.2.2.2.2.2.2.2.2.2.2.2.2.2.2.2.2.2.2.2.2.2.2.2.2.2.2.2.2.2.2.2.2.2.2.1, o.2.2.2.2.2.2.2.2.2.2.2.2.2.2.2.2.2.2.2.2.2.2.2.2.2.2.2.2.2.2.2.2.2.2.2.2.2.2.2.2.1, o.2.2.2.2.2.2.2.2.2.2.2.2.2.2.2.2.2.2.2.2.2.2.2.2.2.2.2.2.2.2.2.2.2.2.2.2.2.2.2.2.2.1, o.2.2.2.2.2.2.2.2.2.2.2.2.2.2.2.2.2.2.2.2.2.2.2.2.2.2.2.2.2.2.2.2.2.2.2.2.2.2.2.2.2.2.1, o.2.2.2.2.2.2.2.2.2.2.2.2.2.2.2.2.2.2.2.2.2.2.2.2.2.2.2.2.2.2.2.2.2.2.2.2.2.2.2.2.2.2.2.1, o.2.2.2.2.2.2.2.2.2.2.2.2.2.2.2.2.2.2.2.2.2.2.2.2.2.2.2.2.2.2.2.2.2.2.2.2.2.2.2.2.2.2.2.2.1, o.2.2.2.2.2.2.2.2.2.2.2.2.2.2.2.2.2.2.2.2.2.2.2.2.2.2.2.2.2.2.2.2.2.2.2.2.2.2.2.2.2.2.2.2.2.1, o.2.2.2.2.2.2.2.2.2.2.2.2.2.2.2.2.2.2.2.2.2.2.2.2.2.2.2.2.2.2.2.2.2.2.2.2.2.2.2.2.2.2.2.2.2.2.1, o.2.2.2.2.2.2.2.2.2.2.2.2.2.2.2.2.2.2.2.2.2.2.2.2.2.2.2.2.2.2.2.2.2.2.2.2.2.2.2.2.2.2.2.2.2.2.2)
def s_snapTgt (o : Ob) (v : List Int32) : Ob := (o.1, o.2.1, o.2.2.1, o.2.2.2.1, o.2.2.2.2.1, o.2.2.2.2.2.1, o.2.2.2.2.2.2.1, o.2.2.2.2.2.2.2.1, o.2.2.2.2.2.2.2.2.1, o.2.2.2.2.2.2.2.2.2.1, o.2.2.2.2.2.2.2.2.2.2.1, o.2.2.2.2.2.2.2.2.2.2.2.1, o.2.2.2.2.2.2.2.2.2.2.2.2.1, o.2.2.2.2.2.2.2.2.2.2.2.2.2.1, o.2.2.2.2.2.2.2.2.2.2.2.2.2.2.1, o.2.2.2.2.2.2.2.2.2.2.2.2.2.2.2.1, o.2.2.2.2.2.2.2.2.2.2.2.2.2.2.2.2.1, v, o.2.2.2.2.2.2.2.2.2.2.2.2.2.2.2.2.2.2.1, o.2.2.2.2.2.2.2.2.2.2.2.2.2.2.2.2.2.2.2.1, o.2.2.2.2.2.2.2.2.2.2.2.2.2.2.2.2.2.2.2.2.1, o.2.2.2.2.2.2.2.2.2.2.2.2.2.2.2.2.2.2.2.2.2.1, o.2.2.2.2.2.2.2.2.2.2.2.2.2.2.2.2.2.2.2.2.2.2.1, o.2.2.2.2.2.2.2.2.2.2.2.2.2.2.2.2.2.2.2.2.2.2.2.1, o.2.2.2.2.2.2.2.2.2.2.2.2.2.2.2.2.2.2.2.2.2.2.2.2.1, o.2.2.2.2.2.2.2.2.2.2.2.2.2.2.2.2.2.2.2.2.2.2.2.2.2.1, o.2.2.2.2.2.2.2.2.2.2.2.2.2.2.2.2.2.2.2.2.2.2.2.2.2.2.1, o.2.2.2.2.2.2.2.2.2.2.2.2.2.2.2.2.2.2.2.2.2.2.2.2.2.2.2.1, o.2.2.2.2.2.2.2.2.2.2.2.2.2.2.2.2.2.2.2.2.2.2.2.2.2.2.2.2.1, o.2.2.2.2.2.2.2.2.2.2.2.2.2.2.2.2.2.2.2.2.2.2.2.2.2.2.2.2.2.1, o.2.2.2.2.2.2.2.2.2.2.2.2.2.2.2.2.2.2.2.2.2.2.2.2.2.2.2.2.2.2.1, o.2.2.2.2.2.2.2.2.2.2.2.2.2.2.2.2.2.2.2.2.2.2.2.2.2.2.2.2.2.2.2.1, o.2.2.2.2.2.2.2.2.2.2.2.2.2.2.2.2.2.2.2.2.2.2.2.2.2.2.2.2.2.2.2.2.1, o.2.2.2.2.2.2.2.2.2.2.2.2.2.2.2.2.2.2.2.2.2.2.2.2.2.2.2.2.2.2.2.2.2.1, o.2.2.2.2.2.2.2.2.2.2.2.2.2.2.2.2.2.2.2.2.2.2.2.2.2.2.2.2.2.2.2.2.2.2.1, o.2.2.2.2.2.2.2.2.2.2.2.2.2.2.2.2.2.2.2.2.2.2.2.2.2.2.2.2.2.2.2.2.2.2.2.1, o.2.2.2.2.2.2.2.2.2.2.2.2.2.2.2.2.2.2.2.2.2.2.2.2.2.2.2.2.2.2.2.2.2.2.2.2.1, o.2.2.2.2.2.2.2.2.2.2.2.2.2.2.2.2.2.2.2.2.2.2.2.2.2.2.2.2.2.2.2.2.2.2.2.2.2.1, o.2.2.2.2.2.2.2.2.2.2.2.2.2.2.2.2.2.2.2.2.2.2.2.2.2.2.2.2.2.2.2.2.2.2.2.2.2.2.1, o.2.2.2.2.2.2.2.2.2.2.2.2.2.2.2.2.2.2.2.2.2.2.2.2.2.2.2.2.2.2.2.2.2.2.2.2.2.2.2.1, o.2.2.2.2.2.2.2.2.2.2.2.2.2.2.2.2.2.2.2.2.2.2.2.2.2.2.2.2.2.2.2.2.2.2.2.2.2.2.2.2.1, o.2.2.2.2.2.2.2.2.2.2.2.2.2.2.2.2.2.2.2.2.2.2.2.2.2.2.2.2.2.2.2.2.2.2.2.2.2.2.2.2.2.1, o.2.2.2.2.2.2.2.2.2.2.2.2.2.2.2.2.2.2.2.2.2.2.2.2.2.2.2.2.2.2.2.2.2.2.2.2.2.2.2.2.2.2.1, o.2.2.2.2.2.2.2.2.2.2.2.2.2.2.2.2.2.2.2.2.2.2.2.2.2.2.2.2.2.2.2.2.2.2.2.2.2.2.2.2.2.2.2.1, o.2.2.2.2.2.2.2.2.2.2.2.2.2.2.2.2.2.2.2.2.2.2.2.2.2.2.2.2.2.2.2.2.2.2.2.2.2.2.2.2.2.2.2.2.1, o.2.2.2.2.2.2.2.2.2.2.2.2.2.2.2.2.2.2.2.2.2.2.2.2.2.2.2.2.2.2.2.2.2.2.2.2.2.2.2.2.2.2.2.2.2.1, o.2.2.2.2.2.2.2.2.2.2.2.2.2.2.2.2.2.2.2.2.2.2.2.2.2.2.2.2.2.2.2.2.2.2.2.2.2.2.2.2.2.2.2.2.2.2.1, o.2.2.2.2.2.2.2.2.2.2.2.2.2.2.2.2.2.2.2.2.2.2.2.2.2.2.2.2.2.2.2.2.2.2.2.2.2.2.2.2.2.2.2.2.2.2.2)
def s_bestCost (o : Ob) (v : List Int32) : Ob := (o.1, o.2.1, o.2.2.1, o.2.2.2.1, o.2.2.2.2.1, o.2.2.2.2.2.1, o.2.2.2.2.2.2.1, o.2.2.2.2.2.2.2.1, o.2.2.2.2.2.2.2.2.1, o.2.2.2.2.2.2.2.2.2.1, o.2.2.2.2.2.2.2.2.2.2.1, o.2.2.2.2.2.2.2.2.2.2.2.1, o.2.2.2.2.2.2.2.2.2.2.2.2.1, o.2.2.2.2.2.2.2.2.2.2.2.2.2.1, o.2.2.2.2.2.2.2.2.2.2.2.2.2.2.1, o.2.2.2.2.2.2.2.2.2.2.2.2.2.2.2.1, o.2.2.2.2.2.2.2.2.2.2.2.2.2.2.2.2.1, o.2.2.2.2.2.2.2.2.2.2.2.2.2.2.2.2.2.1, v, o.2.2.2.2.2.2.2.2.2.2.2.2.2.2.2.2.2.2.2.1, o.2.2.2.2.2.2.2.2.2.2.2.2.2.2.2.2.2.2.2.2.1, o.2.2.2.2.2.2.2.2.2.2.2.2.2.2.2.2.2.2.2.2.2.1, o.2.2.2.2.2.2.2.2.2.2.2.2.2.2.2.2.2.2.2.2.2.2.1, o.2.2.2.2.2.2.2.2.2.2.2.2.2.2.2.2.2.2.2.2.2.2.2.1, o.2.2.2.2.2.2.2.2.2.2.2.2.2.2.2.2.2.2.2.2.2.2.2.2.1, o.2.2.2.2.2.2.2.2.2.2.2.2.2.2.2.2.2.2.2.2.2.2.2.2.2.1, o.2.2.2.2.2.2.2.2.2.2.2.2.2.2.2.2.2.2.2.2.2.2.2.2.2.2.1, o.2.2.2.2.2.2.2.2.2.2.2.2.2.2.2.2.2.2.2.2.2.2.2.2.2.2.2.1, o.2.2.2.2.2.2.2.2.2.2.2.2.2.2.2.2.2.2.2.2.2.2.2.2.2.2.2.2.1, o.2.2.2.2.2.2.2.2.2.2.2.2.2.2.2.2.2.2.2.2.2.2.2.2.2.2.2.2.2.1, o.2.2.2.2.2.2.2.2.2.2.2.2.2.2.2.2.2.2.2.2.2.2.2.2.2.2.2.2.2.2.1, o.2.2.2.2.2.2.2.2.2.2.2.2.2.2.2.2.2.2.2.2.2.2.2.2.2.2.2.2.2.2.2.1, o.2.2.2.2.2.2.2.2.2.2.2.2.2.2.2.2.2.2.2.2.2.2.2.2.2.2.2.2.2.2.2.2.1, o.2.2.2.2.2.2.2.2.2.2.2.2.2.2.2.2.2.2.2.2.2.2.2.2.2.2.2.2.2.2.2.2.2.1, o.2.2.2.2.2.2.2.2.2.2.2.2.2.2.2.2.2.2.2.2.2.2.2.2.2.2.2.2.2.2.2.2.2.2.1, o.2.2.2.2.2.2.2.2.2.2.2.2.2.2.2.2.2.2.2.2.2.2.2.2.2.2.2.2.2.2.2.2.2.2.2.1, o.2.2.2.2.2.2.2.2.2.2.2.2.2.2.2.2.2.2.2.2.2.2.2.2.2.2.2.2.2.2.2.2.2.2.2.2.1, o.2.2.2.2.2.2.2.2.2.2.2.2.2.2.2.2.2.2.2.2.2.2.2.2.2.2.2.2.2.2.2.2.2.2.2.2.2.1, o.2.2.2.2.2.2.2.2.2.2.2.2.2.2.2.2.2.2.2.2.2.2.2.2.2.2.2.2.2.2.2.2.2.2.2.2.2.2.1, o.2.2.2.2.2.2.2.2.2.2.2.2.2.2.2.2.2.2.2.2.2.2.2.2.2.2.2.2.2.2.2.2.2.2.2.2.2.2.2.1, o.2.2.2.2.2.2.2.2.2.2.2.2.2.2.2.2.2.2.2.2.2.2.2.2.2.2.2.2.2.2.2.2.2.2.2.2.2.2.2.2.1, o.2.2.2.2.2.2.2.2.2.2.2.2.2.2.2.2.2.2.2.2.2.2.2.2.2.2.2.2.2.2.2.2.2.2.2.2.2.2.2.2.2.1, o.2.2.2.2.2.2.2.2.2.2.2.2.2.2.2.2.2.2.2.2.2.2.2.2.2.2.2.2.2.2.2.2.2.2.2.2.2.2.2.2.2.2.1, o.2.2.2.2.2.2.2.2.2.2.2.2.2.2.2.2.2.2.2.2.2.2.2.2.2.2.2.2.2.2.2.2.2.2.2.2.2.2.2.2.2.2.2.1, o.2.2.2.2.2.2.2.2.2.2.2.2.2.2.2.2.2.2.2.2.2.2.2.2.2.2.2.2.2.2.2.2.2.2.2.2.2.2.2.2.2.2.2.2.1, o.2.2.2.2.2.2.2.2.2.2.2.2.2.2.2.2.2.2.2.2.2.2.2.2.2.2.2.2.2.2.2.2.2.2.2.2.2.2.2.2.2.2.2.2.2.1, o.2.2.2.2.2.2.2.2.2.2.2.2.2.2.2.2.2.2.2.2.2.2.2.2.2.2.2.2.2.2.2.2.2.2.2.2.2.2.2.2.2.2.2.2.2.2.1, o.2.2.2.2.2.2.2.2.2.2.2.2.2.2.2.2.2.2.2.2.2.2.2.2.2.2.2.2.2.2.2.2.2.2.2.2.2.2.2.2.2.2.2.2.2.2.2)
def s_bestCut (o : Ob) (v : List Int32) : Ob := (o.1, o.2.1, o.2.2.1, o.2.2.2.1, o.2.2.2.2.1, o.2.2.2.2.2.1, o.2.2.2.2.2.2.1, o.2.2.2.2.2.2.2.1, o.2.2.2.2.2.2.2.2.1, o.2.2.2.2.2.2.2.2.2.1, o.2.2.2.2.2.2.2.2.2.2.1, o.2.2.2.2.2.2.2.2.2.2.2.1, o.2.2.2.2.2.2.2.2.2.2.2.2.1, o.2.2.2.2.2.2.2.2.2.2.2.2.2.1, o.2.2.2.2.2.2.2.2.2.2.2.2.2.2.1, o.2.2.2.2.2.2.2.2.2.2.2.2.2.2.2.1, o.2.2.2.2.2.2.2.2.2.2.2.2.2.2.2.2.1, o.2.2.2.2.2.2.2.2.2.2.2.2.2.2.2.2.2.1, o.2.2.2.2.2.2.2.2.2.2.2.2.2.2.2.2.2.2.1, v, o.2.2.2.2.2.2.2.2.2.2.2.2.2.2.2.2.2.2.2.2.1, o.2.2.2.2.2.2.2.2.2.2.2.2.2.2.2.2.2.2.2.2.2.1, o.2.2.2.2.2.2.2.2.2.2.2.2.2.2.2.2.2.2.2.2.2.2.1, o.2.2.2.2.2.2.2.2.2.2.2.2.2.2.2.2.2.2.2.2.2.2.2.1, o.2.2.2.2.2.2.2.2.2.2.2.2.2.2.2.2.2.2.2.2.2.2.2.2.1, o.2.2.2.2.2.2.2.2.2.2.2.2.2.2.2.2.2.2.2.2.2.2.2.2.2.1, o.2.2.2.2.2.2.2.2.2.2.2.2.2.2.2.2.2.2.2.2.2.2.2.2.2.2.1, o.2.2.2.2.2.2.2.2.2.2.2.2.2.2.2.2.2.2.2.2.2.2.2.2.2.2.2.1, o.2.2.2.2.2.2.2.2.2.2.2.2.2.2.2.2.2.2.2.2.2.2.2.2.2.2.2.2.1, o.2.2.2.2.2.2.2.2.2.2.2.2.2.2.2.2.2.2.2.2.2.2.2.2.2.2.2.2.2.1, o.2.2.2.2.2.2.2.2.2.2.2.2.2.2.2.2.2.2.2.2.2.2.2.2.2.2.2.2.2.2.1, o.2.2.2.2.2.2.2.2.2.2.2.2.2.2.2.2.2.2.2.2.2.2.2.2.2.2.2.2.2.2.2.1, o.2.2.2.2.2.2.2.2.2.2.2.2.2.2.2.2.2.2.2.2.2.2.2.2.2.2.2.2.2.2.2.2.1, o.2.2.2.2.2.2.2.2.2.2.2.2.2.2.2.2.2.2.2.2.2.2.2.2.2.2.2.2.2.2.2.2.2.1, o.2.2.2.2.2.2.2.2.2.2.2.2.2.2.2.2.2.2.2.2.2.2.2.2.2.2.2.2.2.2.2.2.2.2.1, o.2.2.2.2.2.2.2.2.2.2.2.2.2.2.2.2.2.2.2.2.2.2.2.2.2.2.2.2.2.2.2.2.2.2.2.1, o.2.2.2.2.2.2.2.2.2.2.2.2.2.2.2.2.2.2.2.2.2.2.2.2.2.2.2.2.2.2.2.2.2.2.2.2.1, o.2.2.2.2.2.2.2.2.2.2.2.2.2.2.2.2.2.2.2.2.2.2.2.2.2.2.2.2.2.2.2.2.2.2.2.2.2.1, o.2.2.2.2.2.2.2.2.2.2.2.2.2.2.2.2.2.2.2.2.2.2.2.2.2.2.2.2.2.2.2.2.2.2.2.2.2.2.1, o.2.2.2.2.2.2.2.2.2.2.2.2.2.2.2.2.2.2.2.2.2.2.2.2.2.2.2.2.2.2.2.2.2.2.2.2.2.2.2.1, o.2.2.2.2.2.2.2.2.2.2.2.2.2.2.2.2.2.2.2.2.2.2.2.2.2.2.2.2.2.2.2.2.2.2.2.2.2.2.2.2.1, o.2.2.2.2.2.2.2.2.2.2.2.2.2.2.2.2.2.2.2.2.2.2.2.2.2.2.2.2.2.2.2.2.2.2.2.2.2.2.2.2.2.1, o.2.2.2.2.2.2.2.2.2.2.2.2.2.2.2.2.2.2.2.2.2.2.2.2.2.2.2.2.2.2.2.2.2.2.2.2.2.2.2.2.2.2.1, o.2.2.2.2.2.2.2.2.2.2.2.2.2.2.2.2.2.2.2.2.2.2.2.2.2.2.2.2.2.2.2.2.2.2.2.2.2.2.2.2.2.2.2.1, o.2.2.2.2.2.2.2.2.2.2.2.2.2.2.2.2.2.2.2.2.2.2.2.2.2.2.2.2.2.2.2.2.2.2.2.2.2.2.2.2.2.2.2.2.1, o.2.2.2.2.2.2.2.2.2.2.2.2.2.2.2.2.2.2.2.2.2.2.2.2.2.2.2.2.2.2.2.2.2.2.2.2.2.2.2.2.2.2.2.2.2.1, o.2.2.2.2.2.2.2.2.2.2.2.2.2.2.2.2.2.2.2.2.2.2.2.2.2.2.2.2.2.2.2.2.2.2.2.2.2.2.2.2.2.2.2.2.2.2.1, o.2.2.2.2.2.2.2.2.2.2.2.2.2.2.2.2.2.2.2.2.2.2.2.2.2.2.2.2.2.2.2.2.2.2.2.2.2.2.2.2.2.2.2.2.2.2.2)
def s_clStart (o : Ob) (v : List Int32) : Ob := (o.1, o.2.1, o.2.2.1, o.2.2.2.1, o.2.2.2.2.1, o.2.2.2.2.2.1, o.2.2.2.2.2.2.1, o.2.2.2.2.2.2.2.1, o.2.2.2.2.2.2.2.2.1, o.2.2.2.2.2.2.2.2.2.1, o.2.2.2.2.2.2.2.2.2.2.1, o.2.2.2.2.2.2.2.2.2.2.2.1, o.2.2.2.2.2.2.2.2.2.2.2.2.1, o.2.2.2.2.2.2.2.2.2.2.2.2.2.1, o.2.2.2.2.2.2.2.2.2.2.2.2.2.2.1, o.2.2.2.2.2.2.2.2.2.2.2.2.2.2.2.1, o.2.2.2.2.2.2.2.2.2.2.2.2.2.2.2.2.1, o.2.2.2.2.2.2.2.2.2.2.2.2.2.2.2.2.2.1, o.2.2.2.2.2.2.2.2.2.2.2.2.2.2.2.2.2.2.1, o.2.2.2.2.2.2.2.2.2.2.2.2.2.2.2.2.2.2.2.1, v, o.2.2.2.2.2.2.2.2.2.2.2.2.2.2.2.2.2.2.2.2.2.1, o.2.2.2.2.2.2.2.2.2.2.2.2.2.2.2.2.2.2.2.2.2.2.1, o.2.2.2.2.2.2.2.2.2.2.2.2.2.2.2.2.2.2.2.2.2.2.2.1, o.2.2.2.2.2.2.2.2.2.2.2.2.2.2.2.2.2.2.2.2.2.2.2.2.1, o.2.2.2.2.2.2.2.2.2.2.2.2.2.2.2.2.2.2.2.2.2.2.2.2.2.1, o.2.2.2.2.2.2.2.2.2.2.2.2.2.2.2.2.2.2.2.2.2.2.2.2.2.2.1, o.2.2.2.2.2.2.2.2.2.2.2.2.2.2.2.2.2.2.2.2.2.2.2.2.2.2.2.1, o.2.2.2.2.2.2.2.2.2.2.2.2.2.2.2.2.2.2.2.2.2.2.2.2.2.2.2.2.1, o.2.2.2.2.2.2.2.2.2.2.2.2.2.2.2.2.2.2.2.2.2.2.2.2.2.2.2.2.2.1, o.2.2.2.2.2.2.2.2.2.2.2.2.2.2.2.2.2.2.2.2.2.2.2.2.2.2.2.2.2.2.1, o.2.2.2.2.2.2.2.2.2.2.2.2.2.2.2.2.2.2.2.2.2.2.2.2.2.2.2.2.2.2.2.1, o.2.2.2.2.2.2.2.2.2.2.2.2.2.2.2.2.2.2.2.2.2.2.2.2.2.2.2.2.2.2.2.2.1, o.2.2.2.2.2.2.2.2.2.2.2.2.2.2.2.2.2.2.2.2.2.2.2.2.2.2.2.2.2.2.2.2.2.1, o.2.2.2.2.2.2.2.2.2.2.2.2.2.2.2.2.2.2.2.2.2.2.2.2.2.2.2.2.2.2.2.2.2.2.1, o.2.2.2.2.2.2.2.2.2.2.2.2.2.2.2.2.2.2.2.2.2.2.2.2.2.2.2.2.2.2.2.2.2.2.2.1, o.2.2.2.2.2.2.2.2.2.2.2.2.2.2.2.2.2.2.2.2.2.2.2.2.2.2.2.2.2.2.2.2.2.2.2.2.1, o.2.2.2.2.2.2.2.2.2.2.2.2.2.2.2.2.2.2.2.2.2.2.2.2.2.2.2.2.2.2.2.2.2.2.2.2.2.1, o.2.2.2.2.2.2.2.2.2.2.2.2.2.2.2.2.2.2.2.2.2.2.2.2.2.2.2.2.2.2.2.2.2.2.2.2.2.2.1, o.2.2.2.2.2.2.2.2.2.2.2.2.2.2.2.2.2.2.2.2.2.2.2.2.2.2.2.2.2.2.2.2.2.2.2.2.2.2.2.1, o.2.2.2.2.2.2.2.2.2.2.2.2.2.2.2.2.2.2.2.2.2.2.2.2.2.2.2.2.2.2.2.2.2.2.2.2.2.2.2.2.1, o.2.2.2.2.2.2.2.2.2.2.2.2.2.2.2.2.2.2.2.2.2.2.2.2.2.2.2.2.2.2.2.2.2.2.2.2.2.2.2.2.2.1, o.2.2.2.2.2.2.2.2.2.2.2.2.2.2.2.2.2.2.2.2.2.2.2.2.2.2.2.2.2.2.2.2.2.2.2.2.2.2.2.2.2.2.1, o.2.2.2.2.2.2.2.2.2.2.2.2.2.2.2.2.2.2.2.2.2.2.2.2.2.2.2.2.2.2.2.2.2.2.2.2.2.2.2.2.2.2.2.1, o.2.2.2.2.2.2.2.2.2.2.2.2.2.2.2.2.2.2.2.2.2.2.2.2.2.2.2.2.2.2.2.2.2.2.2.2.2.2.2.2.2.2.2.2.1, o.2.2.2.2.2.2.2.2.2.2.2.2.2.2.2.2.2.2.2.2.2.2.2.2.2.2.2.2.2.2.2.2.2.2.2.2.2.2.2.2.2.2.2.2.2.1, o.2.2.2.2.2.2.2.2.2.2.2.2.2.2.2.2.2.2.2.2.2.2.2.2.2.2.2.2.2.2.2.2.2.2.2.2.2.2.2.2.2.2.2.2.2.2.1, o.2.2.2.2.2.2.2.2.2.2.2.2.2.2.2.2.2.2.2.2.2.2.2.2.2.2.2.2.2.2.2.2.2.2.2.2.2.2.2.2.2.2.2.2.2.2.2)
def s_clEnd (o : Ob) (v : List Int32) : Ob := (o.1, o.2.1, o.2.2.1, o.2.2.2.1, o.2.2.2.2.1, o.2.2.2.2.2.1, o.2.2.2.2.2.2.1, o.2.2.2.2.2.2.2.1, o.2.2.2.2.2.2.2.2.1, o.2.2.2.2.2.2.2.2.2.1, o.2.2.2.2.2.2.2.2.2.2.1, o.2.2.2.2.2.2.2.2.2.2.2.1, o.2.2.2.2.2.2.2.2.2.2.2.2.1, o.2.2.2.2.2.2.2.2.2.2.2.2.2.1, o.2.2.2.2.2.2.2.2.2.2.2.2.2.2.1, o.2.2.2.2.2.2.2.2.2.2.2.2.2.2.2.1, o.2.2.2.2.2.2.2.2.2.2.2.2.2.2.2.2.1, o.2.2.2.2.2.2.2.2.2.2.2.2.2.2.2.2.2.1, o.2.2.2.2.2.2.2.2.2.2.2.2.2.2.2.2.2.2.1, o.2.2.2.2.2.2.2.2.2.2.2.2.2.2.2.2.2.2.2.1, o.2.2.2.2.2.2.2.2.2.2.2.2.2.2.2.2.2.2.2.2.1, v, o.2.2.2.2.2.2.2.2.2.2.2.2.2.2.2.2.2.2.2.2.2.2.1, o.2.2.2.2.2.2.2.2.2.2.2.2.2.2.2.2.2.2.2.2.2.2.2.1, o.2.2.2.2.2.2.2.2.2.2.2.2.2.2.2.2.2.2.2.2.2.2.2.2.1, o.2.2.2.2.2.2.2.2.2.2.2.2.2.2.2.2.2.2.2.2.2.2.2.2.2.1, o.2.2.2.2.2.2.2.2.2.2.2.2.2.2.2.2.2.2.2.2.2.2.2.2.2.2.1, o.2.2.2.2.2.2.2.2.2.2.2.2.2.2.2.2.2.2.2.2.2.2.2.2.2.2.2.1, o.2.2.2.2.2.2.2.2.2.2.2.2.2.2.2.2.2.2.2.2.2.2.2.2.2.2.2.2.1, o.2.2.2.2.2.2.2.2.2.2.2.2.2.2.2.2.2.2.2.2.2.2.2.2.2.2.2.2.2.1, o.2.2.2.2.2.2.2.2.2.2.2.2.2.2.2.2.2.2.2.2.2.2.2.2.2.2.2.2.2.2.1, o.2.2.2.2.2.2.2.2.2.2.2.2.2.2.2.2.2.2.2.2.2.2.2.2.2.2.2.2.2.2.2.1, o.2.2.2.2.2.2.2.2.2.2.2.2.2.2.2.2.2.2.2.2.2.2.2.2.2.2.2.2.2.2.2.2.1, o.2.2.2.2.2.2.2.2.2.2.2.2.2.2.2.2.2.2.2.2.2.2.2.2.2.2.2.2.2.2.2.2.2.1, o.2.2.2.2.2.2.2.2.2.2.2.2.2.2.2.2.2.2.2.2.2.2.2.2.2.2.2.2.2.2.2.2.2.2.1, o.2.2.2.2.2.2.2.2.2.2.2.2.2.2.2.2.2.2.2.2.2.2.2.2.2.2.2.2.2.2.2.2.2.2.2.1, o.2.2.2.2.2.2.2.2.2.2.2.2.2.2.2.2.2.2.2.2.2.2.2.2.2.2.2.2.2.2.2.2.2.2.2.2.1, o.2.2.2.2.2.2.2.2.2.2.2.2.2.2.2.2.2.2.2.2.2.2.2.2.2.2.2.2.2.2.2.2.2.2.2.2.2.1, o.2.2.2.2.2.2.2.2.2.2.2.2.2.2.2.2.2.2.2.2.2.2.2.2.2.2.2.2.2.2.2.2.2.2.2.2.2.2.1, o.2.2.2.2.2.2.2.2.2.2.2.2.2.2.2.2.2.2.2.2.2.2.2.2.2.2.2.2.2.2.2.2.2.2.2.2.2.2.2.1, o.2.2.2.2.2.2.2.2.2.2.2.2.2.2.2.2.2.2.2.2.2.2.2.2.2.2.2.2.2.2.2.2.2.2.2.2.2.2.2.2.1, o.2.2.2.2.2.2.2.2.2.2.2.2.2.2.2.2.2.2.2.2.2.2.2.2.2.2.2.2.2.2.2.2.2.2.2.2.2.2.2.2.2.1, o.2.2.2.2.2.2.2.2.2.2.2.2.2.2.2.2.2.2.2.2.2.2.2.2.2.2.2.2.2.2.2.2.2.2.2.2.2.2.2.2.2.2.1, o.2.2.2.2.2.2.2.2.2.2.2.2.2.2.2.2.2.2.2.2.2.2.2.2.2.2.2.2.2.2.2.2.2.2.2.2.2.2.2.2.2.2.2.1, o.2.2.2.2.2.2.2.2.2.2.2.2.2.2.2.2.2.2.2.2.2.2.2.2.2.2.2.2.2.2.2.2.2.2.2.2.2.2.2.2.2.2.2.2.1, o.2.2.2.2.2.2.2.2.2.2.2.2.2.2.2.2.2.2.2.2.2.2.2.2.2.2.2.2.2.2.2.2.2.2.2.2.2.2.2.2.2.2.2.2.2.1, o.2.2.2.2.2.2.2.2.2.2.2.2.2.2.2.2.2.2.2.2.2.2.2.2.2.2.2.2.2.2.2.2.2.2.2.2.2.2.2.2.2.2.2.2.2.2.1, o.2.2.2.2.2.2.2.2.2.2.2.2.2.2.2.2.2.2.2.2.2.2.2.2.2.2.2.2.2.2.2.2.2.2.2.2.2.2.2.2.2.2.2.2.2.2.2)
def s_opc (o : Ob) (v : List Int32) : Ob := (o.1, o.2.1, o.2.2.1, o.2.2.2.1, o.2.2.2.2.1, o.2.2.2.2.2.1, o.2.2.2.2.2.2.1, o.2.2.2.2.2.2.2.1, o.2.2.2.2.2.2.2.2.1, o.2.2.2.2.2.2.2.2.2.1, o.2.2.2.2.2.2.2.2.2.2.1, o.2.2.2.2.2.2.2.2.2.2.2.1, o.2.2.2.2.2.2.2.2.2.2.2.2.1, o.2.2.2.2.2.2.2.2.2.2.2.2.2.1, o.2.2.2.2.2.2.2.2.2.2.2.2.2.2.1, o.2.2.2.2.2.2.2.2.2.2.2.2.2.2.2.1, o.2.2.2.2.2.2.2.2.2.2.2.2.2.2.2.2.1, o.2.2.2.2.2.2.2.2.2.2.2.2.2.2.2.2.2.1, o.2.2.2.2.2.2.2.2.2.2.2.2.2.2.2.2.2.2.1, o.2.2.2.2.2.2.2.2.2.2.2.2.2.2.2.2.2.2.2.1, o.2.2.2.2.2.2.2.2.2.2.2.2.2.2.2.2.2.2.2.2.1, o.2.2.2.2.2.2.2.2.2.2.2.2.2.2.2.2.2.2.2.2.2.1, v, o.2.2.2.2.2.2.2.2.2.2.2.2.2.2.2.2.2.2.2.2.2.2.2.1, o.2.2.2.2.2.2.2.2.2.2.2.2.2.2.2.2.2.2.2.2.2.2.2.2.1, o.2.2.2.2.2.2.2.2.2.2.2.2.2.2.2.2.2.2.2.2.2.2.2.2.2.1, o.2.2.2.2.2.2.2.2.2.2.2.2.2.2.2.2.2.2.2.2.2.2.2.2.2.2.1, o.2.2.2.2.2.2.2.2.2.2.2.2.2.2.2.2.2.2.2.2.2.2.2.2.2.2.2.1, o.2.2.2.2.2.2.2.2.2.2.2.2.2.2.2.2.2.2.2.2.2.2.2.2.2.2.2.2.1, o.2.2.2.2.2.2.2.2.2.2.2.2.2.2.2.2.2.2.2.2.2.2.2.2.2.2.2.2.2.1, o.2.2.2.2.2.2.2.2.2.2.2.2.2.2.2.2.2.2.2.2.2.2.2.2.2.2.2.2.2.2.1, o.2.2.2.2.2.2.2.2.2.2.2.2.2.2.2.2.2.2.2.2.2.2.2.2.2.2.2.2.2.2.2.1, o.2.2.2.2.2.2.2.2.2.2.2.2.2.2.2.2.2.2.2.2.2.2.2.2.2.2.2.2.2.2.2.2.1, o.2.2.2.2.2.2.2.2.2.2.2.2.2.2.2.2.2.2.2.2.2.2.2.2.2.2.2.2.2.2.2.2.2.1, o.2.2.2.2.2.2.2.2.2.2.2.2.2.2.2.2.2.2.2.2.2.2.2.2.2.2.2.2.2.2.2.2.2.2.1, o.2.2.2.2.2.2.2.2.2.2.2.2.2.2.2.2.2.2.2.2.2.2.2.2.2.2.2.2.2.2.2.2.2.2.2.1, o.2.2.2.2.2.2.2.2.2.2.2.2.2.2.2.2.2.2.2.2.2.2.2.2.2.2.2.2.2.2.2.2.2.2.2.2.1, o.2.2.2.2.2.2.2.2.2.2.2.2.2.2.2.2.2.2.2.2.2.2.2.2.2.2.2.2.2.2.2.2.2.2.2.2.2.1, o.2.2.2.2.2.2.2.2.2.2.2.2.2.2.2.2.2.2.2.2.2.2.2.2.2.2.2.2.2.2.2.2.2.2.2.2.2.2.1, o.2.2.2.2.2.2.2.2.2.2.2.2.2.2.2.2.2.2.2.2.2.2.2.2.2.2.2.2.2.2.2.2.2.2.2.2.2.2.2.1, o.2.2.2.2.2.2.2.2.2.2.2.2.2.2.2.2.2.2.2.2.2.2.2.2.2.2.2.2.2.2.2.2.2.2.2.2.2.2.2.2.1, o.2.2.2.2.2.2.2.2.2.2.2.2.2.2.2.2.2.2.2.2.2.2.2.2.2.2.2.2.2.2.2.2.2.2.2.2.2.2.2.2.2.1, o.2.2.2.2.2.2.2.2.2.2.2.2.2.2.2.2.2.2.2.2.2.2.2.2.2.2.2.2.2.2.2.2.2.2.2.2.2.2.2.2.2.2.1, o.2.2.2.2.2.2.2.2.2.2.2.2.2.2.2.2.2.2.2.2.2.2.2.2.2.2.2.2.2.2.2.2.2.2.2.2.2.2.2.2.2.2.2.1, o.2.2.2.2.2.2.2.2.2.2.2.2.2.2.2.2.2.2.2.2.2.2.2.2.2.2.2.2.2.2.2.2.2.2.2.2.2.2.2.2.2.2.2.2.1, o.2.2.2.2.2.2.2.2.2.2.2.2.2.2.2.2.2.2.2.2.2.2.2.2.2.2.2.2.2.2.2.2.2.2.2.2.2.2.2.2.2.2.2.2.2.1, o.2.2.2.2.2.2.2.2.2.2.2.2.2.2.2.2.2.2.2.2.2.2.2.2.2.2.2.2.2.2.2.2.2.2.2.2.2.2.2.2.2.2.2.2.2.2.1, o.2.2.2.2.2.2.2.2.2.2.2.2.2.2.2.2.2.2.2.2.2.2.2.2.2.2.2.2.2.2.2.2.2.2.2.2.2.2.2.2.2.2.2.2.2.2.2)
def s_argA (o : Ob) (v : List Int32) : Ob := (o.1, o.2.1, o.2.2.1, o.2.2.2.1, o.2.2.2.2.1, o.2.2.2.2.2.1, o.2.2.2.2.2.2.1, o.2.2.2.2.2.2.2.1, o.2.2.2.2.2.2.2.2.1, o.2.2.2.2.2.2.2.2.2.1, o.2.2.2.2.2.2.2.2.2.2.1, o.2.2.2.2.2.2.2.2.2.2.2.1, o.2.2.2.2.2.2.2.2.2.2.2.2.1, o.2.2.2.2.2.2.2.2.2.2.2.2.2.1, o.2.2.2.2.2.2.2.2.2.2.2.2.2.2.1, o.2.2.2.2.2.2.2.2.2.2.2.2.2.2.2.1, o.2.2.2.2.2.2.2.2.2.2.2.2.2.2.2.2.1, o.2.2.2.2.2.2.2.2.2.2.2.2.2.2.2.2.2.1, o.2.2.2.2.2.2.2.2.2.2.2.2.2.2.2.2.2.2.1, o.2.2.2.2.2.2.2.2.2.2.2.2.2.2.2.2.2.2.2.1, o.2.2.2.2.2.2.2.2.2.2.2.2.2.2.2.2.2.2.2.2.1, o.2.2.2.2.2.2.2.2.2.2.2.2.2.2.2.2.2.2.2.2.2.1, o.2.2.2.2.2.2.2.2.2.2.2.2.2.2.2.2.2.2.2.2.2.2.1, v, o.2.2.2.2.2.2.2.2.2.2.2.2.2.2.2.2.2.2.2.2.2.2.2.2.1, o.2.2.2.2.2.2.2.2.2.2.2.2.2.2.2.2.2.2.2.2.2.2.2.2.2.1, o.2.2.2.2.2.2.2.2.2.2.2.2.2.2.2.2.2.2.2.2.2.2.2.2.2.2.1, o.2.2.2.2.2.2.2.2.2.2.2.2.2.2.2.2.2.2.2.2.2.2.2.2.2.2.2.1, o.2.2.2.2.2.2.2.2.2.2.2.2.2.2.2.2.2.2.2.2.2.2.2.2.2.2.2.2.1, o.2.2.2.2.2.2.2.2.2.2.2.2.2.2.2.2.2.2.2.2.2.2.2.2.2.2.2.2.2.1, o.2.2.2.2.2.2.2.2.2.2.2.2.2.2.2.2.2.2.2.2.2.2.2.2.2.2.2.2.2.2.1, o.2.2.2.2.2.2.2.2.2.2.2.2.2.2.2.2.2.2.2.2.2.2.2.2.2.2.2.2.2.2.2.1, o.2.2.2.2.2.2.2.2.2.2.2.2.2.2.2.2.2.2.2.2.2.2.2.2.2.2.2.2.2.2.2.2.1, o.2.2.2.2.2.2.2.2.2.2.2.2.2.2.2.2.2.2.2.2.2.2.2.2.2.2.2.2.2.2.2.2.2.1, o.2.2.2.2.2.2.2.2.2.2.2.2.2.2.2.2.2.2.2.2.2.2.2.2.2.2.2.2.2.2.2.2.2.2.1, o.2.2.2.2.2.2.2.2.2.2.2.2.2.2.2.2.2.2.2.2.2.2.2.2.2.2.2.2.2.2.2.2.2.2.2.1, o.2.2.2.2.2.2.2.2.2.2.2.2.2.2.2.2.2.2.2.2.2.2.2.2.2.2.2.2.2.2.2.2.2.2.2.2.1, o.2.2.2.2.2.2.2.2.2.2.2.2.2.2.2.2.2.2.2.2.2.2.2.2.2.2.2.2.2.2.2.2.2.2.2.2.2.1, o.2.2.2.2.2.2.2.2.2.2.2.2.2.2.2.2.2.2.2.2.2.2.2.2.2.2.2.2.2.2.2.2.2.2.2.2.2.2.1, o.2.2.2.2.2.2.2.2.2.2.2.2.2.2.2.2.2.2.2.2.2.2.2.2.2.2.2.2.2.2.2.2.2.2.2.2.2.2.2.1, o.2.2.2.2.2.2.2.2.2.2.2.2.2.2.2.2.2.2.2.2.2.2.2.2.2.2.2.2.2.2.2.2.2.2.2.2.2.2.2.2.1, o.2.2.2.2.2.2.2.2.2.2.2.2.2.2.2.2.2.2.2.2.2.2.2.2.2.2.2.2.2.2.2.2.2.2.2.2.2.2.2.2.2.1, o.2.2.2.2.2.2.2.2.2.2.2.2.2.2.2.2.2.2.2.2.2.2.2.2.2.2.2.2.2.2.2.2.2.2.2.2.2.2.2.2.2.2.1, o.2.2.2.2.2.2.2.2.2.2.2.2.2.2.2.2.2.2.2.2.2.2.2.2.2.2.2.2.2.2.2.2.2.2.2.2.2.2.2.2.2.2.2.1, o.2.2.2.2.2.2.2.2.2.2.2.2.2.2.2.2.2.2.2.2.2.2.2.2.2.2.2.2.2.2.2.2.2.2.2.2.2.2.2.2.2.2.2.2.1, o.2.2.2.2.2.2.2.2.2.2.2.2.2.2.2.2.2.2.2.2.2.2.2.2.2.2.2.2.2.2.2.2.2.2.2.2.2.2.2.2.2.2.2.2.2.1, o.2.2.2.2.2.2.2.2.2.2.2.2.2.2.2.2.2.2.2.2.2.2.2.2.2.2.2.2.2.2.2.2.2.2.2.2.2.2.2.2.2.2.2.2.2.2.1, o.2.2.2.2.2.2.2.2.2.2.2.2.2.2.2.2.2.2.2.2.2.2.2.2.2.2.2.2.2.2.2.2.2.2.2.2.2.2.2.2.2.2.2.2.2.2.2)
def s_argB (o : Ob) (v : List Int32) : Ob := (o.1, o.2.1, o.2.2.1, o.2.2.2.1, o.2.2.2.2.1, o.2.2.2.2.2.1, o.2.2.2.2.2.2.1, o.2.2.2.2.2.2.2.1, o.2.2.2.2.2.2.2.2.1, o.2.2.2.2.2.2.2.2.2.1, o.2.2.2.2.2.2.2.2.2.2.1, o.2.2.2.2.2.2.2.2.2.2.2.1, o.2.2.2.2.2.2.2.2.2.2.2.2.1, o.2.2.2.2.2.2.2.2.2.2.2.2.2.1, o.2.2.2.2.2.2.2.2.2.2.2.2.2.2.1, o.2.2.2.2.2.2.2.2.2.2.2.2.2.2.2.1, o.2.2.2.2.2.2.2.2.2.2.2.2.2.2.2.2.1, o.2.2.2.2.2.2.2.2.2.2.2.2.2.2.2.2.2.1, o.2.2.2.2.2.2.2.2.2.2.2.2.2.2.2.2.2.2.1, o.2.2.2.2.2.2.2.2.2.2.2.2.2.2.2.2.2.2.2.1, o.2.2.2.2.2.2.2.2.2.2.2.2.2.2.2.2.2.2.2.2.1, o.2.2.2.2.2.2.2.2.2.2.2.2.2.2.2.2.2.2.2.2.2.1, o.2.2.2.2.2.2.2.2.2.2.2.2.2.2.2.2.2.2.2.2.2.2.1, o.2.2.2.2.2.2.2.2.2.2.2.2.2.2.2.2.2.2.2.2.2.2.2.1, v, o.2.2.2.2.2.2.2.2.2.2.2.2.2.2.2.2.2.2.2.2.2.2.2.2.2.1, o.2.2.2.2.2.2.2.2.2.2.2.2.2.2.2.2.2.2.2.2.2.2.2.2.2.2.1, o.2.2.2.2.2.2.2.2.2.2.2.2.2.2.2.2.2.2.2.2.2.2.2.2.2.2.2.1, o.2.2.2.2.2.2.2.2.2.2.2.2.2.2.2.2.2.2.2.2.2.2.2.2.2.2.2.2.1, o.2.2.2.2.2.2.2.2.2.2.2.2.2.2.2.2.2.2.2.2.2.2.2.2.2.2.2.2.2.1, o.2.2.2.2.2.2.2.2.2.2.2.2.2.2.2.2.2.2.2.2.2.2.2.2.2.2.2.2.2.2.1, o.2.2.2.2.2.2.2.2.2.2.2.2.2.2.2.2.2.2.2.2.2.2.2.2.2.2.2.2.2.2.2.1, o.2.2.2.2.2.2.2.2.2.2.2.2.2.2.2.2.2.2.2.2.2.2.2.2.2.2.2.2.2.2.2.2.1, o.2.2.2.2.2.2.2.2.2.2.2.2.2.2.2.2.2.2.2.2.2.2.2.2.2.2.2.2.2.2.2.2.2.1, o.2.2.2.2.2.2.2.2.2.2.2.2.2.2.2.2.2.2.2.2.2.2.2.2.2.2.2.2.2.2.2.2.2.2.1, o.2.2.2.2.2.2.2.2.2.2.2.2.2.2.2.2.2.2.2.2.2.2.2.2.2.2.2.2.2.2.2.2.2.2.2.1, o.2.2.2.2.2.2.2.2.2.2.2.2.2.2.2.2.2.2.2.2.2.2.2.2.2.2.2.2.2.2.2.2.2.2.2.2.1, o.2.2.2.2.2.2.2.2.2.2.2.2.2.2.2.2.2.2.2.2.2.2.2.2.2.2.2.2.2.2.2.2.2.2.2.2.2.1, o.2.2.2.2.2.2.2.2.2.2.2.2.2.2.2.2.2.2.2.2.2.2.2.2.2.2.2.2.2.2.2.2.2.2.2.2.2.2.1, o.2.2.2.2.2.2.2.2.2.2.2.2.2.2.2.2.2.2.2.2.2.2.2.2.2.2.2.2.2.2.2.2.2.2.2.2.2.2.2.1, o.2.2.2.2.2.2.2.2.2.2.2.2.2.2.2.2.2.2.2.2.2.2.2.2.2.2.2.2.2.2.2.2.2.2.2.2.2.2.2.2.1, o.2.2.2.2.2.2.2.2.2.2.2.2.2.2.2.2.2.2.2.2.2.2.2.2.2.2.2.2.2.2.2.2.2.2.2.2.2.2.2.2.2.1, o.2.2.2.2.2.2.2.2.2.2.2.2.2.2.2.2.2.2.2.2.2.2.2.2.2.2.2.2.2.2.2.2.2.2.2.2.2.2.2.2.2.2.1, o.2.2.2.2.2.2.2.2.2.2.2.2.2.2.2.2.2.2.2.2.2.2.2.2.2.2.2.2.2.2.2.2.2.2.2.2.2.2.2.2.2.2.2.1, o.2.2.2.2.2.2.2.2.2.2.2.2.2.2.2.2.2.2.2.2.2.2.2.2.2.2.2.2.2.2.2.2.2.2.2.2.2.2.2.2.2.2.2.2.1, o.2.2.2.2.2.2.2.2.2.2.2.2.2.2.2.2.2.2.2.2.2.2.2.2.2.2.2.2.2.2.2.2.2.2.2.2.2.2.2.2.2.2.2.2.2.1, o.2.2.2.2.2.2.2.2.2.2.2.2.2.2.2.2.2.2.2.2.2.2.2.2.2.2.2.2.2.2.2.2.2.2.2.2.2.2.2.2.2.2.2.2.2.2.1, o.2.2.2.2.2.2.2.2.2.2.2.2.2.2.2.2.2.2.2.2.2.2.2.2.2.2.2.2.2.2.2.2.2.2.2.2.2.2.2.2.2.2.2.2.2.2.2)
def s_argC (o : Ob) (v : List Int32) : Ob := (o.1, o.2.1, o.2.2.1, o.2.2.2.1, o.2.2.2.2.1, o.2.2.2.2.2.1, o.2.2.2.2.2.2.1, o.2.2.2.2.2.2.2.1, o.2.2.2.2.2.2.2.2.1, o.2.2.2.2.2.2.2.2.2.1, o.2.2.2.2.2.2.2.2.2.2.1, o.2.2.2.2.2.2.2.2.2.2.2.1, o.2.2.2.2.2.2.2.2.2.2.2.2.1, o.2.2.2.2.2.2.2.2.2.2.2.2.2.1, o.2.2.2.2.2.2.2.2.2.2.2.2.2.2.1, o.2.2.2.2.2.2.2.2.2.2.2.2.2.2.2.1, o.2.2.2.2.2.2.2.2.2.2.2.2.2.2.2.2.1, o.2.2.2.2.2.2.2.2.2.2.2.2.2.2.2.2.2.1, o.2.2.2.2.2.2.2.2.2.2.2.2.2.2.2.2.2.2.1, o.2.2.2.2.2.2.2.2.2.2.2.2.2.2.2.2.2.2.2.1, o.2.2.2.2.2.2.2.2.2.2.2.2.2.2.2.2.2.2.2.2.1, o.2.2.2.2.2.2.2.2.2.2.2.2.2.2.2.2.2.2.2.2.2.1, o.2.2.2.2.2.2.2.2.2.2.2.2.2.2.2.2.2.2.2.2.2.2.1, o.2.2.2.2.2.2.2.2.2.2.2.2.2.2.2.2.2.2.2.2.2.2.2.1, o.2.2.2.2.2.2.2.2.2.2.2.2.2.2.2.2.2.2.2.2.2.2.2.2.1, v, o.2.2.2.2.2.2.2.2.2.2.2.2.2.2.2.2.2.2.2.2.2.2.2.2.2.2.1, o.2.2.2.2.2.2.2.2.2.2.2.2.2.2.2.2.2.2.2.2.2.2.2.2.2.2.2.1, o.2.2.2.2.2.2.2.2.2.2.2.2.2.2.2.2.2.2.2.2.2.2.2.2.2.2.2.2.1, o.2.2.2.2.2.2.2.2.2.2.2.2.2.2.2.2.2.2.2.2.2.2.2.2.2.2.2.2.2.1, o.2.2.2.2.2.2.2.2.2.2.2.2.2.2.2.2.2.2.2.2.2.2.2.2.2.2.2.2.2.2.1, o.2.2.2.2.2.2.2.2.2.2.2.2.2.2.2.2.2.2.2.2.2.2.2.2.2.2.2.2.2.2.2.1, o.2.2.2.2.2.2.2.2.2.2.2.2.2.2.2.2.2.2.2.2.2.2.2.2.2.2.2.2.2.2.2.2.1, o.2.2.2.2.2.2.2.2.2.2.2.2.2.2.2.2.2.2.2.2.2.2.2.2.2.2.2.2.2.2.2.2.2.1, o.2.2.2.2.2.2.2.2.2.2.2.2.2.2.2.2.2.2.2.2.2.2.2.2.2.2.2.2.2.2.2.2.2.2.1, o.2.2.2.2.2.2.2.2.2.2.2.2.2.2.2.2.2.2.2.2.2.2.2.2.2.2.2.2.2.2.2.2.2.2.2.1, o.2.2.2.2.2.2.2.2.2.2.2.2.2.2.2.2.2.2.2.2.2.2.2.2.2.2.2.2.2.2.2.2.2.2.2.2.1, o.2.2.2.2.2.2.2.2.2.2.2.2.2.2.2.2.2.2.2.2.2.2.2.2.2.2.2.2.2.2.2.2.2.2.2.2.2.1, o.2.2.2.2.2.2.2.2.2.2.2.2.2.2.2.2.2.2.2.2.2.2.2.2.2.2.2.2.2.2.2.2.2.2.2.2.2.2.1, o.2.2.2.2.2.2.2.2.2.2.2.2.2.2.2.2.2.2.2.2.2.2.2.2.2.2.2.2.2.2.2.2.2.2.2.2.2.2.2.1, o.2.2.2.2.2.2.2.2.2.2.2.2.2.2.2.2.2.2.2.2.2.2.2.2.2.2.2.2.2.2.2.2.2.2.2.2.2.2.2.2.1, o.2.2.2.2.2.2.2.2.2.2.2.2.2.2.2.2.2.2.2.2.2.2.2.2.2.2.2.2.2.2.2.2.2.2.2.2.2.2.2.2.2.1, o.2.2.2.2.2.2.2.2.2.2.2.2.2.2.2.2.2.2.2.2.2.2.2.2.2.2.2.2.2.2.2.2.2.2.2.2.2.2.2.2.2.2.1, o.2.2.2.2.2.2.2.2.2.2.2.2.2.2.2.2.2.2.2.2.2.2.2.2.2.2.2.2.2.2.2.2.2.2.2.2.2.2.2.2.2.2.2.1, o.2.2.2.2.2.2.2.2.2.2.2.2.2.2.2.2.2.2.2.2.2.2.2.2.2.2.2.2.2.2.2.2.2.2.2.2.2.2.2.2.2.2.2.2.1, o.2.2.2.2.2.2.2.2.2.2.2.2.2.2.2.2.2.2.2.2.2.2.2.2.2.2.2.2.2.2.2.2.2.2.2.2.2.2.2.2.2.2.2.2.2.1, o.2.2.2.2.2.2.2.2.2.2.2.2.2.2.2.2.2.2.2.2.2.2.2.2.2.2.2.2.2.2.2.2.2.2.2.2.2.2.2.2.2.2.2.2.2.2.1, o.2.2.2.2.2.2.2.2.2.2.2.2.2.2.2.2.2.2.2.2.2.2.2.2.2.2.2.2.2.2.2.2.2.2.2.2.2.2.2.2.2.2.2.2.2.2.2)
def s_argD (o : Ob) (v : List Int32) : Ob := (o.1, o.2.1, o.2.2.1, o.2.2.2.1, o.2.2.2.2.1, o.2.2.2.2.2.1, o.2.2.2.2.2.2.1, o.2.2.2.2.2.2.2.1, o.2.2.2.2.2.2.2.2.1, o.2.2.2.2.2.2.2.2.2.1, o.2.2.2.2.2.2.2.2.2.2.1, o.2.2.2.2.2.2.2.2.2.2.2.1, o.2.2.2.2.2.2.2.2.2.2.2.2.1, o.2.2.2.2.2.2.2.2.2.2.2.2.2.1, o.2.2.2.2.2.2.2.2.2.2.2.2.2.2.1, o.2.2.2.2.2.2.2.2.2.2.2.2.2.2.2.1, o.2.2.2.2.2.2.2.2.2.2.2.2.2.2.2.2.1, o.2.2.2.2.2.2.2.2.2.2.2.2.2.2.2.2.2.1, o.2.2.2.2.2.2.2.2.2.2.2.2.2.2.2.2.2.2.1, o.2.2.2.2.2.2.2.2.2.2.2.2.2.2.2.2.2.2.2.1, o.2.2.2.2.2.2.2.2.2.2.2.2.2.2.2.2.2.2.2.2.1, o.2.2.2.2.2.2.2.2.2.2.2.2.2.2.2.2.2.2.2.2.2.1, o.2.2.2.2.2.2.2.2.2.2.2.2.2.2.2.2.2.2.2.2.2.2.1, o.2.2.2.2.2.2.2.2.2.2.2.2.2.2.2.2.2.2.2.2.2.2.2.1, o.2.2.2.2.2.2.2.2.2.2.2.2.2.2.2.2.2.2.2.2.2.2.2.2.1, o.2.2.2.2.2.2.2.2.2.2.2.2.2.2.2.2.2.2.2.2.2.2.2.2.2.1, v, o.2.2.2.2.2.2.2.2.2.2.2.2.2.2.2.2.2.2.2.2.2.2.2.2.2.2.2.1, o.2.2.2.2.2.2.2.2.2.2.2.2.2.2.2.2.2.2.2.2.2.2.2.2.2.2.2.2.1, o.2.2.2.2.2.2.2.2.2.2.2.2.2.2.2.2.2.2.2.2.2.2.2.2.2.2.2.2.2.1, o.2.2.2.2.2.2.2.2.2.2.2.2.2.2.2.2.2.2.2.2.2.2.2.2.2.2.2.2.2.2.1, o.2.2.2.2.2.2.2.2.2.2.2.2.2.2.2.2.2.2.2.2.2.2.2.2.2.2.2.2.2.2.2.1, o.2.2.2.2.2.2.2.2.2.2.2.2.2.2.2.2.2.2.2.2.2.2.2.2.2.2.2.2.2.2.2.2.1, o.2.2.2.2.2.2.2.2.2.2.2.2.2.2.2.2.2.2.2.2.2.2.2.2.2.2.2.2.2.2.2.2.2.1, o.2.2.2.2.2.2.2.2.2.2.2.2.2.2.2.2.2.2.2.2.2.2.2.2.2.2.2.2.2.2.2.2.2.2.1, o.2.2.2.2.2.2.2.2.2.2.2.2.2.2.2.2.2.2.2.2.2.2.2.2.2.2.2.2.2.2.2.2.2.2.2.1, o.2.2.2.2.2.2.2.2.2.2.2.2.2.2.2.2.2.2.2.2.2.2.2.2.2.2.2.2.2.2.2.2.2.2.2.2.1, o.2.2.2.2.2.2.2.2.2.2.2.2.2.2.2.2.2.2.2.2.2.2.2.2.2.2.2.2.2.2.2.2.2.2.2.2.2.1, o.2.2.2.2.2.2.2.2.2.2.2.2.2.2.2.2.2.2.2.2.2.2.2.2.2.2.2.2.2.2.2.2.2.2.2.2.2.2.1, o.2.2.2.2.2.2.2.2.2.2.2.2.2.2.2.2.2.2.2.2.2.2.2.2.2.2.2.2.2.2.2.2.2.2.2.2.2.2.2.1, o.2.2.2.2.2.2.2.2.2.2.2.2.2.2.2.2.2.2.2.2.2.2.2.2.2.2.2.2.2.2.2.2.2.2.2.2.2.2.2.2.1, o.2.2.2.2.2.2.2.2.2.2.2.2.2.2.2.2.2.2.2.2.2.2.2.2.2.2.2.2.2.2.2.2.2.2.2.2.2.2.2.2.2.1, o.2.2.2.2.2.2.2.2.2.2.2.2.2.2.2.2.2.2.2.2.2.2.2.2.2.2.2.2.2.2.2.2.2.2.2.2.2.2.2.2.2.2.1, o.2.2.2.2.2.2.2.2.2.2.2.2.2.2.2.2.2.2.2.2.2.2.2.2.2.2.2.2.2.2.2.2.2.2.2.2.2.2.2.2.2.2.2.1, o.2.2.2.2.2.2.2.2.2.2.2.2.2.2.2.2.2.2.2.2.2.2.2.2.2.2.2.2.2.2.2.2.2.2.2.2.2.2.2.2.2.2.2.2.1, o.2.2.2.2.2.2.2.2.2.2.2.2.2.2.2.2.2.2.2.2.2.2.2.2.2.2.2.2.2.2.2.2.2.2.2.2.2.2.2.2.2.2.2.2.2.1, o.2.2.2.2.2.2.2.2.2.2.2.2.2.2.2.2.2.2.2.2.2.2.2.2.2.2.2.2.2.2.2.2.2.2.2.2.2.2.2.2.2.2.2.2.2.2.1, o.2.2.2.2.2.2.2.2.2.2.2.2.2.2.2.2.2.2.2.2.2.2.2.2.2.2.2.2.2.2.2.2.2.2.2.2.2.2.2.2.2.2.2.2.2.2.2)
def s_tablePool (o : Ob) (v : List Int32) : Ob := (o.1, o.2.1, o.2.2.1, o.2.2.2.1, o.2.2.2.2.1, o.2.2.2.2.2.1, o.2.2.2.2.2.2.1, o.2.2.2.2.2.2.2.1, o.2.2.2.2.2.2.2.2.1, o.2.2.2.2.2.2.2.2.2.1, o.2.2.2.2.2.2.2.2.2.2.1, o.2.2.2.2.2.2.2.2.2.2.2.1, o.2.2.2.2.2.2.2.2.2.2.2.2.1, o.2.2.2.2.2.2.2.2.2.2.2.2.2.1, o.2.2.2.2.2.2.2.2.2.2.2.2.2.2.1, o.2.2.2.2.2.2.2.2.2.2.2.2.2.2.2.1, o.2.2.2.2.2.2.2.2.2.2.2.2.2.2.2.2.1, o.2.2.2.2.2.2.2.2.2.2.2.2.2.2.2.2.2.1, o.2.2.2.2.2.2.2.2.2.2.2.2.2.2.2.2.2.2.1, o.2.2.2.2.2.2.2.2.2.2.2.2.2.2.2.2.2.2.2.1, o.2.2.2.2.2.2.2.2.2.2.2.2.2.2.2.2.2.2.2.2.1, o.2.2.2.2.2.2.2.2.2.2.2.2.2.2.2.2.2.2.2.2.2.1, o.2.2.2.2.2.2.2.2.2.2.2.2.2.2.2.2.2.2.2.2.2.2.1, o.2.2.2.2.2.2.2.2.2.2.2.2.2.2.2.2.2.2.2.2.2.2.2.1, o.2.2.2.2.2.2.2.2.2.2.2.2.2.2.2.2.2.2.2.2.2.2.2.2.1, o.2.2.2.2.2.2.2.2.2.2.2.2.2.2.2.2.2.2.2.2.2.2.2.2.2.1, o.2.2.2.2.2.2.2.2.2.2.2.2.2.2.2.2.2.2.2.2.2.2.2.2.2.2.1, v, o.2.2.2.2.2.2.2.2.2.2.2.2.2.2.2.2.2.2.2.2.2.2.2.2.2.2.2.2.1, o.2.2.2.2.2.2.2.2.2.2.2.2.2.2.2.2.2.2.2.2.2.2.2.2.2.2.2.2.2.1, o.2.2.2.2.2.2.2.2.2.2.2.2.2.2.2.2.2.2.2.2.2.2.2.2.2.2.2.2.2.2.1, o.2.2.2.2.2.2.2.2.2.2.2.2.2.2.2.2.2.2.2.2.2.2.2.2.2.2.2.2.2.2.2.1, o.2.2.2.2.2.2.2.2.2.2.2.2.2.2.2.2.2.2.2.2.2.2.2.2.2.2.2.2.2.2.2.2.1, o.2.2.2.2.2.2.2.2.2.2.2.2.2.2.2.2.2.2.2.2.2.2.2.2.2.2.2.2.2.2.2.2.2.1, o.2.2.2.2.2.2.2.2.2.2.2.2.2.2.2.2.2.2.2.2.2.2.2.2.2.2.2.2.2.2.2.2.2.2.1, o.2.2.2.2.2.2.2.2.2.2.2.2.2.2.2.2.2.2.2.2.2.2.2.2.2.2.2.2.2.2.2.2.2.2.2.1, o.2.2.2.2.2.2.2.2.2.2.2.2.2.2.2.2.2.2.2.2.2.2.2.2.2.2.2.2.2.2.2.2.2.2.2.2.1, o.2.2.2.2.2.2.2.2.2.2.2.2.2.2.2.2.2.2.2.2.2.2.2.2.2.2.2.2.2.2.2.2.2.2.2.2.2.1, o.2.2.2.2.2.2.2.2.2.2.2.2.2.2.2.2.2.2.2.2.2.2.2.2.2.2.2.2.2.2.2.2.2.2.2.2.2.2.1, o.2.2.2.2.2.2.2.2.2.2.2.2.2.2.2.2.2.2.2.2.2.2.2.2.2.2.2.2.2.2.2.2.2.2.2.2.2.2.2.1, o.2.2.2.2.2.2.2.2.2.2.2.2.2.2.2.2.2.2.2.2.2.2.2.2.2.2.2.2.2.2.2.2.2.2.2.2.2.2.2.2.1, o.2.2.2.2.2.2.2.2.2.2.2.2.2.2.2.2.2.2.2.2.2.2.2.2.2.2.2.2.2.2.2.2.2.2.2.2.2.2.2.2.2.1, o.2.2.2.2.2.2.2.2.2.2.2.2.2.2.2.2.2.2.2.2.2.2.2.2.2.2.2.2.2.2.2.2.2.2.2.2.2.2.2.2.2.2.1, o.2.2.2.2.2.2.2.2.2.2.2.2.2.2.2.2.2.2.2.2.2.2.2.2.2.2.2.2.2.2.2.2.2.2.2.2.2.2.2.2.2.2.2.1, o.2.2.2.2.2.2.2.2.2.2.2.2.2.2.2.2.2.2.2.2.2.2.2.2.2.2.2.2.2.2.2.2.2.2.2.2.2.2.2.2.2.2.2.2.1, o.2.2.2.2.2.2.2.2.2.2.2.2.2.2.2.2.2.2.2.2.2.2.2.2.2.2.2.2.2.2.2.2.2.2.2.2.2.2.2.2.2.2.2.2.2.1, o.2.2.2.2.2.2.2.2.2.2.2.2.2.2.2.2.2.2.2.2.2.2.2.2.2.2.2.2.2.2.2.2.2.2.2.2.2.2.2.2.2.2.2.2.2.2.1, o.2.2.2.2.2.2.2.2.2.2.2.2.2.2.2.2.2.2.2.2.2.2.2.2.2.2.2.2.2.2.2.2.2.2.2.2.2.2.2.2.2.2.2.2.2.2.2)
def s_maskPool (o : Ob) (v : List Int64) : Ob := (o.1, o.2.1, o.2.2.1, o.2.2.2.1, o.2.2.2.2.1, o.2.2.2.2.2.1, o.2.2.2.2.2.2.1, o.2.2.2.2.2.2.2.1, o.2.2.2.2.2.2.2.2.1, o.2.2.2.2.2.2.2.2.2.1, o.2.2.2.2.2.2.2.2.2.2.1, o.2.2.2.2.2.2.2.2.2.2.2.1, o.2.2.2.2.2.2.2.2.2.2.2.2.1, o.2.2.2.2.2.2.2.2.2.2.2.2.2.1, o.2.2.2.2.2.2.2.2.2.2.2.2.2.2.1, o.2.2.2.2.2.2.2.2.2.2.2.2.2.2.2.1, o.2.2.2.2.2.2.2.2.2.2.2.2.2.2.2.2.1, o.2.2.2.2.2.2.2.2.2.2.2.2.2.2.2.2.2.1, o.2.2.2.2.2.2.2.2.2.2.2.2.2.2.2.2.2.2.1, o.2.2.2.2.2.2.2.2.2.2.2.2.2.2.2.2.2.2.2.1, o.2.2.2.2.2.2.2.2.2.2.2.2.2.2.2.2.2.2.2.2.1, o.2.2.2.2.2.2.2.2.2.2.2.2.2.2.2.2.2.2.2.2.2.1, o.2.2.2.2.2.2.2.2.2.2.2.2.2.2.2.2.2.2.2.2.2.2.1, o.2.2.2.2.2.2.2.2.2.2.2.2.2.2.2.2.2.2.2.2.2.2.2.1, o.2.2.2.2.2.2.2.2.2.2.2.2.2.2.2.2.2.2.2.2.2.2.2.2.1, o.2.2.2.2.2.2.2.2.2.2.2.2.2.2.2.2.2.2.2.2.2.2.2.2.2.1, o.2.2.2.2.2.2.2.2.2.2.2.2.2.2.2.2.2.2.2.2.2.2.2.2.2.2.1, o.2.2.2.2.2.2.2.2.2.2.2.2.2.2.2.2.2.2.2.2.2.2.2.2.2.2.2.1, v, o.2.2.2.2.2.2.2.2.2.2.2.2.2.2.2.2.2.2.2.2.2.2.2.2.2.2.2.2.2.1, o.2.2.2.2.2.2.2.2.2.2.2.2.2.2.2.2.2.2.2.2.2.2.2.2.2.2.2.2.2.2.1, o.2.2.2.2.2.2.2.2.2.2.2.2.2.2.2.2.2.2.2.2.2.2.2.2.2.2.2.2.2.2.2.1, o.2.2.2.2.2.2.2.2.2.2.2.2.2.2.2.2.2.2.2.2.2.2.2.2.2.2.2.2.2.2.2.2.1, o.2.2.2.2.2.2.2.2.2.2.2.2.2.2.2.2.2.2.2.2.2.2.2.2.2.2.2.2.2.2.2.2.2.1, o.2.2.2.2.2.2.2.2.2.2.2.2.2.2.2.2.2.2.2.2.2.2.2.2.2.2.2.2.2.2.2.2.2.2.1, o.2.2.2.2.2.2.2.2.2.2.2.2.2.2.2.2.2.2.2.2.2.2.2.2.2.2.2.2.2.2.2.2.2.2.2.1, o.2.2.2.2.2.2.2.2.2.2.2.2.2.2.2.2.2.2.2.2.2.2.2.2.2.2.2.2.2.2.2.2.2.2.2.2.1, o.2.2.2.2.2.2.2.2.2.2.2.2.2.2.2.2.2.2.2.2.2.2.2.2.2.2.2.2.2.2.2.2.2.2.2.2.2.1, o.2.2.2.2.2.2.2.2.2.2.2.2.2.2.2.2.2.2.2.2.2.2.2.2.2.2.2.2.2.2.2.2.2.2.2.2.2.2.1, o.2.2.2.2.2.2.2.2.2.2.2.2.2.2.2.2.2.2.2.2.2.2.2.2.2.2.2.2.2.2.2.2.2.2.2.2.2.2.2.1, o.2.2.2.2.2.2.2.2.2.2.2.2.2.2.2.2.2.2.2.2.2.2.2.2.2.2.2.2.2.2.2.2.2.2.2.2.2.2.2.2.1, o.2.2.2.2.2.2.2.2.2.2.2.2.2.2.2.2.2.2.2.2.2.2.2.2.2.2.2.2.2.2.2.2.2.2.2.2.2.2.2.2.2.1, o.2.2.2.2.2.2.2.2.2.2.2.2.2.2.2.2.2.2.2.2.2.2.2.2.2.2.2.2.2.2.2.2.2.2.2.2.2.2.2.2.2.2.1, o.2.2.2.2.2.2.2.2.2.2.2.2.2.2.2.2.2.2.2.2.2.2.2.2.2.2.2.2.2.2.2.2.2.2.2.2.2.2.2.2.2.2.2.1, o.2.2.2.2.2.2.2.2.2.2.2.2.2.2.2.2.2.2.2.2.2.2.2.2.2.2.2.2.2.2.2.2.2.2.2.2.2.2.2.2.2.2.2.2.1, o.2.2.2.2.2.2.2.2.2.2.2.2.2.2.2.2.2.2.2.2.2.2.2.2.2.2.2.2.2.2.2.2.2.2.2.2.2.2.2.2.2.2.2.2.2.1, o.2.2.2.2.2.2.2.2.2.2.2.2.2.2.2.2.2.2.2.2.2.2.2.2.2.2.2.2.2.2.2.2.2.2.2.2.2.2.2.2.2.2.2.2.2.2.1, o.2.2.2.2.2.2.2.2.2.2.2.2.2.2.2.2.2.2.2.2.2.2.2.2.2.2.2.2.2.2.2.2.2.2.2.2.2.2.2.2.2.2.2.2.2.2.2)
def s_maskTarget (o : Ob) (v : List Int32) : Ob := (o.1, o.2.1, o.2.2.1, o.2.2.2.1, o.2.2.2.2.1, o.2.2.2.2.2.1, o.2.2.2.2.2.2.1, o.2.2.2.2.2.2.2.1, o.2.2.2.2.2.2.2.2.1, o.2.2.2.2.2.2.2.2.2.1, o.2.2.2.2.2.2.2.2.2.2.1, o.2.2.2.2.2.2.2.2.2.2.2.1, o.2.2.2.2.2.2.2.2.2.2.2.2.1, o.2.2.2.2.2.2.2.2.2.2.2.2.2.1, o.2.2.2.2.2.2.2.2.2.2.2.2.2.2.1, o.2.2.2.2.2.2.2.2.2.2.2.2.2.2.2.1, o.2.2.2.2.2.2.2.2.2.2.2.2.2.2.2.2.1, o.2.2.2.2.2.2.2.2.2.2.2.2.2.2.2.2.2.1, o.2.2.2.2.2.2.2.2.2.2.2.2.2.2.2.2.2.2.1, o.2.2.2.2.2.2.2.2.2.2.2.2.2.2.2.2.2.2.2.1, o.2.2.2.2.2.2.2.2.2.2.2.2.2.2.2.2.2.2.2.2.1, o.2.2.2.2.2.2.2.2.2.2.2.2.2.2.2.2.2.2.2.2.2.1, o.2.2.2.2.2.2.2.2.2.2.2.2.2.2.2.2.2.2.2.2.2.2.1, o.2.2.2.2.2.2.2.2.2.2.2.2.2.2.2.2.2.2.2.2.2.2.2.1, o.2.2.2.2.2.2.2.2.2.2.2.2.2.2.2.2.2.2.2.2.2.2.2.2.1, o.2.2.2.2.2.2.2.2.2.2.2.2.2.2.2.2.2.2.2.2.2.2.2.2.2.1, o.2.2.2.2.2.2.2.2.2.2.2.2.2.2.2.2.2.2.2.2.2.2.2.2.2.2.1, o.2.2.2.2.2.2.2.2.2.2.2.2.2.2.2.2.2.2.2.2.2.2.2.2.2.2.2.1, o.2.2.2.2.2.2.2.2.2.2.2.2.2.2.2.2.2.2.2.2.2.2.2.2.2.2.2.2.1, v, o.2.2.2.2.2.2.2.2.2.2.2.2.2.2.2.2.2.2.2.2.2.2.2.2.2.2.2.2.2.2.1, o.2.2.2.2.2.2.2.2.2.2.2.2.2.2.2.2.2.2.2.2.2.2.2.2.2.2.2.2.2.2.2.1, o.2.2.2.2.2.2.2.2.2.2.2.2.2.2.2.2.2.2.2.2.2.2.2.2.2.2.2.2.2.2.2.2.1, o.2.2.2.2.2.2.2.2.2.2.2.2.2.2.2.2.2.2.2.2.2.2.2.2.2.2.2.2.2.2.2.2.2.1, o.2.2.2.2.2.2.2.2.2.2.2.2.2.2.2.2.2.2.2.2.2.2.2.2.2.2.2.2.2.2.2.2.2.2.1, o.2.2.2.2.2.2.2.2.2.2.2.2.2.2.2.2.2.2.2.2.2.2.2.2.2.2.2.2.2.2.2.2.2.2.2.1, o.2.2.2.2.2.2.2.2.2.2.2.2.2.2.2.2.2.2.2.2.2.2.2.2.2.2.2.2.2.2.2.2.2.2.2.2.1, o.2.2.2.2.2.2.2.2.2.2.2.2.2.2.2.2.2.2.2.2.2.2.2.2.2.2.2.2.2.2.2.2.2.2.2.2.2.1, o.2.2.2.2.2.2.2.2.2.2.2.2.2.2.2.2.2.2.2.2.2.2.2.2.2.2.2.2.2.2.2.2.2.2.2.2.2.2.1, o.2.2.2.2.2.2.2.2.2.2.2.2.2.2.2.2.2.2.2.2.2.2.2.2.2.2.2.2.2.2.2.2.2.2.2.2.2.2.2.1, o.2.2.2.2.2.2.2.2.2.2.2.2.2.2.2.2.2.2.2.2.2.2.2.2.2.2.2.2.2.2.2.2.2.2.2.2.2.2.2.2.1, o.2.2.2.2.2.2.2.2.2.2.2.2.2.2.2.2.2.2.2.2.2.2.2.2.2.2.2.2.2.2.2.2.2.2.2.2.2.2.2.2.2.1, o.2.2.2.2.2.2.2.2.2.2.2.2.2.2.2.2.2.2.2.2.2.2.2.2.2.2.2.2.2.2.2.2.2.2.2.2.2.2.2.2.2.2.1, o.2.2.2.2.2.2.2.2.2.2.2.2.2.2.2.2.2.2.2.2.2.2.2.2.2.2.2.2.2.2.2.2.2.2.2.2.2.2.2.2.2.2.2.1, o.2.2.2.2.2.2.2.2.2.2.2.2.2.2.2.2.2.2.2.2.2.2.2.2.2.2.2.2.2.2.2.2.2.2.2.2.2.2.2.2.2.2.2.2.1, o.2.2.2.2.2.2.2.2.2.2.2.2.2.2.2.2.2.2.2.2.2.2.2.2.2.2.2.2.2.2.2.2.2.2.2.2.2.2.2.2.2.2.2.2.2.1, o.2.2.2.2.2.2.2.2.2.2.2.2.2.2.2.2.2.2.2.2.2.2.2.2.2.2.2.2.2.2.2.2.2.2.2.2.2.2.2.2.2.2.2.2.2.2.1, o.2.2.2.2.2.2.2.2.2.2.2.2.2.2.2.2.2.2.2.2.2.2.2.2.2.2.2.2.2.2.2.2.2.2.2.2.2.2.2.2.2.2.2.2.2.2.2)
def s_stLo (o : Ob) (v : List Int32) : Ob := (o.1, o.2.1, o.2.2.1, o.2.2.2.1, o.2.2.2.2.1, o.2.2.2.2.2.1, o.2.2.2.2.2.2.1, o.2.2.2.2.2.2.2.1, o.2.2.2.2.2.2.2.2.1, o.2.2.2.2.2.2.2.2.2.1, o.2.2.2.2.2.2.2.2.2.2.1, o.2.2.2.2.2.2.2.2.2.2.2.1, o.2.2.2.2.2.2.2.2.2.2.2.2.1, o.2.2.2.2.2.2.2.2.2.2.2.2.2.1, o.2.2.2.2.2.2.2.2.2.2.2.2.2.2.1, o.2.2.2.2.2.2.2.2.2.2.2.2.2.2.2.1, o.2.2.2.2.2.2.2.2.2.2.2.2.2.2.2.2.1, o.2.2.2.2.2.2.2.2.2.2.2.2.2.2.2.2.2.1, o.2.2.2.2.2.2.2.2.2.2.2.2.2.2.2.2.2.2.1, o.2.2.2.2.2.2.2.2.2.2.2.2.2.2.2.2.2.2.2.1, o.2.2.2.2.2.2.2.2.2.2.2.2.2.2.2.2.2.2.2.2.1, o.2.2.2.2.2.2.2.2.2.2.2.2.2.2.2.2.2.2.2.2.2.1, o.2.2.2.2.2.2.2.2.2.2.2.2.2.2.2.2.2.2.2.2.2.2.1, o.2.2.2.2.2.2.2.2.2.2.2.2.2.2.2.2.2.2.2.2.2.2.2.1, o.2.2.2.2.2.2.2.2.2.2.2.2.2.2.2.2.2.2.2.2.2.2.2.2.1, o.2.2.2.2.2.2.2.2.2.2.2.2.2.2.2.2.2.2.2.2.2.2.2.2.2.1, o.2.2.2.2.2.2.2.2.2.2.2.2.2.2.2.2.2.2.2.2.2.2.2.2.2.2.1, o.2.2.2.2.2.2.2.2.2.2.2.2.2.2.2.2.2.2.2.2.2.2.2.2.2.2.2.1, o.2.2.2.2.2.2.2.2.2.2.2.2.2.2.2.2.2.2.2.2.2.2.2.2.2.2.2.2.1, o.2.2.2.2.2.2.2.2.2.2.2.2.2.2.2.2.2.2.2.2.2.2.2.2.2.2.2.2.2.1, v, o.2.2.2.2.2.2.2.2.2.2.2.2.2.2.2.2.2.2.2.2.2.2.2.2.2.2.2.2.2.2.2.1, o.2.2.2.2.2.2.2.2.2.2.2.2.2.2.2.2.2.2.2.2.2.2.2.2.2.2.2.2.2.2.2.2.1, o.2.2.2.2.2.2.2.2.2.2.2.2.2.2.2.2.2.2.2.2.2.2.2.2.2.2.2.2.2.2.2.2.2.1, o.2.2.2.2.2.2.2.2.2.2.2.2.2.2.2.2.2.2.2.2.2.2.2.2.2.2.2.2.2.2.2.2.2.2.1, o.2.2.2.2.2.2.2.2.2.2.2.2.2.2.2.2.2.2.2.2.2.2.2.2.2.2.2.2.2.2.2.2.2.2.2.1, o.2.2.2.2.2.2.2.2.2.2.2.2.2.2.2.2.2.2.2.2.2.2.2.2.2.2.2.2.2.2.2.2.2.2.2.2.1, o.2.2.2.2.2.2.2.2.2.2.2.2.2.2.2.2.2.2.2.2.2.2.2.2.2.2.2.2.2.2.2.2.2.2.2.2.2.1, o.2.2.2.2.2.2.2.2.2.2.2.2.2.2.2.2.2.2.2.2.2.2.2.2.2.2.2.2.2.2.2.2.2.2.2.2.2.2.1, o.2.2.2.2.2.2.2.2.2.2.2.2.2.2.2.2.2.2.2.2.2.2.2.2.2.2.2.2.2.2.2.2.2.2.2.2.2.2.2.1, o.2.2.2.2.2.2.2.2.2.2.2.2.2.2.2.2.2.2.2.2.2.2.2.2.2.2.2.2.2.2.2.2.2.2.2.2.2.2.2.2.1, o.2.2.2.2.2.2.2.2.2.2.2.2.2.2.2.2.2.2.2.2.2.2.2.2.2.2.2.2.2.2.2.2.2.2.2.2.2.2.2.2.2.1, o.2.2.2.2.2.2.2.2.2.2.2.2.2.2.2.2.2.2.2.2.2.2.2.2.2.2.2.2.2.2.2.2.2.2.2.2.2.2.2.2.2.2.1, o.2.2.2.2.2.2.2.2.2.2.2.2.2.2.2.2.2.2.2.2.2.2.2.2.2.2.2.2.2.2.2.2.2.2.2.2.2.2.2.2.2.2.2.1, o.2.2.2.2.2.2.2.2.2.2.2.2.2.2.2.2.2.2.2.2.2.2.2.2.2.2.2.2.2.2.2.2.2.2.2.2.2.2.2.2.2.2.2.2.1, o.2.2.2.2.2.2.2.2.2.2.2.2.2.2.2.2.2.2.2.2.2.2.2.2.2.2.2.2.2.2.2.2.2.2.2.2.2.2.2.2.2.2.2.2.2.1, o.2.2.2.2.2.2.2.2.2.2.2.2.2.2.2.2.2.2.2.2.2.2.2.2.2.2.2.2.2.2.2.2.2.2.2.2.2.2.2.2.2.2.2.2.2.2.1, o.2.2.2.2.2.2.2.2.2.2.2.2.2.2.2.2.2.2.2.2.2.2.2.2.2.2.2.2.2.2.2.2.2.2.2.2.2.2.2.2.2.2.2.2.2.2.2)
def s_stHi (o : Ob) (v : List Int32) : Ob := (o.1, o.2.1, o.2.2.1, o.2.2.2.1, o.2.2.2.2.1, o.2.2.2.2.2.1, o.2.2.2.2.2.2.1, o.2.2.2.2.2.2.2.1, o.2.2.2.2.2.2.2.2.1, o.2.2.2.2.2.2.2.2.2.1, o.2.2.2.2.2.2.2.2.2.2.1, o.2.2.2.2.2.2.2.2.2.2.2.1, o.2.2.2.2.2.2.2.2.2.2.2.2.1, o.2.2.2.2.2.2.2.2.2.2.2.2.2.1, o.2.2.2.2.2.2.2.2.2.2.2.2.2.2.1, o.2.2.2.2.2.2.2.2.2.2.2.2.2.2.2.1, o.2.2.2.2.2.2.2.2.2.2.2.2.2.2.2.2.1, o.2.2.2.2.2.2.2.2.2.2.2.2.2.2.2.2.2.1, o.2.2.2.2.2.2.2.2.2.2.2.2.2.2.2.2.2.2.1, o.2.2.2.2.2.2.2.2.2.2.2.2.2.2.2.2.2.2.2.1, o.2.2.2.2.2.2.2.2.2.2.2.2.2.2.2.2.2.2.2.2.1, o.2.2.2.2.2.2.2.2.2.2.2.2.2.2.2.2.2.2.2.2.2.1, o.2.2.2.2.2.2.2.2.2.2.2.2.2.2.2.2.2.2.2.2.2.2.1, o.2.2.2.2.2.2.2.2.2.2.2.2.2.2.2.2.2.2.2.2.2.2.2.1, o.2.2.2.2.2.2.2.2.2.2.2.2.2.2.2.2.2.2.2.2.2.2.2.2.1, o.2.2.2.2.2.2.2.2.2.2.2.2.2.2.2.2.2.2.2.2.2.2.2.2.2.1, o.2.2.2.2.2.2.2.2.2.2.2.2.2.2.2.2.2.2.2.2.2.2.2.2.2.2.1, o.2.2.2.2.2.2.2.2.2.2.2.2.2.2.2.2.2.2.2.2.2.2.2.2.2.2.2.1, o.2.2.2.2.2.2.2.2.2.2.2.2.2.2.2.2.2.2.2.2.2.2.2.2.2.2.2.2.1, o.2.2.2.2.2.2.2.2.2.2.2.2.2.2.2.2.2.2.2.2.2.2.2.2.2.2.2.2.2.1, o.2.2.2.2.2.2.2.2.2.2.2.2.2.2.2.2.2.2.2.2.2.2.2.2.2.2.2.2.2.2.1, v, o.2.2.2.2.2.2.2.2.2.2.2.2.2.2.2.2.2.2.2.2.2.2.2.2.2.2.2.2.2.2.2.2.1, o.2.2.2.2.2.2.2.2.2.2.2.2.2.2.2.2.2.2.2.2.2.2.2.2.2.2.2.2.2.2.2.2.2.1, o.2.2.2.2.2.2.2.2.2.2.2.2.2.2.2.2.2.2.2.2.2.2.2.2.2.2.2.2.2.2.2.2.2.2.1, o.2.2.2.2.2.2.2.2.2.2.2.2.2.2.2.2.2.2.2.2.2.2.2.2.2.2.2.2.2.2.2.2.2.2.2.1, o.2.2.2.2.2.2.2.2.2.2.2.2.2.2.2.2.2.2.2.2.2.2.2.2.2.2.2.2.2.2.2.2.2.2.2.2.1, o.2.2.2.2.2.2.2.2.2.2.2.2.2.2.2.2.2.2.2.2.2.2.2.2.2.2.2.2.2.2.2.2.2.2.2.2.2.1, o.2.2.2.2.2.2.2.2.2.2.2.2.2.2.2.2.2.2.2.2.2.2.2.2.2.2.2.2.2.2.2.2.2.2.2.2.2.2.1, o.2.2.2.2.2.2.2.2.2.2.2.2.2.2.2.2.2.2.2.2.2.2.2.2.2.2.2.2.2.2.2.2.2.2.2.2.2.2.2.1, o.2.2.2.2.2.2.2.2.2.2.2.2.2.2.2.2.2.2.2.2.2.2.2.2.2.2.2.2.2.2.2.2.2.2.2.2.2.2.2.2.1, o.2.2.2.2.2.2.2.2.2.2.2.2.2.2.2.2.2.2.2.2.2.2.2.2.2.2.2.2.2.2.2.2.2.2.2.2.2.2.2.2.2.1, o.2.2.2.2.2.2.2.2.2.2.2.2.2.2.2.2.2.2.2.2.2.2.2.2.2.2.2.2.2.2.2.2.2.2.2.2.2.2.2.2.2.2.1, o.2.2.2.2.2.2.2.2.2.2.2.2.2.2.2.2.2.2.2.2.2.2.2.2.2.2.2.2.2.2.2.2.2.2.2.2.2.2.2.2.2.2.2.1, o.2.2.2.2.2.2.2.2.2.2.2.2.2.2.2.2.2.2.2.2.2.2.2.2.2.2.2.2.2.2.2.2.2.2.2.2.2.2.2.2.2.2.2.2.1, o.2.2.2.2.2.2.2.2.2.2.2.2.2.2.2.2.2.2.2.2.2.2.2.2.2.2.2.2.2.2.2.2.2.2.2.2.2.2.2.2.2.2.2.2.2.1, o.2.2.2.2.2.2.2.2.2.2.2.2.2.2.2.2.2.2.2.2.2.2.2.2.2.2.2.2.2.2.2.2.2.2.2.2.2.2.2.2.2.2.2.2.2.2.1, o.2.2.2.2.2.2.2.2.2.2.2.2.2.2.2.2.2.2.2.2.2.2.2.2.2.2.2.2.2.2.2.2.2.2.2.2.2.2.2.2.2.2.2.2.2.2.2)
def s_stParent (o : Ob) (v : List Int32) : Ob := (o.1, o.2.1, o.2.2.1, o.2.2.2.1, o.2.2.2.2.1, o.2.2.2.2.2.1, o.2.2.2.2.2.2.1, o.2.2.2.2.2.2.2.1, o.2.2.2.2.2.2.2.2.1, o.2.2.2.2.2.2.2.2.2.1, o.2.2.2.2.2.2.2.2.2.2.1, o.2.2.2.2.2.2.2.2.2.2.2.1, o.2.2.2.2.2.2.2.2.2.2.2.2.1, o.2.2.2.2.2.2.2.2.2.2.2.2.2.1, o.2.2.2.2.2.2.2.2.2.2.2.2.2.2.1, o.2.2.2.2.2.2.2.2.2.2.2.2.2.2.2.1, o.2.2.2.2.2.2.2.2.2.2.2.2.2.2.2.2.1, o.2.2.2.2.2.2.2.2.2.2.2.2.2.2.2.2.2.1, o.2.2.2.2.2.2.2.2.2.2.2.2.2.2.2.2.2.2.1, o.2.2.2.2.2.2.2.2.2.2.2.2.2.2.2.2.2.2.2.1, o.2.2.2.2.2.2.2.2.2.2.2.2.2.2.2.2.2.2.2.2.1, o.2.2.2.2.2.2.2.2.2.2.2.2.2.2.2.2.2.2.2.2.2.1, o.2.2.2.2.2.2.2.2.2.2.2.2.2.2.2.2.2.2.2.2.2.2.1, o.2.2.2.2.2.2.2.2.2.2.2.2.2.2.2.2.2.2.2.2.2.2.2.1, o.2.2.2.2.2.2.2.2.2.2.2.2.2.2.2.2.2.2.2.2.2.2.2.2.1, o.2.2.2.2.2.2.2.2.2.2.2.2.2.2.2.2.2.2.2.2.2.2.2.2.2.1, o.2.2.2.2.2.2.2.2.2.2.2.2.2.2.2.2.2.2.2.2.2.2.2.2.2.2.1, o.2.2.2.2.2.2.2.2.2.2.2.2.2.2.2.2.2.2.2.2.2.2.2.2.2.2.2.1, o.2.2.2.2.2.2.2.2.2.2.2.2.2.2.2.2.2.2.2.2.2.2.2.2.2.2.2.2.1, o.2.2.2.2.2.2.2.2.2.2.2.2.2.2.2.2.2.2.2.2.2.2.2.2.2.2.2.2.2.1, o.2.2.2.2.2.2.2.2.2.2.2.2.2.2.2.2.2.2.2.2.2.2.2.2.2.2.2.2.2.2.1, o.2.2.2.2.2.2.2.2.2.2.2.2.2.2.2.2.2.2.2.2.2.2.2.2.2.2.2.2.2.2.2.1, v, o.2.2.2.2.2.2.2.2.2.2.2.2.2.2.2.2.2.2.2.2.2.2.2.2.2.2.2.2.2.2.2.2.2.1, o.2.2.2.2.2.2.2.2.2.2.2.2.2.2.2.2.2.2.2.2.2.2.2.2.2.2.2.2.2.2.2.2.2.2.1, o.2.2.2.2.2.2.2.2.2.2.2.2.2.2.2.2.2.2.2.2.2.2.2.2.2.2.2.2.2.2.2.2.2.2.2.1, o.2.2.2.2.2.2.2.2.2.2.2.2.2.2.2.2.2.2.2.2.2.2.2.2.2.2.2.2.2.2.2.2.2.2.2.2.1, o.2.2.2.2.2.2.2.2.2.2.2.2.2.2.2.2.2.2.2.2.2.2.2.2.2.2.2.2.2.2.2.2.2.2.2.2.2.1, o.2.2.2.2.2.2.2.2.2.2.2.2.2.2.2.2.2.2.2.2.2.2.2.2.2.2.2.2.2.2.2.2.2.2.2.2.2.2.1, o.2.2.2.2.2.2.2.2.2.2.2.2.2.2.2.2.2.2.2.2.2.2.2.2.2.2.2.2.2.2.2.2.2.2.2.2.2.2.2.1, o.2.2.2.2.2.2.2.2.2.2.2.2.2.2.2.2.2.2.2.2.2.2.2.2.2.2.2.2.2.2.2.2.2.2.2.2.2.2.2.2.1, o.2.2.2.2.2.2.2.2.2.2.2.2.2.2.2.2.2.2.2.2.2.2.2.2.2.2.2.2.2.2.2.2.2.2.2.2.2.2.2.2.2.1, o.2.2.2.2.2.2.2.2.2.2.2.2.2.2.2.2.2.2.2.2.2.2.2.2.2.2.2.2.2.2.2.2.2.2.2.2.2.2.2.2.2.2.1, o.2.2.2.2.2.2.2.2.2.2.2.2.2.2.2.2.2.2.2.2.2.2.2.2.2.2.2.2.2.2.2.2.2.2.2.2.2.2.2.2.2.2.2.1, o.2.2.2.2.2.2.2.2.2.2.2.2.2.2.2.2.2.2.2.2.2.2.2.2.2.2.2.2.2.2.2.2.2.2.2.2.2.2.2.2.2.2.2.2.1, o.2.2.2.2.2.2.2.2.2.2.2.2.2.2.2.2.2.2.2.2.2.2.2.2.2.2.2.2.2.2.2.2.2.2.2.2.2.2.2.2.2.2.2.2.2.1, o.2.2.2.2.2.2.2.2.2.2.2.2.2.2.2.2.2.2.2.2.2.2.2.2.2.2.2.2.2.2.2.2.2.2.2.2.2.2.2.2.2.2.2.2.2.2.1, o.2.2.2.2.2.2.2.2.2.2.2.2.2.2.2.2.2.2.2.2.2.2.2.2.2.2.2.2.2.2.2.2.2.2.2.2.2.2.2.2.2.2.2.2.2.2.2)
def s_stSlot (o : Ob) (v : List Int32) : Ob := (o.1, o.2.1, o.2.2.1, o.2.2.2.1, o.2.2.2.2.1, o.2.2.2.2.2.1, o.2.2.2.2.2.2.1, o.2.2.2.2.2.2.2.1, o.2.2.2.2.2.2.2.2.1, o.2.2.2.2.2.2.2.2.2.1, o.2.2.2.2.2.2.2.2.2.2.1, o.2.2.2.2.2.2.2.2.2.2.2.1, o.2.2.2.2.2.2.2.2.2.2.2.2.1, o.2.2.2.2.2.2.2.2.2.2.2.2.2.1, o.2.2.2.2.2.2.2.2.2.2.2.2.2.2.1, o.2.2.2.2.2.2.2.2.2.2.2.2.2.2.2.1, o.2.2.2.2.2.2.2.2.2.2.2.2.2.2.2.2.1, o.2.2.2.2.2.2.2.2.2.2.2.2.2.2.2.2.2.1, o.2.2.2.2.2.2.2.2.2.2.2.2.2.2.2.2.2.2.1, o.2.2.2.2.2.2.2.2.2.2.2.2.2.2.2.2.2.2.2.1, o.2.2.2.2.2.2.2.2.2.2.2.2.2.2.2.2.2.2.2.2.1, o.2.2.2.2.2.2.2.2.2.2.2.2.2.2.2.2.2.2.2.2.2.1, o.2.2.2.2.2.2.2.2.2.2.2.2.2.2.2.2.2.2.2.2.2.2.1, o.2.2.2.2.2.2.2.2.2.2.2.2.2.2.2.2.2.2.2.2.2.2.2.1, o.2.2.2.2.2.2.2.2.2.2.2.2.2.2.2.2.2.2.2.2.2.2.2.2.1, o.2.2.2.2.2.2.2.2.2.2.2.2.2.2.2.2.2.2.2.2.2.2.2.2.2.1, o.2.2.2.2.2.2.2.2.2.2.2.2.2.2.2.2.2.2.2.2.2.2.2.2.2.2.1, o.2.2.2.2.2.2.2.2.2.2.2.2.2.2.2.2.2.2.2.2.2.2.2.2.2.2.2.1, o.2.2.2.2.2.2.2.2.2.2.2.2.2.2.2.2.2.2.2.2.2.2.2.2.2.2.2.2.1, o.2.2.2.2.2.2.2.2.2.2.2.2.2.2.2.2.2.2.2.2.2.2.2.2.2.2.2.2.2.1, o.2.2.2.2.2.2.2.2.2.2.2.2.2.2.2.2.2.2.2.2.2.2.2.2.2.2.2.2.2.2.1, o.2.2.2.2.2.2.2.2.2.2.2.2.2.2.2.2.2.2.2.2.2.2.2.2.2.2.2.2.2.2.2.1, o.2.2.2.2.2.2.2.2.2.2.2.2.2.2.2.2.2.2.2.2.2.2.2.2.2.2.2.2.2.2.2.2.1, v, o.2.2.2.2.2.2.2.2.2.2.2.2.2.2.2.2.2.2.2.2.2.2.2.2.2.2.2.2.2.2.2.2.2.2.1, o.2.2.2.2.2.2.2.2.2.2.2.2.2.2.2.2.2.2.2.2.2.2.2.2.2.2.2.2.2.2.2.2.2.2.2.1, o.2.2.2.2.2.2.2.2.2.2.2.2.2.2.2.2.2.2.2.2.2.2.2.2.2.2.2.2.2.2.2.2.2.2.2.2.1, o.2.2.2.2.2.2.2.2.2.2.2.2.2.2.2.2.2.2.2.2.2.2.2.2.2.2.2.2.2.2.2.2.2.2.2.2.2.1, o.2.2.2.2.2.2.2.2.2.2.2.2.2.2.2.2.2.2.2.2.2.2.2.2.2.2.2.2.2.2.2.2.2.2.2.2.2.2.1, o.2.2.2.2.2.2.2.2.2.2.2.2.2.2.2.2.2.2.2.2.2.2.2.2.2.2.2.2.2.2.2.2.2.2.2.2.2.2.2.1, o.2.2.2.2.2.2.2.2.2.2.2.2.2.2.2.2.2.2.2.2.2.2.2.2.2.2.2.2.2.2.2.2.2.2.2.2.2.2.2.2.1, o.2.2.2.2.2.2.2.2.2.2.2.2.2.2.2.2.2.2.2.2.2.2.2.2.2.2.2.2.2.2.2.2.2.2.2.2.2.2.2.2.2.1, o.2.2.2.2.2.2.2.2.2.2.2.2.2.2.2.2.2.2.2.2.2.2.2.2.2.2.2.2.2.2.2.2.2.2.2.2.2.2.2.2.2.2.1, o.2.2.2.2.2.2.2.2.2.2.2.2.2.2.2.2.2.2.2.2.2.2.2.2.2.2.2.2.2.2.2.2.2.2.2.2.2.2.2.2.2.2.2.1, o.2.2.2.2.2.2.2.2.2.2.2.2.2.2.2.2.2.2.2.2.2.2.2.2.2.2.2.2.2.2.2.2.2.2.2.2.2.2.2.2.2.2.2.2.1, o.2.2.2.2.2.2.2.2.2.2.2.2.2.2.2.2.2.2.2.2.2.2.2.2.2.2.2.2.2.2.2.2.2.2.2.2.2.2.2.2.2.2.2.2.2.1, o.2.2.2.2.2.2.2.2.2.2.2.2.2.2.2.2.2.2.2.2.2.2.2.2.2.2.2.2.2.2.2.2.2.2.2.2.2.2.2.2.2.2.2.2.2.2.1, o.2.2.2.2.2.2.2.2.2.2.2.2.2.2.2.2.2.2.2.2.2.2.2.2.2.2.2.2.2.2.2.2.2.2.2.2.2.2.2.2.2.2.2.2.2.2.2)
def s_cap (o : Ob) (v : Int32) : Ob := (o.1, o.2.1, o.2.2.1, o.2.2.2.1, o.2.2.2.2.1, o.2.2.2.2.2.1, o.2.2.2.2.2.2.1, o.2.2.2.2.2.2.2.1, o.2.2.2.2.2.2.2.2.1, o.2.2.2.2.2.2.2.2.2.1, o.2.2.2.2.2.2.2.2.2.2.1, o.2.2.2.2.2.2.2.2.2.2.2.1, o.2.2.2.2.2.2.2.2.2.2.2.2.1, o.2.2.2.2.2.2.2.2.2.2.2.2.2.1, o.2.2.2.2.2.2.2.2.2.2.2.2.2.2.1, o.2.2.2.2.2.2.2.2.2.2.2.2.2.2.2.1, o.2.2.2.2.2.2.2.2.2.2.2.2.2.2.2.2.1, o.2.2.2.2.2.2.2.2.2.2.2.2.2.2.2.2.2.1, o.2.2.2.2.2.2.2.2.2.2.2.2.2.2.2.2.2.2.1, o.2.2.2.2.2.2.2.2.2.2.2.2.2.2.2.2.2.2.2.1, o.2.2.2.2.2.2.2.2.2.2.2.2.2.2.2.2.2.2.2.2.1, o.2.2.2.2.2.2.2.2.2.2.2.2.2.2.2.2.2.2.2.2.2.1, o.2.2.2.2.2.2.2.2.2.2.2.2.2.2.2.2.2.2.2.2.2.2.1, o.2.2.2.2.2.2.2.2.2.2.2.2.2.2.2.2.2.2.2.2.2.2.2.1, o.2.2.2.2.2.2.2.2.2.2.2.2.2.2.2.2.2.2.2.2.2.2.2.2.1, o.2.2.2.2.2.2.2.2.2.2.2.2.2.2.2.2.2.2.2.2.2.2.2.2.2.1, o.2.2.2.2.2.2.2.2.2.2.2.2.2.2.2.2.2.2.2.2.2.2.2.2.2.2.1, o.2.2.2.2.2.2.2.2.2.2.2.2.2.2.2.2.2.2.2.2.2.2.2.2.2.2.2.1, o.2.2.2.2.2.2.2.2.2.2.2.2.2.2.2.2.2.2.2.2.2.2.2.2.2.2.2.2.1, o.2.2.2.2.2.2.2.2.2.2.2.2.2.2.2.2.2.2.2.2.2.2.2.2.2.2.2.2.2.1, o.2.2.2.2.2.2.2.2.2.2.2.2.2.2.2.2.2.2.2.2.2.2.2.2.2.2.2.2.2.2.1, o.2.2.2.2.2.2.2.2.2.2.2.2.2.2.2.2.2.2.2.2.2.2.2.2.2.2.2.2.2.2.2.1, o.2.2.2.2.2.2.2.2.2.2.2.2.2.2.2.2.2.2.2.2.2.2.2.2.2.2.2.2.2.2.2.2.1, o.2.2.2.2.2.2.2.2.2.2.2.2.2.2.2.2.2.2.2.2.2.2.2.2.2.2.2.2.2.2.2.2.2.1, v, o.2.2.2.2.2.2.2.2.2.2.2.2.2.2.2.2.2.2.2.2.2.2.2.2.2.2.2.2.2.2.2.2.2.2.2.1, o.2.2.2.2.2.2.2.2.2.2.2.2.2.2.2.2.2.2.2.2.2.2.2.2.2.2.2.2.2.2.2.2.2.2.2.2.1, o.2.2.2.2.2.2.2.2.2.2.2.2.2.2.2.2.2.2.2.2.2.2.2.2.2.2.2.2.2.2.2.2.2.2.2.2.2.1, o.2.2.2.2.2.2.2.2.2.2.2.2.2.2.2.2.2.2.2.2.2.2.2.2.2.2.2.2.2.2.2.2.2.2.2.2.2.2.1, o.2.2.2.2.2.2.2.2.2.2.2.2.2.2.2.2.2.2.2.2.2.2.2.2.2.2.2.2.2.2.2.2.2.2.2.2.2.2.2.1, o.2.2.2.2.2.2.2.2.2.2.2.2.2.2.2.2.2.2.2.2.2.2.2.2.2.2.2.2.2.2.2.2.2.2.2.2.2.2.2.2.1, o.2.2.2.2.2.2.2.2.2.2.2.2.2.2.2.2.2.2.2.2.2.2.2.2.2.2.2.2.2.2.2.2.2.2.2.2.2.2.2.2.2.1, o.2.2.2.2.2.2.2.2.2.2.2.2.2.2.2.2.2.2.2.2.2.2.2.2.2.2.2.2.2.2.2.2.2.2.2.2.2.2.2.2.2.2.1, o.2.2.2.2.2.2.2.2.2.2.2.2.2.2.2.2.2.2.2.2.2.2.2.2.2.2.2.2.2.2.2.2.2.2.2.2.2.2.2.2.2.2.2.1, o.2.2.2.2.2.2.2.2.2.2.2.2.2.2.2.2.2.2.2.2.2.2.2.2.2.2.2.2.2.2.2.2.2.2.2.2.2.2.2.2.2.2.2.2.1, o.2.2.2.2.2.2.2.2.2.2.2.2.2.2.2.2.2.2.2.2.2.2.2.2.2.2.2.2.2.2.2.2.2.2.2.2.2.2.2.2.2.2.2.2.2.1, o.2.2.2.2.2.2.2.2.2.2.2.2.2.2.2.2.2.2.2.2.2.2.2.2.2.2.2.2.2.2.2.2.2.2.2.2.2.2.2.2.2.2.2.2.2.2.1, o.2.2.2.2.2.2.2.2.2.2.2.2.2.2.2.2.2.2.2.2.2.2.2.2.2.2.2.2.2.2.2.2.2.2.2.2.2.2.2.2.2.2.2.2.2.2.2)
def s_targets (o : Ob) (v : Int32) : Ob := (o.1, o.2.1, o.2.2.1, o.2.2.2.1, o.2.2.2.2.1, o.2.2.2.2.2.1, o.2.2.2.2.2.2.1, o.2.2.2.2.2.2.2.1, o.2.2.2.2.2.2.2.2.1, o.2.2.2.2.2.2.2.2.2.1, o.2.2.2.2.2.2.2.2.2.2.1, o.2.2.2.2.2.2.2.2.2.2.2.1, o.2.2.2.2.2.2.2.2.2.2.2.2.1, o.2.2.2.2.2.2.2.2.2.2.2.2.2.1, o.2.2.2.2.2.2.2.2.2.2.2.2.2.2.1, o.2.2.2.2.2.2.2.2.2.2.2.2.2.2.2.1, o.2.2.2.2.2.2.2.2.2.2.2.2.2.2.2.2.1, o.2.2.2.2.2.2.2.2.2.2.2.2.2.2.2.2.2.1, o.2.2.2.2.2.2.2.2.2.2.2.2.2.2.2.2.2.2.1, o.2.2.2.2.2.2.2.2.2.2.2.2.2.2.2.2.2.2.2.1, o.2.2.2.2.2.2.2.2.2.2.2.2.2.2.2.2.2.2.2.2.1, o.2.2.2.2.2.2.2.2.2.2.2.2.2.2.2.2.2.2.2.2.2.1, o.2.2.2.2.2.2.2.2.2.2.2.2.2.2.2.2.2.2.2.2.2.2.1, o.2.2.2.2.2.2.2.2.2.2.2.2.2.2.2.2.2.2.2.2.2.2.2.1, o.2.2.2.2.2.2.2.2.2.2.2.2.2.2.2.2.2.2.2.2.2.2.2.2.1, o.2.2.2.2.2.2.2.2.2.2.2.2.2.2.2.2.2.2.2.2.2.2.2.2.2.1, o.2.2.2.2.2.2.2.2.2.2.2.2.2.2.2.2.2.2.2.2.2.2.2.2.2.2.1, o.2.2.2.2.2.2.2.2.2.2.2.2.2.2.2.2.2.2.2.2.2.2.2.2.2.2.2.1, o.2.2.2.2.2.2.2.2.2.2.2.2.2.2.2.2.2.2.2.2.2.2.2.2.2.2.2.2.1, o.2.2.2.2.2.2.2.2.2.2.2.2.2.2.2.2.2.2.2.2.2.2.2.2.2.2.2.2.2.1, o.2.2.2.2.2.2.2.2.2.2.2.2.2.2.2.2.2.2.2.2.2.2.2.2.2.2.2.2.2.2.1, o.2.2.2.2.2.2.2.2.2.2.2.2.2.2.2.2.2.2.2.2.2.2.2.2.2.2.2.2.2.2.2.1, o.2.2.2.2.2.2.2.2.2.2.2.2.2.2.2.2.2.2.2.2.2.2.2.2.2.2.2.2.2.2.2.2.1, o.2.2.2.2.2.2.2.2.2.2.2.2.2.2.2.2.2.2.2.2.2.2.2.2.2.2.2.2.2.2.2.2.2.1, o.2.2.2.2.2.2.2.2.2.2.2.2.2.2.2.2.2.2.2.2.2.2.2.2.2.2.2.2.2.2.2.2.2.2.1, v, o.2.2.2.2.2.2.2.2.2.2.2.2.2.2.2.2.2.2.2.2.2.2.2.2.2.2.2.2.2.2.2.2.2.2.2.2.1, o.2.2.2.2.2.2.2.2.2.2.2.2.2.2.2.2.2.2.2.2.2.2.2.2.2.2.2.2.2.2.2.2.2.2.2.2.2.1, o.2.2.2.2.2.2.2.2.2.2.2.2.2.2.2.2.2.2.2.2.2.2.2.2.2.2.2.2.2.2.2.2.2.2.2.2.2.2.1, o.2.2.2.2.2.2.2.2.2.2.2.2.2.2.2.2.2.2.2.2.2.2.2.2.2.2.2.2.2.2.2.2.2.2.2.2.2.2.2.1, o.2.2.2.2.2.2.2.2.2.2.2.2.2.2.2.2.2.2.2.2.2.2.2.2.2.2.2.2.2.2.2.2.2.2.2.2.2.2.2.2.1, o.2.2.2.2.2.2.2.2.2.2.2.2.2.2.2.2.2.2.2.2.2.2.2.2.2.2.2.2.2.2.2.2.2.2.2.2.2.2.2.2.2.1, o.2.2.2.2.2.2.2.2.2.2.2.2.2.2.2.2.2.2.2.2.2.2.2.2.2.2.2.2.2.2.2.2.2.2.2.2.2.2.2.2.2.2.1, o.2.2.2.2.2.2.2.2.2.2.2.2.2.2.2.2.2.2.2.2.2.2.2.2.2.2.2.2.2.2.2.2.2.2.2.2.2.2.2.2.2.2.2.1, o.2.2.2.2.2.2.2.2.2.2.2.2.2.2.2.2.2.2.2.2.2.2.2.2.2.2.2.2.2.2.2.2.2.2.2.2.2.2.2.2.2.2.2.2.1, o.2.2.2.2.2.2.2.2.2.2.2.2.2.2.2.2.2.2.2.2.2.2.2.2.2.2.2.2.2.2.2.2.2.2.2.2.2.2.2.2.2.2.2.2.2.1, o.2.2.2.2.2.2.2.2.2.2.2.2.2.2.2.2.2.2.2.2.2.2.2.2.2.2.2.2.2.2.2.2.2.2.2.2.2.2.2.2.2.2.2.2.2.2.1, o.2.2.2.2.2.2.2.2.2.2.2.2.2.2.2.2.2.2.2.2.2.2.2.2.2.2.2.2.2.2.2.2.2.2.2.2.2.2.2.2.2.2.2.2.2.2.2)
def s_curCount (o : Ob) (v : Int32) : Ob := (o.1, o.2.1, o.2.2.1, o.2.2.2.1, o.2.2.2.2.1, o.2.2.2.2.2.1, o.2.2.2.2.2.2.1, o.2.2.2.2.2.2.2.1, o.2.2.2.2.2.2.2.2.1, o.2.2.2.2.2.2.2.2.2.1, o.2.2.2.2.2.2.2.2.2.2.1, o.2.2.2.2.2.2.2.2.2.2.2.1, o.2.2.2.2.2.2.2.2.2.2.2.2.1, o.2.2.2.2.2.2.2.2.2.2.2.2.2.1, o.2.2.2.2.2.2.2.2.2.2.2.2.2.2.1, o.2.2.2.2.2.2.2.2.2.2.2.2.2.2.2.1, o.2.2.2.2.2.2.2.2.2.2.2.2.2.2.2.2.1, o.2.2.2.2.2.2.2.2.2.2.2.2.2.2.2.2.2.1, o.2.2.2.2.2.2.2.2.2.2.2.2.2.2.2.2.2.2.1, o.2.2.2.2.2.2.2.2.2.2.2.2.2.2.2.2.2.2.2.1, o.2.2.2.2.2.2.2.2.2.2.2.2.2.2.2.2.2.2.2.2.1, o.2.2.2.2.2.2.2.2.2.2.2.2.2.2.2.2.2.2.2.2.2.1, o.2.2.2.2.2.2.2.2.2.2.2.2.2.2.2.2.2.2.2.2.2.2.1, o.2.2.2.2.2.2.2.2.2.2.2.2.2.2.2.2.2.2.2.2.2.2.2.1, o.2.2.2.2.2.2.2.2.2.2.2.2.2.2.2.2.2.2.2.2.2.2.2.2.1, o.2.2.2.2.2.2.2.2.2.2.2.2.2.2.2.2.2.2.2.2.2.2.2.2.2.1, o.2.2.2.2.2.2.2.2.2.2.2.2.2.2.2.2.2.2.2.2.2.2.2.2.2.2.1, o.2.2.2.2.2.2.2.2.2.2.2.2.2.2.2.2.2.2.2.2.2.2.2.2.2.2.2.1, o.2.2.2.2.2.2.2.2.2.2.2.2.2.2.2.2.2.2.2.2.2.2.2.2.2.2.2.2.1, o.2.2.2.2.2.2.2.2.2.2.2.2.2.2.2.2.2.2.2.2.2.2.2.2.2.2.2.2.2.1, o.2.2.2.2.2.2.2.2.2.2.2.2.2.2.2.2.2.2.2.2.2.2.2.2.2.2.2.2.2.2.1, o.2.2.2.2.2.2.2.2.2.2.2.2.2.2.2.2.2.2.2.2.2.2.2.2.2.2.2.2.2.2.2.1, o.2.2.2.2.2.2.2.2.2.2.2.2.2.2.2.2.2.2.2.2.2.2.2.2.2.2.2.2.2.2.2.2.1, o.2.2.2.2.2.2.2.2.2.2.2.2.2.2.2.2.2.2.2.2.2.2.2.2.2.2.2.2.2.2.2.2.2.1, o.2.2.2.2.2.2.2.2.2.2.2.2.2.2.2.2.2.2.2.2.2.2.2.2.2.2.2.2.2.2.2.2.2.2.1, o.2.2.2.2.2.2.2.2.2.2.2.2.2.2.2.2.2.2.2.2.2.2.2.2.2.2.2.2.2.2.2.2.2.2.2.1, v, o.2.2.2.2.2.2.2.2.2.2.2.2.2.2.2.2.2.2.2.2.2.2.2.2.2.2.2.2.2.2.2.2.2.2.2.2.2.1, o.2.2.2.2.2.2.2.2.2.2.2.2.2.2.2.2.2.2.2.2.2.2.2.2.2.2.2.2.2.2.2.2.2.2.2.2.2.2.1, o.2.2.2.2.2.2.2.2.2.2.2.2.2.2.2.2.2.2.2.2.2.2.2.2.2.2.2.2.2.2.2.2.2.2.2.2.2.2.2.1, o.2.2.2.2.2.2.2.2.2.2.2.2.2.2.2.2.2.2.2.2.2.2.2.2.2.2.2.2.2.2.2.2.2.2.2.2.2.2.2.2.1, o.2.2.2.2.2.2.2.2.2.2.2.2.2.2.2.2.2.2.2.2.2.2.2.2.2.2.2.2.2.2.2.2.2.2.2.2.2.2.2.2.2.1, o.2.2.2.2.2.2.2.2.2.2.2.2.2.2.2.2.2.2.2.2.2.2.2.2.2.2.2.2.2.2.2.2.2.2.2.2.2.2.2.2.2.2.1, o.2.2.2.2.2.2.2.2.2.2.2.2.2.2.2.2.2.2.2.2.2.2.2.2.2.2.2.2.2.2.2.2.2.2.2.2.2.2.2.2.2.2.2.1, o.2.2.2.2.2.2.2.2.2.2.2.2.2.2.2.2.2.2.2.2.2.2.2.2.2.2.2.2.2.2.2.2.2.2.2.2.2.2.2.2.2.2.2.2.1, o.2.2.2.2.2.2.2.2.2.2.2.2.2.2.2.2.2.2.2.2.2.2.2.2.2.2.2.2.2.2.2.2.2.2.2.2.2.2.2.2.2.2.2.2.2.1, o.2.2.2.2.2.2.2.2.2.2.2.2.2.2.2.2.2.2.2.2.2.2.2.2.2.2.2.2.2.2.2.2.2.2.2.2.2.2.2.2.2.2.2.2.2.2.1, o.2.2.2.2.2.2.2.2.2.2.2.2.2.2.2.2.2.2.2.2.2.2.2.2.2.2.2.2.2.2.2.2.2.2.2.2.2.2.2.2.2.2.2.2.2.2.2)
def s_curDefault (o : Ob) (v : Int32) : Ob := (o.1, o.2.1, o.2.2.1, o.2.2.2.1, o.2.2.2.2.1, o.2.2.2.2.2.1, o.2.2.2.2.2.2.1, o.2.2.2.2.2.2.2.1, o.2.2.2.2.2.2.2.2.1, o.2.2.2.2.2.2.2.2.2.1, o.2.2.2.2.2.2.2.2.2.2.1, o.2.2.2.2.2.2.2.2.2.2.2.1, o.2.2.2.2.2.2.2.2.2.2.2.2.1, o.2.2.2.2.2.2.2.2.2.2.2.2.2.1, o.2.2.2.2.2.2.2.2.2.2.2.2.2.2.1, o.2.2.2.2.2.2.2.2.2.2.2.2.2.2.2.1, o.2.2.2.2.2.2.2.2.2.2.2.2.2.2.2.2.1, o.2.2.2.2.2.2.2.2.2.2.2.2.2.2.2.2.2.1, o.2.2.2.2.2.2.2.2.2.2.2.2.2.2.2.2.2.2.1, o.2.2.2.2.2.2.2.2.2.2.2.2.2.2.2.2.2.2.2.1, o.2.2.2.2.2.2.2.2.2.2.2.2.2.2.2.2.2.2.2.2.1, o.2.2.2.2.2.2.2.2.2.2.2.2.2.2.2.2.2.2.2.2.2.1, o.2.2.2.2.2.2.2.2.2.2.2.2.2.2.2.2.2.2.2.2.2.2.1, o.2.2.2.2.2.2.2.2.2.2.2.2.2.2.2.2.2.2.2.2.2.2.2.1, o.2.2.2.2.2.2.2.2.2.2.2.2.2.2.2.2.2.2.2.2.2.2.2.2.1, o.2.2.2.2.2.2.2.2.2.2.2.2.2.2.2.2.2.2.2.2.2.2.2.2.2.1, o.2.2.2.2.2.2.2.2.2.2.2.2.2.2.2.2.2.2.2.2.2.2.2.2.2.2.1, o.2.2.2.2.2.2.2.2.2.2.2.2.2.2.2.2.2.2.2.2.2.2.2.2.2.2.2.1, o.2.2.2.2.2.2.2.2.2.2.2.2.2.2.2.2.2.2.2.2.2.2.2.2.2.2.2.2.1, o.2.2.2.2.2.2.2.2.2.2.2.2.2.2.2.2.2.2.2.2.2.2.2.2.2.2.2.2.2.1, o.2.2.2.2.2.2.2.2.2.2.2.2.2.2.2.2.2.2.2.2.2.2.2.2.2.2.2.2.2.2.1, o.2.2.2.2.2.2.2.2.2.2.2.2.2.2.2.2.2.2.2.2.2.2.2.2.2.2.2.2.2.2.2.1, o.2.2.2.2.2.2.2.2.2.2.2.2.2.2.2.2.2.2.2.2.2.2.2.2.2.2.2.2.2.2.2.2.1, o.2.2.2.2.2.2.2.2.2.2.2.2.2.2.2.2.2.2.2.2.2.2.2.2.2.2.2.2.2.2.2.2.2.1, o.2.2.2.2.2.2.2.2.2.2.2.2.2.2.2.2.2.2.2.2.2.2.2.2.2.2.2.2.2.2.2.2.2.2.1, o.2.2.2.2.2.2.2.2.2.2.2.2.2.2.2.2.2.2.2.2.2.2.2.2.2.2.2.2.2.2.2.2.2.2.2.1, o.2.2.2.2.2.2.2.2.2.2.2.2.2.2.2.2.2.2.2.2.2.2.2.2.2.2.2.2.2.2.2.2.2.2.2.2.1, v, o.2.2.2.2.2.2.2.2.2.2.2.2.2.2.2.2.2.2.2.2.2.2.2.2.2.2.2.2.2.2.2.2.2.2.2.2.2.2.1, o.2.2.2.2.2.2.2.2.2.2.2.2.2.2.2.2.2.2.2.2.2.2.2.2.2.2.2.2.2.2.2.2.2.2.2.2.2.2.2.1, o.2.2.2.2.2.2.2.2.2.2.2.2.2.2.2.2.2.2.2.2.2.2.2.2.2.2.2.2.2.2.2.2.2.2.2.2.2.2.2.2.1, o.2.2.2.2.2.2.2.2.2.2.2.2.2.2.2.2.2.2.2.2.2.2.2.2.2.2.2.2.2.2.2.2.2.2.2.2.2.2.2.2.2.1, o.2.2.2.2.2.2.2.2.2.2.2.2.2.2.2.2.2.2.2.2.2.2.2.2.2.2.2.2.2.2.2.2.2.2.2.2.2.2.2.2.2.2.1, o.2.2.2.2.2.2.2.2.2.2.2.2.2.2.2.2.2.2.2.2.2.2.2.2.2.2.2.2.2.2.2.2.2.2.2.2.2.2.2.2.2.2.2.1, o.2.2.2.2.2.2.2.2.2.2.2.2.2.2.2.2.2.2.2.2.2.2.2.2.2.2.2.2.2.2.2.2.2.2.2.2.2.2.2.2.2.2.2.2.1, o.2.2.2.2.2.2.2.2.2.2.2.2.2.2.2.2.2.2.2.2.2.2.2.2.2.2.2.2.2.2.2.2.2.2.2.2.2.2.2.2.2.2.2.2.2.1, o.2.2.2.2.2.2.2.2.2.2.2.2.2.2.2.2.2.2.2.2.2.2.2.2.2.2.2.2.2.2.2.2.2.2.2.2.2.2.2.2.2.2.2.2.2.2.1, o.2.2.2.2.2.2.2.2.2.2.2.2.2.2.2.2.2.2.2.2.2.2.2.2.2.2.2.2.2.2.2.2.2.2.2.2.2.2.2.2.2.2.2.2.2.2.2)
def s_dirty (o : Ob) (v : Int32) : Ob := (o.1, o.2.1, o.2.2.1, o.2.2.2.1, o.2.2.2.2.1, o.2.2.2.2.2.1, o.2.2.2.2.2.2.1, o.2.2.2.2.2.2.2.1, o.2.2.2.2.2.2.2.2.1, o.2.2.2.2.2.2.2.2.2.1, o.2.2.2.2.2.2.2.2.2.2.1, o.2.2.2.2.2.2.2.2.2.2.2.1, o.2.2.2.2.2.2.2.2.2.2.2.2.1, o.2.2.2.2.2.2.2.2.2.2.2.2.2.1, o.2.2.2.2.2.2.2.2.2.2.2.2.2.2.1, o.2.2.2.2.2.2.2.2.2.2.2.2.2.2.2.1, o.2.2.2.2.2.2.2.2.2.2.2.2.2.2.2.2.1, o.2.2.2.2.2.2.2.2.2.2.2.2.2.2.2.2.2.1, o.2.2.2.2.2.2.2.2.2.2.2.2.2.2.2.2.2.2.1, o.2.2.2.2.2.2.2.2.2.2.2.2.2.2.2.2.2.2.2.1, o.2.2.2.2.2.2.2.2.2.2.2.2.2.2.2.2.2.2.2.2.1, o.2.2.2.2.2.2.2.2.2.2.2.2.2.2.2.2.2.2.2.2.2.1, o.2.2.2.2.2.2.2.2.2.2.2.2.2.2.2.2.2.2.2.2.2.2.1, o.2.2.2.2.2.2.2.2.2.2.2.2.2.2.2.2.2.2.2.2.2.2.2.1, o.2.2.2.2.2.2.2.2.2.2.2.2.2.2.2.2.2.2.2.2.2.2.2.2.1, o.2.2.2.2.2.2.2.2.2.2.2.2.2.2.2.2.2.2.2.2.2.2.2.2.2.1, o.2.2.2.2.2.2.2.2.2.2.2.2.2.2.2.2.2.2.2.2.2.2.2.2.2.2.1, o.2.2.2.2.2.2.2.2.2.2.2.2.2.2.2.2.2.2.2.2.2.2.2.2.2.2.2.1, o.2.2.2.2.2.2.2.2.2.2.2.2.2.2.2.2.2.2.2.2.2.2.2.2.2.2.2.2.1, o.2.2.2.2.2.2.2.2.2.2.2.2.2.2.2.2.2.2.2.2.2.2.2.2.2.2.2.2.2.1, o.2.2.2.2.2.2.2.2.2.2.2.2.2.2.2.2.2.2.2.2.2.2.2.2.2.2.2.2.2.2.1, o.2.2.2.2.2.2.2.2.2.2.2.2.2.2.2.2.2.2.2.2.2.2.2.2.2.2.2.2.2.2.2.1, o.2.2.2.2.2.2.2.2.2.2.2.2.2.2.2.2.2.2.2.2.2.2.2.2.2.2.2.2.2.2.2.2.1, o.2.2.2.2.2.2.2.2.2.2.2.2.2.2.2.2.2.2.2.2.2.2.2.2.2.2.2.2.2.2.2.2.2.1, o.2.2.2.2.2.2.2.2.2.2.2.2.2.2.2.2.2.2.2.2.2.2.2.2.2.2.2.2.2.2.2.2.2.2.1, o.2.2.2.2.2.2.2.2.2.2.2.2.2.2.2.2.2.2.2.2.2.2.2.2.2.2.2.2.2.2.2.2.2.2.2.1, o.2.2.2.2.2.2.2.2.2.2.2.2.2.2.2.2.2.2.2.2.2.2.2.2.2.2.2.2.2.2.2.2.2.2.2.2.1, o.2.2.2.2.2.2.2.2.2.2.2.2.2.2.2.2.2.2.2.2.2.2.2.2.2.2.2.2.2.2.2.2.2.2.2.2.2.1, v, o.2.2.2.2.2.2.2.2.2.2.2.2.2.2.2.2.2.2.2.2.2.2.2.2.2.2.2.2.2.2.2.2.2.2.2.2.2.2.2.1, o.2.2.2.2.2.2.2.2.2.2.2.2.2.2.2.2.2.2.2.2.2.2.2.2.2.2.2.2.2.2.2.2.2.2.2.2.2.2.2.2.1, o.2.2.2.2.2.2.2.2.2.2.2.2.2.2.2.2.2.2.2.2.2.2.2.2.2.2.2.2.2.2.2.2.2.2.2.2.2.2.2.2.2.1, o.2.2.2.2.2.2.2.2.2.2.2.2.2.2.2.2.2.2.2.2.2.2.2.2.2.2.2.2.2.2.2.2.2.2.2.2.2.2.2.2.2.2.1, o.2.2.2.2.2.2.2.2.2.2.2.2.2.2.2.2.2.2.2.2.2.2.2.2.2.2.2.2.2.2.2.2.2.2.2.2.2.2.2.2.2.2.2.1, o.2.2.2.2.2.2.2.2.2.2.2.2.2.2.2.2.2.2.2.2.2.2.2.2.2.2.2.2.2.2.2.2.2.2.2.2.2.2.2.2.2.2.2.2.1, o.2.2.2.2.2.2.2.2.2.2.2.2.2.2.2.2.2.2.2.2.2.2.2.2.2.2.2.2.2.2.2.2.2.2.2.2.2.2.2.2.2.2.2.2.2.1, o.2.2.2.2.2.2.2.2.2.2.2.2.2.2.2.2.2.2.2.2.2.2.2.2.2.2.2.2.2.2.2.2.2.2.2.2.2.2.2.2.2.2.2.2.2.2.1, o.2.2.2.2.2.2.2.2.2.2.2.2.2.2.2.2.2.2.2.2.2.2.2.2.2.2.2.2.2.2.2.2.2.2.2.2.2.2.2.2.2.2.2.2.2.2.2)
def s_snapCount (o : Ob) (v : Int32) : Ob := (o.1, o.2.1, o.2.2.1, o.2.2.2.1, o.2.2.2.2.1, o.2.2.2.2.2.1, o.2.2.2.2.2.2.1, o.2.2.2.2.2.2.2.1, o.2.2.2.2.2.2.2.2.1, o.2.2.2.2.2.2.2.2.2.1, o.2.2.2.2.2.2.2.2.2.2.1, o.2.2.2.2.2.2.2.2.2.2.2.1, o.2.2.2.2.2.2.2.2.2.2.2.2.1, o.2.2.2.2.2.2.2.2.2.2.2.2.2.1, o.2.2.2.2.2.2.2.2.2.2.2.2.2.2.1, o.2.2.2.2.2.2.2.2.2.2.2.2.2.2.2.1, o.2.2.2.2.2.2.2.2.2.2.2.2.2.2.2.2.1, o.2.2.2.2.2.2.2.2.2.2.2.2.2.2.2.2.2.1, o.2.2.2.2.2.2.2.2.2.2.2.2.2.2.2.2.2.2.1, o.2.2.2.2.2.2.2.2.2.2.2.2.2.2.2.2.2.2.2.1, o.2.2.2.2.2.2.2.2.2.2.2.2.2.2.2.2.2.2.2.2.1, o.2.2.2.2.2.2.2.2.2.2.2.2.2.2.2.2.2.2.2.2.2.1, o.2.2.2.2.2.2.2.2.2.2.2.2.2.2.2.2.2.2.2.2.2.2.1, o.2.2.2.2.2.2.2.2.2.2.2.2.2.2.2.2.2.2.2.2.2.2.2.1, o.2.2.2.2.2.2.2.2.2.2.2.2.2.2.2.2.2.2.2.2.2.2.2.2.1, o.2.2.2.2.2.2.2.2.2.2.2.2.2.2.2.2.2.2.2.2.2.2.2.2.2.1, o.2.2.2.2.2.2.2.2.2.2.2.2.2.2.2.2.2.2.2.2.2.2.2.2.2.2.1, o.2.2.2.2.2.2.2.2.2.2.2.2.2.2.2.2.2.2.2.2.2.2.2.2.2.2.2.1, o.2.2.2.2.2.2.2.2.2.2.2.2.2.2.2.2.2.2.2.2.2.2.2.2.2.2.2.2.1, o.2.2.2.2.2.2.2.2.2.2.2.2.2.2.2.2.2.2.2.2.2.2.2.2.2.2.2.2.2.1, o.2.2.2.2.2.2.2.2.2.2.2.2.2.2.2.2.2.2.2.2.2.2.2.2.2.2.2.2.2.2.1, o.2.2.2.2.2.2.2.2.2.2.2.2.2.2.2.2.2.2.2.2.2.2.2.2.2.2.2.2.2.2.2.1, o.2.2.2.2.2.2.2.2.2.2.2.2.2.2.2.2.2.2.2.2.2.2.2.2.2.2.2.2.2.2.2.2.1, o.2.2.2.2.2.2.2.2.2.2.2.2.2.2.2.2.2.2.2.2.2.2.2.2.2.2.2.2.2.2.2.2.2.1, o.2.2.2.2.2.2.2.2.2.2.2.2.2.2.2.2.2.2.2.2.2.2.2.2.2.2.2.2.2.2.2.2.2.2.1, o.2.2.2.2.2.2.2.2.2.2.2.2.2.2.2.2.2.2.2.2.2.2.2.2.2.2.2.2.2.2.2.2.2.2.2.1, o.2.2.2.2.2.2.2.2.2.2.2.2.2.2.2.2.2.2.2.2.2.2.2.2.2.2.2.2.2.2.2.2.2.2.2.2.1, o.2.2.2.2.2.2.2.2.2.2.2.2.2.2.2.2.2.2.2.2.2.2.2.2.2.2.2.2.2.2.2.2.2.2.2.2.2.1, o.2.2.2.2.2.2.2.2.2.2.2.2.2.2.2.2.2.2.2.2.2.2.2.2.2.2.2.2.2.2.2.2.2.2.2.2.2.2.1, v, o.2.2.2.2.2.2.2.2.2.2.2.2.2.2.2.2.2.2.2.2.2.2.2.2.2.2.2.2.2.2.2.2.2.2.2.2.2.2.2.2.1, o.2.2.2.2.2.2.2.2.2.2.2.2.2.2.2.2.2.2.2.2.2.2.2.2.2.2.2.2.2.2.2.2.2.2.2.2.2.2.2.2.2.1, o.2.2.2.2.2.2.2.2.2.2.2.2.2.2.2.2.2.2.2.2.2.2.2.2.2.2.2.2.2.2.2.2.2.2.2.2.2.2.2.2.2.2.1, o.2.2.2.2.2.2.2.2.2.2.2.2.2.2.2.2.2.2.2.2.2.2.2.2.2.2.2.2.2.2.2.2.2.2.2.2.2.2.2.2.2.2.2.1, o.2.2.2.2.2.2.2.2.2.2.2.2.2.2.2.2.2.2.2.2.2.2.2.2.2.2.2.2.2.2.2.2.2.2.2.2.2.2.2.2.2.2.2.2.1, o.2.2.2.2.2.2.2.2.2.2.2.2.2.2.2.2.2.2.2.2.2.2.2.2.2.2.2.2.2.2.2.2.2.2.2.2.2.2.2.2.2.2.2.2.2.1, o.2.2.2.2.2.2.2.2.2.2.2.2.2.2.2.2.2.2.2.2.2.2.2.2.2.2.2.2.2.2.2.2.2.2.2.2.2.2.2.2.2.2.2.2.2.2.1, o.2.2.2.2.2.2.2.2.2.2.2.2.2.2.2.2.2.2.2.2.2.2.2.2.2.2.2.2.2.2.2.2.2.2.2.2.2.2.2.2.2.2.2.2.2.2.2)
def s_snapDefault (o : Ob) (v : Int32) : Ob := (o.1, o.2.1, o.2.2.1, o.2.2.2.1, o.2.2.2.2.1, o.2.2.2.2.2.1, o.2.2.2.2.2.2.1, o.2.2.2.2.2.2.2.1, o.2.2.2.2.2.2.2.2.1, o.2.2.2.2.2.2.2.2.2.1, o.2.2.2.2.2.2.2.2.2.2.1, o.2.2.2.2.2.2.2.2.2.2.2.1, o.2.2.2.2.2.2.2.2.2.2.2.2.1, o.2.2.2.2.2.2.2.2.2.2.2.2.2.1, o.2.2.2.2.2.2.2.2.2.2.2.2.2.2.1, o.2.2.2.2.2.2.2.2.2.2.2.2.2.2.2.1, o.2.2.2.2.2.2.2.2.2.2.2.2.2.2.2.2.1, o.2.2.2.2.2.2.2.2.2.2.2.2.2.2.2.2.2.1, o.2.2.2.2.2.2.2.2.2.2.2.2.2.2.2.2.2.2.1, o.2.2.2.2.2.2.2.2.2.2.2.2.2.2.2.2.2.2.2.1, o.2.2.2.2.2.2.2.2.2.2.2.2.2.2.2.2.2.2.2.2.1, o.2.2.2.2.2.2.2.2.2.2.2.2.2.2.2.2.2.2.2.2.2.1, o.2.2.2.2.2.2.2.2.2.2.2.2.2.2.2.2.2.2.2.2.2.2.1, o.2.2.2.2.2.2.2.2.2.2.2.2.2.2.2.2.2.2.2.2.2.2.2.1, o.2.2.2.2.2.2.2.2.2.2.2.2.2.2.2.2.2.2.2.2.2.2.2.2.1, o.2.2.2.2.2.2.2.2.2.2.2.2.2.2.2.2.2.2.2.2.2.2.2.2.2.1, o.2.2.2.2.2.2.2.2.2.2.2.2.2.2.2.2.2.2.2.2.2.2.2.2.2.2.1, o.2.2.2.2.2.2.2.2.2.2.2.2.2.2.2.2.2.2.2.2.2.2.2.2.2.2.2.1, o.2.2.2.2.2.2.2.2.2.2.2.2.2.2.2.2.2.2.2.2.2.2.2.2.2.2.2.2.1, o.2.2.2.2.2.2.2.2.2.2.2.2.2.2.2.2.2.2.2.2.2.2.2.2.2.2.2.2.2.1, o.2.2.2.2.2.2.2.2.2.2.2.2.2.2.2.2.2.2.2.2.2.2.2.2.2.2.2.2.2.2.1, o.2.2.2.2.2.2.2.2.2.2.2.2.2.2.2.2.2.2.2.2.2.2.2.2.2.2.2.2.2.2.2.1, o.2.2.2.2.2.2.2.2.2.2.2.2.2.2.2.2.2.2.2.2.2.2.2.2.2.2.2.2.2.2.2.2.1, o.2.2.2.2.2.2.2.2.2.2.2.2.2.2.2.2.2.2.2.2.2.2.2.2.2.2.2.2.2.2.2.2.2.1, o.2.2.2.2.2.2.2.2.2.2.2.2.2.2.2.2.2.2.2.2.2.2.2.2.2.2.2.2.2.2.2.2.2.2.1, o.2.2.2.2.2.2.2.2.2.2.2.2.2.2.2.2.2.2.2.2.2.2.2.2.2.2.2.2.2.2.2.2.2.2.2.1, o.2.2.2.2.2.2.2.2.2.2.2.2.2.2.2.2.2.2.2.2.2.2.2.2.2.2.2.2.2.2.2.2.2.2.2.2.1, o.2.2.2.2.2.2.2.2.2.2.2.2.2.2.2.2.2.2.2.2.2.2.2.2.2.2.2.2.2.2.2.2.2.2.2.2.2.1, o.2.2.2.2.2.2.2.2.2.2.2.2.2.2.2.2.2.2.2.2.2.2.2.2.2.2.2.2.2.2.2.2.2.2.2.2.2.2.1, o.2.2.2.2.2.2.2.2.2.2.2.2.2.2.2.2.2.2.2.2.2.2.2.2.2.2.2.2.2.2.2.2.2.2.2.2.2.2.2.1, v, o.2.2.2.2.2.2.2.2.2.2.2.2.2.2.2.2.2.2.2.2.2.2.2.2.2.2.2.2.2.2.2.2.2.2.2.2.2.2.2.2.2.1, o.2.2.2.2.2.2.2.2.2.2.2.2.2.2.2.2.2.2.2.2.2.2.2.2.2.2.2.2.2.2.2.2.2.2.2.2.2.2.2.2.2.2.1, o.2.2.2.2.2.2.2.2.2.2.2.2.2.2.2.2.2.2.2.2.2.2.2.2.2.2.2.2.2.2.2.2.2.2.2.2.2.2.2.2.2.2.2.1, o.2.2.2.2.2.2.2.2.2.2.2.2.2.2.2.2.2.2.2.2.2.2.2.2.2.2.2.2.2.2.2.2.2.2.2.2.2.2.2.2.2.2.2.2.1, o.2.2.2.2.2.2.2.2.2.2.2.2.2.2.2.2.2.2.2.2.2.2.2.2.2.2.2.2.2.2.2.2.2.2.2.2.2.2.2.2.2.2.2.2.2.1, o.2.2.2.2.2.2.2.2.2.2.2.2.2.2.2.2.2.2.2.2.2.2.2.2.2.2.2.2.2.2.2.2.2.2.2.2.2.2.2.2.2.2.2.2.2.2.1, o.2.2.2.2.2.2.2.2.2.2.2.2.2.2.2.2.2.2.2.2.2.2.2.2.2.2.2.2.2.2.2.2.2.2.2.2.2.2.2.2.2.2.2.2.2.2.2)
def s_hasSnap (o : Ob) (v : Int32) : Ob := (o.1, o.2.1, o.2.2.1, o.2.2.2.1, o.2.2.2.2.1, o.2.2.2.2.2.1, o.2.2.2.2.2.2.1, o.2.2.2.2.2.2.2.1, o.2.2.2.2.2.2.2.2.1, o.2.2.2.2.2.2.2.2.2.1, o.2.2.2.2.2.2.2.2.2.2.1, o.2.2.2.2.2.2.2.2.2.2.2.1, o.2.2.2.2.2.2.2.2.2.2.2.2.1, o.2.2.2.2.2.2.2.2.2.2.2.2.2.1, o.2.2.2.2.2.2.2.2.2.2.2.2.2.2.1, o.2.2.2.2.2.2.2.2.2.2.2.2.2.2.2.1, o.2.2.2.2.2.2.2.2.2.2.2.2.2.2.2.2.1, o.2.2.2.2.2.2.2.2.2.2.2.2.2.2.2.2.2.1, o.2.2.2.2.2.2.2.2.2.2.2.2.2.2.2.2.2.2.1, o.2.2.2.2.2.2.2.2.2.2.2.2.2.2.2.2.2.2.2.1, o.2.2.2.2.2.2.2.2.2.2.2.2.2.2.2.2.2.2.2.2.1, o.2.2.2.2.2.2.2.2.2.2.2.2.2.2.2.2.2.2.2.2.2.1, o.2.2.2.2.2.2.2.2.2.2.2.2.2.2.2.2.2.2.2.2.2.2.1, o.2.2.2.2.2.2.2.2.2.2.2.2.2.2.2.2.2.2.2.2.2.2.2.1, o.2.2.2.2.2.2.2.2.2.2.2.2.2.2.2.2.2.2.2.2.2.2.2.2.1, o.2.2.2.2.2.2.2.2.2.2.2.2.2.2.2.2.2.2.2.2.2.2.2.2.2.1, o.2.2.2.2.2.2.2.2.2.2.2.2.2.2.2.2.2.2.2.2.2.2.2.2.2.2.1, o.2.2.2.2.2.2.2.2.2.2.2.2.2.2.2.2.2.2.2.2.2.2.2.2.2.2.2.1, o.2.2.2.2.2.2.2.2.2.2.2.2.2.2.2.2.2.2.2.2.2.2.2.2.2.2.2.2.1, o.2.2.2.2.2.2.2.2.2.2.2.2.2.2.2.2.2.2.2.2.2.2.2.2.2.2.2.2.2.1, o.2.2.2.2.2.2.2.2.2.2.2.2.2.2.2.2.2.2.2.2.2.2.2.2.2.2.2.2.2.2.1, o.2.2.2.2.2.2.2.2.2.2.2.2.2.2.2.2.2.2.2.2.2.2.2.2.2.2.2.2.2.2.2.1, o.2.2.2.2.2.2.2.2.2.2.2.2.2.2.2.2.2.2.2.2.2.2.2.2.2.2.2.2.2.2.2.2.1, o.2.2.2.2.2.2.2.2.2.2.2.2.2.2.2.2.2.2.2.2.2.2.2.2.2.2.2.2.2.2.2.2.2.1, o.2.2.2.2.2.2.2.2.2.2.2.2.2.2.2.2.2.2.2.2.2.2.2.2.2.2.2.2.2.2.2.2.2.2.1, o.2.2.2.2.2.2.2.2.2.2.2.2.2.2.2.2.2.2.2.2.2.2.2.2.2.2.2.2.2.2.2.2.2.2.2.1, o.2.2.2.2.2.2.2.2.2.2.2.2.2.2.2.2.2.2.2.2.2.2.2.2.2.2.2.2.2.2.2.2.2.2.2.2.1, o.2.2.2.2.2.2.2.2.2.2.2.2.2.2.2.2.2.2.2.2.2.2.2.2.2.2.2.2.2.2.2.2.2.2.2.2.2.1, o.2.2.2.2.2.2.2.2.2.2.2.2.2.2.2.2.2.2.2.2.2.2.2.2.2.2.2.2.2.2.2.2.2.2.2.2.2.2.1, o.2.2.2.2.2.2.2.2.2.2.2.2.2.2.2.2.2.2.2.2.2.2.2.2.2.2.2.2.2.2.2.2.2.2.2.2.2.2.2.1, o.2.2.2.2.2.2.2.2.2.2.2.2.2.2.2.2.2.2.2.2.2.2.2.2.2.2.2.2.2.2.2.2.2.2.2.2.2.2.2.2.1, v, o.2.2.2.2.2.2.2.2.2.2.2.2.2.2.2.2.2.2.2.2.2.2.2.2.2.2.2.2.2.2.2.2.2.2.2.2.2.2.2.2.2.2.1, o.2.2.2.2.2.2.2.2.2.2.2.2.2.2.2.2.2.2.2.2.2.2.2.2.2.2.2.2.2.2.2.2.2.2.2.2.2.2.2.2.2.2.2.1, o.2.2.2.2.2.2.2.2.2.2.2.2.2.2.2.2.2.2.2.2.2.2.2.2.2.2.2.2.2.2.2.2.2.2.2.2.2.2.2.2.2.2.2.2.1, o.2.2.2.2.2.2.2.2.2.2.2.2.2.2.2.2.2.2.2.2.2.2.2.2.2.2.2.2.2.2.2.2.2.2.2.2.2.2.2.2.2.2.2.2.2.1, o.2.2.2.2.2.2.2.2.2.2.2.2.2.2.2.2.2.2.2.2.2.2.2.2.2.2.2.2.2.2.2.2.2.2.2.2.2.2.2.2.2.2.2.2.2.2.1, o.2.2.2.2.2.2.2.2.2.2.2.2.2.2.2.2.2.2.2.2.2.2.2.2.2.2.2.2.2.2.2.2.2.2.2.2.2.2.2.2.2.2.2.2.2.2.2)
def s_clCount (o : Ob) (v : Int32) : Ob := (o.1, o.2.1, o.2.2.1, o.2.2.2.1, o.2.2.2.2.1, o.2.2.2.2.2.1, o.2.2.2.2.2.2.1, o.2.2.2.2.2.2.2.1, o.2.2.2.2.2.2.2.2.1, o.2.2.2.2.2.2.2.2.2.1, o.2.2.2.2.2.2.2.2.2.2.1, o.2.2.2.2.2.2.2.2.2.2.2.1, o.2.2.2.2.2.2.2.2.2.2.2.2.1, o.2.2.2.2.2.2.2.2.2.2.2.2.2.1, o.2.2.2.2.2.2.2.2.2.2.2.2.2.2.1, o.2.2.2.2.2.2.2.2.2.2.2.2.2.2.2.1, o.2.2.2.2.2.2.2.2.2.2.2.2.2.2.2.2.1, o.2.2.2.2.2.2.2.2.2.2.2.2.2.2.2.2.2.1, o.2.2.2.2.2.2.2.2.2.2.2.2.2.2.2.2.2.2.1, o.2.2.2.2.2.2.2.2.2.2.2.2.2.2.2.2.2.2.2.1, o.2.2.2.2.2.2.2.2.2.2.2.2.2.2.2.2.2.2.2.2.1, o.2.2.2.2.2.2.2.2.2.2.2.2.2.2.2.2.2.2.2.2.2.1, o.2.2.2.2.2.2.2.2.2.2.2.2.2.2.2.2.2.2.2.2.2.2.1, o.2.2.2.2.2.2.2.2.2.2.2.2.2.2.2.2.2.2.2.2.2.2.2.1, o.2.2.2.2.2.2.2.2.2.2.2.2.2.2.2.2.2.2.2.2.2.2.2.2.1, o.2.2.2.2.2.2.2.2.2.2.2.2.2.2.2.2.2.2.2.2.2.2.2.2.2.1, o.2.2.2.2.2.2.2.2.2.2.2.2.2.2.2.2.2.2.2.2.2.2.2.2.2.2.1, o.2.2.2.2.2.2.2.2.2.2.2.2.2.2.2.2.2.2.2.2.2.2.2.2.2.2.2.1, o.2.2.2.2.2.2.2.2.2.2.2.2.2.2.2.2.2.2.2.2.2.2.2.2.2.2.2.2.1, o.2.2.2.2.2.2.2.2.2.2.2.2.2.2.2.2.2.2.2.2.2.2.2.2.2.2.2.2.2.1, o.2.2.2.2.2.2.2.2.2.2.2.2.2.2.2.2.2.2.2.2.2.2.2.2.2.2.2.2.2.2.1, o.2.2.2.2.2.2.2.2.2.2.2.2.2.2.2.2.2.2.2.2.2.2.2.2.2.2.2.2.2.2.2.1, o.2.2.2.2.2.2.2.2.2.2.2.2.2.2.2.2.2.2.2.2.2.2.2.2.2.2.2.2.2.2.2.2.1, o.2.2.2.2.2.2.2.2.2.2.2.2.2.2.2.2.2.2.2.2.2.2.2.2.2.2.2.2.2.2.2.2.2.1, o.2.2.2.2.2.2.2.2.2.2.2.2.2.2.2.2.2.2.2.2.2.2.2.2.2.2.2.2.2.2.2.2.2.2.1, o.2.2.2.2.2.2.2.2.2.2.2.2.2.2.2.2.2.2.2.2.2.2.2.2.2.2.2.2.2.2.2.2.2.2.2.1, o.2.2.2.2.2.2.2.2.2.2.2.2.2.2.2.2.2.2.2.2.2.2.2.2.2.2.2.2.2.2.2.2.2.2.2.2.1, o.2.2.2.2.2.2.2.2.2.2.2.2.2.2.2.2.2.2.2.2.2.2.2.2.2.2.2.2.2.2.2.2.2.2.2.2.2.1, o.2.2.2.2.2.2.2.2.2.2.2.2.2.2.2.2.2.2.2.2.2.2.2.2.2.2.2.2.2.2.2.2.2.2.2.2.2.2.1, o.2.2.2.2.2.2.2.2.2.2.2.2.2.2.2.2.2.2.2.2.2.2.2.2.2.2.2.2.2.2.2.2.2.2.2.2.2.2.2.1, o.2.2.2.2.2.2.2.2.2.2.2.2.2.2.2.2.2.2.2.2.2.2.2.2.2.2.2.2.2.2.2.2.2.2.2.2.2.2.2.2.1, o.2.2.2.2.2.2.2.2.2.2.2.2.2.2.2.2.2.2.2.2.2.2.2.2.2.2.2.2.2.2.2.2.2.2.2.2.2.2.2.2.2.1, v, o.2.2.2.2.2.2.2.2.2.2.2.2.2.2.2.2.2.2.2.2.2.2.2.2.2.2.2.2.2.2.2.2.2.2.2.2.2.2.2.2.2.2.2.1, o.2.2.2.2.2.2.2.2.2.2.2.2.2.2.2.2.2.2.2.2.2.2.2.2.2.2.2.2.2.2.2.2.2.2.2.2.2.2.2.2.2.2.2.2.1, o.2.2.2.2.2.2.2.2.2.2.2.2.2.2.2.2.2.2.2.2.2.2.2.2.2.2.2.2.2.2.2.2.2.2.2.2.2.2.2.2.2.2.2.2.2.1, o.2.2.2.2.2.2.2.2.2.2.2.2.2.2.2.2.2.2.2.2.2.2.2.2.2.2.2.2.2.2.2.2.2.2.2.2.2.2.2.2.2.2.2.2.2.2.1, o.2.2.2.2.2.2.2.2.2.2.2.2.2.2.2.2.2.2.2.2.2.2.2.2.2.2.2.2.2.2.2.2.2.2.2.2.2.2.2.2.2.2.2.2.2.2.2)
def s_codeLen (o : Ob) (v : Int32) : Ob := (o.1, o.2.1, o.2.2.1, o.2.2.2.1, o.2.2.2.2.1, o.2.2.2.2.2.1, o.2.2.2.2.2.2.1, o.2.2.2.2.2.2.2.1, o.2.2.2.2.2.2.2.2.1, o.2.2.2.2.2.2.2.2.2.1, o.2.2.2.2.2.2.2.2.2.2.1, o.2.2.2.2.2.2.2.2.2.2.2.1, o.2.2.2.2.2.2.2.2.2.2.2.2.1, o.2.2.2.2.2.2.2.2.2.2.2.2.2.1, o.2.2.2.2.2.2.2.2.2.2.2.2.2.2.1, o.2.2.2.2.2.2.2.2.2.2.2.2.2.2.2.1, o.2.2.2.2.2.2.2.2.2.2.2.2.2.2.2.2.1, o.2.2.2.2.2.2.2.2.2.2.2.2.2.2.2.2.2.1, o.2.2.2.2.2.2.2.2.2.2.2.2.2.2.2.2.2.2.1, o.2.2.2.2.2.2.2.2.2.2.2.2.2.2.2.2.2.2.2.1, o.2.2.2.2.2.2.2.2.2.2.2.2.2.2.2.2.2.2.2.2.1, o.2.2.2.2.2.2.2.2.2.2.2.2.2.2.2.2.2.2.2.2.2.1, o.2.2.2.2.2.2.2.2.2.2.2.2.2.2.2.2.2.2.2.2.2.2.1, o.2.2.2.2.2.2.2.2.2.2.2.2.2.2.2.2.2.2.2.2.2.2.2.1, o.2.2.2.2.2.2.2.2.2.2.2.2.2.2.2.2.2.2.2.2.2.2.2.2.1, o.2.2.2.2.2.2.2.2.2.2.2.2.2.2.2.2.2.2.2.2.2.2.2.2.2.1, o.2.2.2.2.2.2.2.2.2.2.2.2.2.2.2.2.2.2.2.2.2.2.2.2.2.2.1, o.2.2.2.2.2.2.2.2.2.2.2.2.2.2.2.2.2.2.2.2.2.2.2.2.2.2.2.1, o.2.2.2.2.2.2.2.2.2.2.2.2.2.2.2.2.2.2.2.2.2.2.2.2.2.2.2.2.1, o.2.2.2.2.2.2.2.2.2.2.2.2.2.2.2.2.2.2.2.2.2.2.2.2.2.2.2.2.2.1, o.2.2.2.2.2.2.2.2.2.2.2.2.2.2.2.2.2.2.2.2.2.2.2.2.2.2.2.2.2.2.1, o.2.2.2.2.2.2.2.2.2.2.2.2.2.2.2.2.2.2.2.2.2.2.2.2.2.2.2.2.2.2.2.1, o.2.2.2.2.2.2.2.2.2.2.2.2.2.2.2.2.2.2.2.2.2.2.2.2.2.2.2.2.2.2.2.2.1, o.2.2.2.2.2.2.2.2.2.2.2.2.2.2.2.2.2.2.2.2.2.2.2.2.2.2.2.2.2.2.2.2.2.1, o.2.2.2.2.2.2.2.2.2.2.2.2.2.2.2.2.2.2.2.2.2.2.2.2.2.2.2.2.2.2.2.2.2.2.1, o.2.2.2.2.2.2.2.2.2.2.2.2.2.2.2.2.2.2.2.2.2.2.2.2.2.2.2.2.2.2.2.2.2.2.2.1, o.2.2.2.2.2.2.2.2.2.2.2.2.2.2.2.2.2.2.2.2.2.2.2.2.2.2.2.2.2.2.2.2.2.2.2.2.1, o.2.2.2.2.2.2.2.2.2.2.2.2.2.2.2.2.2.2.2.2.2.2.2.2.2.2.2.2.2.2.2.2.2.2.2.2.2.1, o.2.2.2.2.2.2.2.2.2.2.2.2.2.2.2.2.2.2.2.2.2.2.2.2.2.2.2.2.2.2.2.2.2.2.2.2.2.2.1, o.2.2.2.2.2.2.2.2.2.2.2.2.2.2.2.2.2.2.2.2.2.2.2.2.2.2.2.2.2.2.2.2.2.2.2.2.2.2.2.1, o.2.2.2.2.2.2.2.2.2.2.2.2.2.2.2.2.2.2.2.2.2.2.2.2.2.2.2.2.2.2.2.2.2.2.2.2.2.2.2.2.1, o.2.2.2.2.2.2.2.2.2.2.2.2.2.2.2.2.2.2.2.2.2.2.2.2.2.2.2.2.2.2.2.2.2.2.2.2.2.2.2.2.2.1, o.2.2.2.2.2.2.2.2.2.2.2.2.2.2.2.2.2.2.2.2.2.2.2.2.2.2.2.2.2.2.2.2.2.2.2.2.2.2.2.2.2.2.1, v, o.2.2.2.2.2.2.2.2.2.2.2.2.2.2.2.2.2.2.2.2.2.2.2.2.2.2.2.2.2.2.2.2.2.2.2.2.2.2.2.2.2.2.2.2.1, o.2.2.2.2.2.2.2.2.2.2.2.2.2.2.2.2.2.2.2.2.2.2.2.2.2.2.2.2.2.2.2.2.2.2.2.2.2.2.2.2.2.2.2.2.2.1, o.2.2.2.2.2.2.2.2.2.2.2.2.2.2.2.2.2.2.2.2.2.2.2.2.2.2.2.2.2.2.2.2.2.2.2.2.2.2.2.2.2.2.2.2.2.2.1, o.2.2.2.2.2.2.2.2.2.2.2.2.2.2.2.2.2.2.2.2.2.2.2.2.2.2.2.2.2.2.2.2.2.2.2.2.2.2.2.2.2.2.2.2.2.2.2)
def s_rootPc (o : Ob) (v : Int32) : Ob := (o.1, o.2.1, o.2.2.1, o.2.2.2.1, o.2.2.2.2.1, o.2.2.2.2.2.1, o.2.2.2.2.2.2.1, o.2.2.2.2.2.2.2.1, o.2.2.2.2.2.2.2.2.1, o.2.2.2.2.2.2.2.2.2.1, o.2.2.2.2.2.2.2.2.2.2.1, o.2.2.2.2.2.2.2.2.2.2.2.1, o.2.2.2.2.2.2.2.2.2.2.2.2.1, o.2.2.2.2.2.2.2.2.2.2.2.2.2.1, o.2.2.2.2.2.2.2.2.2.2.2.2.2.2.1, o.2.2.2.2.2.2.2.2.2.2.2.2.2.2.2.1, o.2.2.2.2.2.2.2.2.2.2.2.2.2.2.2.2.1, o.2.2.2.2.2.2.2.2.2.2.2.2.2.2.2.2.2.1, o.2.2.2.2.2.2.2.2.2.2.2.2.2.2.2.2.2.2.1, o.2.2.2.2.2.2.2.2.2.2.2.2.2.2.2.2.2.2.2.1, o.2.2.2.2.2.2.2.2.2.2.2.2.2.2.2.2.2.2.2.2.1, o.2.2.2.2.2.2.2.2.2.2.2.2.2.2.2.2.2.2.2.2.2.1, o.2.2.2.2.2.2.2.2.2.2.2.2.2.2.2.2.2.2.2.2.2.2.1, o.2.2.2.2.2.2.2.2.2.2.2.2.2.2.2.2.2.2.2.2.2.2.2.1, o.2.2.2.2.2.2.2.2.2.2.2.2.2.2.2.2.2.2.2.2.2.2.2.2.1, o.2.2.2.2.2.2.2.2.2.2.2.2.2.2.2.2.2.2.2.2.2.2.2.2.2.1, o.2.2.2.2.2.2.2.2.2.2.2.2.2.2.2.2.2.2.2.2.2.2.2.2.2.2.1, o.2.2.2.2.2.2.2.2.2.2.2.2.2.2.2.2.2.2.2.2.2.2.2.2.2.2.2.1, o.2.2.2.2.2.2.2.2.2.2.2.2.2.2.2.2.2.2.2.2.2.2.2.2.2.2.2.2.1, o.2.2.2.2.2.2.2.2.2.2.2.2.2.2.2.2.2.2.2.2.2.2.2.2.2.2.2.2.2.1, o.2.2.2.2.2.2.2.2.2.2.2.2.2.2.2.2.2.2.2.2.2.2.2.2.2.2.2.2.2.2.1, o.2.2.2.2.2.2.2.2.2.2.2.2.2.2.2.2.2.2.2.2.2.2.2.2.2.2.2.2.2.2.2.1, o.2.2.2.2.2.2.2.2.2.2.2.2.2.2.2.2.2.2.2.2.2.2.2.2.2.2.2.2.2.2.2.2.1, o.2.2.2.2.2.2.2.2.2.2.2.2.2.2.2.2.2.2.2.2.2.2.2.2.2.2.2.2.2.2.2.2.2.1, o.2.2.2.2.2.2.2.2.2.2.2.2.2.2.2.2.2.2.2.2.2.2.2.2.2.2.2.2.2.2.2.2.2.2.1, o.2.2.2.2.2.2.2.2.2.2.2.2.2.2.2.2.2.2.2.2.2.2.2.2.2.2.2.2.2.2.2.2.2.2.2.1, o.2.2.2.2.2.2.2.2.2.2.2.2.2.2.2.2.2.2.2.2.2.2.2.2.2.2.2.2.2.2.2.2.2.2.2.2.1, o.2.2.2.2.2.2.2.2.2.2.2.2.2.2.2.2.2.2.2.2.2.2.2.2.2.2.2.2.2.2.2.2.2.2.2.2.2.1, o.2.2.2.2.2.2.2.2.2.2.2.2.2.2.2.2.2.2.2.2.2.2.2.2.2.2.2.2.2.2.2.2.2.2.2.2.2.2.1, o.2.2.2.2.2.2.2.2.2.2.2.2.2.2.2.2.2.2.2.2.2.2.2.2.2.2.2.2.2.2.2.2.2.2.2.2.2.2.2.1, o.2.2.2.2.2.2.2.2.2.2.2.2.2.2.2.2.2.2.2.2.2.2.2.2.2.2.2.2.2.2.2.2.2.2.2.2.2.2.2.2.1, o.2.2.2.2.2.2.2.2.2.2.2.2.2.2.2.2.2.2.2.2.2.2.2.2.2.2.2.2.2.2.2.2.2.2.2.2.2.2.2.2.2.1, o.2.2.2.2.2.2.2.2.2.2.2.2.2.2.2.2.2.2.2.2.2.2.2.2.2.2.2.2.2.2.2.2.2.2.2.2.2.2.2.2.2.2.1, o.2.2.2.2.2.2.2.2.2.2.2.2.2.2.2.2.2.2.2.2.2.2.2.2.2.2.2.2.2.2.2.2.2.2.2.2.2.2.2.2.2.2.2.1, v, o.2.2.2.2.2.2.2.2.2.2.2.2.2.2.2.2.2.2.2.2.2.2.2.2.2.2.2.2.2.2.2.2.2.2.2.2.2.2.2.2.2.2.2.2.2.1, o.2.2.2.2.2.2.2.2.2.2.2.2.2.2.2.2.2.2.2.2.2.2.2.2.2.2.2.2.2.2.2.2.2.2.2.2.2.2.2.2.2.2.2.2.2.2.1, o.2.2.2.2.2.2.2.2.2.2.2.2.2.2.2.2.2.2.2.2.2.2.2.2.2.2.2.2.2.2.2.2.2.2.2.2.2.2.2.2.2.2.2.2.2.2.2)
def s_tableUsed (o : Ob) (v : Int32) : Ob := (o.1, o.2.1, o.2.2.1, o.2.2.2.1, o.2.2.2.2.1, o.2.2.2.2.2.1, o.2.2.2.2.2.2.1, o.2.2.2.2.2.2.2.1, o.2.2.2.2.2.2.2.2.1, o.2.2.2.2.2.2.2.2.2.1, o.2.2.2.2.2.2.2.2.2.2.1, o.2.2.2.2.2.2.2.2.2.2.2.1, o.2.2.2.2.2.2.2.2.2.2.2.2.1, o.2.2.2.2.2.2.2.2.2.2.2.2.2.1, o.2.2.2.2.2.2.2.2.2.2.2.2.2.2.1, o.2.2.2.2.2.2.2.2.2.2.2.2.2.2.2.1, o.2.2.2.2.2.2.2.2.2.2.2.2.2.2.2.2.1, o.2.2.2.2.2.2.2.2.2.2.2.2.2.2.2.2.2.1, o.2.2.2.2.2.2.2.2.2.2.2.2.2.2.2.2.2.2.1, o.2.2.2.2.2.2.2.2.2.2.2.2.2.2.2.2.2.2.2.1, o.2.2.2.2.2.2.2.2.2.2.2.2.2.2.2.2.2.2.2.2.1, o.2.2.2.2.2.2.2.2.2.2.2.2.2.2.2.2.2.2.2.2.2.1, o.2.2.2.2.2.2.2.2.2.2.2.2.2.2.2.2.2.2.2.2.2.2.1, o.2.2.2.2.2.2.2.2.2.2.2.2.2.2.2.2.2.2.2.2.2.2.2.1, o.2.2.2.2.2.2.2.2.2.2.2.2.2.2.2.2.2.2.2.2.2.2.2.2.1, o.2.2.2.2.2.2.2.2.2.2.2.2.2.2.2.2.2.2.2.2.2.2.2.2.2.1, o.2.2.2.2.2.2.2.2.2.2.2.2.2.2.2.2.2.2.2.2.2.2.2.2.2.2.1, o.2.2.2.2.2.2.2.2.2.2.2.2.2.2.2.2.2.2.2.2.2.2.2.2.2.2.2.1, o.2.2.2.2.2.2.2.2.2.2.2.2.2.2.2.2.2.2.2.2.2.2.2.2.2.2.2.2.1, o.2.2.2.2.2.2.2.2.2.2.2.2.2.2.2.2.2.2.2.2.2.2.2.2.2.2.2.2.2.1, o.2.2.2.2.2.2.2.2.2.2.2.2.2.2.2.2.2.2.2.2.2.2.2.2.2.2.2.2.2.2.1, o.2.2.2.2.2.2.2.2.2.2.2.2.2.2.2.2.2.2.2.2.2.2.2.2.2.2.2.2.2.2.2.1, o.2.2.2.2.2.2.2.2.2.2.2.2.2.2.2.2.2.2.2.2.2.2.2.2.2.2.2.2.2.2.2.2.1, o.2.2.2.2.2.2.2.2.2.2.2.2.2.2.2.2.2.2.2.2.2.2.2.2.2.2.2.2.2.2.2.2.2.1, o.2.2.2.2.2.2.2.2.2.2.2.2.2.2.2.2.2.2.2.2.2.2.2.2.2.2.2.2.2.2.2.2.2.2.1, o.2.2.2.2.2.2.2.2.2.2.2.2.2.2.2.2.2.2.2.2.2.2.2.2.2.2.2.2.2.2.2.2.2.2.2.1, o.2.2.2.2.2.2.2.2.2.2.2.2.2.2.2.2.2.2.2.2.2.2.2.2.2.2.2.2.2.2.2.2.2.2.2.2.1, o.2.2.2.2.2.2.2.2.2.2.2.2.2.2.2.2.2.2.2.2.2.2.2.2.2.2.2.2.2.2.2.2.2.2.2.2.2.1, o.2.2.2.2.2.2.2.2.2.2.2.2.2.2.2.2.2.2.2.2.2.2.2.2.2.2.2.2.2.2.2.2.2.2.2.2.2.2.1, o.2.2.2.2.2.2.2.2.2.2.2.2.2.2.2.2.2.2.2.2.2.2.2.2.2.2.2.2.2.2.2.2.2.2.2.2.2.2.2.1, o.2.2.2.2.2.2.2.2.2.2.2.2.2.2.2.2.2.2.2.2.2.2.2.2.2.2.2.2.2.2.2.2.2.2.2.2.2.2.2.2.1, o.2.2.2.2.2.2.2.2.2.2.2.2.2.2.2.2.2.2.2.2.2.2.2.2.2.2.2.2.2.2.2.2.2.2.2.2.2.2.2.2.2.1, o.2.2.2.2.2.2.2.2.2.2.2.2.2.2.2.2.2.2.2.2.2.2.2.2.2.2.2.2.2.2.2.2.2.2.2.2.2.2.2.2.2.2.1, o.2.2.2.2.2.2.2.2.2.2.2.2.2.2.2.2.2.2.2.2.2.2.2.2.2.2.2.2.2.2.2.2.2.2.2.2.2.2.2.2.2.2.2.1, o.2.2.2.2.2.2.2.2.2.2.2.2.2.2.2.2.2.2.2.2.2.2.2.2.2.2.2.2.2.2.2.2.2.2.2.2.2.2.2.2.2.2.2.2.1, v, o.2.2.2.2.2.2.2.2.2.2.2.2.2.2.2.2.2.2.2.2.2.2.2.2.2.2.2.2.2.2.2.2.2.2.2.2.2.2.2.2.2.2.2.2.2.2.1, o.2.2.2.2.2.2.2.2.2.2.2.2.2.2.2.2.2.2.2.2.2.2.2.2.2.2.2.2.2.2.2.2.2.2.2.2.2.2.2.2.2.2.2.2.2.2.2)
def s_maskUsed (o : Ob) (v : Int32) : Ob := (o.1, o.2.1, o.2.2.1, o.2.2.2.1, o.2.2.2.2.1, o.2.2.2.2.2.1, o.2.2.2.2.2.2.1, o.2.2.2.2.2.2.2.1, o.2.2.2.2.2.2.2.2.1, o.2.2.2.2.2.2.2.2.2.1, o.2.2.2.2.2.2.2.2.2.2.1, o.2.2.2.2.2.2.2.2.2.2.2.1, o.2.2.2.2.2.2.2.2.2.2.2.2.1, o.2.2.2.2.2.2.2.2.2.2.2.2.2.1, o.2.2.2.2.2.2.2.2.2.2.2.2.2.2.1, o.2.2.2.2.2.2.2.2.2.2.2.2.2.2.2.1, o.2.2.2.2.2.2.2.2.2.2.2.2.2.2.2.2.1, o.2.2.2.2.2.2.2.2.2.2.2.2.2.2.2.2.2.1, o.2.2.2.2.2.2.2.2.2.2.2.2.2.2.2.2.2.2.1, o.2.2.2.2.2.2.2.2.2.2.2.2.2.2.2.2.2.2.2.1, o.2.2.2.2.2.2.2.2.2.2.2.2.2.2.2.2.2.2.2.2.1, o.2.2.2.2.2.2.2.2.2.2.2.2.2.2.2.2.2.2.2.2.2.1, o.2.2.2.2.2.2.2.2.2.2.2.2.2.2.2.2.2.2.2.2.2.2.1, o.2.2.2.2.2.2.2.2.2.2.2.2.2.2.2.2.2.2.2.2.2.2.2.1, o.2.2.2.2.2.2.2.2.2.2.2.2.2.2.2.2.2.2.2.2.2.2.2.2.1, o.2.2.2.2.2.2.2.2.2.2.2.2.2.2.2.2.2.2.2.2.2.2.2.2.2.1, o.2.2.2.2.2.2.2.2.2.2.2.2.2.2.2.2.2.2.2.2.2.2.2.2.2.2.1, o.2.2.2.2.2.2.2.2.2.2.2.2.2.2.2.2.2.2.2.2.2.2.2.2.2.2.2.1, o.2.2.2.2.2.2.2.2.2.2.2.2.2.2.2.2.2.2.2.2.2.2.2.2.2.2.2.2.1, o.2.2.2.2.2.2.2.2.2.2.2.2.2.2.2.2.2.2.2.2.2.2.2.2.2.2.2.2.2.1, o.2.2.2.2.2.2.2.2.2.2.2.2.2.2.2.2.2.2.2.2.2.2.2.2.2.2.2.2.2.2.1, o.2.2.2.2.2.2.2.2.2.2.2.2.2.2.2.2.2.2.2.2.2.2.2.2.2.2.2.2.2.2.2.1, o.2.2.2.2.2.2.2.2.2.2.2.2.2.2.2.2.2.2.2.2.2.2.2.2.2.2.2.2.2.2.2.2.1, o.2.2.2.2.2.2.2.2.2.2.2.2.2.2.2.2.2.2.2.2.2.2.2.2.2.2.2.2.2.2.2.2.2.1, o.2.2.2.2.2.2.2.2.2.2.2.2.2.2.2.2.2.2.2.2.2.2.2.2.2.2.2.2.2.2.2.2.2.2.1, o.2.2.2.2.2.2.2.2.2.2.2.2.2.2.2.2.2.2.2.2.2.2.2.2.2.2.2.2.2.2.2.2.2.2.2.1, o.2.2.2.2.2.2.2.2.2.2.2.2.2.2.2.2.2.2.2.2.2.2.2.2.2.2.2.2.2.2.2.2.2.2.2.2.1, o.2.2.2.2.2.2.2.2.2.2.2.2.2.2.2.2.2.2.2.2.2.2.2.2.2.2.2.2.2.2.2.2.2.2.2.2.2.1, o.2.2.2.2.2.2.2.2.2.2.2.2.2.2.2.2.2.2.2.2.2.2.2.2.2.2.2.2.2.2.2.2.2.2.2.2.2.2.1, o.2.2.2.2.2.2.2.2.2.2.2.2.2.2.2.2.2.2.2.2.2.2.2.2.2.2.2.2.2.2.2.2.2.2.2.2.2.2.2.1, o.2.2.2.2.2.2.2.2.2.2.2.2.2.2.2.2.2.2.2.2.2.2.2.2.2.2.2.2.2.2.2.2.2.2.2.2.2.2.2.2.1, o.2.2.2.2.2.2.2.2.2.2.2.2.2.2.2.2.2.2.2.2.2.2.2.2.2.2.2.2.2.2.2.2.2.2.2.2.2.2.2.2.2.1, o.2.2.2.2.2.2.2.2.2.2.2.2.2.2.2.2.2.2.2.2.2.2.2.2.2.2.2.2.2.2.2.2.2.2.2.2.2.2.2.2.2.2.1, o.2.2.2.2.2.2.2.2.2.2.2.2.2.2.2.2.2.2.2.2.2.2.2.2.2.2.2.2.2.2.2.2.2.2.2.2.2.2.2.2.2.2.2.1, o.2.2.2.2.2.2.2.2.2.2.2.2.2.2.2.2.2.2.2.2.2.2.2.2.2.2.2.2.2.2.2.2.2.2.2.2.2.2.2.2.2.2.2.2.1, o.2.2.2.2.2.2.2.2.2.2.2.2.2.2.2.2.2.2.2.2.2.2.2.2.2.2.2.2.2.2.2.2.2.2.2.2.2.2.2.2.2.2.2.2.2.1, v, o.2.2.2.2.2.2.2.2.2.2.2.2.2.2.2.2.2.2.2.2.2.2.2.2.2.2.2.2.2.2.2.2.2.2.2.2.2.2.2.2.2.2.2.2.2.2.2)
def s_sp (o : Ob) (v : Int32) : Ob := (o.1, o.2.1, o.2.2.1, o.2.2.2.1, o.2.2.2.2.1, o.2.2.2.2.2.1, o.2.2.2.2.2.2.1, o.2.2.2.2.2.2.2.1, o.2.2.2.2.2.2.2.2.1, o.2.2.2.2.2.2.2.2.2.1, o.2.2.2.2.2.2.2.2.2.2.1, o.2.2.2.2.2.2.2.2.2.2.2.1, o.2.2.2.2.2.2.2.2.2.2.2.2.1, o.2.2.2.2.2.2.2.2.2.2.2.2.2.1, o.2.2.2.2.2.2.2.2.2.2.2.2.2.2.1, o.2.2.2.2.2.2.2.2.2.2.2.2.2.2.2.1, o.2.2.2.2.2.2.2.2.2.2.2.2.2.2.2.2.1, o.2.2.2.2.2.2.2.2.2.2.2.2.2.2.2.2.2.1, o.2.2.2.2.2.2.2.2.2.2.2.2.2.2.2.2.2.2.1, o.2.2.2.2.2.2.2.2.2.2.2.2.2.2.2.2.2.2.2.1, o.2.2.2.2.2.2.2.2.2.2.2.2.2.2.2.2.2.2.2.2.1, o.2.2.2.2.2.2.2.2.2.2.2.2.2.2.2.2.2.2.2.2.2.1, o.2.2.2.2.2.2.2.2.2.2.2.2.2.2.2.2.2.2.2.2.2.2.1, o.2.2.2.2.2.2.2.2.2.2.2.2.2.2.2.2.2.2.2.2.2.2.2.1, o.2.2.2.2.2.2.2.2.2.2.2.2.2.2.2.2.2.2.2.2.2.2.2.2.1, o.2.2.2.2.2.2.2.2.2.2.2.2.2.2.2.2.2.2.2.2.2.2.2.2.2.1, o.2.2.2.2.2.2.2.2.2.2.2.2.2.2.2.2.2.2.2.2.2.2.2.2.2.2.1, o.2.2.2.2.2.2.2.2.2.2.2.2.2.2.2.2.2.2.2.2.2.2.2.2.2.2.2.1, o.2.2.2.2.2.2.2.2.2.2.2.2.2.2.2.2.2.2.2.2.2.2.2.2.2.2.2.2.1, o.2.2.2.2.2.2.2.2.2.2.2.2.2.2.2.2.2.2.2.2.2.2.2.2.2.2.2.2.2.1, o.2.2.2.2.2.2.2.2.2.2.2.2.2.2.2.2.2.2.2.2.2.2.2.2.2.2.2.2.2.2.1, o.2.2.2.2.2.2.2.2.2.2.2.2.2.2.2.2.2.2.2.2.2.2.2.2.2.2.2.2.2.2.2.1, o.2.2.2.2.2.2.2.2.2.2.2.2.2.2.2.2.2.2.2.2.2.2.2.2.2.2.2.2.2.2.2.2.1, o.2.2.2.2.2.2.2.2.2.2.2.2.2.2.2.2.2.2.2.2.2.2.2.2.2.2.2.2.2.2.2.2.2.1, o.2.2.2.2.2.2.2.2.2.2.2.2.2.2.2.2.2.2.2.2.2.2.2.2.2.2.2.2.2.2.2.2.2.2.1, o.2.2.2.2.2.2.2.2.2.2.2.2.2.2.2.2.2.2.2.2.2.2.2.2.2.2.2.2.2.2.2.2.2.2.2.1, o.2.2.2.2.2.2.2.2.2.2.2.2.2.2.2.2.2.2.2.2.2.2.2.2.2.2.2.2.2.2.2.2.2.2.2.2.1, o.2.2.2.2.2.2.2.2.2.2.2.2.2.2.2.2.2.2.2.2.2.2.2.2.2.2.2.2.2.2.2.2.2.2.2.2.2.1, o.2.2.2.2.2.2.2.2.2.2.2.2.2.2.2.2.2.2.2.2.2.2.2.2.2.2.2.2.2.2.2.2.2.2.2.2.2.2.1, o.2.2.2.2.2.2.2.2.2.2.2.2.2.2.2.2.2.2.2.2.2.2.2.2.2.2.2.2.2.2.2.2.2.2.2.2.2.2.2.1, o.2.2.2.2.2.2.2.2.2.2.2.2.2.2.2.2.2.2.2.2.2.2.2.2.2.2.2.2.2.2.2.2.2.2.2.2.2.2.2.2.1, o.2.2.2.2.2.2.2.2.2.2.2.2.2.2.2.2.2.2.2.2.2.2.2.2.2.2.2.2.2.2.2.2.2.2.2.2.2.2.2.2.2.1, o.2.2.2.2.2.2.2.2.2.2.2.2.2.2.2.2.2.2.2.2.2.2.2.2.2.2.2.2.2.2.2.2.2.2.2.2.2.2.2.2.2.2.1, o.2.2.2.2.2.2.2.2.2.2.2.2.2.2.2.2.2.2.2.2.2.2.2.2.2.2.2.2.2.2.2.2.2.2.2.2.2.2.2.2.2.2.2.1, o.2.2.2.2.2.2.2.2.2.2.2.2.2.2.2.2.2.2.2.2.2.2.2.2.2.2.2.2.2.2.2.2.2.2.2.2.2.2.2.2.2.2.2.2.1, o.2.2.2.2.2.2.2.2.2.2.2.2.2.2.2.2.2.2.2.2.2.2.2.2.2.2.2.2.2.2.2.2.2.2.2.2.2.2.2.2.2.2.2.2.2.1, o.2.2.2.2.2.2.2.2.2.2.2.2.2.2.2.2.2.2.2.2.2.2.2.2.2.2.2.2.2.2.2.2.2.2.2.2.2.2.2.2.2.2.2.2.2.2.1, v)
theorem fs (o : Ob) : f_opRet o = o.1 ∧ f_opLess o = o.2.1 ∧ f_opEq o = o.2.2.1 ∧ f_opTable o = o.2.2.2.1 ∧ f_opBits o = o.2.2.2.2.1 ∧ f_maxCap o = o.2.2.2.2.2.1 ∧ f_maxTargets o = o.2.2.2.2.2.2.1 ∧ f_maxSteps o = o.2.2.2.2.2.2.2.1 ∧ f_tableSpanPerCase o = o.2.2.2.2.2.2.2.2.1 ∧ f_maxTableSpan o = o.2.2.2.2.2.2.2.2.2.1 ∧ f_maxBitSpan o = o.2.2.2.2.2.2.2.2.2.2.1 ∧ f_maxBitTargets o = o.2.2.2.2.2.2.2.2.2.2.2.1 ∧ f_unsignedMask o = o.2.2.2.2.2.2.2.2.2.2.2.2.1 ∧ f_maxInt o = o.2.2.2.2.2.2.2.2.2.2.2.2.2.1 ∧ f_curVal o = o.2.2.2.2.2.2.2.2.2.2.2.2.2.2.1 ∧ f_curTgt o = o.2.2.2.2.2.2.2.2.2.2.2.2.2.2.2.1 ∧ f_snapVal o = o.2.2.2.2.2.2.2.2.2.2.2.2.2.2.2.2.1 ∧ f_snapTgt o = o.2.2.2.2.2.2.2.2.2.2.2.2.2.2.2.2.2.1 ∧ f_bestCost o = o.2.2.2.2.2.2.2.2.2.2.2.2.2.2.2.2.2.2.1 ∧ f_bestCut o = o.2.2.2.2.2.2.2.2.2.2.2.2.2.2.2.2.2.2.2.1 ∧ f_clStart o = o.2.2.2.2.2.2.2.2.2.2.2.2.2.2.2.2.2.2.2.2.1 ∧ f_clEnd o = o.2.2.2.2.2.2.2.2.2.2.2.2.2.2.2.2.2.2.2.2.2.1 ∧ f_opc o = o.2.2.2.2.2.2.2.2.2.2.2.2.2.2.2.2.2.2.2.2.2.2.1 ∧ f_argA o = o.2.2.2.2.2.2.2.2.2.2.2.2.2.2.2.2.2.2.2.2.2.2.2.1 ∧ f_argB o = o.2.2.2.2.2.2.2.2.2.2.2.2.2.2.2.2.2.2.2.2.2.2.2.2.1 ∧ f_argC o = o.2.2.2.2.2.2.2.2.2.2.2.2.2.2.2.2.2.2.2.2.2.2.2.2.2.1 ∧ f_argD o = o.2.2.2.2.2.2.2.2.2.2.2.2.2.2.2.2.2.2.2.2.2.2.2.2.2.2.1 ∧ f_tablePool o = o.2.2.2.2.2.2.2.2.2.2.2.2.2.2.2.2.2.2.2.2.2.2.2.2.2.2.2.1 ∧ f_maskPool o = o.2.2.2.2.2.2.2.2.2.2.2.2.2.2.2.2.2.2.2.2.2.2.2.2.2.2.2.2.1 ∧ f_maskTarget o = o.2.2.2.2.2.2.2.2.2.2.2.2.2.2.2.2.2.2.2.2.2.2.2.2.2.2.2.2.2.1 ∧ f_stLo o = o.2.2.2.2.2.2.2.2.2.2.2.2.2.2.2.2.2.2.2.2.2.2.2.2.2.2.2.2.2.2.1 ∧ f_stHi o = o.2.2.2.2.2.2.2.2.2.2.2.2.2.2.2.2.2.2.2.2.2.2.2.2.2.2.2.2.2.2.2.1 ∧ f_stParent o = o.2.2.2.2.2.2.2.2.2.2.2.2.2.2.2.2.2.2.2.2.2.2.2.2.2.2.2.2.2.2.2.2.1 ∧ f_stSlot o = o.2.2.2.2.2.2.2.2.2.2.2.2.2.2.2.2.2.2.2.2.2.2.2.2.2.2.2.2.2.2.2.2.2.1 ∧ f_cap o = o.2.2.2.2.2.2.2.2.2.2.2.2.2.2.2.2.2.2.2.2.2.2.2.2.2.2.2.2.2.2.2.2.2.2.1 ∧ f_targets o = o.2.2.2.2.2.2.2.2.2.2.2.2.2.2.2.2.2.2.2.2.2.2.2.2.2.2.2.2.2.2.2.2.2.2.2.1 ∧ f_curCount o = o.2.2.2.2.2.2.2.2.2.2.2.2.2.2.2.2.2.2.2.2.2.2.2.2.2.2.2.2.2.2.2.2.2.2.2.2.1 ∧ f_curDefault o = o.2.2.2.2.2.2.2.2.2.2.2.2.2.2.2.2.2.2.2.2.2.2.2.2.2.2.2.2.2.2.2.2.2.2.2.2.2.1 ∧ f_dirty o = o.2.2.2.2.2.2.2.2.2.2.2.2.2.2.2.2.2.2.2.2.2.2.2.2.2.2.2.2.2.2.2.2.2.2.2.2.2.2.1 ∧ f_snapCount o = o.2.2.2.2.2.2.2.2.2.2.2.2.2.2.2.2.2.2.2.2.2.2.2.2.2.2.2.2.2.2.2.2.2.2.2.2.2.2.2.1 ∧ f_snapDefault o = o.2.2.2.2.2.2.2.2.2.2.2.2.2.2.2.2.2.2.2.2.2.2.2.2.2.2.2.2.2.2.2.2.2.2.2.2.2.2.2.2.1 ∧ f_hasSnap o = o.2.2.2.2.2.2.2.2.2.2.2.2.2.2.2.2.2.2.2.2.2.2.2.2.2.2.2.2.2.2.2.2.2.2.2.2.2.2.2.2.2.1 ∧ f_clCount o = o.2.2.2.2.2.2.2.2.2.2.2.2.2.2.2.2.2.2.2.2.2.2.2.2.2.2.2.2.2.2.2.2.2.2.2.2.2.2.2.2.2.2.1 ∧ f_codeLen o = o.2.2.2.2.2.2.2.2.2.2.2.2.2.2.2.2.2.2.2.2.2.2.2.2.2.2.2.2.2.2.2.2.2.2.2.2.2.2.2.2.2.2.2.1 ∧ f_rootPc o = o.2.2.2.2.2.2.2.2.2.2.2.2.2.2.2.2.2.2.2.2.2.2.2.2.2.2.2.2.2.2.2.2.2.2.2.2.2.2.2.2.2.2.2.2.1 ∧ f_tableUsed o = o.2.2.2.2.2.2.2.2.2.2.2.2.2.2.2.2.2.2.2.2.2.2.2.2.2.2.2.2.2.2.2.2.2.2.2.2.2.2.2.2.2.2.2.2.2.1 ∧ f_maskUsed o = o.2.2.2.2.2.2.2.2.2.2.2.2.2.2.2.2.2.2.2.2.2.2.2.2.2.2.2.2.2.2.2.2.2.2.2.2.2.2.2.2.2.2.2.2.2.2.1 ∧ f_sp o = o.2.2.2.2.2.2.2.2.2.2.2.2.2.2.2.2.2.2.2.2.2.2.2.2.2.2.2.2.2.2.2.2.2.2.2.2.2.2.2.2.2.2.2.2.2.2.2 := by simp only [f_opRet, f_opLess, f_opEq, f_opTable, f_opBits, f_maxCap, f_maxTargets, f_maxSteps, f_tableSpanPerCase, f_maxTableSpan, f_maxBitSpan, f_maxBitTargets, f_unsignedMask, f_maxInt, f_curVal, f_curTgt, f_snapVal, f_snapTgt, f_bestCost, f_bestCut, f_clStart, f_clEnd, f_opc, f_argA, f_argB, f_argC, f_argD, f_tablePool, f_maskPool, f_maskTarget, f_stLo, f_stHi, f_stParent, f_stSlot, f_cap, f_targets, f_curCount, f_curDefault, f_dirty, f_snapCount, f_snapDefault, f_hasSnap, f_clCount, f_codeLen, f_rootPc, f_tableUsed, f_maskUsed, f_sp, and_self]
def ob0 : Ob := (0, 0, 0, 0, 0, 0, 0, 0, 0, 0, 0, 0, 0, 0, [], [], [], [], [], [], [], [], [], [], [], [], [], [], [], [], [], [], [], [], 0, 0, 0, 0, 0, 0, 0, 0, 0, 0, 0, 0, 0, 0)
section Walks
variable {l : Launch} {Z : State} {n0 : Nat} {ad : Nat → Addr} {a0 : Array Value}
set_option maxRecDepth 20000
set_option maxHeartbeats 2000000
abbrev tt : Bool := true
abbrev ff : Bool := false
open QTri renaming steps → zS, brT → zT, brF → zF, bnd → zB, mask → zM
open Option (bind_eq_some_iff)
open Classical (em)
def H0 (s : List Int32) (o0 : Ob) : QHeap := [.inr (.inl (.int, s)), .inl [.int (f_opRet o0), .int (f_opLess o0), .int (f_opEq o0), .int (f_opTable o0), .int (f_opBits o0), .int (f_maxCap o0), .int (f_maxTargets o0), .int (f_maxSteps o0), .int (f_tableSpanPerCase o0), .int (f_maxTableSpan o0), .int (f_maxBitSpan o0), .int (f_maxBitTargets o0), .long (f_unsignedMask o0), .int (f_maxInt o0), .ref 2, .ref 3, .ref 4, .ref 5, .ref 6, .ref 7, .ref 8, .ref 9, .ref 10, .ref 11, .ref 12, .ref 13, .ref 14, .ref 15, .ref 16, .ref 17, .ref 18, .ref 19, .ref 20, .ref 21, .int (f_cap o0), .int (f_targets o0), .int (f_curCount o0), .int (f_curDefault o0), .int (f_dirty o0), .int (f_snapCount o0), .int (f_snapDefault o0), .int (f_hasSnap o0), .int (f_clCount o0), .int (f_codeLen o0), .int (f_rootPc o0), .int (f_tableUsed o0), .int (f_maskUsed o0), .int (f_sp o0)], .inr (.inl (.int, (f_curVal o0))), .inr (.inl (.byte, (f_curTgt o0))), .inr (.inl (.int, (f_snapVal o0))), .inr (.inl (.byte, (f_snapTgt o0))), .inr (.inl (.int, (f_bestCost o0))), .inr (.inl (.int, (f_bestCut o0))), .inr (.inl (.int, (f_clStart o0))), .inr (.inl (.int, (f_clEnd o0))), .inr (.inl (.byte, (f_opc o0))), .inr (.inl (.int, (f_argA o0))), .inr (.inl (.int, (f_argB o0))), .inr (.inl (.int, (f_argC o0))), .inr (.inl (.int, (f_argD o0))), .inr (.inl (.byte, (f_tablePool o0))), .inr (.inr (f_maskPool o0)), .inr (.inl (.byte, (f_maskTarget o0))), .inr (.inl (.int, (f_stLo o0))), .inr (.inl (.int, (f_stHi o0))), .inr (.inl (.int, (f_stParent o0))), .inr (.inl (.int, (f_stSlot o0)))]
def H0v (s : List Int32) (a0_0 : Int32) (a0_1 : Int32) (a0_2 : Int32) (a0_3 : Int32) (a0_4 : Int32) (a0_5 : Int32) (a0_6 : Int32) (a0_7 : Int32) (a0_8 : Int32) (a0_9 : Int32) (a0_10 : Int32) (a0_11 : Int32) (a0_12 : Int64) (a0_13 : Int32) (a0_14 : List Int32) (a0_15 : List Int32) (a0_16 : List Int32) (a0_17 : List Int32) (a0_18 : List Int32) (a0_19 : List Int32) (a0_20 : List Int32) (a0_21 : List Int32) (a0_22 : List Int32) (a0_23 : List Int32) (a0_24 : List Int32) (a0_25 : List Int32) (a0_26 : List Int32) (a0_27 : List Int32) (a0_28 : List Int64) (a0_29 : List Int32) (a0_30 : List Int32) (a0_31 : List Int32) (a0_32 : List Int32) (a0_33 : List Int32) (a0_34 : Int32) (a0_35 : Int32) (a0_36 : Int32) (a0_37 : Int32) (a0_38 : Int32) (a0_39 : Int32) (a0_40 : Int32) (a0_41 : Int32) (a0_42 : Int32) (a0_43 : Int32) (a0_44 : Int32) (a0_45 : Int32) (a0_46 : Int32) (a0_47 : Int32) : QHeap := [.inr (.inl (.int, s)), .inl [.int a0_0, .int a0_1, .int a0_2, .int a0_3, .int a0_4, .int a0_5, .int a0_6, .int a0_7, .int a0_8, .int a0_9, .int a0_10, .int a0_11, .long a0_12, .int a0_13, .ref 2, .ref 3, .ref 4, .ref 5, .ref 6, .ref 7, .ref 8, .ref 9, .ref 10, .ref 11, .ref 12, .ref 13, .ref 14, .ref 15, .ref 16, .ref 17, .ref 18, .ref 19, .ref 20, .ref 21, .int a0_34, .int a0_35, .int a0_36, .int a0_37, .int a0_38, .int a0_39, .int a0_40, .int a0_41, .int a0_42, .int a0_43, .int a0_44, .int a0_45, .int a0_46, .int a0_47], .inr (.inl (.int, a0_14)), .inr (.inl (.byte, a0_15)), .inr (.inl (.int, a0_16)), .inr (.inl (.byte, a0_17)), .inr (.inl (.int, a0_18)), .inr (.inl (.int, a0_19)), .inr (.inl (.int, a0_20)), .inr (.inl (.int, a0_21)), .inr (.inl (.byte, a0_22)), .inr (.inl (.int, a0_23)), .inr (.inl (.int, a0_24)), .inr (.inl (.int, a0_25)), .inr (.inl (.int, a0_26)), .inr (.inl (.byte, a0_27)), .inr (.inr a0_28), .inr (.inl (.byte, a0_29)), .inr (.inl (.int, a0_30)), .inr (.inl (.int, a0_31)), .inr (.inl (.int, a0_32)), .inr (.inl (.int, a0_33))]
def H0x0 (s : List Int32) (o0 : Ob) (a0_0 : Int32) (a0_1 : Int32) (a0_2 : Int32) (a0_3 : Int32) (a0_4 : Int32) (a0_5 : Int32) (a0_6 : Int32) (a0_7 : Int32) (a0_8 : Int32) (a0_9 : Int32) (a0_10 : Int32) (a0_11 : Int32) (a0_12 : Int64) (a0_13 : Int32) (a0_14 : List Int32) (a0_15 : List Int32) (a0_16 : List Int32) (a0_17 : List Int32) (a0_18 : List Int32) (a0_19 : List Int32) (a0_20 : List Int32) (a0_21 : List Int32) (a0_22 : List Int32) (a0_23 : List Int32) (a0_24 : List Int32) (a0_25 : List Int32) (a0_26 : List Int32) (a0_27 : List Int32) (a0_28 : List Int64) (a0_29 : List Int32) (a0_30 : List Int32) (a0_31 : List Int32) (a0_32 : List Int32) (a0_33 : List Int32) : QHeap := H0v s a0_0 a0_1 a0_2 a0_3 a0_4 a0_5 a0_6 a0_7 a0_8 a0_9 a0_10 a0_11 a0_12 a0_13 a0_14 a0_15 a0_16 a0_17 a0_18 a0_19 a0_20 a0_21 a0_22 a0_23 a0_24 a0_25 a0_26 a0_27 a0_28 a0_29 a0_30 a0_31 a0_32 a0_33 (f_cap o0) (f_targets o0) (f_curCount o0) (f_curDefault o0) (f_dirty o0) (f_snapCount o0) (f_snapDefault o0) (f_hasSnap o0) (f_clCount o0) (f_codeLen o0) (f_rootPc o0) (f_tableUsed o0) (f_maskUsed o0) (f_sp o0)
/-- clamp(III)I -/
def F2 (x1 : Int32) (x2 : Int32) (x3 : Int32) : Option (Int32) :=
 (if x1 < x2 then some x2 else (if x3 < x1 then some x3 else some x1))
theorem tF2 (Ad : QAd n0 ad) (W : QW Z a0) {a : Nat} {σ : QHeap} (x1 : Int32) (x2 : Int32) (x3 : Int32) {r : Int32} (h : F2 x1 x2 x3 = some r) : QTri l Z n0 ad 2 (0, qentry [.ref a, .int x1, .int x2, .int x3] (pMaxL 2), [], σ) (some (Value.int r)) σ := by
 unfold F2 at h
 refine zS Ad W 2 (st' := (2, [vR a, vI x1, vI x2, vI x3], [.int x2, .int x1], σ)) rfl ?_
 rcases qite h with ⟨hc1, h⟩ | ⟨hc1, h⟩
 ·refine zF Ad W (t := 7) (f := 5) rfl (XT.ii_ge_f hc1) ?_
  refine zS Ad W 1 (st' := (6, [vR a, vI x1, vI x2, vI x3], [.int x2], σ)) rfl ?_
  obtain rfl := Option.some.inj h
  exact QTri.retI rfl rfl
 ·refine zT Ad W (t := 7) (f := 5) rfl (XT.ii_ge_t hc1) ?_
  refine zS Ad W 2 (st' := (9, [vR a, vI x1, vI x2, vI x3], [.int x3, .int x1], σ)) rfl ?_
  rcases qite h with ⟨hc2, h⟩ | ⟨hc2, h⟩
  ·refine zF Ad W (t := 14) (f := 12) rfl (XT.ii_le_f hc2) ?_
   refine zS Ad W 1 (st' := (13, [vR a, vI x1, vI x2, vI x3], [.int x3], σ)) rfl ?_
   obtain rfl := Option.some.inj h
   exact QTri.retI rfl rfl
  ·refine zT Ad W (t := 14) (f := 12) rfl (XT.ii_le_t hc2) ?_
   refine zS Ad W 1 (st' := (15, [vR a, vI x1, vI x2, vI x3], [.int x1], σ)) rfl ?_
   obtain rfl := Option.some.inj h
   exact QTri.retI rfl rfl
def H0x1 (s : List Int32) (o0 : Ob) (a0_0 : Int32) (a0_1 : Int32) (a0_2 : Int32) (a0_3 : Int32) (a0_4 : Int32) (a0_5 : Int32) (a0_6 : Int32) (a0_7 : Int32) (a0_8 : Int32) (a0_9 : Int32) (a0_10 : Int32) (a0_11 : Int32) (a0_12 : Int64) (a0_13 : Int32) (a0_14 : List Int32) (a0_15 : List Int32) (a0_16 : List Int32) (a0_17 : List Int32) (a0_18 : List Int32) (a0_19 : List Int32) (a0_20 : List Int32) (a0_21 : List Int32) (a0_22 : List Int32) (a0_23 : List Int32) (a0_24 : List Int32) (a0_25 : List Int32) (a0_26 : List Int32) (a0_27 : List Int32) (a0_28 : List Int64) (a0_29 : List Int32) (a0_30 : List Int32) (a0_31 : List Int32) (a0_32 : List Int32) (a0_33 : List Int32) (a0_34 : Int32) : QHeap := H0v s a0_0 a0_1 a0_2 a0_3 a0_4 a0_5 a0_6 a0_7 a0_8 a0_9 a0_10 a0_11 a0_12 a0_13 a0_14 a0_15 a0_16 a0_17 a0_18 a0_19 a0_20 a0_21 a0_22 a0_23 a0_24 a0_25 a0_26 a0_27 a0_28 a0_29 a0_30 a0_31 a0_32 a0_33 a0_34 (f_targets o0) (f_curCount o0) (f_curDefault o0) (f_dirty o0) (f_snapCount o0) (f_snapDefault o0) (f_hasSnap o0) (f_clCount o0) (f_codeLen o0) (f_rootPc o0) (f_tableUsed o0) (f_maskUsed o0) (f_sp o0)
def H0x2 (s : List Int32) (o0 : Ob) (a0_0 : Int32) (a0_1 : Int32) (a0_2 : Int32) (a0_3 : Int32) (a0_4 : Int32) (a0_5 : Int32) (a0_6 : Int32) (a0_7 : Int32) (a0_8 : Int32) (a0_9 : Int32) (a0_10 : Int32) (a0_11 : Int32) (a0_12 : Int64) (a0_13 : Int32) (a0_14 : List Int32) (a0_15 : List Int32) (a0_16 : List Int32) (a0_17 : List Int32) (a0_18 : List Int32) (a0_19 : List Int32) (a0_20 : List Int32) (a0_21 : List Int32) (a0_22 : List Int32) (a0_23 : List Int32) (a0_24 : List Int32) (a0_25 : List Int32) (a0_26 : List Int32) (a0_27 : List Int32) (a0_28 : List Int64) (a0_29 : List Int32) (a0_30 : List Int32) (a0_31 : List Int32) (a0_32 : List Int32) (a0_33 : List Int32) (a0_34 : Int32) (a0_35 : Int32) : QHeap := H0v s a0_0 a0_1 a0_2 a0_3 a0_4 a0_5 a0_6 a0_7 a0_8 a0_9 a0_10 a0_11 a0_12 a0_13 a0_14 a0_15 a0_16 a0_17 a0_18 a0_19 a0_20 a0_21 a0_22 a0_23 a0_24 a0_25 a0_26 a0_27 a0_28 a0_29 a0_30 a0_31 a0_32 a0_33 a0_34 a0_35 (f_curCount o0) (f_curDefault o0) (f_dirty o0) (f_snapCount o0) (f_snapDefault o0) (f_hasSnap o0) (f_clCount o0) (f_codeLen o0) (f_rootPc o0) (f_tableUsed o0) (f_maskUsed o0) (f_sp o0)
def H0x3 (s : List Int32) (o0 : Ob) (a0_36 : Int32) : QHeap := H0v s (f_opRet o0) (f_opLess o0) (f_opEq o0) (f_opTable o0) (f_opBits o0) (f_maxCap o0) (f_maxTargets o0) (f_maxSteps o0) (f_tableSpanPerCase o0) (f_maxTableSpan o0) (f_maxBitSpan o0) (f_maxBitTargets o0) (f_unsignedMask o0) (f_maxInt o0) (f_curVal o0) (f_curTgt o0) (f_snapVal o0) (f_snapTgt o0) (f_bestCost o0) (f_bestCut o0) (f_clStart o0) (f_clEnd o0) (f_opc o0) (f_argA o0) (f_argB o0) (f_argC o0) (f_argD o0) (f_tablePool o0) (f_maskPool o0) (f_maskTarget o0) (f_stLo o0) (f_stHi o0) (f_stParent o0) (f_stSlot o0) (f_cap o0) (f_targets o0) a0_36 (f_curDefault o0) (f_dirty o0) (f_snapCount o0) (f_snapDefault o0) (f_hasSnap o0) (f_clCount o0) (f_codeLen o0) (f_rootPc o0) (f_tableUsed o0) (f_maskUsed o0) (f_sp o0)
def H0x4 (s : List Int32) (o0 : Ob) (a0_36 : Int32) (a0_37 : Int32) : QHeap := H0v s (f_opRet o0) (f_opLess o0) (f_opEq o0) (f_opTable o0) (f_opBits o0) (f_maxCap o0) (f_maxTargets o0) (f_maxSteps o0) (f_tableSpanPerCase o0) (f_maxTableSpan o0) (f_maxBitSpan o0) (f_maxBitTargets o0) (f_unsignedMask o0) (f_maxInt o0) (f_curVal o0) (f_curTgt o0) (f_snapVal o0) (f_snapTgt o0) (f_bestCost o0) (f_bestCut o0) (f_clStart o0) (f_clEnd o0) (f_opc o0) (f_argA o0) (f_argB o0) (f_argC o0) (f_argD o0) (f_tablePool o0) (f_maskPool o0) (f_maskTarget o0) (f_stLo o0) (f_stHi o0) (f_stParent o0) (f_stSlot o0) (f_cap o0) (f_targets o0) a0_36 a0_37 (f_dirty o0) (f_snapCount o0) (f_snapDefault o0) (f_hasSnap o0) (f_clCount o0) (f_codeLen o0) (f_rootPc o0) (f_tableUsed o0) (f_maskUsed o0) (f_sp o0)
def H0x5 (s : List Int32) (o0 : Ob) (a0_36 : Int32) (a0_37 : Int32) (a0_38 : Int32) : QHeap := H0v s (f_opRet o0) (f_opLess o0) (f_opEq o0) (f_opTable o0) (f_opBits o0) (f_maxCap o0) (f_maxTargets o0) (f_maxSteps o0) (f_tableSpanPerCase o0) (f_maxTableSpan o0) (f_maxBitSpan o0) (f_maxBitTargets o0) (f_unsignedMask o0) (f_maxInt o0) (f_curVal o0) (f_curTgt o0) (f_snapVal o0) (f_snapTgt o0) (f_bestCost o0) (f_bestCut o0) (f_clStart o0) (f_clEnd o0) (f_opc o0) (f_argA o0) (f_argB o0) (f_argC o0) (f_argD o0) (f_tablePool o0) (f_maskPool o0) (f_maskTarget o0) (f_stLo o0) (f_stHi o0) (f_stParent o0) (f_stSlot o0) (f_cap o0) (f_targets o0) a0_36 a0_37 a0_38 (f_snapCount o0) (f_snapDefault o0) (f_hasSnap o0) (f_clCount o0) (f_codeLen o0) (f_rootPc o0) (f_tableUsed o0) (f_maskUsed o0) (f_sp o0)
def H0x6 (s : List Int32) (o0 : Ob) (a0_36 : Int32) (a0_37 : Int32) (a0_38 : Int32) (a0_39 : Int32) : QHeap := H0v s (f_opRet o0) (f_opLess o0) (f_opEq o0) (f_opTable o0) (f_opBits o0) (f_maxCap o0) (f_maxTargets o0) (f_maxSteps o0) (f_tableSpanPerCase o0) (f_maxTableSpan o0) (f_maxBitSpan o0) (f_maxBitTargets o0) (f_unsignedMask o0) (f_maxInt o0) (f_curVal o0) (f_curTgt o0) (f_snapVal o0) (f_snapTgt o0) (f_bestCost o0) (f_bestCut o0) (f_clStart o0) (f_clEnd o0) (f_opc o0) (f_argA o0) (f_argB o0) (f_argC o0) (f_argD o0) (f_tablePool o0) (f_maskPool o0) (f_maskTarget o0) (f_stLo o0) (f_stHi o0) (f_stParent o0) (f_stSlot o0) (f_cap o0) (f_targets o0) a0_36 a0_37 a0_38 a0_39 (f_snapDefault o0) (f_hasSnap o0) (f_clCount o0) (f_codeLen o0) (f_rootPc o0) (f_tableUsed o0) (f_maskUsed o0) (f_sp o0)
def H0x7 (s : List Int32) (o0 : Ob) (a0_36 : Int32) (a0_37 : Int32) (a0_38 : Int32) (a0_39 : Int32) (a0_40 : Int32) : QHeap := H0v s (f_opRet o0) (f_opLess o0) (f_opEq o0) (f_opTable o0) (f_opBits o0) (f_maxCap o0) (f_maxTargets o0) (f_maxSteps o0) (f_tableSpanPerCase o0) (f_maxTableSpan o0) (f_maxBitSpan o0) (f_maxBitTargets o0) (f_unsignedMask o0) (f_maxInt o0) (f_curVal o0) (f_curTgt o0) (f_snapVal o0) (f_snapTgt o0) (f_bestCost o0) (f_bestCut o0) (f_clStart o0) (f_clEnd o0) (f_opc o0) (f_argA o0) (f_argB o0) (f_argC o0) (f_argD o0) (f_tablePool o0) (f_maskPool o0) (f_maskTarget o0) (f_stLo o0) (f_stHi o0) (f_stParent o0) (f_stSlot o0) (f_cap o0) (f_targets o0) a0_36 a0_37 a0_38 a0_39 a0_40 (f_hasSnap o0) (f_clCount o0) (f_codeLen o0) (f_rootPc o0) (f_tableUsed o0) (f_maskUsed o0) (f_sp o0)
def H0x8 (s : List Int32) (o0 : Ob) (a0_36 : Int32) (a0_37 : Int32) (a0_38 : Int32) (a0_39 : Int32) (a0_40 : Int32) (a0_41 : Int32) : QHeap := H0v s (f_opRet o0) (f_opLess o0) (f_opEq o0) (f_opTable o0) (f_opBits o0) (f_maxCap o0) (f_maxTargets o0) (f_maxSteps o0) (f_tableSpanPerCase o0) (f_maxTableSpan o0) (f_maxBitSpan o0) (f_maxBitTargets o0) (f_unsignedMask o0) (f_maxInt o0) (f_curVal o0) (f_curTgt o0) (f_snapVal o0) (f_snapTgt o0) (f_bestCost o0) (f_bestCut o0) (f_clStart o0) (f_clEnd o0) (f_opc o0) (f_argA o0) (f_argB o0) (f_argC o0) (f_argD o0) (f_tablePool o0) (f_maskPool o0) (f_maskTarget o0) (f_stLo o0) (f_stHi o0) (f_stParent o0) (f_stSlot o0) (f_cap o0) (f_targets o0) a0_36 a0_37 a0_38 a0_39 a0_40 a0_41 (f_clCount o0) (f_codeLen o0) (f_rootPc o0) (f_tableUsed o0) (f_maskUsed o0) (f_sp o0)
def H0x9 (s : List Int32) (o0 : Ob) (a0_36 : Int32) (a0_37 : Int32) (a0_38 : Int32) (a0_39 : Int32) (a0_40 : Int32) (a0_41 : Int32) (a0_42 : Int32) : QHeap := H0v s (f_opRet o0) (f_opLess o0) (f_opEq o0) (f_opTable o0) (f_opBits o0) (f_maxCap o0) (f_maxTargets o0) (f_maxSteps o0) (f_tableSpanPerCase o0) (f_maxTableSpan o0) (f_maxBitSpan o0) (f_maxBitTargets o0) (f_unsignedMask o0) (f_maxInt o0) (f_curVal o0) (f_curTgt o0) (f_snapVal o0) (f_snapTgt o0) (f_bestCost o0) (f_bestCut o0) (f_clStart o0) (f_clEnd o0) (f_opc o0) (f_argA o0) (f_argB o0) (f_argC o0) (f_argD o0) (f_tablePool o0) (f_maskPool o0) (f_maskTarget o0) (f_stLo o0) (f_stHi o0) (f_stParent o0) (f_stSlot o0) (f_cap o0) (f_targets o0) a0_36 a0_37 a0_38 a0_39 a0_40 a0_41 a0_42 (f_codeLen o0) (f_rootPc o0) (f_tableUsed o0) (f_maskUsed o0) (f_sp o0)
def H0x10 (s : List Int32) (o0 : Ob) (a0_36 : Int32) (a0_37 : Int32) (a0_38 : Int32) (a0_39 : Int32) (a0_40 : Int32) (a0_41 : Int32) (a0_42 : Int32) (a0_43 : Int32) : QHeap := H0v s (f_opRet o0) (f_opLess o0) (f_opEq o0) (f_opTable o0) (f_opBits o0) (f_maxCap o0) (f_maxTargets o0) (f_maxSteps o0) (f_tableSpanPerCase o0) (f_maxTableSpan o0) (f_maxBitSpan o0) (f_maxBitTargets o0) (f_unsignedMask o0) (f_maxInt o0) (f_curVal o0) (f_curTgt o0) (f_snapVal o0) (f_snapTgt o0) (f_bestCost o0) (f_bestCut o0) (f_clStart o0) (f_clEnd o0) (f_opc o0) (f_argA o0) (f_argB o0) (f_argC o0) (f_argD o0) (f_tablePool o0) (f_maskPool o0) (f_maskTarget o0) (f_stLo o0) (f_stHi o0) (f_stParent o0) (f_stSlot o0) (f_cap o0) (f_targets o0) a0_36 a0_37 a0_38 a0_39 a0_40 a0_41 a0_42 a0_43 (f_rootPc o0) (f_tableUsed o0) (f_maskUsed o0) (f_sp o0)
def H0x11 (s : List Int32) (o0 : Ob) (a0_36 : Int32) (a0_37 : Int32) (a0_38 : Int32) (a0_39 : Int32) (a0_40 : Int32) (a0_41 : Int32) (a0_42 : Int32) (a0_43 : Int32) (a0_44 : Int32) : QHeap := H0v s (f_opRet o0) (f_opLess o0) (f_opEq o0) (f_opTable o0) (f_opBits o0) (f_maxCap o0) (f_maxTargets o0) (f_maxSteps o0) (f_tableSpanPerCase o0) (f_maxTableSpan o0) (f_maxBitSpan o0) (f_maxBitTargets o0) (f_unsignedMask o0) (f_maxInt o0) (f_curVal o0) (f_curTgt o0) (f_snapVal o0) (f_snapTgt o0) (f_bestCost o0) (f_bestCut o0) (f_clStart o0) (f_clEnd o0) (f_opc o0) (f_argA o0) (f_argB o0) (f_argC o0) (f_argD o0) (f_tablePool o0) (f_maskPool o0) (f_maskTarget o0) (f_stLo o0) (f_stHi o0) (f_stParent o0) (f_stSlot o0) (f_cap o0) (f_targets o0) a0_36 a0_37 a0_38 a0_39 a0_40 a0_41 a0_42 a0_43 a0_44 (f_tableUsed o0) (f_maskUsed o0) (f_sp o0)
def H0x12 (s : List Int32) (o0 : Ob) (a0_36 : Int32) (a0_37 : Int32) (a0_38 : Int32) (a0_39 : Int32) (a0_40 : Int32) (a0_41 : Int32) (a0_42 : Int32) (a0_43 : Int32) (a0_44 : Int32) (a0_45 : Int32) : QHeap := H0v s (f_opRet o0) (f_opLess o0) (f_opEq o0) (f_opTable o0) (f_opBits o0) (f_maxCap o0) (f_maxTargets o0) (f_maxSteps o0) (f_tableSpanPerCase o0) (f_maxTableSpan o0) (f_maxBitSpan o0) (f_maxBitTargets o0) (f_unsignedMask o0) (f_maxInt o0) (f_curVal o0) (f_curTgt o0) (f_snapVal o0) (f_snapTgt o0) (f_bestCost o0) (f_bestCut o0) (f_clStart o0) (f_clEnd o0) (f_opc o0) (f_argA o0) (f_argB o0) (f_argC o0) (f_argD o0) (f_tablePool o0) (f_maskPool o0) (f_maskTarget o0) (f_stLo o0) (f_stHi o0) (f_stParent o0) (f_stSlot o0) (f_cap o0) (f_targets o0) a0_36 a0_37 a0_38 a0_39 a0_40 a0_41 a0_42 a0_43 a0_44 a0_45 (f_maskUsed o0) (f_sp o0)
def H0x13 (s : List Int32) (o0 : Ob) (a0_36 : Int32) (a0_37 : Int32) (a0_38 : Int32) (a0_39 : Int32) (a0_40 : Int32) (a0_41 : Int32) (a0_42 : Int32) (a0_43 : Int32) (a0_44 : Int32) (a0_45 : Int32) (a0_46 : Int32) : QHeap := H0v s (f_opRet o0) (f_opLess o0) (f_opEq o0) (f_opTable o0) (f_opBits o0) (f_maxCap o0) (f_maxTargets o0) (f_maxSteps o0) (f_tableSpanPerCase o0) (f_maxTableSpan o0) (f_maxBitSpan o0) (f_maxBitTargets o0) (f_unsignedMask o0) (f_maxInt o0) (f_curVal o0) (f_curTgt o0) (f_snapVal o0) (f_snapTgt o0) (f_bestCost o0) (f_bestCut o0) (f_clStart o0) (f_clEnd o0) (f_opc o0) (f_argA o0) (f_argB o0) (f_argC o0) (f_argD o0) (f_tablePool o0) (f_maskPool o0) (f_maskTarget o0) (f_stLo o0) (f_stHi o0) (f_stParent o0) (f_stSlot o0) (f_cap o0) (f_targets o0) a0_36 a0_37 a0_38 a0_39 a0_40 a0_41 a0_42 a0_43 a0_44 a0_45 a0_46 (f_sp o0)
def H0x14 (s : List Int32) (o0 : Ob) (a0_36 : Int32) (a0_37 : Int32) (a0_38 : Int32) (a0_39 : Int32) (a0_40 : Int32) (a0_41 : Int32) (a0_42 : Int32) (a0_43 : Int32) (a0_44 : Int32) (a0_45 : Int32) (a0_46 : Int32) (a0_47 : Int32) : QHeap := H0v s (f_opRet o0) (f_opLess o0) (f_opEq o0) (f_opTable o0) (f_opBits o0) (f_maxCap o0) (f_maxTargets o0) (f_maxSteps o0) (f_tableSpanPerCase o0) (f_maxTableSpan o0) (f_maxBitSpan o0) (f_maxBitTargets o0) (f_unsignedMask o0) (f_maxInt o0) (f_curVal o0) (f_curTgt o0) (f_snapVal o0) (f_snapTgt o0) (f_bestCost o0) (f_bestCut o0) (f_clStart o0) (f_clEnd o0) (f_opc o0) (f_argA o0) (f_argB o0) (f_argC o0) (f_argD o0) (f_tablePool o0) (f_maskPool o0) (f_maskTarget o0) (f_stLo o0) (f_stHi o0) (f_stParent o0) (f_stSlot o0) (f_cap o0) (f_targets o0) a0_36 a0_37 a0_38 a0_39 a0_40 a0_41 a0_42 a0_43 a0_44 a0_45 a0_46 a0_47
/-- reset()V -/
def F3 (o : Ob) : Option (Ob) :=
 some (s_sp (s_maskUsed (s_tableUsed (s_rootPc (s_codeLen (s_clCount (s_hasSnap (s_snapDefault (s_snapCount (s_dirty (s_curDefault (s_curCount o (0:Int32)) (0:Int32)) (0:Int32)) (0:Int32)) (0:Int32)) (0:Int32)) (0:Int32)) (0:Int32)) (0:Int32)) (0:Int32)) (0:Int32)) (0:Int32))
theorem tF3 (Ad : QAd n0 ad) (W : QW Z a0) (s : List Int32) (o : Ob) {r : Ob} (h : F3 o = some r) : QTri l Z n0 ad 3 (0, qentry [.ref 1] (pMaxL 3), [], (H0 s o)) (none : Option Value) (H0 s r) := by
 unfold F3 at h
 refine zS Ad W 3 (st' := (5, [vR 1], [], (H0x3 s o (0:Int32)))) rfl ?_
 refine zS Ad W 3 (st' := (10, [vR 1], [], (H0x4 s o (0:Int32) (0:Int32)))) rfl ?_
 refine zS Ad W 3 (st' := (15, [vR 1], [], (H0x5 s o (0:Int32) (0:Int32) (0:Int32)))) rfl ?_
 refine zS Ad W 3 (st' := (20, [vR 1], [], (H0x6 s o (0:Int32) (0:Int32) (0:Int32) (0:Int32)))) rfl ?_
 refine zS Ad W 3 (st' := (25, [vR 1], [], (H0x7 s o (0:Int32) (0:Int32) (0:Int32) (0:Int32) (0:Int32)))) rfl ?_
 refine zS Ad W 3 (st' := (30, [vR 1], [], (H0x8 s o (0:Int32) (0:Int32) (0:Int32) (0:Int32) (0:Int32) (0:Int32)))) rfl ?_
 refine zS Ad W 3 (st' := (35, [vR 1], [], (H0x9 s o (0:Int32) (0:Int32) (0:Int32) (0:Int32) (0:Int32) (0:Int32) (0:Int32)))) rfl ?_
 refine zS Ad W 3 (st' := (40, [vR 1], [], (H0x10 s o (0:Int32) (0:Int32) (0:Int32) (0:Int32) (0:Int32) (0:Int32) (0:Int32) (0:Int32)))) rfl ?_
 refine zS Ad W 3 (st' := (45, [vR 1], [], (H0x11 s o (0:Int32) (0:Int32) (0:Int32) (0:Int32) (0:Int32) (0:Int32) (0:Int32) (0:Int32) (0:Int32)))) rfl ?_
 refine zS Ad W 3 (st' := (50, [vR 1], [], (H0x12 s o (0:Int32) (0:Int32) (0:Int32) (0:Int32) (0:Int32) (0:Int32) (0:Int32) (0:Int32) (0:Int32) (0:Int32)))) rfl ?_
 refine zS Ad W 3 (st' := (55, [vR 1], [], (H0x13 s o (0:Int32) (0:Int32) (0:Int32) (0:Int32) (0:Int32) (0:Int32) (0:Int32) (0:Int32) (0:Int32) (0:Int32) (0:Int32)))) rfl ?_
 refine zS Ad W 3 (st' := (60, [vR 1], [], (H0x14 s o (0:Int32) (0:Int32) (0:Int32) (0:Int32) (0:Int32) (0:Int32) (0:Int32) (0:Int32) (0:Int32) (0:Int32) (0:Int32) (0:Int32)))) rfl ?_
 have E6 : ((H0x14 s o (0:Int32) (0:Int32) (0:Int32) (0:Int32) (0:Int32) (0:Int32) (0:Int32) (0:Int32) (0:Int32) (0:Int32) (0:Int32) (0:Int32)) : QHeap) = (H0 s (s_sp (s_maskUsed (s_tableUsed (s_rootPc (s_codeLen (s_clCount (s_hasSnap (s_snapDefault (s_snapCount (s_dirty (s_curDefault (s_curCount o (0:Int32)) (0:Int32)) (0:Int32)) (0:Int32)) (0:Int32)) (0:Int32)) (0:Int32)) (0:Int32)) (0:Int32)) (0:Int32)) (0:Int32)) (0:Int32))) := by simp only [fs, H0, H0v, H0x14, s_curCount, s_curDefault, s_dirty, s_snapCount, s_snapDefault, s_hasSnap, s_clCount, s_codeLen, s_rootPc, s_tableUsed, s_maskUsed, s_sp]
 rw [E6]
 obtain rfl := Option.some.inj h
 exact QTri.ret0 rfl rfl
/-- init(II)V -/
def F1 (x1 : Int32) (x2 : Int32) : Option (Ob) :=
 (F2 x1 (1:Int32) (64:Int32)).bind fun r3 => (F2 x2 (1:Int32) (16:Int32)).bind fun r4 => (F3 (s_targets (s_cap (s_stSlot (s_stParent (s_stHi (s_stLo (s_maskTarget (s_maskPool (s_tablePool (s_argD (s_argC (s_argB (s_argA (s_opc (s_clEnd (s_clStart (s_bestCut (s_bestCost (s_snapTgt (s_snapVal (s_curTgt (s_curVal (s_maxInt (s_unsignedMask (s_maxBitTargets (s_maxBitSpan (s_maxTableSpan (s_tableSpanPerCase (s_maxSteps (s_maxTargets (s_maxCap (s_opBits (s_opTable (s_opEq (s_opLess (s_opRet ob0 (0:Int32)) (1:Int32)) (2:Int32)) (3:Int32)) (4:Int32)) (64:Int32)) (16:Int32)) (64:Int32)) (4:Int32)) (256:Int32)) (64:Int32)) (3:Int32)) (4294967295 : Int64)) (2147483647:Int32)) (List.replicate 64 0)) (List.replicate 64 0)) (List.replicate 64 0)) (List.replicate 64 0)) (List.replicate 65 0)) (List.replicate 65 0)) (List.replicate 64 0)) (List.replicate 64 0)) (List.replicate 160 0)) (List.replicate 160 0)) (List.replicate 160 0)) (List.replicate 160 0)) (List.replicate 160 0)) (List.replicate 256 0)) (List.replicate 192 0)) (List.replicate 192 0)) (List.replicate 130 0)) (List.replicate 130 0)) (List.replicate 130 0)) (List.replicate 130 0)) r3) r4)).bind fun r7 => some r7
theorem tF1 (Ad : QAd n0 ad) (W : QW Z a0) (s : List Int32) (x1 : Int32) (x2 : Int32) {r : Ob} (h : F1 x1 x2 = some r) : QTri l Z n0 ad 1 (0, qentry [.ref 1, .int x1, .int x2] (pMaxL 1), [], [.inr (.inl (.int, s)), .inl [.int (f_opRet ob0), .int (f_opLess ob0), .int (f_opEq ob0), .int (f_opTable ob0), .int (f_opBits ob0), .int (f_maxCap ob0), .int (f_maxTargets ob0), .int (f_maxSteps ob0), .int (f_tableSpanPerCase ob0), .int (f_maxTableSpan ob0), .int (f_maxBitSpan ob0), .int (f_maxBitTargets ob0), .long (f_unsignedMask ob0), .int (f_maxInt ob0), .null, .null, .null, .null, .null, .null, .null, .null, .null, .null, .null, .null, .null, .null, .null, .null, .null, .null, .null, .null, .int (f_cap ob0), .int (f_targets ob0), .int (f_curCount ob0), .int (f_curDefault ob0), .int (f_dirty ob0), .int (f_snapCount ob0), .int (f_snapDefault ob0), .int (f_hasSnap ob0), .int (f_clCount ob0), .int (f_codeLen ob0), .int (f_rootPc ob0), .int (f_tableUsed ob0), .int (f_maskUsed ob0), .int (f_sp ob0)]]) (none : Option Value) (H0 s r) := by
 unfold F1 at h
 refine zS Ad W 1 (st' := (1, [vR 1, vI x1, vI x2], [.ref 1], [.inr (.inl (.int, s)), .inl [.int (f_opRet ob0), .int (f_opLess ob0), .int (f_opEq ob0), .int (f_opTable ob0), .int (f_opBits ob0), .int (f_maxCap ob0), .int (f_maxTargets ob0), .int (f_maxSteps ob0), .int (f_tableSpanPerCase ob0), .int (f_maxTableSpan ob0), .int (f_maxBitSpan ob0), .int (f_maxBitTargets ob0), .long (f_unsignedMask ob0), .int (f_maxInt ob0), .null, .null, .null, .null, .null, .null, .null, .null, .null, .null, .null, .null, .null, .null, .null, .null, .null, .null, .null, .null, .int (f_cap ob0), .int (f_targets ob0), .int (f_curCount ob0), .int (f_curDefault ob0), .int (f_dirty ob0), .int (f_snapCount ob0), .int (f_snapDefault ob0), .int (f_hasSnap ob0), .int (f_clCount ob0), .int (f_codeLen ob0), .int (f_rootPc ob0), .int (f_tableUsed ob0), .int (f_maskUsed ob0), .int (f_sp ob0)]])) rfl ?_
 refine QTri.callO W rfl rfl rfl ?_
 refine zS Ad W 3 (st' := (9, [vR 1, vI x1, vI x2], [], [.inr (.inl (.int, s)), .inl [.int (0:Int32), .int (f_opLess ob0), .int (f_opEq ob0), .int (f_opTable ob0), .int (f_opBits ob0), .int (f_maxCap ob0), .int (f_maxTargets ob0), .int (f_maxSteps ob0), .int (f_tableSpanPerCase ob0), .int (f_maxTableSpan ob0), .int (f_maxBitSpan ob0), .int (f_maxBitTargets ob0), .long (f_unsignedMask ob0), .int (f_maxInt ob0), .null, .null, .null, .null, .null, .null, .null, .null, .null, .null, .null, .null, .null, .null, .null, .null, .null, .null, .null, .null, .int (f_cap ob0), .int (f_targets ob0), .int (f_curCount ob0), .int (f_curDefault ob0), .int (f_dirty ob0), .int (f_snapCount ob0), .int (f_snapDefault ob0), .int (f_hasSnap ob0), .int (f_clCount ob0), .int (f_codeLen ob0), .int (f_rootPc ob0), .int (f_tableUsed ob0), .int (f_maskUsed ob0), .int (f_sp ob0)]])) rfl ?_
 refine zS Ad W 3 (st' := (14, [vR 1, vI x1, vI x2], [], [.inr (.inl (.int, s)), .inl [.int (0:Int32), .int (1:Int32), .int (f_opEq ob0), .int (f_opTable ob0), .int (f_opBits ob0), .int (f_maxCap ob0), .int (f_maxTargets ob0), .int (f_maxSteps ob0), .int (f_tableSpanPerCase ob0), .int (f_maxTableSpan ob0), .int (f_maxBitSpan ob0), .int (f_maxBitTargets ob0), .long (f_unsignedMask ob0), .int (f_maxInt ob0), .null, .null, .null, .null, .null, .null, .null, .null, .null, .null, .null, .null, .null, .null, .null, .null, .null, .null, .null, .null, .int (f_cap ob0), .int (f_targets ob0), .int (f_curCount ob0), .int (f_curDefault ob0), .int (f_dirty ob0), .int (f_snapCount ob0), .int (f_snapDefault ob0), .int (f_hasSnap ob0), .int (f_clCount ob0), .int (f_codeLen ob0), .int (f_rootPc ob0), .int (f_tableUsed ob0), .int (f_maskUsed ob0), .int (f_sp ob0)]])) rfl ?_
 refine zS Ad W 3 (st' := (19, [vR 1, vI x1, vI x2], [], [.inr (.inl (.int, s)), .inl [.int (0:Int32), .int (1:Int32), .int (2:Int32), .int (f_opTable ob0), .int (f_opBits ob0), .int (f_maxCap ob0), .int (f_maxTargets ob0), .int (f_maxSteps ob0), .int (f_tableSpanPerCase ob0), .int (f_maxTableSpan ob0), .int (f_maxBitSpan ob0), .int (f_maxBitTargets ob0), .long (f_unsignedMask ob0), .int (f_maxInt ob0), .null, .null, .null, .null, .null, .null, .null, .null, .null, .null, .null, .null, .null, .null, .null, .null, .null, .null, .null, .null, .int (f_cap ob0), .int (f_targets ob0), .int (f_curCount ob0), .int (f_curDefault ob0), .int (f_dirty ob0), .int (f_snapCount ob0), .int (f_snapDefault ob0), .int (f_hasSnap ob0), .int (f_clCount ob0), .int (f_codeLen ob0), .int (f_rootPc ob0), .int (f_tableUsed ob0), .int (f_maskUsed ob0), .int (f_sp ob0)]])) rfl ?_
 refine zS Ad W 3 (st' := (24, [vR 1, vI x1, vI x2], [], [.inr (.inl (.int, s)), .inl [.int (0:Int32), .int (1:Int32), .int (2:Int32), .int (3:Int32), .int (f_opBits ob0), .int (f_maxCap ob0), .int (f_maxTargets ob0), .int (f_maxSteps ob0), .int (f_tableSpanPerCase ob0), .int (f_maxTableSpan ob0), .int (f_maxBitSpan ob0), .int (f_maxBitTargets ob0), .long (f_unsignedMask ob0), .int (f_maxInt ob0), .null, .null, .null, .null, .null, .null, .null, .null, .null, .null, .null, .null, .null, .null, .null, .null, .null, .null, .null, .null, .int (f_cap ob0), .int (f_targets ob0), .int (f_curCount ob0), .int (f_curDefault ob0), .int (f_dirty ob0), .int (f_snapCount ob0), .int (f_snapDefault ob0), .int (f_hasSnap ob0), .int (f_clCount ob0), .int (f_codeLen ob0), .int (f_rootPc ob0), .int (f_tableUsed ob0), .int (f_maskUsed ob0), .int (f_sp ob0)]])) rfl ?_
 refine zS Ad W 3 (st' := (29, [vR 1, vI x1, vI x2], [], [.inr (.inl (.int, s)), .inl [.int (0:Int32), .int (1:Int32), .int (2:Int32), .int (3:Int32), .int (4:Int32), .int (f_maxCap ob0), .int (f_maxTargets ob0), .int (f_maxSteps ob0), .int (f_tableSpanPerCase ob0), .int (f_maxTableSpan ob0), .int (f_maxBitSpan ob0), .int (f_maxBitTargets ob0), .long (f_unsignedMask ob0), .int (f_maxInt ob0), .null, .null, .null, .null, .null, .null, .null, .null, .null, .null, .null, .null, .null, .null, .null, .null, .null, .null, .null, .null, .int (f_cap ob0), .int (f_targets ob0), .int (f_curCount ob0), .int (f_curDefault ob0), .int (f_dirty ob0), .int (f_snapCount ob0), .int (f_snapDefault ob0), .int (f_hasSnap ob0), .int (f_clCount ob0), .int (f_codeLen ob0), .int (f_rootPc ob0), .int (f_tableUsed ob0), .int (f_maskUsed ob0), .int (f_sp ob0)]])) rfl ?_
 refine zS Ad W 3 (st' := (35, [vR 1, vI x1, vI x2], [], [.inr (.inl (.int, s)), .inl [.int (0:Int32), .int (1:Int32), .int (2:Int32), .int (3:Int32), .int (4:Int32), .int (64:Int32), .int (f_maxTargets ob0), .int (f_maxSteps ob0), .int (f_tableSpanPerCase ob0), .int (f_maxTableSpan ob0), .int (f_maxBitSpan ob0), .int (f_maxBitTargets ob0), .long (f_unsignedMask ob0), .int (f_maxInt ob0), .null, .null, .null, .null, .null, .null, .null, .null, .null, .null, .null, .null, .null, .null, .null, .null, .null, .null, .null, .null, .int (f_cap ob0), .int (f_targets ob0), .int (f_curCount ob0), .int (f_curDefault ob0), .int (f_dirty ob0), .int (f_snapCount ob0), .int (f_snapDefault ob0), .int (f_hasSnap ob0), .int (f_clCount ob0), .int (f_codeLen ob0), .int (f_rootPc ob0), .int (f_tableUsed ob0), .int (f_maskUsed ob0), .int (f_sp ob0)]])) rfl ?_
 refine zS Ad W 3 (st' := (41, [vR 1, vI x1, vI x2], [], [.inr (.inl (.int, s)), .inl [.int (0:Int32), .int (1:Int32), .int (2:Int32), .int (3:Int32), .int (4:Int32), .int (64:Int32), .int (16:Int32), .int (f_maxSteps ob0), .int (f_tableSpanPerCase ob0), .int (f_maxTableSpan ob0), .int (f_maxBitSpan ob0), .int (f_maxBitTargets ob0), .long (f_unsignedMask ob0), .int (f_maxInt ob0), .null, .null, .null, .null, .null, .null, .null, .null, .null, .null, .null, .null, .null, .null, .null, .null, .null, .null, .null, .null, .int (f_cap ob0), .int (f_targets ob0), .int (f_curCount ob0), .int (f_curDefault ob0), .int (f_dirty ob0), .int (f_snapCount ob0), .int (f_snapDefault ob0), .int (f_hasSnap ob0), .int (f_clCount ob0), .int (f_codeLen ob0), .int (f_rootPc ob0), .int (f_tableUsed ob0), .int (f_maskUsed ob0), .int (f_sp ob0)]])) rfl ?_
 refine zS Ad W 3 (st' := (47, [vR 1, vI x1, vI x2], [], [.inr (.inl (.int, s)), .inl [.int (0:Int32), .int (1:Int32), .int (2:Int32), .int (3:Int32), .int (4:Int32), .int (64:Int32), .int (16:Int32), .int (64:Int32), .int (f_tableSpanPerCase ob0), .int (f_maxTableSpan ob0), .int (f_maxBitSpan ob0), .int (f_maxBitTargets ob0), .long (f_unsignedMask ob0), .int (f_maxInt ob0), .null, .null, .null, .null, .null, .null, .null, .null, .null, .null, .null, .null, .null, .null, .null, .null, .null, .null, .null, .null, .int (f_cap ob0), .int (f_targets ob0), .int (f_curCount ob0), .int (f_curDefault ob0), .int (f_dirty ob0), .int (f_snapCount ob0), .int (f_snapDefault ob0), .int (f_hasSnap ob0), .int (f_clCount ob0), .int (f_codeLen ob0), .int (f_rootPc ob0), .int (f_tableUsed ob0), .int (f_maskUsed ob0), .int (f_sp ob0)]])) rfl ?_
 refine zS Ad W 3 (st' := (52, [vR 1, vI x1, vI x2], [], [.inr (.inl (.int, s)), .inl [.int (0:Int32), .int (1:Int32), .int (2:Int32), .int (3:Int32), .int (4:Int32), .int (64:Int32), .int (16:Int32), .int (64:Int32), .int (4:Int32), .int (f_maxTableSpan ob0), .int (f_maxBitSpan ob0), .int (f_maxBitTargets ob0), .long (f_unsignedMask ob0), .int (f_maxInt ob0), .null, .null, .null, .null, .null, .null, .null, .null, .null, .null, .null, .null, .null, .null, .null, .null, .null, .null, .null, .null, .int (f_cap ob0), .int (f_targets ob0), .int (f_curCount ob0), .int (f_curDefault ob0), .int (f_dirty ob0), .int (f_snapCount ob0), .int (f_snapDefault ob0), .int (f_hasSnap ob0), .int (f_clCount ob0), .int (f_codeLen ob0), .int (f_rootPc ob0), .int (f_tableUsed ob0), .int (f_maskUsed ob0), .int (f_sp ob0)]])) rfl ?_
 refine zS Ad W 3 (st' := (59, [vR 1, vI x1, vI x2], [], [.inr (.inl (.int, s)), .inl [.int (0:Int32), .int (1:Int32), .int (2:Int32), .int (3:Int32), .int (4:Int32), .int (64:Int32), .int (16:Int32), .int (64:Int32), .int (4:Int32), .int (256:Int32), .int (f_maxBitSpan ob0), .int (f_maxBitTargets ob0), .long (f_unsignedMask ob0), .int (f_maxInt ob0), .null, .null, .null, .null, .null, .null, .null, .null, .null, .null, .null, .null, .null, .null, .null, .null, .null, .null, .null, .null, .int (f_cap ob0), .int (f_targets ob0), .int (f_curCount ob0), .int (f_curDefault ob0), .int (f_dirty ob0), .int (f_snapCount ob0), .int (f_snapDefault ob0), .int (f_hasSnap ob0), .int (f_clCount ob0), .int (f_codeLen ob0), .int (f_rootPc ob0), .int (f_tableUsed ob0), .int (f_maskUsed ob0), .int (f_sp ob0)]])) rfl ?_
 refine zS Ad W 3 (st' := (65, [vR 1, vI x1, vI x2], [], [.inr (.inl (.int, s)), .inl [.int (0:Int32), .int (1:Int32), .int (2:Int32), .int (3:Int32), .int (4:Int32), .int (64:Int32), .int (16:Int32), .int (64:Int32), .int (4:Int32), .int (256:Int32), .int (64:Int32), .int (f_maxBitTargets ob0), .long (f_unsignedMask ob0), .int (f_maxInt ob0), .null, .null, .null, .null, .null, .null, .null, .null, .null, .null, .null, .null, .null, .null, .null, .null, .null, .null, .null, .null, .int (f_cap ob0), .int (f_targets ob0), .int (f_curCount ob0), .int (f_curDefault ob0), .int (f_dirty ob0), .int (f_snapCount ob0), .int (f_snapDefault ob0), .int (f_hasSnap ob0), .int (f_clCount ob0), .int (f_codeLen ob0), .int (f_rootPc ob0), .int (f_tableUsed ob0), .int (f_maskUsed ob0), .int (f_sp ob0)]])) rfl ?_
 refine zS Ad W 3 (st' := (70, [vR 1, vI x1, vI x2], [], [.inr (.inl (.int, s)), .inl [.int (0:Int32), .int (1:Int32), .int (2:Int32), .int (3:Int32), .int (4:Int32), .int (64:Int32), .int (16:Int32), .int (64:Int32), .int (4:Int32), .int (256:Int32), .int (64:Int32), .int (3:Int32), .long (f_unsignedMask ob0), .int (f_maxInt ob0), .null, .null, .null, .null, .null, .null, .null, .null, .null, .null, .null, .null, .null, .null, .null, .null, .null, .null, .null, .null, .int (f_cap ob0), .int (f_targets ob0), .int (f_curCount ob0), .int (f_curDefault ob0), .int (f_dirty ob0), .int (f_snapCount ob0), .int (f_snapDefault ob0), .int (f_hasSnap ob0), .int (f_clCount ob0), .int (f_codeLen ob0), .int (f_rootPc ob0), .int (f_tableUsed ob0), .int (f_maskUsed ob0), .int (f_sp ob0)]])) rfl ?_
 refine zS Ad W 3 (st' := (77, [vR 1, vI x1, vI x2], [], [.inr (.inl (.int, s)), .inl [.int (0:Int32), .int (1:Int32), .int (2:Int32), .int (3:Int32), .int (4:Int32), .int (64:Int32), .int (16:Int32), .int (64:Int32), .int (4:Int32), .int (256:Int32), .int (64:Int32), .int (3:Int32), .long (4294967295 : Int64), .int (f_maxInt ob0), .null, .null, .null, .null, .null, .null, .null, .null, .null, .null, .null, .null, .null, .null, .null, .null, .null, .null, .null, .null, .int (f_cap ob0), .int (f_targets ob0), .int (f_curCount ob0), .int (f_curDefault ob0), .int (f_dirty ob0), .int (f_snapCount ob0), .int (f_snapDefault ob0), .int (f_hasSnap ob0), .int (f_clCount ob0), .int (f_codeLen ob0), .int (f_rootPc ob0), .int (f_tableUsed ob0), .int (f_maskUsed ob0), .int (f_sp ob0)]])) rfl ?_
 refine zS Ad W 3 (st' := (83, [vR 1, vI x1, vI x2], [], [.inr (.inl (.int, s)), .inl [.int (0:Int32), .int (1:Int32), .int (2:Int32), .int (3:Int32), .int (4:Int32), .int (64:Int32), .int (16:Int32), .int (64:Int32), .int (4:Int32), .int (256:Int32), .int (64:Int32), .int (3:Int32), .long (4294967295 : Int64), .int (2147483647:Int32), .null, .null, .null, .null, .null, .null, .null, .null, .null, .null, .null, .null, .null, .null, .null, .null, .null, .null, .null, .null, .int (f_cap ob0), .int (f_targets ob0), .int (f_curCount ob0), .int (f_curDefault ob0), .int (f_dirty ob0), .int (f_snapCount ob0), .int (f_snapDefault ob0), .int (f_hasSnap ob0), .int (f_clCount ob0), .int (f_codeLen ob0), .int (f_rootPc ob0), .int (f_tableUsed ob0), .int (f_maskUsed ob0), .int (f_sp ob0)]])) rfl ?_
 refine zS Ad W 3 (st' := (88, [vR 1, vI x1, vI x2], [.ref 2, .ref 1], [.inr (.inl (.int, s)), .inl [.int (0:Int32), .int (1:Int32), .int (2:Int32), .int (3:Int32), .int (4:Int32), .int (64:Int32), .int (16:Int32), .int (64:Int32), .int (4:Int32), .int (256:Int32), .int (64:Int32), .int (3:Int32), .long (4294967295 : Int64), .int (2147483647:Int32), .null, .null, .null, .null, .null, .null, .null, .null, .null, .null, .null, .null, .null, .null, .null, .null, .null, .null, .null, .null, .int (f_cap ob0), .int (f_targets ob0), .int (f_curCount ob0), .int (f_curDefault ob0), .int (f_dirty ob0), .int (f_snapCount ob0), .int (f_snapDefault ob0), .int (f_hasSnap ob0), .int (f_clCount ob0), .int (f_codeLen ob0), .int (f_rootPc ob0), .int (f_tableUsed ob0), .int (f_maskUsed ob0), .int (f_sp ob0)], .inr (.inl (.int, (List.replicate 64 0)))])) rfl ?_
 refine zS Ad W 1 (st' := (91, [vR 1, vI x1, vI x2], [], [.inr (.inl (.int, s)), .inl [.int (0:Int32), .int (1:Int32), .int (2:Int32), .int (3:Int32), .int (4:Int32), .int (64:Int32), .int (16:Int32), .int (64:Int32), .int (4:Int32), .int (256:Int32), .int (64:Int32), .int (3:Int32), .long (4294967295 : Int64), .int (2147483647:Int32), .ref 2, .null, .null, .null, .null, .null, .null, .null, .null, .null, .null, .null, .null, .null, .null, .null, .null, .null, .null, .null, .int (f_cap ob0), .int (f_targets ob0), .int (f_curCount ob0), .int (f_curDefault ob0), .int (f_dirty ob0), .int (f_snapCount ob0), .int (f_snapDefault ob0), .int (f_hasSnap ob0), .int (f_clCount ob0), .int (f_codeLen ob0), .int (f_rootPc ob0), .int (f_tableUsed ob0), .int (f_maskUsed ob0), .int (f_sp ob0)], .inr (.inl (.int, (List.replicate 64 0)))])) rfl ?_
 refine zS Ad W 3 (st' := (96, [vR 1, vI x1, vI x2], [.ref 3, .ref 1], [.inr (.inl (.int, s)), .inl [.int (0:Int32), .int (1:Int32), .int (2:Int32), .int (3:Int32), .int (4:Int32), .int (64:Int32), .int (16:Int32), .int (64:Int32), .int (4:Int32), .int (256:Int32), .int (64:Int32), .int (3:Int32), .long (4294967295 : Int64), .int (2147483647:Int32), .ref 2, .null, .null, .null, .null, .null, .null, .null, .null, .null, .null, .null, .null, .null, .null, .null, .null, .null, .null, .null, .int (f_cap ob0), .int (f_targets ob0), .int (f_curCount ob0), .int (f_curDefault ob0), .int (f_dirty ob0), .int (f_snapCount ob0), .int (f_snapDefault ob0), .int (f_hasSnap ob0), .int (f_clCount ob0), .int (f_codeLen ob0), .int (f_rootPc ob0), .int (f_tableUsed ob0), .int (f_maskUsed ob0), .int (f_sp ob0)], .inr (.inl (.int, (List.replicate 64 0))), .inr (.inl (.byte, (List.replicate 64 0)))])) rfl ?_
 refine zS Ad W 1 (st' := (99, [vR 1, vI x1, vI x2], [], [.inr (.inl (.int, s)), .inl [.int (0:Int32), .int (1:Int32), .int (2:Int32), .int (3:Int32), .int (4:Int32), .int (64:Int32), .int (16:Int32), .int (64:Int32), .int (4:Int32), .int (256:Int32), .int (64:Int32), .int (3:Int32), .long (4294967295 : Int64), .int (2147483647:Int32), .ref 2, .ref 3, .null, .null, .null, .null, .null, .null, .null, .null, .null, .null, .null, .null, .null, .null, .null, .null, .null, .null, .int (f_cap ob0), .int (f_targets ob0), .int (f_curCount ob0), .int (f_curDefault ob0), .int (f_dirty ob0), .int (f_snapCount ob0), .int (f_snapDefault ob0), .int (f_hasSnap ob0), .int (f_clCount ob0), .int (f_codeLen ob0), .int (f_rootPc ob0), .int (f_tableUsed ob0), .int (f_maskUsed ob0), .int (f_sp ob0)], .inr (.inl (.int, (List.replicate 64 0))), .inr (.inl (.byte, (List.replicate 64 0)))])) rfl ?_
 refine zS Ad W 3 (st' := (104, [vR 1, vI x1, vI x2], [.ref 4, .ref 1], [.inr (.inl (.int, s)), .inl [.int (0:Int32), .int (1:Int32), .int (2:Int32), .int (3:Int32), .int (4:Int32), .int (64:Int32), .int (16:Int32), .int (64:Int32), .int (4:Int32), .int (256:Int32), .int (64:Int32), .int (3:Int32), .long (4294967295 : Int64), .int (2147483647:Int32), .ref 2, .ref 3, .null, .null, .null, .null, .null, .null, .null, .null, .null, .null, .null, .null, .null, .null, .null, .null, .null, .null, .int (f_cap ob0), .int (f_targets ob0), .int (f_curCount ob0), .int (f_curDefault ob0), .int (f_dirty ob0), .int (f_snapCount ob0), .int (f_snapDefault ob0), .int (f_hasSnap ob0), .int (f_clCount ob0), .int (f_codeLen ob0), .int (f_rootPc ob0), .int (f_tableUsed ob0), .int (f_maskUsed ob0), .int (f_sp ob0)], .inr (.inl (.int, (List.replicate 64 0))), .inr (.inl (.byte, (List.replicate 64 0))), .inr (.inl (.int, (List.replicate 64 0)))])) rfl ?_
 refine zS Ad W 1 (st' := (107, [vR 1, vI x1, vI x2], [], [.inr (.inl (.int, s)), .inl [.int (0:Int32), .int (1:Int32), .int (2:Int32), .int (3:Int32), .int (4:Int32), .int (64:Int32), .int (16:Int32), .int (64:Int32), .int (4:Int32), .int (256:Int32), .int (64:Int32), .int (3:Int32), .long (4294967295 : Int64), .int (2147483647:Int32), .ref 2, .ref 3, .ref 4, .null, .null, .null, .null, .null, .null, .null, .null, .null, .null, .null, .null, .null, .null, .null, .null, .null, .int (f_cap ob0), .int (f_targets ob0), .int (f_curCount ob0), .int (f_curDefault ob0), .int (f_dirty ob0), .int (f_snapCount ob0), .int (f_snapDefault ob0), .int (f_hasSnap ob0), .int (f_clCount ob0), .int (f_codeLen ob0), .int (f_rootPc ob0), .int (f_tableUsed ob0), .int (f_maskUsed ob0), .int (f_sp ob0)], .inr (.inl (.int, (List.replicate 64 0))), .inr (.inl (.byte, (List.replicate 64 0))), .inr (.inl (.int, (List.replicate 64 0)))])) rfl ?_
 refine zS Ad W 3 (st' := (112, [vR 1, vI x1, vI x2], [.ref 5, .ref 1], [.inr (.inl (.int, s)), .inl [.int (0:Int32), .int (1:Int32), .int (2:Int32), .int (3:Int32), .int (4:Int32), .int (64:Int32), .int (16:Int32), .int (64:Int32), .int (4:Int32), .int (256:Int32), .int (64:Int32), .int (3:Int32), .long (4294967295 : Int64), .int (2147483647:Int32), .ref 2, .ref 3, .ref 4, .null, .null, .null, .null, .null, .null, .null, .null, .null, .null, .null, .null, .null, .null, .null, .null, .null, .int (f_cap ob0), .int (f_targets ob0), .int (f_curCount ob0), .int (f_curDefault ob0), .int (f_dirty ob0), .int (f_snapCount ob0), .int (f_snapDefault ob0), .int (f_hasSnap ob0), .int (f_clCount ob0), .int (f_codeLen ob0), .int (f_rootPc ob0), .int (f_tableUsed ob0), .int (f_maskUsed ob0), .int (f_sp ob0)], .inr (.inl (.int, (List.replicate 64 0))), .inr (.inl (.byte, (List.replicate 64 0))), .inr (.inl (.int, (List.replicate 64 0))), .inr (.inl (.byte, (List.replicate 64 0)))])) rfl ?_
 refine zS Ad W 1 (st' := (115, [vR 1, vI x1, vI x2], [], [.inr (.inl (.int, s)), .inl [.int (0:Int32), .int (1:Int32), .int (2:Int32), .int (3:Int32), .int (4:Int32), .int (64:Int32), .int (16:Int32), .int (64:Int32), .int (4:Int32), .int (256:Int32), .int (64:Int32), .int (3:Int32), .long (4294967295 : Int64), .int (2147483647:Int32), .ref 2, .ref 3, .ref 4, .ref 5, .null, .null, .null, .null, .null, .null, .null, .null, .null, .null, .null, .null, .null, .null, .null, .null, .int (f_cap ob0), .int (f_targets ob0), .int (f_curCount ob0), .int (f_curDefault ob0), .int (f_dirty ob0), .int (f_snapCount ob0), .int (f_snapDefault ob0), .int (f_hasSnap ob0), .int (f_clCount ob0), .int (f_codeLen ob0), .int (f_rootPc ob0), .int (f_tableUsed ob0), .int (f_maskUsed ob0), .int (f_sp ob0)], .inr (.inl (.int, (List.replicate 64 0))), .inr (.inl (.byte, (List.replicate 64 0))), .inr (.inl (.int, (List.replicate 64 0))), .inr (.inl (.byte, (List.replicate 64 0)))])) rfl ?_
 refine zS Ad W 3 (st' := (120, [vR 1, vI x1, vI x2], [.ref 6, .ref 1], [.inr (.inl (.int, s)), .inl [.int (0:Int32), .int (1:Int32), .int (2:Int32), .int (3:Int32), .int (4:Int32), .int (64:Int32), .int (16:Int32), .int (64:Int32), .int (4:Int32), .int (256:Int32), .int (64:Int32), .int (3:Int32), .long (4294967295 : Int64), .int (2147483647:Int32), .ref 2, .ref 3, .ref 4, .ref 5, .null, .null, .null, .null, .null, .null, .null, .null, .null, .null, .null, .null, .null, .null, .null, .null, .int (f_cap ob0), .int (f_targets ob0), .int (f_curCount ob0), .int (f_curDefault ob0), .int (f_dirty ob0), .int (f_snapCount ob0), .int (f_snapDefault ob0), .int (f_hasSnap ob0), .int (f_clCount ob0), .int (f_codeLen ob0), .int (f_rootPc ob0), .int (f_tableUsed ob0), .int (f_maskUsed ob0), .int (f_sp ob0)], .inr (.inl (.int, (List.replicate 64 0))), .inr (.inl (.byte, (List.replicate 64 0))), .inr (.inl (.int, (List.replicate 64 0))), .inr (.inl (.byte, (List.replicate 64 0))), .inr (.inl (.int, (List.replicate 65 0)))])) rfl ?_
 refine zS Ad W 1 (st' := (123, [vR 1, vI x1, vI x2], [], [.inr (.inl (.int, s)), .inl [.int (0:Int32), .int (1:Int32), .int (2:Int32), .int (3:Int32), .int (4:Int32), .int (64:Int32), .int (16:Int32), .int (64:Int32), .int (4:Int32), .int (256:Int32), .int (64:Int32), .int (3:Int32), .long (4294967295 : Int64), .int (2147483647:Int32), .ref 2, .ref 3, .ref 4, .ref 5, .ref 6, .null, .null, .null, .null, .null, .null, .null, .null, .null, .null, .null, .null, .null, .null, .null, .int (f_cap ob0), .int (f_targets ob0), .int (f_curCount ob0), .int (f_curDefault ob0), .int (f_dirty ob0), .int (f_snapCount ob0), .int (f_snapDefault ob0), .int (f_hasSnap ob0), .int (f_clCount ob0), .int (f_codeLen ob0), .int (f_rootPc ob0), .int (f_tableUsed ob0), .int (f_maskUsed ob0), .int (f_sp ob0)], .inr (.inl (.int, (List.replicate 64 0))), .inr (.inl (.byte, (List.replicate 64 0))), .inr (.inl (.int, (List.replicate 64 0))), .inr (.inl (.byte, (List.replicate 64 0))), .inr (.inl (.int, (List.replicate 65 0)))])) rfl ?_
 refine zS Ad W 3 (st' := (128, [vR 1, vI x1, vI x2], [.ref 7, .ref 1], [.inr (.inl (.int, s)), .inl [.int (0:Int32), .int (1:Int32), .int (2:Int32), .int (3:Int32), .int (4:Int32), .int (64:Int32), .int (16:Int32), .int (64:Int32), .int (4:Int32), .int (256:Int32), .int (64:Int32), .int (3:Int32), .long (4294967295 : Int64), .int (2147483647:Int32), .ref 2, .ref 3, .ref 4, .ref 5, .ref 6, .null, .null, .null, .null, .null, .null, .null, .null, .null, .null, .null, .null, .null, .null, .null, .int (f_cap ob0), .int (f_targets ob0), .int (f_curCount ob0), .int (f_curDefault ob0), .int (f_dirty ob0), .int (f_snapCount ob0), .int (f_snapDefault ob0), .int (f_hasSnap ob0), .int (f_clCount ob0), .int (f_codeLen ob0), .int (f_rootPc ob0), .int (f_tableUsed ob0), .int (f_maskUsed ob0), .int (f_sp ob0)], .inr (.inl (.int, (List.replicate 64 0))), .inr (.inl (.byte, (List.replicate 64 0))), .inr (.inl (.int, (List.replicate 64 0))), .inr (.inl (.byte, (List.replicate 64 0))), .inr (.inl (.int, (List.replicate 65 0))), .inr (.inl (.int, (List.replicate 65 0)))])) rfl ?_
 refine zS Ad W 1 (st' := (131, [vR 1, vI x1, vI x2], [], [.inr (.inl (.int, s)), .inl [.int (0:Int32), .int (1:Int32), .int (2:Int32), .int (3:Int32), .int (4:Int32), .int (64:Int32), .int (16:Int32), .int (64:Int32), .int (4:Int32), .int (256:Int32), .int (64:Int32), .int (3:Int32), .long (4294967295 : Int64), .int (2147483647:Int32), .ref 2, .ref 3, .ref 4, .ref 5, .ref 6, .ref 7, .null, .null, .null, .null, .null, .null, .null, .null, .null, .null, .null, .null, .null, .null, .int (f_cap ob0), .int (f_targets ob0), .int (f_curCount ob0), .int (f_curDefault ob0), .int (f_dirty ob0), .int (f_snapCount ob0), .int (f_snapDefault ob0), .int (f_hasSnap ob0), .int (f_clCount ob0), .int (f_codeLen ob0), .int (f_rootPc ob0), .int (f_tableUsed ob0), .int (f_maskUsed ob0), .int (f_sp ob0)], .inr (.inl (.int, (List.replicate 64 0))), .inr (.inl (.byte, (List.replicate 64 0))), .inr (.inl (.int, (List.replicate 64 0))), .inr (.inl (.byte, (List.replicate 64 0))), .inr (.inl (.int, (List.replicate 65 0))), .inr (.inl (.int, (List.replicate 65 0)))])) rfl ?_
 refine zS Ad W 3 (st' := (136, [vR 1, vI x1, vI x2], [.ref 8, .ref 1], [.inr (.inl (.int, s)), .inl [.int (0:Int32), .int (1:Int32), .int (2:Int32), .int (3:Int32), .int (4:Int32), .int (64:Int32), .int (16:Int32), .int (64:Int32), .int (4:Int32), .int (256:Int32), .int (64:Int32), .int (3:Int32), .long (4294967295 : Int64), .int (2147483647:Int32), .ref 2, .ref 3, .ref 4, .ref 5, .ref 6, .ref 7, .null, .null, .null, .null, .null, .null, .null, .null, .null, .null, .null, .null, .null, .null, .int (f_cap ob0), .int (f_targets ob0), .int (f_curCount ob0), .int (f_curDefault ob0), .int (f_dirty ob0), .int (f_snapCount ob0), .int (f_snapDefault ob0), .int (f_hasSnap ob0), .int (f_clCount ob0), .int (f_codeLen ob0), .int (f_rootPc ob0), .int (f_tableUsed ob0), .int (f_maskUsed ob0), .int (f_sp ob0)], .inr (.inl (.int, (List.replicate 64 0))), .inr (.inl (.byte, (List.replicate 64 0))), .inr (.inl (.int, (List.replicate 64 0))), .inr (.inl (.byte, (List.replicate 64 0))), .inr (.inl (.int, (List.replicate 65 0))), .inr (.inl (.int, (List.replicate 65 0))), .inr (.inl (.int, (List.replicate 64 0)))])) rfl ?_
 refine zS Ad W 1 (st' := (139, [vR 1, vI x1, vI x2], [], [.inr (.inl (.int, s)), .inl [.int (0:Int32), .int (1:Int32), .int (2:Int32), .int (3:Int32), .int (4:Int32), .int (64:Int32), .int (16:Int32), .int (64:Int32), .int (4:Int32), .int (256:Int32), .int (64:Int32), .int (3:Int32), .long (4294967295 : Int64), .int (2147483647:Int32), .ref 2, .ref 3, .ref 4, .ref 5, .ref 6, .ref 7, .ref 8, .null, .null, .null, .null, .null, .null, .null, .null, .null, .null, .null, .null, .null, .int (f_cap ob0), .int (f_targets ob0), .int (f_curCount ob0), .int (f_curDefault ob0), .int (f_dirty ob0), .int (f_snapCount ob0), .int (f_snapDefault ob0), .int (f_hasSnap ob0), .int (f_clCount ob0), .int (f_codeLen ob0), .int (f_rootPc ob0), .int (f_tableUsed ob0), .int (f_maskUsed ob0), .int (f_sp ob0)], .inr (.inl (.int, (List.replicate 64 0))), .inr (.inl (.byte, (List.replicate 64 0))), .inr (.inl (.int, (List.replicate 64 0))), .inr (.inl (.byte, (List.replicate 64 0))), .inr (.inl (.int, (List.replicate 65 0))), .inr (.inl (.int, (List.replicate 65 0))), .inr (.inl (.int, (List.replicate 64 0)))])) rfl ?_
 refine zS Ad W 3 (st' := (144, [vR 1, vI x1, vI x2], [.ref 9, .ref 1], [.inr (.inl (.int, s)), .inl [.int (0:Int32), .int (1:Int32), .int (2:Int32), .int (3:Int32), .int (4:Int32), .int (64:Int32), .int (16:Int32), .int (64:Int32), .int (4:Int32), .int (256:Int32), .int (64:Int32), .int (3:Int32), .long (4294967295 : Int64), .int (2147483647:Int32), .ref 2, .ref 3, .ref 4, .ref 5, .ref 6, .ref 7, .ref 8, .null, .null, .null, .null, .null, .null, .null, .null, .null, .null, .null, .null, .null, .int (f_cap ob0), .int (f_targets ob0), .int (f_curCount ob0), .int (f_curDefault ob0), .int (f_dirty ob0), .int (f_snapCount ob0), .int (f_snapDefault ob0), .int (f_hasSnap ob0), .int (f_clCount ob0), .int (f_codeLen ob0), .int (f_rootPc ob0), .int (f_tableUsed ob0), .int (f_maskUsed ob0), .int (f_sp ob0)], .inr (.inl (.int, (List.replicate 64 0))), .inr (.inl (.byte, (List.replicate 64 0))), .inr (.inl (.int, (List.replicate 64 0))), .inr (.inl (.byte, (List.replicate 64 0))), .inr (.inl (.int, (List.replicate 65 0))), .inr (.inl (.int, (List.replicate 65 0))), .inr (.inl (.int, (List.replicate 64 0))), .inr (.inl (.int, (List.replicate 64 0)))])) rfl ?_
 refine zS Ad W 1 (st' := (147, [vR 1, vI x1, vI x2], [], [.inr (.inl (.int, s)), .inl [.int (0:Int32), .int (1:Int32), .int (2:Int32), .int (3:Int32), .int (4:Int32), .int (64:Int32), .int (16:Int32), .int (64:Int32), .int (4:Int32), .int (256:Int32), .int (64:Int32), .int (3:Int32), .long (4294967295 : Int64), .int (2147483647:Int32), .ref 2, .ref 3, .ref 4, .ref 5, .ref 6, .ref 7, .ref 8, .ref 9, .null, .null, .null, .null, .null, .null, .null, .null, .null, .null, .null, .null, .int (f_cap ob0), .int (f_targets ob0), .int (f_curCount ob0), .int (f_curDefault ob0), .int (f_dirty ob0), .int (f_snapCount ob0), .int (f_snapDefault ob0), .int (f_hasSnap ob0), .int (f_clCount ob0), .int (f_codeLen ob0), .int (f_rootPc ob0), .int (f_tableUsed ob0), .int (f_maskUsed ob0), .int (f_sp ob0)], .inr (.inl (.int, (List.replicate 64 0))), .inr (.inl (.byte, (List.replicate 64 0))), .inr (.inl (.int, (List.replicate 64 0))), .inr (.inl (.byte, (List.replicate 64 0))), .inr (.inl (.int, (List.replicate 65 0))), .inr (.inl (.int, (List.replicate 65 0))), .inr (.inl (.int, (List.replicate 64 0))), .inr (.inl (.int, (List.replicate 64 0)))])) rfl ?_
 refine zS Ad W 3 (st' := (153, [vR 1, vI x1, vI x2], [.ref 10, .ref 1], [.inr (.inl (.int, s)), .inl [.int (0:Int32), .int (1:Int32), .int (2:Int32), .int (3:Int32), .int (4:Int32), .int (64:Int32), .int (16:Int32), .int (64:Int32), .int (4:Int32), .int (256:Int32), .int (64:Int32), .int (3:Int32), .long (4294967295 : Int64), .int (2147483647:Int32), .ref 2, .ref 3, .ref 4, .ref 5, .ref 6, .ref 7, .ref 8, .ref 9, .null, .null, .null, .null, .null, .null, .null, .null, .null, .null, .null, .null, .int (f_cap ob0), .int (f_targets ob0), .int (f_curCount ob0), .int (f_curDefault ob0), .int (f_dirty ob0), .int (f_snapCount ob0), .int (f_snapDefault ob0), .int (f_hasSnap ob0), .int (f_clCount ob0), .int (f_codeLen ob0), .int (f_rootPc ob0), .int (f_tableUsed ob0), .int (f_maskUsed ob0), .int (f_sp ob0)], .inr (.inl (.int, (List.replicate 64 0))), .inr (.inl (.byte, (List.replicate 64 0))), .inr (.inl (.int, (List.replicate 64 0))), .inr (.inl (.byte, (List.replicate 64 0))), .inr (.inl (.int, (List.replicate 65 0))), .inr (.inl (.int, (List.replicate 65 0))), .inr (.inl (.int, (List.replicate 64 0))), .inr (.inl (.int, (List.replicate 64 0))), .inr (.inl (.byte, (List.replicate 160 0)))])) rfl ?_
 refine zS Ad W 1 (st' := (156, [vR 1, vI x1, vI x2], [], [.inr (.inl (.int, s)), .inl [.int (0:Int32), .int (1:Int32), .int (2:Int32), .int (3:Int32), .int (4:Int32), .int (64:Int32), .int (16:Int32), .int (64:Int32), .int (4:Int32), .int (256:Int32), .int (64:Int32), .int (3:Int32), .long (4294967295 : Int64), .int (2147483647:Int32), .ref 2, .ref 3, .ref 4, .ref 5, .ref 6, .ref 7, .ref 8, .ref 9, .ref 10, .null, .null, .null, .null, .null, .null, .null, .null, .null, .null, .null, .int (f_cap ob0), .int (f_targets ob0), .int (f_curCount ob0), .int (f_curDefault ob0), .int (f_dirty ob0), .int (f_snapCount ob0), .int (f_snapDefault ob0), .int (f_hasSnap ob0), .int (f_clCount ob0), .int (f_codeLen ob0), .int (f_rootPc ob0), .int (f_tableUsed ob0), .int (f_maskUsed ob0), .int (f_sp ob0)], .inr (.inl (.int, (List.replicate 64 0))), .inr (.inl (.byte, (List.replicate 64 0))), .inr (.inl (.int, (List.replicate 64 0))), .inr (.inl (.byte, (List.replicate 64 0))), .inr (.inl (.int, (List.replicate 65 0))), .inr (.inl (.int, (List.replicate 65 0))), .inr (.inl (.int, (List.replicate 64 0))), .inr (.inl (.int, (List.replicate 64 0))), .inr (.inl (.byte, (List.replicate 160 0)))])) rfl ?_
 refine zS Ad W 3 (st' := (162, [vR 1, vI x1, vI x2], [.ref 11, .ref 1], [.inr (.inl (.int, s)), .inl [.int (0:Int32), .int (1:Int32), .int (2:Int32), .int (3:Int32), .int (4:Int32), .int (64:Int32), .int (16:Int32), .int (64:Int32), .int (4:Int32), .int (256:Int32), .int (64:Int32), .int (3:Int32), .long (4294967295 : Int64), .int (2147483647:Int32), .ref 2, .ref 3, .ref 4, .ref 5, .ref 6, .ref 7, .ref 8, .ref 9, .ref 10, .null, .null, .null, .null, .null, .null, .null, .null, .null, .null, .null, .int (f_cap ob0), .int (f_targets ob0), .int (f_curCount ob0), .int (f_curDefault ob0), .int (f_dirty ob0), .int (f_snapCount ob0), .int (f_snapDefault ob0), .int (f_hasSnap ob0), .int (f_clCount ob0), .int (f_codeLen ob0), .int (f_rootPc ob0), .int (f_tableUsed ob0), .int (f_maskUsed ob0), .int (f_sp ob0)], .inr (.inl (.int, (List.replicate 64 0))), .inr (.inl (.byte, (List.replicate 64 0))), .inr (.inl (.int, (List.replicate 64 0))), .inr (.inl (.byte, (List.replicate 64 0))), .inr (.inl (.int, (List.replicate 65 0))), .inr (.inl (.int, (List.replicate 65 0))), .inr (.inl (.int, (List.replicate 64 0))), .inr (.inl (.int, (List.replicate 64 0))), .inr (.inl (.byte, (List.replicate 160 0))), .inr (.inl (.int, (List.replicate 160 0)))])) rfl ?_
 refine zS Ad W 1 (st' := (165, [vR 1, vI x1, vI x2], [], [.inr (.inl (.int, s)), .inl [.int (0:Int32), .int (1:Int32), .int (2:Int32), .int (3:Int32), .int (4:Int32), .int (64:Int32), .int (16:Int32), .int (64:Int32), .int (4:Int32), .int (256:Int32), .int (64:Int32), .int (3:Int32), .long (4294967295 : Int64), .int (2147483647:Int32), .ref 2, .ref 3, .ref 4, .ref 5, .ref 6, .ref 7, .ref 8, .ref 9, .ref 10, .ref 11, .null, .null, .null, .null, .null, .null, .null, .null, .null, .null, .int (f_cap ob0), .int (f_targets ob0), .int (f_curCount ob0), .int (f_curDefault ob0), .int (f_dirty ob0), .int (f_snapCount ob0), .int (f_snapDefault ob0), .int (f_hasSnap ob0), .int (f_clCount ob0), .int (f_codeLen ob0), .int (f_rootPc ob0), .int (f_tableUsed ob0), .int (f_maskUsed ob0), .int (f_sp ob0)], .inr (.inl (.int, (List.replicate 64 0))), .inr (.inl (.byte, (List.replicate 64 0))), .inr (.inl (.int, (List.replicate 64 0))), .inr (.inl (.byte, (List.replicate 64 0))), .inr (.inl (.int, (List.replicate 65 0))), .inr (.inl (.int, (List.replicate 65 0))), .inr (.inl (.int, (List.replicate 64 0))), .inr (.inl (.int, (List.replicate 64 0))), .inr (.inl (.byte, (List.replicate 160 0))), .inr (.inl (.int, (List.replicate 160 0)))])) rfl ?_
 refine zS Ad W 3 (st' := (171, [vR 1, vI x1, vI x2], [.ref 12, .ref 1], [.inr (.inl (.int, s)), .inl [.int (0:Int32), .int (1:Int32), .int (2:Int32), .int (3:Int32), .int (4:Int32), .int (64:Int32), .int (16:Int32), .int (64:Int32), .int (4:Int32), .int (256:Int32), .int (64:Int32), .int (3:Int32), .long (4294967295 : Int64), .int (2147483647:Int32), .ref 2, .ref 3, .ref 4, .ref 5, .ref 6, .ref 7, .ref 8, .ref 9, .ref 10, .ref 11, .null, .null, .null, .null, .null, .null, .null, .null, .null, .null, .int (f_cap ob0), .int (f_targets ob0), .int (f_curCount ob0), .int (f_curDefault ob0), .int (f_dirty ob0), .int (f_snapCount ob0), .int (f_snapDefault ob0), .int (f_hasSnap ob0), .int (f_clCount ob0), .int (f_codeLen ob0), .int (f_rootPc ob0), .int (f_tableUsed ob0), .int (f_maskUsed ob0), .int (f_sp ob0)], .inr (.inl (.int, (List.replicate 64 0))), .inr (.inl (.byte, (List.replicate 64 0))), .inr (.inl (.int, (List.replicate 64 0))), .inr (.inl (.byte, (List.replicate 64 0))), .inr (.inl (.int, (List.replicate 65 0))), .inr (.inl (.int, (List.replicate 65 0))), .inr (.inl (.int, (List.replicate 64 0))), .inr (.inl (.int, (List.replicate 64 0))), .inr (.inl (.byte, (List.replicate 160 0))), .inr (.inl (.int, (List.replicate 160 0))), .inr (.inl (.int, (List.replicate 160 0)))])) rfl ?_
 refine zS Ad W 1 (st' := (174, [vR 1, vI x1, vI x2], [], [.inr (.inl (.int, s)), .inl [.int (0:Int32), .int (1:Int32), .int (2:Int32), .int (3:Int32), .int (4:Int32), .int (64:Int32), .int (16:Int32), .int (64:Int32), .int (4:Int32), .int (256:Int32), .int (64:Int32), .int (3:Int32), .long (4294967295 : Int64), .int (2147483647:Int32), .ref 2, .ref 3, .ref 4, .ref 5, .ref 6, .ref 7, .ref 8, .ref 9, .ref 10, .ref 11, .ref 12, .null, .null, .null, .null, .null, .null, .null, .null, .null, .int (f_cap ob0), .int (f_targets ob0), .int (f_curCount ob0), .int (f_curDefault ob0), .int (f_dirty ob0), .int (f_snapCount ob0), .int (f_snapDefault ob0), .int (f_hasSnap ob0), .int (f_clCount ob0), .int (f_codeLen ob0), .int (f_rootPc ob0), .int (f_tableUsed ob0), .int (f_maskUsed ob0), .int (f_sp ob0)], .inr (.inl (.int, (List.replicate 64 0))), .inr (.inl (.byte, (List.replicate 64 0))), .inr (.inl (.int, (List.replicate 64 0))), .inr (.inl (.byte, (List.replicate 64 0))), .inr (.inl (.int, (List.replicate 65 0))), .inr (.inl (.int, (List.replicate 65 0))), .inr (.inl (.int, (List.replicate 64 0))), .inr (.inl (.int, (List.replicate 64 0))), .inr (.inl (.byte, (List.replicate 160 0))), .inr (.inl (.int, (List.replicate 160 0))), .inr (.inl (.int, (List.replicate 160 0)))])) rfl ?_
 refine zS Ad W 3 (st' := (180, [vR 1, vI x1, vI x2], [.ref 13, .ref 1], [.inr (.inl (.int, s)), .inl [.int (0:Int32), .int (1:Int32), .int (2:Int32), .int (3:Int32), .int (4:Int32), .int (64:Int32), .int (16:Int32), .int (64:Int32), .int (4:Int32), .int (256:Int32), .int (64:Int32), .int (3:Int32), .long (4294967295 : Int64), .int (2147483647:Int32), .ref 2, .ref 3, .ref 4, .ref 5, .ref 6, .ref 7, .ref 8, .ref 9, .ref 10, .ref 11, .ref 12, .null, .null, .null, .null, .null, .null, .null, .null, .null, .int (f_cap ob0), .int (f_targets ob0), .int (f_curCount ob0), .int (f_curDefault ob0), .int (f_dirty ob0), .int (f_snapCount ob0), .int (f_snapDefault ob0), .int (f_hasSnap ob0), .int (f_clCount ob0), .int (f_codeLen ob0), .int (f_rootPc ob0), .int (f_tableUsed ob0), .int (f_maskUsed ob0), .int (f_sp ob0)], .inr (.inl (.int, (List.replicate 64 0))), .inr (.inl (.byte, (List.replicate 64 0))), .inr (.inl (.int, (List.replicate 64 0))), .inr (.inl (.byte, (List.replicate 64 0))), .inr (.inl (.int, (List.replicate 65 0))), .inr (.inl (.int, (List.replicate 65 0))), .inr (.inl (.int, (List.replicate 64 0))), .inr (.inl (.int, (List.replicate 64 0))), .inr (.inl (.byte, (List.replicate 160 0))), .inr (.inl (.int, (List.replicate 160 0))), .inr (.inl (.int, (List.replicate 160 0))), .inr (.inl (.int, (List.replicate 160 0)))])) rfl ?_
 refine zS Ad W 1 (st' := (183, [vR 1, vI x1, vI x2], [], [.inr (.inl (.int, s)), .inl [.int (0:Int32), .int (1:Int32), .int (2:Int32), .int (3:Int32), .int (4:Int32), .int (64:Int32), .int (16:Int32), .int (64:Int32), .int (4:Int32), .int (256:Int32), .int (64:Int32), .int (3:Int32), .long (4294967295 : Int64), .int (2147483647:Int32), .ref 2, .ref 3, .ref 4, .ref 5, .ref 6, .ref 7, .ref 8, .ref 9, .ref 10, .ref 11, .ref 12, .ref 13, .null, .null, .null, .null, .null, .null, .null, .null, .int (f_cap ob0), .int (f_targets ob0), .int (f_curCount ob0), .int (f_curDefault ob0), .int (f_dirty ob0), .int (f_snapCount ob0), .int (f_snapDefault ob0), .int (f_hasSnap ob0), .int (f_clCount ob0), .int (f_codeLen ob0), .int (f_rootPc ob0), .int (f_tableUsed ob0), .int (f_maskUsed ob0), .int (f_sp ob0)], .inr (.inl (.int, (List.replicate 64 0))), .inr (.inl (.byte, (List.replicate 64 0))), .inr (.inl (.int, (List.replicate 64 0))), .inr (.inl (.byte, (List.replicate 64 0))), .inr (.inl (.int, (List.replicate 65 0))), .inr (.inl (.int, (List.replicate 65 0))), .inr (.inl (.int, (List.replicate 64 0))), .inr (.inl (.int, (List.replicate 64 0))), .inr (.inl (.byte, (List.replicate 160 0))), .inr (.inl (.int, (List.replicate 160 0))), .inr (.inl (.int, (List.replicate 160 0))), .inr (.inl (.int, (List.replicate 160 0)))])) rfl ?_
 refine zS Ad W 3 (st' := (189, [vR 1, vI x1, vI x2], [.ref 14, .ref 1], [.inr (.inl (.int, s)), .inl [.int (0:Int32), .int (1:Int32), .int (2:Int32), .int (3:Int32), .int (4:Int32), .int (64:Int32), .int (16:Int32), .int (64:Int32), .int (4:Int32), .int (256:Int32), .int (64:Int32), .int (3:Int32), .long (4294967295 : Int64), .int (2147483647:Int32), .ref 2, .ref 3, .ref 4, .ref 5, .ref 6, .ref 7, .ref 8, .ref 9, .ref 10, .ref 11, .ref 12, .ref 13, .null, .null, .null, .null, .null, .null, .null, .null, .int (f_cap ob0), .int (f_targets ob0), .int (f_curCount ob0), .int (f_curDefault ob0), .int (f_dirty ob0), .int (f_snapCount ob0), .int (f_snapDefault ob0), .int (f_hasSnap ob0), .int (f_clCount ob0), .int (f_codeLen ob0), .int (f_rootPc ob0), .int (f_tableUsed ob0), .int (f_maskUsed ob0), .int (f_sp ob0)], .inr (.inl (.int, (List.replicate 64 0))), .inr (.inl (.byte, (List.replicate 64 0))), .inr (.inl (.int, (List.replicate 64 0))), .inr (.inl (.byte, (List.replicate 64 0))), .inr (.inl (.int, (List.replicate 65 0))), .inr (.inl (.int, (List.replicate 65 0))), .inr (.inl (.int, (List.replicate 64 0))), .inr (.inl (.int, (List.replicate 64 0))), .inr (.inl (.byte, (List.replicate 160 0))), .inr (.inl (.int, (List.replicate 160 0))), .inr (.inl (.int, (List.replicate 160 0))), .inr (.inl (.int, (List.replicate 160 0))), .inr (.inl (.int, (List.replicate 160 0)))])) rfl ?_
 refine zS Ad W 1 (st' := (192, [vR 1, vI x1, vI x2], [], [.inr (.inl (.int, s)), .inl [.int (0:Int32), .int (1:Int32), .int (2:Int32), .int (3:Int32), .int (4:Int32), .int (64:Int32), .int (16:Int32), .int (64:Int32), .int (4:Int32), .int (256:Int32), .int (64:Int32), .int (3:Int32), .long (4294967295 : Int64), .int (2147483647:Int32), .ref 2, .ref 3, .ref 4, .ref 5, .ref 6, .ref 7, .ref 8, .ref 9, .ref 10, .ref 11, .ref 12, .ref 13, .ref 14, .null, .null, .null, .null, .null, .null, .null, .int (f_cap ob0), .int (f_targets ob0), .int (f_curCount ob0), .int (f_curDefault ob0), .int (f_dirty ob0), .int (f_snapCount ob0), .int (f_snapDefault ob0), .int (f_hasSnap ob0), .int (f_clCount ob0), .int (f_codeLen ob0), .int (f_rootPc ob0), .int (f_tableUsed ob0), .int (f_maskUsed ob0), .int (f_sp ob0)], .inr (.inl (.int, (List.replicate 64 0))), .inr (.inl (.byte, (List.replicate 64 0))), .inr (.inl (.int, (List.replicate 64 0))), .inr (.inl (.byte, (List.replicate 64 0))), .inr (.inl (.int, (List.replicate 65 0))), .inr (.inl (.int, (List.replicate 65 0))), .inr (.inl (.int, (List.replicate 64 0))), .inr (.inl (.int, (List.replicate 64 0))), .inr (.inl (.byte, (List.replicate 160 0))), .inr (.inl (.int, (List.replicate 160 0))), .inr (.inl (.int, (List.replicate 160 0))), .inr (.inl (.int, (List.replicate 160 0))), .inr (.inl (.int, (List.replicate 160 0)))])) rfl ?_
 refine zS Ad W 3 (st' := (198, [vR 1, vI x1, vI x2], [.ref 15, .ref 1], [.inr (.inl (.int, s)), .inl [.int (0:Int32), .int (1:Int32), .int (2:Int32), .int (3:Int32), .int (4:Int32), .int (64:Int32), .int (16:Int32), .int (64:Int32), .int (4:Int32), .int (256:Int32), .int (64:Int32), .int (3:Int32), .long (4294967295 : Int64), .int (2147483647:Int32), .ref 2, .ref 3, .ref 4, .ref 5, .ref 6, .ref 7, .ref 8, .ref 9, .ref 10, .ref 11, .ref 12, .ref 13, .ref 14, .null, .null, .null, .null, .null, .null, .null, .int (f_cap ob0), .int (f_targets ob0), .int (f_curCount ob0), .int (f_curDefault ob0), .int (f_dirty ob0), .int (f_snapCount ob0), .int (f_snapDefault ob0), .int (f_hasSnap ob0), .int (f_clCount ob0), .int (f_codeLen ob0), .int (f_rootPc ob0), .int (f_tableUsed ob0), .int (f_maskUsed ob0), .int (f_sp ob0)], .inr (.inl (.int, (List.replicate 64 0))), .inr (.inl (.byte, (List.replicate 64 0))), .inr (.inl (.int, (List.replicate 64 0))), .inr (.inl (.byte, (List.replicate 64 0))), .inr (.inl (.int, (List.replicate 65 0))), .inr (.inl (.int, (List.replicate 65 0))), .inr (.inl (.int, (List.replicate 64 0))), .inr (.inl (.int, (List.replicate 64 0))), .inr (.inl (.byte, (List.replicate 160 0))), .inr (.inl (.int, (List.replicate 160 0))), .inr (.inl (.int, (List.replicate 160 0))), .inr (.inl (.int, (List.replicate 160 0))), .inr (.inl (.int, (List.replicate 160 0))), .inr (.inl (.byte, (List.replicate 256 0)))])) rfl ?_
 refine zS Ad W 1 (st' := (201, [vR 1, vI x1, vI x2], [], [.inr (.inl (.int, s)), .inl [.int (0:Int32), .int (1:Int32), .int (2:Int32), .int (3:Int32), .int (4:Int32), .int (64:Int32), .int (16:Int32), .int (64:Int32), .int (4:Int32), .int (256:Int32), .int (64:Int32), .int (3:Int32), .long (4294967295 : Int64), .int (2147483647:Int32), .ref 2, .ref 3, .ref 4, .ref 5, .ref 6, .ref 7, .ref 8, .ref 9, .ref 10, .ref 11, .ref 12, .ref 13, .ref 14, .ref 15, .null, .null, .null, .null, .null, .null, .int (f_cap ob0), .int (f_targets ob0), .int (f_curCount ob0), .int (f_curDefault ob0), .int (f_dirty ob0), .int (f_snapCount ob0), .int (f_snapDefault ob0), .int (f_hasSnap ob0), .int (f_clCount ob0), .int (f_codeLen ob0), .int (f_rootPc ob0), .int (f_tableUsed ob0), .int (f_maskUsed ob0), .int (f_sp ob0)], .inr (.inl (.int, (List.replicate 64 0))), .inr (.inl (.byte, (List.replicate 64 0))), .inr (.inl (.int, (List.replicate 64 0))), .inr (.inl (.byte, (List.replicate 64 0))), .inr (.inl (.int, (List.replicate 65 0))), .inr (.inl (.int, (List.replicate 65 0))), .inr (.inl (.int, (List.replicate 64 0))), .inr (.inl (.int, (List.replicate 64 0))), .inr (.inl (.byte, (List.replicate 160 0))), .inr (.inl (.int, (List.replicate 160 0))), .inr (.inl (.int, (List.replicate 160 0))), .inr (.inl (.int, (List.replicate 160 0))), .inr (.inl (.int, (List.replicate 160 0))), .inr (.inl (.byte, (List.replicate 256 0)))])) rfl ?_
 refine zS Ad W 3 (st' := (207, [vR 1, vI x1, vI x2], [.ref 16, .ref 1], [.inr (.inl (.int, s)), .inl [.int (0:Int32), .int (1:Int32), .int (2:Int32), .int (3:Int32), .int (4:Int32), .int (64:Int32), .int (16:Int32), .int (64:Int32), .int (4:Int32), .int (256:Int32), .int (64:Int32), .int (3:Int32), .long (4294967295 : Int64), .int (2147483647:Int32), .ref 2, .ref 3, .ref 4, .ref 5, .ref 6, .ref 7, .ref 8, .ref 9, .ref 10, .ref 11, .ref 12, .ref 13, .ref 14, .ref 15, .null, .null, .null, .null, .null, .null, .int (f_cap ob0), .int (f_targets ob0), .int (f_curCount ob0), .int (f_curDefault ob0), .int (f_dirty ob0), .int (f_snapCount ob0), .int (f_snapDefault ob0), .int (f_hasSnap ob0), .int (f_clCount ob0), .int (f_codeLen ob0), .int (f_rootPc ob0), .int (f_tableUsed ob0), .int (f_maskUsed ob0), .int (f_sp ob0)], .inr (.inl (.int, (List.replicate 64 0))), .inr (.inl (.byte, (List.replicate 64 0))), .inr (.inl (.int, (List.replicate 64 0))), .inr (.inl (.byte, (List.replicate 64 0))), .inr (.inl (.int, (List.replicate 65 0))), .inr (.inl (.int, (List.replicate 65 0))), .inr (.inl (.int, (List.replicate 64 0))), .inr (.inl (.int, (List.replicate 64 0))), .inr (.inl (.byte, (List.replicate 160 0))), .inr (.inl (.int, (List.replicate 160 0))), .inr (.inl (.int, (List.replicate 160 0))), .inr (.inl (.int, (List.replicate 160 0))), .inr (.inl (.int, (List.replicate 160 0))), .inr (.inl (.byte, (List.replicate 256 0))), .inr (.inr (List.replicate 192 0))])) rfl ?_
 refine zS Ad W 1 (st' := (210, [vR 1, vI x1, vI x2], [], [.inr (.inl (.int, s)), .inl [.int (0:Int32), .int (1:Int32), .int (2:Int32), .int (3:Int32), .int (4:Int32), .int (64:Int32), .int (16:Int32), .int (64:Int32), .int (4:Int32), .int (256:Int32), .int (64:Int32), .int (3:Int32), .long (4294967295 : Int64), .int (2147483647:Int32), .ref 2, .ref 3, .ref 4, .ref 5, .ref 6, .ref 7, .ref 8, .ref 9, .ref 10, .ref 11, .ref 12, .ref 13, .ref 14, .ref 15, .ref 16, .null, .null, .null, .null, .null, .int (f_cap ob0), .int (f_targets ob0), .int (f_curCount ob0), .int (f_curDefault ob0), .int (f_dirty ob0), .int (f_snapCount ob0), .int (f_snapDefault ob0), .int (f_hasSnap ob0), .int (f_clCount ob0), .int (f_codeLen ob0), .int (f_rootPc ob0), .int (f_tableUsed ob0), .int (f_maskUsed ob0), .int (f_sp ob0)], .inr (.inl (.int, (List.replicate 64 0))), .inr (.inl (.byte, (List.replicate 64 0))), .inr (.inl (.int, (List.replicate 64 0))), .inr (.inl (.byte, (List.replicate 64 0))), .inr (.inl (.int, (List.replicate 65 0))), .inr (.inl (.int, (List.replicate 65 0))), .inr (.inl (.int, (List.replicate 64 0))), .inr (.inl (.int, (List.replicate 64 0))), .inr (.inl (.byte, (List.replicate 160 0))), .inr (.inl (.int, (List.replicate 160 0))), .inr (.inl (.int, (List.replicate 160 0))), .inr (.inl (.int, (List.replicate 160 0))), .inr (.inl (.int, (List.replicate 160 0))), .inr (.inl (.byte, (List.replicate 256 0))), .inr (.inr (List.replicate 192 0))])) rfl ?_
 refine zS Ad W 3 (st' := (216, [vR 1, vI x1, vI x2], [.ref 17, .ref 1], [.inr (.inl (.int, s)), .inl [.int (0:Int32), .int (1:Int32), .int (2:Int32), .int (3:Int32), .int (4:Int32), .int (64:Int32), .int (16:Int32), .int (64:Int32), .int (4:Int32), .int (256:Int32), .int (64:Int32), .int (3:Int32), .long (4294967295 : Int64), .int (2147483647:Int32), .ref 2, .ref 3, .ref 4, .ref 5, .ref 6, .ref 7, .ref 8, .ref 9, .ref 10, .ref 11, .ref 12, .ref 13, .ref 14, .ref 15, .ref 16, .null, .null, .null, .null, .null, .int (f_cap ob0), .int (f_targets ob0), .int (f_curCount ob0), .int (f_curDefault ob0), .int (f_dirty ob0), .int (f_snapCount ob0), .int (f_snapDefault ob0), .int (f_hasSnap ob0), .int (f_clCount ob0), .int (f_codeLen ob0), .int (f_rootPc ob0), .int (f_tableUsed ob0), .int (f_maskUsed ob0), .int (f_sp ob0)], .inr (.inl (.int, (List.replicate 64 0))), .inr (.inl (.byte, (List.replicate 64 0))), .inr (.inl (.int, (List.replicate 64 0))), .inr (.inl (.byte, (List.replicate 64 0))), .inr (.inl (.int, (List.replicate 65 0))), .inr (.inl (.int, (List.replicate 65 0))), .inr (.inl (.int, (List.replicate 64 0))), .inr (.inl (.int, (List.replicate 64 0))), .inr (.inl (.byte, (List.replicate 160 0))), .inr (.inl (.int, (List.replicate 160 0))), .inr (.inl (.int, (List.replicate 160 0))), .inr (.inl (.int, (List.replicate 160 0))), .inr (.inl (.int, (List.replicate 160 0))), .inr (.inl (.byte, (List.replicate 256 0))), .inr (.inr (List.replicate 192 0)), .inr (.inl (.byte, (List.replicate 192 0)))])) rfl ?_
 refine zS Ad W 1 (st' := (219, [vR 1, vI x1, vI x2], [], [.inr (.inl (.int, s)), .inl [.int (0:Int32), .int (1:Int32), .int (2:Int32), .int (3:Int32), .int (4:Int32), .int (64:Int32), .int (16:Int32), .int (64:Int32), .int (4:Int32), .int (256:Int32), .int (64:Int32), .int (3:Int32), .long (4294967295 : Int64), .int (2147483647:Int32), .ref 2, .ref 3, .ref 4, .ref 5, .ref 6, .ref 7, .ref 8, .ref 9, .ref 10, .ref 11, .ref 12, .ref 13, .ref 14, .ref 15, .ref 16, .ref 17, .null, .null, .null, .null, .int (f_cap ob0), .int (f_targets ob0), .int (f_curCount ob0), .int (f_curDefault ob0), .int (f_dirty ob0), .int (f_snapCount ob0), .int (f_snapDefault ob0), .int (f_hasSnap ob0), .int (f_clCount ob0), .int (f_codeLen ob0), .int (f_rootPc ob0), .int (f_tableUsed ob0), .int (f_maskUsed ob0), .int (f_sp ob0)], .inr (.inl (.int, (List.replicate 64 0))), .inr (.inl (.byte, (List.replicate 64 0))), .inr (.inl (.int, (List.replicate 64 0))), .inr (.inl (.byte, (List.replicate 64 0))), .inr (.inl (.int, (List.replicate 65 0))), .inr (.inl (.int, (List.replicate 65 0))), .inr (.inl (.int, (List.replicate 64 0))), .inr (.inl (.int, (List.replicate 64 0))), .inr (.inl (.byte, (List.replicate 160 0))), .inr (.inl (.int, (List.replicate 160 0))), .inr (.inl (.int, (List.replicate 160 0))), .inr (.inl (.int, (List.replicate 160 0))), .inr (.inl (.int, (List.replicate 160 0))), .inr (.inl (.byte, (List.replicate 256 0))), .inr (.inr (List.replicate 192 0)), .inr (.inl (.byte, (List.replicate 192 0)))])) rfl ?_
 refine zS Ad W 3 (st' := (225, [vR 1, vI x1, vI x2], [.ref 18, .ref 1], [.inr (.inl (.int, s)), .inl [.int (0:Int32), .int (1:Int32), .int (2:Int32), .int (3:Int32), .int (4:Int32), .int (64:Int32), .int (16:Int32), .int (64:Int32), .int (4:Int32), .int (256:Int32), .int (64:Int32), .int (3:Int32), .long (4294967295 : Int64), .int (2147483647:Int32), .ref 2, .ref 3, .ref 4, .ref 5, .ref 6, .ref 7, .ref 8, .ref 9, .ref 10, .ref 11, .ref 12, .ref 13, .ref 14, .ref 15, .ref 16, .ref 17, .null, .null, .null, .null, .int (f_cap ob0), .int (f_targets ob0), .int (f_curCount ob0), .int (f_curDefault ob0), .int (f_dirty ob0), .int (f_snapCount ob0), .int (f_snapDefault ob0), .int (f_hasSnap ob0), .int (f_clCount ob0), .int (f_codeLen ob0), .int (f_rootPc ob0), .int (f_tableUsed ob0), .int (f_maskUsed ob0), .int (f_sp ob0)], .inr (.inl (.int, (List.replicate 64 0))), .inr (.inl (.byte, (List.replicate 64 0))), .inr (.inl (.int, (List.replicate 64 0))), .inr (.inl (.byte, (List.replicate 64 0))), .inr (.inl (.int, (List.replicate 65 0))), .inr (.inl (.int, (List.replicate 65 0))), .inr (.inl (.int, (List.replicate 64 0))), .inr (.inl (.int, (List.replicate 64 0))), .inr (.inl (.byte, (List.replicate 160 0))), .inr (.inl (.int, (List.replicate 160 0))), .inr (.inl (.int, (List.replicate 160 0))), .inr (.inl (.int, (List.replicate 160 0))), .inr (.inl (.int, (List.replicate 160 0))), .inr (.inl (.byte, (List.replicate 256 0))), .inr (.inr (List.replicate 192 0)), .inr (.inl (.byte, (List.replicate 192 0))), .inr (.inl (.int, (List.replicate 130 0)))])) rfl ?_
 refine zS Ad W 1 (st' := (228, [vR 1, vI x1, vI x2], [], [.inr (.inl (.int, s)), .inl [.int (0:Int32), .int (1:Int32), .int (2:Int32), .int (3:Int32), .int (4:Int32), .int (64:Int32), .int (16:Int32), .int (64:Int32), .int (4:Int32), .int (256:Int32), .int (64:Int32), .int (3:Int32), .long (4294967295 : Int64), .int (2147483647:Int32), .ref 2, .ref 3, .ref 4, .ref 5, .ref 6, .ref 7, .ref 8, .ref 9, .ref 10, .ref 11, .ref 12, .ref 13, .ref 14, .ref 15, .ref 16, .ref 17, .ref 18, .null, .null, .null, .int (f_cap ob0), .int (f_targets ob0), .int (f_curCount ob0), .int (f_curDefault ob0), .int (f_dirty ob0), .int (f_snapCount ob0), .int (f_snapDefault ob0), .int (f_hasSnap ob0), .int (f_clCount ob0), .int (f_codeLen ob0), .int (f_rootPc ob0), .int (f_tableUsed ob0), .int (f_maskUsed ob0), .int (f_sp ob0)], .inr (.inl (.int, (List.replicate 64 0))), .inr (.inl (.byte, (List.replicate 64 0))), .inr (.inl (.int, (List.replicate 64 0))), .inr (.inl (.byte, (List.replicate 64 0))), .inr (.inl (.int, (List.replicate 65 0))), .inr (.inl (.int, (List.replicate 65 0))), .inr (.inl (.int, (List.replicate 64 0))), .inr (.inl (.int, (List.replicate 64 0))), .inr (.inl (.byte, (List.replicate 160 0))), .inr (.inl (.int, (List.replicate 160 0))), .inr (.inl (.int, (List.replicate 160 0))), .inr (.inl (.int, (List.replicate 160 0))), .inr (.inl (.int, (List.replicate 160 0))), .inr (.inl (.byte, (List.replicate 256 0))), .inr (.inr (List.replicate 192 0)), .inr (.inl (.byte, (List.replicate 192 0))), .inr (.inl (.int, (List.replicate 130 0)))])) rfl ?_
 refine zS Ad W 3 (st' := (234, [vR 1, vI x1, vI x2], [.ref 19, .ref 1], [.inr (.inl (.int, s)), .inl [.int (0:Int32), .int (1:Int32), .int (2:Int32), .int (3:Int32), .int (4:Int32), .int (64:Int32), .int (16:Int32), .int (64:Int32), .int (4:Int32), .int (256:Int32), .int (64:Int32), .int (3:Int32), .long (4294967295 : Int64), .int (2147483647:Int32), .ref 2, .ref 3, .ref 4, .ref 5, .ref 6, .ref 7, .ref 8, .ref 9, .ref 10, .ref 11, .ref 12, .ref 13, .ref 14, .ref 15, .ref 16, .ref 17, .ref 18, .null, .null, .null, .int (f_cap ob0), .int (f_targets ob0), .int (f_curCount ob0), .int (f_curDefault ob0), .int (f_dirty ob0), .int (f_snapCount ob0), .int (f_snapDefault ob0), .int (f_hasSnap ob0), .int (f_clCount ob0), .int (f_codeLen ob0), .int (f_rootPc ob0), .int (f_tableUsed ob0), .int (f_maskUsed ob0), .int (f_sp ob0)], .inr (.inl (.int, (List.replicate 64 0))), .inr (.inl (.byte, (List.replicate 64 0))), .inr (.inl (.int, (List.replicate 64 0))), .inr (.inl (.byte, (List.replicate 64 0))), .inr (.inl (.int, (List.replicate 65 0))), .inr (.inl (.int, (List.replicate 65 0))), .inr (.inl (.int, (List.replicate 64 0))), .inr (.inl (.int, (List.replicate 64 0))), .inr (.inl (.byte, (List.replicate 160 0))), .inr (.inl (.int, (List.replicate 160 0))), .inr (.inl (.int, (List.replicate 160 0))), .inr (.inl (.int, (List.replicate 160 0))), .inr (.inl (.int, (List.replicate 160 0))), .inr (.inl (.byte, (List.replicate 256 0))), .inr (.inr (List.replicate 192 0)), .inr (.inl (.byte, (List.replicate 192 0))), .inr (.inl (.int, (List.replicate 130 0))), .inr (.inl (.int, (List.replicate 130 0)))])) rfl ?_
 refine zS Ad W 1 (st' := (237, [vR 1, vI x1, vI x2], [], [.inr (.inl (.int, s)), .inl [.int (0:Int32), .int (1:Int32), .int (2:Int32), .int (3:Int32), .int (4:Int32), .int (64:Int32), .int (16:Int32), .int (64:Int32), .int (4:Int32), .int (256:Int32), .int (64:Int32), .int (3:Int32), .long (4294967295 : Int64), .int (2147483647:Int32), .ref 2, .ref 3, .ref 4, .ref 5, .ref 6, .ref 7, .ref 8, .ref 9, .ref 10, .ref 11, .ref 12, .ref 13, .ref 14, .ref 15, .ref 16, .ref 17, .ref 18, .ref 19, .null, .null, .int (f_cap ob0), .int (f_targets ob0), .int (f_curCount ob0), .int (f_curDefault ob0), .int (f_dirty ob0), .int (f_snapCount ob0), .int (f_snapDefault ob0), .int (f_hasSnap ob0), .int (f_clCount ob0), .int (f_codeLen ob0), .int (f_rootPc ob0), .int (f_tableUsed ob0), .int (f_maskUsed ob0), .int (f_sp ob0)], .inr (.inl (.int, (List.replicate 64 0))), .inr (.inl (.byte, (List.replicate 64 0))), .inr (.inl (.int, (List.replicate 64 0))), .inr (.inl (.byte, (List.replicate 64 0))), .inr (.inl (.int, (List.replicate 65 0))), .inr (.inl (.int, (List.replicate 65 0))), .inr (.inl (.int, (List.replicate 64 0))), .inr (.inl (.int, (List.replicate 64 0))), .inr (.inl (.byte, (List.replicate 160 0))), .inr (.inl (.int, (List.replicate 160 0))), .inr (.inl (.int, (List.replicate 160 0))), .inr (.inl (.int, (List.replicate 160 0))), .inr (.inl (.int, (List.replicate 160 0))), .inr (.inl (.byte, (List.replicate 256 0))), .inr (.inr (List.replicate 192 0)), .inr (.inl (.byte, (List.replicate 192 0))), .inr (.inl (.int, (List.replicate 130 0))), .inr (.inl (.int, (List.replicate 130 0)))])) rfl ?_
 refine zS Ad W 3 (st' := (243, [vR 1, vI x1, vI x2], [.ref 20, .ref 1], [.inr (.inl (.int, s)), .inl [.int (0:Int32), .int (1:Int32), .int (2:Int32), .int (3:Int32), .int (4:Int32), .int (64:Int32), .int (16:Int32), .int (64:Int32), .int (4:Int32), .int (256:Int32), .int (64:Int32), .int (3:Int32), .long (4294967295 : Int64), .int (2147483647:Int32), .ref 2, .ref 3, .ref 4, .ref 5, .ref 6, .ref 7, .ref 8, .ref 9, .ref 10, .ref 11, .ref 12, .ref 13, .ref 14, .ref 15, .ref 16, .ref 17, .ref 18, .ref 19, .null, .null, .int (f_cap ob0), .int (f_targets ob0), .int (f_curCount ob0), .int (f_curDefault ob0), .int (f_dirty ob0), .int (f_snapCount ob0), .int (f_snapDefault ob0), .int (f_hasSnap ob0), .int (f_clCount ob0), .int (f_codeLen ob0), .int (f_rootPc ob0), .int (f_tableUsed ob0), .int (f_maskUsed ob0), .int (f_sp ob0)], .inr (.inl (.int, (List.replicate 64 0))), .inr (.inl (.byte, (List.replicate 64 0))), .inr (.inl (.int, (List.replicate 64 0))), .inr (.inl (.byte, (List.replicate 64 0))), .inr (.inl (.int, (List.replicate 65 0))), .inr (.inl (.int, (List.replicate 65 0))), .inr (.inl (.int, (List.replicate 64 0))), .inr (.inl (.int, (List.replicate 64 0))), .inr (.inl (.byte, (List.replicate 160 0))), .inr (.inl (.int, (List.replicate 160 0))), .inr (.inl (.int, (List.replicate 160 0))), .inr (.inl (.int, (List.replicate 160 0))), .inr (.inl (.int, (List.replicate 160 0))), .inr (.inl (.byte, (List.replicate 256 0))), .inr (.inr (List.replicate 192 0)), .inr (.inl (.byte, (List.replicate 192 0))), .inr (.inl (.int, (List.replicate 130 0))), .inr (.inl (.int, (List.replicate 130 0))), .inr (.inl (.int, (List.replicate 130 0)))])) rfl ?_
 refine zS Ad W 1 (st' := (246, [vR 1, vI x1, vI x2], [], [.inr (.inl (.int, s)), .inl [.int (0:Int32), .int (1:Int32), .int (2:Int32), .int (3:Int32), .int (4:Int32), .int (64:Int32), .int (16:Int32), .int (64:Int32), .int (4:Int32), .int (256:Int32), .int (64:Int32), .int (3:Int32), .long (4294967295 : Int64), .int (2147483647:Int32), .ref 2, .ref 3, .ref 4, .ref 5, .ref 6, .ref 7, .ref 8, .ref 9, .ref 10, .ref 11, .ref 12, .ref 13, .ref 14, .ref 15, .ref 16, .ref 17, .ref 18, .ref 19, .ref 20, .null, .int (f_cap ob0), .int (f_targets ob0), .int (f_curCount ob0), .int (f_curDefault ob0), .int (f_dirty ob0), .int (f_snapCount ob0), .int (f_snapDefault ob0), .int (f_hasSnap ob0), .int (f_clCount ob0), .int (f_codeLen ob0), .int (f_rootPc ob0), .int (f_tableUsed ob0), .int (f_maskUsed ob0), .int (f_sp ob0)], .inr (.inl (.int, (List.replicate 64 0))), .inr (.inl (.byte, (List.replicate 64 0))), .inr (.inl (.int, (List.replicate 64 0))), .inr (.inl (.byte, (List.replicate 64 0))), .inr (.inl (.int, (List.replicate 65 0))), .inr (.inl (.int, (List.replicate 65 0))), .inr (.inl (.int, (List.replicate 64 0))), .inr (.inl (.int, (List.replicate 64 0))), .inr (.inl (.byte, (List.replicate 160 0))), .inr (.inl (.int, (List.replicate 160 0))), .inr (.inl (.int, (List.replicate 160 0))), .inr (.inl (.int, (List.replicate 160 0))), .inr (.inl (.int, (List.replicate 160 0))), .inr (.inl (.byte, (List.replicate 256 0))), .inr (.inr (List.replicate 192 0)), .inr (.inl (.byte, (List.replicate 192 0))), .inr (.inl (.int, (List.replicate 130 0))), .inr (.inl (.int, (List.replicate 130 0))), .inr (.inl (.int, (List.replicate 130 0)))])) rfl ?_
 refine zS Ad W 3 (st' := (252, [vR 1, vI x1, vI x2], [.ref 21, .ref 1], [.inr (.inl (.int, s)), .inl [.int (0:Int32), .int (1:Int32), .int (2:Int32), .int (3:Int32), .int (4:Int32), .int (64:Int32), .int (16:Int32), .int (64:Int32), .int (4:Int32), .int (256:Int32), .int (64:Int32), .int (3:Int32), .long (4294967295 : Int64), .int (2147483647:Int32), .ref 2, .ref 3, .ref 4, .ref 5, .ref 6, .ref 7, .ref 8, .ref 9, .ref 10, .ref 11, .ref 12, .ref 13, .ref 14, .ref 15, .ref 16, .ref 17, .ref 18, .ref 19, .ref 20, .null, .int (f_cap ob0), .int (f_targets ob0), .int (f_curCount ob0), .int (f_curDefault ob0), .int (f_dirty ob0), .int (f_snapCount ob0), .int (f_snapDefault ob0), .int (f_hasSnap ob0), .int (f_clCount ob0), .int (f_codeLen ob0), .int (f_rootPc ob0), .int (f_tableUsed ob0), .int (f_maskUsed ob0), .int (f_sp ob0)], .inr (.inl (.int, (List.replicate 64 0))), .inr (.inl (.byte, (List.replicate 64 0))), .inr (.inl (.int, (List.replicate 64 0))), .inr (.inl (.byte, (List.replicate 64 0))), .inr (.inl (.int, (List.replicate 65 0))), .inr (.inl (.int, (List.replicate 65 0))), .inr (.inl (.int, (List.replicate 64 0))), .inr (.inl (.int, (List.replicate 64 0))), .inr (.inl (.byte, (List.replicate 160 0))), .inr (.inl (.int, (List.replicate 160 0))), .inr (.inl (.int, (List.replicate 160 0))), .inr (.inl (.int, (List.replicate 160 0))), .inr (.inl (.int, (List.replicate 160 0))), .inr (.inl (.byte, (List.replicate 256 0))), .inr (.inr (List.replicate 192 0)), .inr (.inl (.byte, (List.replicate 192 0))), .inr (.inl (.int, (List.replicate 130 0))), .inr (.inl (.int, (List.replicate 130 0))), .inr (.inl (.int, (List.replicate 130 0))), .inr (.inl (.int, (List.replicate 130 0)))])) rfl ?_
 refine zS Ad W 1 (st' := (255, [vR 1, vI x1, vI x2], [], (H0x0 s ob0 (0:Int32) (1:Int32) (2:Int32) (3:Int32) (4:Int32) (64:Int32) (16:Int32) (64:Int32) (4:Int32) (256:Int32) (64:Int32) (3:Int32) (4294967295 : Int64) (2147483647:Int32) (List.replicate 64 0) (List.replicate 64 0) (List.replicate 64 0) (List.replicate 64 0) (List.replicate 65 0) (List.replicate 65 0) (List.replicate 64 0) (List.replicate 64 0) (List.replicate 160 0) (List.replicate 160 0) (List.replicate 160 0) (List.replicate 160 0) (List.replicate 160 0) (List.replicate 256 0) (List.replicate 192 0) (List.replicate 192 0) (List.replicate 130 0) (List.replicate 130 0) (List.replicate 130 0) (List.replicate 130 0)))) rfl ?_
 refine zS Ad W 5 (st' := (261, [vR 1, vI x1, vI x2], [.int (64:Int32), .int (1:Int32), .int x1, .ref 1, .ref 1], (H0x0 s ob0 (0:Int32) (1:Int32) (2:Int32) (3:Int32) (4:Int32) (64:Int32) (16:Int32) (64:Int32) (4:Int32) (256:Int32) (64:Int32) (3:Int32) (4294967295 : Int64) (2147483647:Int32) (List.replicate 64 0) (List.replicate 64 0) (List.replicate 64 0) (List.replicate 64 0) (List.replicate 65 0) (List.replicate 65 0) (List.replicate 64 0) (List.replicate 64 0) (List.replicate 160 0) (List.replicate 160 0) (List.replicate 160 0) (List.replicate 160 0) (List.replicate 160 0) (List.replicate 256 0) (List.replicate 192 0) (List.replicate 192 0) (List.replicate 130 0) (List.replicate 130 0) (List.replicate 130 0) (List.replicate 130 0)))) rfl ?_
 obtain ⟨r3, hr3, h⟩ := bind_eq_some_iff.mp h
 refine QTri.callP W (a := 1) (as := [.int x1, .int (1:Int32), .int (64:Int32)]) (rest := [.ref 1]) (w := (some (.int r3))) (σ₁ := (H0x0 s ob0 (0:Int32) (1:Int32) (2:Int32) (3:Int32) (4:Int32) (64:Int32) (16:Int32) (64:Int32) (4:Int32) (256:Int32) (64:Int32) (3:Int32) (4294967295 : Int64) (2147483647:Int32) (List.replicate 64 0) (List.replicate 64 0) (List.replicate 64 0) (List.replicate 64 0) (List.replicate 65 0) (List.replicate 65 0) (List.replicate 64 0) (List.replicate 64 0) (List.replicate 160 0) (List.replicate 160 0) (List.replicate 160 0) (List.replicate 160 0) (List.replicate 160 0) (List.replicate 256 0) (List.replicate 192 0) (List.replicate 192 0) (List.replicate 130 0) (List.replicate 130 0) (List.replicate 130 0) (List.replicate 130 0))) rfl rfl rfl rfl rfl rfl rfl rfl (tF2 Ad W x1 (1:Int32) (64:Int32) hr3) ?_
 refine zS Ad W 1 (st' := (267, [vR 1, vI x1, vI x2], [], (H0x1 s ob0 (0:Int32) (1:Int32) (2:Int32) (3:Int32) (4:Int32) (64:Int32) (16:Int32) (64:Int32) (4:Int32) (256:Int32) (64:Int32) (3:Int32) (4294967295 : Int64) (2147483647:Int32) (List.replicate 64 0) (List.replicate 64 0) (List.replicate 64 0) (List.replicate 64 0) (List.replicate 65 0) (List.replicate 65 0) (List.replicate 64 0) (List.replicate 64 0) (List.replicate 160 0) (List.replicate 160 0) (List.replicate 160 0) (List.replicate 160 0) (List.replicate 160 0) (List.replicate 256 0) (List.replicate 192 0) (List.replicate 192 0) (List.replicate 130 0) (List.replicate 130 0) (List.replicate 130 0) (List.replicate 130 0) r3))) rfl ?_
 refine zS Ad W 5 (st' := (273, [vR 1, vI x1, vI x2], [.int (16:Int32), .int (1:Int32), .int x2, .ref 1, .ref 1], (H0x1 s ob0 (0:Int32) (1:Int32) (2:Int32) (3:Int32) (4:Int32) (64:Int32) (16:Int32) (64:Int32) (4:Int32) (256:Int32) (64:Int32) (3:Int32) (4294967295 : Int64) (2147483647:Int32) (List.replicate 64 0) (List.replicate 64 0) (List.replicate 64 0) (List.replicate 64 0) (List.replicate 65 0) (List.replicate 65 0) (List.replicate 64 0) (List.replicate 64 0) (List.replicate 160 0) (List.replicate 160 0) (List.replicate 160 0) (List.replicate 160 0) (List.replicate 160 0) (List.replicate 256 0) (List.replicate 192 0) (List.replicate 192 0) (List.replicate 130 0) (List.replicate 130 0) (List.replicate 130 0) (List.replicate 130 0) r3))) rfl ?_
 obtain ⟨r4, hr4, h⟩ := bind_eq_some_iff.mp h
 refine QTri.callP W (a := 1) (as := [.int x2, .int (1:Int32), .int (16:Int32)]) (rest := [.ref 1]) (w := (some (.int r4))) (σ₁ := (H0x1 s ob0 (0:Int32) (1:Int32) (2:Int32) (3:Int32) (4:Int32) (64:Int32) (16:Int32) (64:Int32) (4:Int32) (256:Int32) (64:Int32) (3:Int32) (4294967295 : Int64) (2147483647:Int32) (List.replicate 64 0) (List.replicate 64 0) (List.replicate 64 0) (List.replicate 64 0) (List.replicate 65 0) (List.replicate 65 0) (List.replicate 64 0) (List.replicate 64 0) (List.replicate 160 0) (List.replicate 160 0) (List.replicate 160 0) (List.replicate 160 0) (List.replicate 160 0) (List.replicate 256 0) (List.replicate 192 0) (List.replicate 192 0) (List.replicate 130 0) (List.replicate 130 0) (List.replicate 130 0) (List.replicate 130 0) r3)) rfl rfl rfl rfl rfl rfl rfl rfl (tF2 Ad W x2 (1:Int32) (16:Int32) hr4) ?_
 refine zS Ad W 1 (st' := (279, [vR 1, vI x1, vI x2], [], (H0x2 s ob0 (0:Int32) (1:Int32) (2:Int32) (3:Int32) (4:Int32) (64:Int32) (16:Int32) (64:Int32) (4:Int32) (256:Int32) (64:Int32) (3:Int32) (4294967295 : Int64) (2147483647:Int32) (List.replicate 64 0) (List.replicate 64 0) (List.replicate 64 0) (List.replicate 64 0) (List.replicate 65 0) (List.replicate 65 0) (List.replicate 64 0) (List.replicate 64 0) (List.replicate 160 0) (List.replicate 160 0) (List.replicate 160 0) (List.replicate 160 0) (List.replicate 160 0) (List.replicate 256 0) (List.replicate 192 0) (List.replicate 192 0) (List.replicate 130 0) (List.replicate 130 0) (List.replicate 130 0) (List.replicate 130 0) r3 r4))) rfl ?_
 refine zS Ad W 1 (st' := (280, [vR 1, vI x1, vI x2], [.ref 1], (H0x2 s ob0 (0:Int32) (1:Int32) (2:Int32) (3:Int32) (4:Int32) (64:Int32) (16:Int32) (64:Int32) (4:Int32) (256:Int32) (64:Int32) (3:Int32) (4294967295 : Int64) (2147483647:Int32) (List.replicate 64 0) (List.replicate 64 0) (List.replicate 64 0) (List.replicate 64 0) (List.replicate 65 0) (List.replicate 65 0) (List.replicate 64 0) (List.replicate 64 0) (List.replicate 160 0) (List.replicate 160 0) (List.replicate 160 0) (List.replicate 160 0) (List.replicate 160 0) (List.replicate 256 0) (List.replicate 192 0) (List.replicate 192 0) (List.replicate 130 0) (List.replicate 130 0) (List.replicate 130 0) (List.replicate 130 0) r3 r4))) rfl ?_
 have E5 : ((H0x2 s ob0 (0:Int32) (1:Int32) (2:Int32) (3:Int32) (4:Int32) (64:Int32) (16:Int32) (64:Int32) (4:Int32) (256:Int32) (64:Int32) (3:Int32) (4294967295 : Int64) (2147483647:Int32) (List.replicate 64 0) (List.replicate 64 0) (List.replicate 64 0) (List.replicate 64 0) (List.replicate 65 0) (List.replicate 65 0) (List.replicate 64 0) (List.replicate 64 0) (List.replicate 160 0) (List.replicate 160 0) (List.replicate 160 0) (List.replicate 160 0) (List.replicate 160 0) (List.replicate 256 0) (List.replicate 192 0) (List.replicate 192 0) (List.replicate 130 0) (List.replicate 130 0) (List.replicate 130 0) (List.replicate 130 0) r3 r4) : QHeap) = (H0 s (s_targets (s_cap (s_stSlot (s_stParent (s_stHi (s_stLo (s_maskTarget (s_maskPool (s_tablePool (s_argD (s_argC (s_argB (s_argA (s_opc (s_clEnd (s_clStart (s_bestCut (s_bestCost (s_snapTgt (s_snapVal (s_curTgt (s_curVal (s_maxInt (s_unsignedMask (s_maxBitTargets (s_maxBitSpan (s_maxTableSpan (s_tableSpanPerCase (s_maxSteps (s_maxTargets (s_maxCap (s_opBits (s_opTable (s_opEq (s_opLess (s_opRet ob0 (0:Int32)) (1:Int32)) (2:Int32)) (3:Int32)) (4:Int32)) (64:Int32)) (16:Int32)) (64:Int32)) (4:Int32)) (256:Int32)) (64:Int32)) (3:Int32)) (4294967295 : Int64)) (2147483647:Int32)) (List.replicate 64 0)) (List.replicate 64 0)) (List.replicate 64 0)) (List.replicate 64 0)) (List.replicate 65 0)) (List.replicate 65 0)) (List.replicate 64 0)) (List.replicate 64 0)) (List.replicate 160 0)) (List.replicate 160 0)) (List.replicate 160 0)) (List.replicate 160 0)) (List.replicate 160 0)) (List.replicate 256 0)) (List.replicate 192 0)) (List.replicate 192 0)) (List.replicate 130 0)) (List.replicate 130 0)) (List.replicate 130 0)) (List.replicate 130 0)) r3) r4)) := by simp only [fs, H0, H0v, H0x2, s_opRet, s_opLess, s_opEq, s_opTable, s_opBits, s_maxCap, s_maxTargets, s_maxSteps, s_tableSpanPerCase, s_maxTableSpan, s_maxBitSpan, s_maxBitTargets, s_unsignedMask, s_maxInt, s_curVal, s_curTgt, s_snapVal, s_snapTgt, s_bestCost, s_bestCut, s_clStart, s_clEnd, s_opc, s_argA, s_argB, s_argC, s_argD, s_tablePool, s_maskPool, s_maskTarget, s_stLo, s_stHi, s_stParent, s_stSlot, s_cap, s_targets, ob0]
 rw [E5]
 obtain ⟨r7, hr7, h⟩ := bind_eq_some_iff.mp h
 refine QTri.callV W (a := 1) (as := []) (rest := []) (w := none) (σ₁ := (H0 s r7)) rfl rfl rfl rfl rfl rfl rfl rfl (tF3 Ad W s (s_targets (s_cap (s_stSlot (s_stParent (s_stHi (s_stLo (s_maskTarget (s_maskPool (s_tablePool (s_argD (s_argC (s_argB (s_argA (s_opc (s_clEnd (s_clStart (s_bestCut (s_bestCost (s_snapTgt (s_snapVal (s_curTgt (s_curVal (s_maxInt (s_unsignedMask (s_maxBitTargets (s_maxBitSpan (s_maxTableSpan (s_tableSpanPerCase (s_maxSteps (s_maxTargets (s_maxCap (s_opBits (s_opTable (s_opEq (s_opLess (s_opRet ob0 (0:Int32)) (1:Int32)) (2:Int32)) (3:Int32)) (4:Int32)) (64:Int32)) (16:Int32)) (64:Int32)) (4:Int32)) (256:Int32)) (64:Int32)) (3:Int32)) (4294967295 : Int64)) (2147483647:Int32)) (List.replicate 64 0)) (List.replicate 64 0)) (List.replicate 64 0)) (List.replicate 64 0)) (List.replicate 65 0)) (List.replicate 65 0)) (List.replicate 64 0)) (List.replicate 64 0)) (List.replicate 160 0)) (List.replicate 160 0)) (List.replicate 160 0)) (List.replicate 160 0)) (List.replicate 160 0)) (List.replicate 256 0)) (List.replicate 192 0)) (List.replicate 192 0)) (List.replicate 130 0)) (List.replicate 130 0)) (List.replicate 130 0)) (List.replicate 130 0)) r3) r4) hr7) ?_
 obtain rfl := Option.some.inj h
 exact QTri.ret0 rfl rfl
def B19_10 (o : Ob) (x1 : Int32) (v : Int32 × Int32 × Int32) : Option (((Int32)) ⊕ (Int32 × Int32 × Int32)) :=
  (if v.2.2 < (16 : Int32) then (if v.1 < v.2.1 then (aget (f_curVal o) (XT.ushr (v.1 + v.2.1) (1 : Int32))).bind fun y18 => some (.inr ((if y18 < x1 then ((XT.ushr (v.1 + v.2.1) (1 : Int32)) + (1 : Int32)) else v.1), (if y18 < x1 then v.2.1 else (XT.ushr (v.1 + v.2.1) (1 : Int32))), (v.2.2 + (1 : Int32)))) else some (.inl v.1)) else some (.inl v.1))
theorem tB19_10 (Ad : QAd n0 ad) (W : QW Z a0) (s : List Int32) (o : Ob) (x1 : Int32) (v : Int32 × Int32 × Int32) {r : ((Int32)) ⊕ (Int32 × Int32 × Int32)} {u : Option Value} {τ : QHeap} (h : B19_10 o x1 v = some r) (hx0 : ∀ x : Int32, r = .inl x → u = (some (Value.int x)) ∧ τ = (H0 s o)) (hc : ∀ x : Int32 × Int32 × Int32, r = .inr x → QTri l Z n0 ad 19 (10, [vR 1, vI x1, vI x.1, vI x.2.1, vI x.2.2, none], [], (H0 s o)) u τ) : QTri l Z n0 ad 19 (10, [vR 1, vI x1, vI v.1, vI v.2.1, vI v.2.2, none], [], (H0 s o)) u τ := by
 unfold B19_10 at h
 refine zS Ad W 2 (st' := (14, [vR 1, vI x1, vI v.1, vI v.2.1, vI v.2.2, none], [.int (16:Int32), .int v.2.2], (H0 s o))) rfl ?_
 rcases qite h with ⟨hc16, h⟩ | ⟨hc16, h⟩
 ·refine zF Ad W (t := 57) (f := 17) rfl (XT.ii_ge_f hc16) ?_
  refine zS Ad W 2 (st' := (19, [vR 1, vI x1, vI v.1, vI v.2.1, vI v.2.2, none], [.int v.2.1, .int v.1], (H0 s o))) rfl ?_
  rcases qite h with ⟨hc17, h⟩ | ⟨hc17, h⟩
  ·refine zF Ad W (t := 57) (f := 22) rfl (XT.ii_ge_f hc17) ?_
   refine zS Ad W 9 (st' := (35, [vR 1, vI x1, vI v.1, vI v.2.1, vI v.2.2, vI (XT.ushr (v.1 + v.2.1) (1:Int32))], [.int (XT.ushr (v.1 + v.2.1) (1:Int32)), .ref 2], (H0 s o))) rfl ?_
   obtain ⟨y18, hy18, h⟩ := bind_eq_some_iff.mp h
   refine zB Ad W (f := fun y18 => (36, [vR 1, vI x1, vI v.1, vI v.2.1, vI v.2.2, vI (XT.ushr (v.1 + v.2.1) (1:Int32))], [.int y18], (H0 s o))) rfl hy18 ?_
   refine zS Ad W 1 (st' := (37, [vR 1, vI x1, vI v.1, vI v.2.1, vI v.2.2, vI (XT.ushr (v.1 + v.2.1) (1:Int32))], [.int x1, .int y18], (H0 s o))) rfl ?_
   have K21 : ∀ z19 : Int32, z19 = (if y18 < x1 then ((XT.ushr (v.1 + v.2.1) (1:Int32)) + (1:Int32)) else v.1) → ∀ z20 : Int32, z20 = (if y18 < x1 then v.2.1 else (XT.ushr (v.1 + v.2.1) (1:Int32))) → QTri l Z n0 ad 19 (51, [vR 1, vI x1, vI z19, vI z20, vI v.2.2, none], [], (H0 s o)) u τ := by
    intro z19 ez19
    intro z20 ez20
    subst ez19
    subst ez20
    refine zS Ad W 2 (st' := (10, [vR 1, vI x1, vI (if y18 < x1 then ((XT.ushr (v.1 + v.2.1) (1:Int32)) + (1:Int32)) else v.1), vI (if y18 < x1 then v.2.1 else (XT.ushr (v.1 + v.2.1) (1:Int32))), vI (v.2.2 + (1:Int32)), none], [], (H0 s o))) rfl ?_
    obtain rfl := Option.some.inj h
    exact zM [tt,tt,tt,tt,tt,ff] (hc ((if y18 < x1 then ((XT.ushr (v.1 + v.2.1) (1:Int32)) + (1:Int32)) else v.1), (if y18 < x1 then v.2.1 else (XT.ushr (v.1 + v.2.1) (1:Int32))), (v.2.2 + (1:Int32))) rfl)
   rcases em (y18 < x1) with hc22 | hc22
   ·refine zF Ad W (t := 48) (f := 40) rfl (XT.ii_ge_f hc22) ?_
    refine zS Ad W 5 (st' := (51, [vR 1, vI x1, vI ((XT.ushr (v.1 + v.2.1) (1:Int32)) + (1:Int32)), vI v.2.1, vI v.2.2, vI (XT.ushr (v.1 + v.2.1) (1:Int32))], [], (H0 s o))) rfl ?_
    exact zM [tt,tt,tt,tt,tt,ff] (K21 _ (if_pos hc22).symm _ (if_pos hc22).symm)
   ·refine zT Ad W (t := 48) (f := 40) rfl (XT.ii_ge_t hc22) ?_
    refine zS Ad W 2 (st' := (51, [vR 1, vI x1, vI v.1, vI (XT.ushr (v.1 + v.2.1) (1:Int32)), vI v.2.2, vI (XT.ushr (v.1 + v.2.1) (1:Int32))], [], (H0 s o))) rfl ?_
    exact zM [tt,tt,tt,tt,tt,ff] (K21 _ (if_neg hc22).symm _ (if_neg hc22).symm)
  ·refine zT Ad W (t := 57) (f := 22) rfl (XT.ii_ge_t hc17) ?_
   refine zS Ad W 1 (st' := (58, [vR 1, vI x1, vI v.1, vI v.2.1, vI v.2.2, none], [.int v.1], (H0 s o))) rfl ?_
   obtain rfl := Option.some.inj h
   obtain ⟨rfl, rfl⟩ := hx0 v.1 rfl
   exact QTri.retI rfl rfl
 ·refine zT Ad W (t := 57) (f := 17) rfl (XT.ii_ge_t hc16) ?_
  refine zS Ad W 1 (st' := (58, [vR 1, vI x1, vI v.1, vI v.2.1, vI v.2.2, none], [.int v.1], (H0 s o))) rfl ?_
  obtain rfl := Option.some.inj h
  obtain ⟨rfl, rfl⟩ := hx0 v.1 rfl
  exact QTri.retI rfl rfl
/-- curLowerBound(I)I -/
def F19 (o : Ob) (x1 : Int32) : Option (Int32) :=
 (loopN (B19_10 o x1) qN ((0:Int32), (f_curCount o), (0:Int32))).bind fun e23 => some e23
theorem tF19 (Ad : QAd n0 ad) (W : QW Z a0) (s : List Int32) (o : Ob) (x1 : Int32) {r : Int32} (h : F19 o x1 = some r) : QTri l Z n0 ad 19 (0, qentry [.ref 1, .int x1] (pMaxL 19), [], (H0 s o)) (some (Value.int r)) (H0 s o) := by
 unfold F19 at h
 refine zS Ad W 5 (st' := (7, [vR 1, vI x1, vI (0:Int32), vI (f_curCount o), none, none], [], (H0 s o))) rfl ?_
 refine zS Ad W 2 (st' := (10, [vR 1, vI x1, vI (0:Int32), vI (f_curCount o), vI (0:Int32), none], [], (H0 s o))) rfl ?_
 obtain ⟨e23, he23, h⟩ := bind_eq_some_iff.mp h
 refine zM [tt,tt,tt,tt,tt,ff] (loopN_tri (B := B19_10 o x1) (T := fun lv24 => QTri l Z n0 ad 19 (10, [vR 1, vI x1, vI lv24.1, vI lv24.2.1, vI lv24.2.2, none], [], (H0 s o)) (some (Value.int r)) (H0 s o)) (KE := fun e23a => (some (Value.int r)) = (some (Value.int e23a)) ∧ (H0 s o) = (H0 s o)) (fun lv24 r hB hE hC => tB19_10 Ad W s o x1 lv24 hB (fun x q => hE _ q) (fun x q => hC x q)) qN ((0:Int32), (f_curCount o), (0:Int32)) e23 he23 ?_)
 obtain rfl := Option.some.inj h
 exact ⟨rfl, rfl⟩
def H0x15 (s : List Int32) (o0 : Ob) (a0_14 : List Int32) : QHeap := H0v s (f_opRet o0) (f_opLess o0) (f_opEq o0) (f_opTable o0) (f_opBits o0) (f_maxCap o0) (f_maxTargets o0) (f_maxSteps o0) (f_tableSpanPerCase o0) (f_maxTableSpan o0) (f_maxBitSpan o0) (f_maxBitTargets o0) (f_unsignedMask o0) (f_maxInt o0) a0_14 (f_curTgt o0) (f_snapVal o0) (f_snapTgt o0) (f_bestCost o0) (f_bestCut o0) (f_clStart o0) (f_clEnd o0) (f_opc o0) (f_argA o0) (f_argB o0) (f_argC o0) (f_argD o0) (f_tablePool o0) (f_maskPool o0) (f_maskTarget o0) (f_stLo o0) (f_stHi o0) (f_stParent o0) (f_stSlot o0) (f_cap o0) (f_targets o0) (f_curCount o0) (f_curDefault o0) (f_dirty o0) (f_snapCount o0) (f_snapDefault o0) (f_hasSnap o0) (f_clCount o0) (f_codeLen o0) (f_rootPc o0) (f_tableUsed o0) (f_maskUsed o0) (f_sp o0)
def H0x16 (s : List Int32) (o0 : Ob) (a0_14 : List Int32) (a0_15 : List Int32) : QHeap := H0v s (f_opRet o0) (f_opLess o0) (f_opEq o0) (f_opTable o0) (f_opBits o0) (f_maxCap o0) (f_maxTargets o0) (f_maxSteps o0) (f_tableSpanPerCase o0) (f_maxTableSpan o0) (f_maxBitSpan o0) (f_maxBitTargets o0) (f_unsignedMask o0) (f_maxInt o0) a0_14 a0_15 (f_snapVal o0) (f_snapTgt o0) (f_bestCost o0) (f_bestCut o0) (f_clStart o0) (f_clEnd o0) (f_opc o0) (f_argA o0) (f_argB o0) (f_argC o0) (f_argD o0) (f_tablePool o0) (f_maskPool o0) (f_maskTarget o0) (f_stLo o0) (f_stHi o0) (f_stParent o0) (f_stSlot o0) (f_cap o0) (f_targets o0) (f_curCount o0) (f_curDefault o0) (f_dirty o0) (f_snapCount o0) (f_snapDefault o0) (f_hasSnap o0) (f_clCount o0) (f_codeLen o0) (f_rootPc o0) (f_tableUsed o0) (f_maskUsed o0) (f_sp o0)
def B20_59 (x1 : Int32) (x2 : Int32) (x3 : Int32) (v : Int32 × Ob) : Option (((Ob)) ⊕ (Int32 × Ob)) :=
  (if x3 < v.1 then (aget (f_curVal v.2) (v.1 - (1 : Int32))).bind fun y31 => (aset (f_curVal v.2) v.1 y31).bind fun y32 => (aget (f_curTgt v.2) (v.1 - (1 : Int32))).bind fun y33 => (aset (f_curTgt v.2) v.1 (y33.toInt8.toInt32)).bind fun y34 => some (.inr ((v.1 + (-1 : Int32)), (s_curTgt (s_curVal v.2 y32) y34))) else some (.inl v.2))
theorem tB20_59 (Ad : QAd n0 ad) (W : QW Z a0) (s : List Int32) (x1 : Int32) (x2 : Int32) (x3 : Int32) (v : Int32 × Ob) {r : ((Ob)) ⊕ (Int32 × Ob)} {u : Option Value} {τ : QHeap} (h : B20_59 x1 x2 x3 v = some r) (hx0 : ∀ x : Ob, r = .inl x → QTri l Z n0 ad 20 (103, [vR 1, vI x1, vI x2, vI x3, none], [], (H0 s x)) u τ) (hc : ∀ x : Int32 × Ob, r = .inr x → QTri l Z n0 ad 20 (59, [vR 1, vI x1, vI x2, vI x3, vI x.1], [], (H0 s x.2)) u τ) : QTri l Z n0 ad 20 (59, [vR 1, vI x1, vI x2, vI x3, vI v.1], [], (H0 s v.2)) u τ := by
 unfold B20_59 at h
 refine zS Ad W 2 (st' := (62, [vR 1, vI x1, vI x2, vI x3, vI v.1], [.int x3, .int v.1], (H0 s v.2))) rfl ?_
 rcases qite h with ⟨hc30, h⟩ | ⟨hc30, h⟩
 ·refine zF Ad W (t := 103) (f := 65) rfl (XT.ii_le_f hc30) ?_
  refine zS Ad W 8 (st' := (79, [vR 1, vI x1, vI x2, vI x3, vI v.1], [.int (v.1 - (1:Int32)), .ref 2, .int v.1, .ref 2], (H0 s v.2))) rfl ?_
  obtain ⟨y31, hy31, h⟩ := bind_eq_some_iff.mp h
  refine zB Ad W (f := fun y31 => (80, [vR 1, vI x1, vI x2, vI x3, vI v.1], [.int y31, .int v.1, .ref 2], (H0 s v.2))) rfl hy31 ?_
  obtain ⟨y32, hy32, h⟩ := bind_eq_some_iff.mp h
  refine zB Ad W (f := fun y32 => (81, [vR 1, vI x1, vI x2, vI x3, vI v.1], [], (H0x15 s v.2 y32))) rfl hy32 ?_
  refine zS Ad W 8 (st' := (95, [vR 1, vI x1, vI x2, vI x3, vI v.1], [.int (v.1 - (1:Int32)), .ref 3, .int v.1, .ref 3], (H0x15 s v.2 y32))) rfl ?_
  obtain ⟨y33, hy33, h⟩ := bind_eq_some_iff.mp h
  refine zB Ad W (f := fun y33 => (96, [vR 1, vI x1, vI x2, vI x3, vI v.1], [.int y33, .int v.1, .ref 3], (H0x15 s v.2 y32))) rfl hy33 ?_
  obtain ⟨y34, hy34, h⟩ := bind_eq_some_iff.mp h
  refine zB Ad W (f := fun y34 => (97, [vR 1, vI x1, vI x2, vI x3, vI v.1], [], (H0x16 s v.2 y32 y34))) rfl hy34 ?_
  refine zS Ad W 2 (st' := (59, [vR 1, vI x1, vI x2, vI x3, vI (v.1 + (-1:Int32))], [], (H0x16 s v.2 y32 y34))) rfl ?_
  have E35 : ((H0x16 s v.2 y32 y34) : QHeap) = (H0 s (s_curTgt (s_curVal v.2 y32) y34)) := by simp only [fs, H0, H0v, H0x16, s_curVal, s_curTgt]
  rw [E35]
  obtain rfl := Option.some.inj h
  exact zM [tt,tt,tt,tt,tt] (hc ((v.1 + (-1:Int32)), (s_curTgt (s_curVal v.2 y32) y34)) rfl)
 ·refine zT Ad W (t := 103) (f := 65) rfl (XT.ii_le_t hc30) ?_
  obtain rfl := Option.some.inj h
  exact zM [tt,tt,tt,tt,ff] (hx0 v.2 rfl)
def H0x17 (s : List Int32) (o0 : Ob) (a0_14 : List Int32) (a0_15 : List Int32) (a0_36 : Int32) : QHeap := H0v s (f_opRet o0) (f_opLess o0) (f_opEq o0) (f_opTable o0) (f_opBits o0) (f_maxCap o0) (f_maxTargets o0) (f_maxSteps o0) (f_tableSpanPerCase o0) (f_maxTableSpan o0) (f_maxBitSpan o0) (f_maxBitTargets o0) (f_unsignedMask o0) (f_maxInt o0) a0_14 a0_15 (f_snapVal o0) (f_snapTgt o0) (f_bestCost o0) (f_bestCut o0) (f_clStart o0) (f_clEnd o0) (f_opc o0) (f_argA o0) (f_argB o0) (f_argC o0) (f_argD o0) (f_tablePool o0) (f_maskPool o0) (f_maskTarget o0) (f_stLo o0) (f_stHi o0) (f_stParent o0) (f_stSlot o0) (f_cap o0) (f_targets o0) a0_36 (f_curDefault o0) (f_dirty o0) (f_snapCount o0) (f_snapDefault o0) (f_hasSnap o0) (f_clCount o0) (f_codeLen o0) (f_rootPc o0) (f_tableUsed o0) (f_maskUsed o0) (f_sp o0)
def H0x18 (s : List Int32) (o0 : Ob) (a0_14 : List Int32) (a0_15 : List Int32) (a0_36 : Int32) (a0_38 : Int32) : QHeap := H0v s (f_opRet o0) (f_opLess o0) (f_opEq o0) (f_opTable o0) (f_opBits o0) (f_maxCap o0) (f_maxTargets o0) (f_maxSteps o0) (f_tableSpanPerCase o0) (f_maxTableSpan o0) (f_maxBitSpan o0) (f_maxBitTargets o0) (f_unsignedMask o0) (f_maxInt o0) a0_14 a0_15 (f_snapVal o0) (f_snapTgt o0) (f_bestCost o0) (f_bestCut o0) (f_clStart o0) (f_clEnd o0) (f_opc o0) (f_argA o0) (f_argB o0) (f_argC o0) (f_argD o0) (f_tablePool o0) (f_maskPool o0) (f_maskTarget o0) (f_stLo o0) (f_stHi o0) (f_stParent o0) (f_stSlot o0) (f_cap o0) (f_targets o0) a0_36 (f_curDefault o0) a0_38 (f_snapCount o0) (f_snapDefault o0) (f_hasSnap o0) (f_clCount o0) (f_codeLen o0) (f_rootPc o0) (f_tableUsed o0) (f_maskUsed o0) (f_sp o0)
def J20_40 (o : Ob) (x1 : Int32) (x2 : Int32) (x3 : Int32) : Option (Int32 × Ob) :=
  (if (f_curCount o) < (f_cap o) then (loopN (B20_59 x1 x2 x3) qN ((f_curCount o), o)).bind fun e36 => (aset (f_curVal e36) x3 x1).bind fun y38 => (aset (f_curTgt e36) x3 ((x2.toInt8.toInt32).toInt8.toInt32)).bind fun y39 => some ((0 : Int32), (s_dirty (s_curCount (s_curTgt (s_curVal e36 y38) y39) ((f_curCount e36) + (1 : Int32))) (1 : Int32))) else some ((1 : Int32), o))
theorem tJ20_40 (Ad : QAd n0 ad) (W : QW Z a0) (s : List Int32) (o : Ob) (x1 : Int32) (x2 : Int32) (x3 : Int32) {r : Int32 × Ob} (h : J20_40 o x1 x2 x3 = some r) : QTri l Z n0 ad 20 (40, [vR 1, vI x1, vI x2, vI x3, none], [], (H0 s o)) (some (Value.int r.1)) (H0 s r.2) := by
 unfold J20_40 at h
 refine zS Ad W 4 (st' := (48, [vR 1, vI x1, vI x2, vI x3, none], [.int (f_cap o), .int (f_curCount o)], (H0 s o))) rfl ?_
 rcases qite h with ⟨hc29, h⟩ | ⟨hc29, h⟩
 ·refine zT Ad W (t := 53) (f := 51) rfl (XT.ii_lt_t hc29) ?_
  refine zS Ad W 3 (st' := (59, [vR 1, vI x1, vI x2, vI x3, vI (f_curCount o)], [], (H0 s o))) rfl ?_
  obtain ⟨e36, he36, h⟩ := bind_eq_some_iff.mp h
  refine zM [tt,tt,tt,tt,tt] (loopN_tri (B := B20_59 x1 x2 x3) (T := fun lv37 => QTri l Z n0 ad 20 (59, [vR 1, vI x1, vI x2, vI x3, vI lv37.1], [], (H0 s lv37.2)) (some (Value.int r.1)) (H0 s r.2)) (KE := fun e36a => QTri l Z n0 ad 20 (103, [vR 1, vI x1, vI x2, vI x3, none], [], (H0 s e36a)) (some (Value.int r.1)) (H0 s r.2)) (fun lv37 r hB hE hC => tB20_59 Ad W s x1 x2 x3 lv37 hB (fun x q => hE _ q) (fun x q => hC x q)) qN ((f_curCount o), o) e36 he36 ?_)
  refine zS Ad W 4 (st' := (109, [vR 1, vI x1, vI x2, vI x3, none], [.int x1, .int x3, .ref 2], (H0 s e36))) rfl ?_
  obtain ⟨y38, hy38, h⟩ := bind_eq_some_iff.mp h
  refine zB Ad W (f := fun y38 => (110, [vR 1, vI x1, vI x2, vI x3, none], [], (H0x15 s e36 y38))) rfl hy38 ?_
  refine zS Ad W 5 (st' := (117, [vR 1, vI x1, vI x2, vI x3, none], [.int (x2.toInt8.toInt32), .int x3, .ref 3], (H0x15 s e36 y38))) rfl ?_
  obtain ⟨y39, hy39, h⟩ := bind_eq_some_iff.mp h
  refine zB Ad W (f := fun y39 => (118, [vR 1, vI x1, vI x2, vI x3, none], [], (H0x16 s e36 y38 y39))) rfl hy39 ?_
  refine zS Ad W 6 (st' := (128, [vR 1, vI x1, vI x2, vI x3, none], [], (H0x17 s e36 y38 y39 ((f_curCount e36) + (1:Int32))))) rfl ?_
  refine zS Ad W 3 (st' := (133, [vR 1, vI x1, vI x2, vI x3, none], [], (H0x18 s e36 y38 y39 ((f_curCount e36) + (1:Int32)) (1:Int32)))) rfl ?_
  refine zS Ad W 1 (st' := (134, [vR 1, vI x1, vI x2, vI x3, none], [.int (0:Int32)], (H0x18 s e36 y38 y39 ((f_curCount e36) + (1:Int32)) (1:Int32)))) rfl ?_
  have E40 : ((H0x18 s e36 y38 y39 ((f_curCount e36) + (1:Int32)) (1:Int32)) : QHeap) = (H0 s (s_dirty (s_curCount (s_curTgt (s_curVal e36 y38) y39) ((f_curCount e36) + (1:Int32))) (1:Int32))) := by simp only [fs, H0, H0v, H0x18, s_curVal, s_curTgt, s_curCount, s_dirty]
  rw [E40]
  obtain rfl := Option.some.inj h
  exact QTri.retI rfl rfl
 ·refine zF Ad W (t := 53) (f := 51) rfl (XT.ii_lt_f hc29) ?_
  refine zS Ad W 1 (st' := (52, [vR 1, vI x1, vI x2, vI x3, none], [.int (1:Int32)], (H0 s o))) rfl ?_
  obtain rfl := Option.some.inj h
  exact QTri.retI rfl rfl
/-- addCase(II)I -/
def F20 (o : Ob) (x1 : Int32) (x2 : Int32) : Option (Int32 × Ob) :=
 (if x2 < (0:Int32) then some ((3:Int32), o) else (if x2 < (f_targets o) then (F19 o x1).bind fun r25 => (if r25 < (f_curCount o) then (aget (f_curVal o) r25).bind fun y27 => (if y27 = x1 then some ((2:Int32), o) else (J20_40 o x1 x2 r25)) else (J20_40 o x1 x2 r25)) else some ((3:Int32), o)))
theorem tF20 (Ad : QAd n0 ad) (W : QW Z a0) (s : List Int32) (o : Ob) (x1 : Int32) (x2 : Int32) {r : Int32 × Ob} (h : F20 o x1 x2 = some r) : QTri l Z n0 ad 20 (0, qentry [.ref 1, .int x1, .int x2] (pMaxL 20), [], (H0 s o)) (some (Value.int r.1)) (H0 s r.2) := by
 unfold F20 at h
 refine zS Ad W 1 (st' := (1, [vR 1, vI x1, vI x2, none, none], [.int x2], (H0 s o))) rfl ?_
 rcases qite h with ⟨hc14, h⟩ | ⟨hc14, h⟩
 ·refine zT Ad W (t := 12) (f := 4) rfl (XT.i0_lt_t hc14) ?_
  refine zS Ad W 1 (st' := (13, [vR 1, vI x1, vI x2, none, none], [.int (3:Int32)], (H0 s o))) rfl ?_
  obtain rfl := Option.some.inj h
  exact QTri.retI rfl rfl
 ·refine zF Ad W (t := 12) (f := 4) rfl (XT.i0_lt_f hc14) ?_
  refine zS Ad W 3 (st' := (9, [vR 1, vI x1, vI x2, none, none], [.int (f_targets o), .int x2], (H0 s o))) rfl ?_
  rcases qite h with ⟨hc15, h⟩ | ⟨hc15, h⟩
  ·refine zT Ad W (t := 14) (f := 12) rfl (XT.ii_lt_t hc15) ?_
   refine zS Ad W 2 (st' := (16, [vR 1, vI x1, vI x2, none, none], [.int x1, .ref 1], (H0 s o))) rfl ?_
   obtain ⟨r25, hr25, h⟩ := bind_eq_some_iff.mp h
   refine QTri.callP W (a := 1) (as := [.int x1]) (rest := []) (w := (some (.int r25))) (σ₁ := (H0 s o)) rfl rfl rfl rfl rfl rfl rfl rfl (tF19 Ad W s o x1 hr25) ?_
   refine zS Ad W 4 (st' := (25, [vR 1, vI x1, vI x2, vI r25, none], [.int (f_curCount o), .int r25], (H0 s o))) rfl ?_
   rcases qite h with ⟨hc26, h⟩ | ⟨hc26, h⟩
   ·refine zF Ad W (t := 40) (f := 28) rfl (XT.ii_ge_f hc26) ?_
    refine zS Ad W 3 (st' := (33, [vR 1, vI x1, vI x2, vI r25, none], [.int r25, .ref 2], (H0 s o))) rfl ?_
    obtain ⟨y27, hy27, h⟩ := bind_eq_some_iff.mp h
    refine zB Ad W (f := fun y27 => (34, [vR 1, vI x1, vI x2, vI r25, none], [.int y27], (H0 s o))) rfl hy27 ?_
    refine zS Ad W 1 (st' := (35, [vR 1, vI x1, vI x2, vI r25, none], [.int x1, .int y27], (H0 s o))) rfl ?_
    rcases qite h with ⟨hc28, h⟩ | ⟨hc28, h⟩
    ·refine zF Ad W (t := 40) (f := 38) rfl (XT.ii_ne_f hc28) ?_
     refine zS Ad W 1 (st' := (39, [vR 1, vI x1, vI x2, vI r25, none], [.int (2:Int32)], (H0 s o))) rfl ?_
     obtain rfl := Option.some.inj h
     exact QTri.retI rfl rfl
    ·refine zT Ad W (t := 40) (f := 38) rfl (XT.ii_ne_t hc28) ?_
     exact zM [tt,tt,tt,tt,ff] (tJ20_40 Ad W s o x1 x2 r25 h)
   ·refine zT Ad W (t := 40) (f := 28) rfl (XT.ii_ge_t hc26) ?_
    exact zM [tt,tt,tt,tt,ff] (tJ20_40 Ad W s o x1 x2 r25 h)
  ·refine zF Ad W (t := 14) (f := 12) rfl (XT.ii_lt_f hc15) ?_
   refine zS Ad W 1 (st' := (13, [vR 1, vI x1, vI x2, none, none], [.int (3:Int32)], (H0 s o))) rfl ?_
   obtain rfl := Option.some.inj h
   exact QTri.retI rfl rfl
/-- caseCount()I -/
def F11 (o : Ob) : Option (Int32) :=
 some (f_curCount o)
theorem tF11 (Ad : QAd n0 ad) (W : QW Z a0) (s : List Int32) (o : Ob) {r : Int32} (h : F11 o = some r) : QTri l Z n0 ad 11 (0, qentry [.ref 1] (pMaxL 11), [], (H0 s o)) (some (Value.int r)) (H0 s o) := by
 unfold F11 at h
 refine zS Ad W 2 (st' := (4, [vR 1], [.int (f_curCount o)], (H0 s o))) rfl ?_
 obtain rfl := Option.some.inj h
 exact QTri.retI rfl rfl
/-- defaultTarget()I -/
def F12 (o : Ob) : Option (Int32) :=
 some (f_curDefault o)
theorem tF12 (Ad : QAd n0 ad) (W : QW Z a0) (s : List Int32) (o : Ob) {r : Int32} (h : F12 o = some r) : QTri l Z n0 ad 12 (0, qentry [.ref 1] (pMaxL 12), [], (H0 s o)) (some (Value.int r)) (H0 s o) := by
 unfold F12 at h
 refine zS Ad W 2 (st' := (4, [vR 1], [.int (f_curDefault o)], (H0 s o))) rfl ?_
 obtain rfl := Option.some.inj h
 exact QTri.retI rfl rfl
/-- isCurrent()Z -/
def F13 (o : Ob) : Option (Int32) :=
 (if (f_hasSnap o) = (0:Int32) then some (0:Int32) else (if (f_dirty o) = (0:Int32) then some (1:Int32) else some (0:Int32)))
theorem tF13 (Ad : QAd n0 ad) (W : QW Z a0) (s : List Int32) (o : Ob) {r : Int32} (h : F13 o = some r) : QTri l Z n0 ad 13 (0, qentry [.ref 1] (pMaxL 13), [], (H0 s o)) (some (Value.int r)) (H0 s o) := by
 unfold F13 at h
 refine zS Ad W 2 (st' := (4, [vR 1], [.int (f_hasSnap o)], (H0 s o))) rfl ?_
 rcases qite h with ⟨hc48, h⟩ | ⟨hc48, h⟩
 ·refine zT Ad W (t := 18) (f := 7) rfl (XT.i0_eq_t hc48) ?_
  refine zS Ad W 1 (st' := (19, [vR 1], [.int (0:Int32)], (H0 s o))) rfl ?_
  obtain rfl := Option.some.inj h
  exact QTri.retZ rfl rfl
 ·refine zF Ad W (t := 18) (f := 7) rfl (XT.i0_eq_f hc48) ?_
  refine zS Ad W 2 (st' := (11, [vR 1], [.int (f_dirty o)], (H0 s o))) rfl ?_
  rcases qite h with ⟨hc49, h⟩ | ⟨hc49, h⟩
  ·refine zF Ad W (t := 18) (f := 14) rfl (XT.i0_ne_f hc49) ?_
   refine zS Ad W 2 (st' := (19, [vR 1], [.int (1:Int32)], (H0 s o))) rfl ?_
   obtain rfl := Option.some.inj h
   exact QTri.retZ rfl rfl
  ·refine zT Ad W (t := 18) (f := 14) rfl (XT.i0_ne_t hc49) ?_
   refine zS Ad W 1 (st' := (19, [vR 1], [.int (0:Int32)], (H0 s o))) rfl ?_
   obtain rfl := Option.some.inj h
   exact QTri.retZ rfl rfl
/-- caseValueAt(I)I -/
def F21 (o : Ob) (x1 : Int32) : Option (Int32) :=
 (if x1 < (0:Int32) then some (0:Int32) else (if x1 < (f_curCount o) then (aget (f_curVal o) x1).bind fun y56 => some y56 else some (0:Int32)))
theorem tF21 (Ad : QAd n0 ad) (W : QW Z a0) (s : List Int32) (o : Ob) (x1 : Int32) {r : Int32} (h : F21 o x1 = some r) : QTri l Z n0 ad 21 (0, qentry [.ref 1, .int x1] (pMaxL 21), [], (H0 s o)) (some (Value.int r)) (H0 s o) := by
 unfold F21 at h
 refine zS Ad W 1 (st' := (1, [vR 1, vI x1], [.int x1], (H0 s o))) rfl ?_
 rcases qite h with ⟨hc54, h⟩ | ⟨hc54, h⟩
 ·refine zT Ad W (t := 12) (f := 4) rfl (XT.i0_lt_t hc54) ?_
  refine zS Ad W 1 (st' := (13, [vR 1, vI x1], [.int (0:Int32)], (H0 s o))) rfl ?_
  obtain rfl := Option.some.inj h
  exact QTri.retI rfl rfl
 ·refine zF Ad W (t := 12) (f := 4) rfl (XT.i0_lt_f hc54) ?_
  refine zS Ad W 3 (st' := (9, [vR 1, vI x1], [.int (f_curCount o), .int x1], (H0 s o))) rfl ?_
  rcases qite h with ⟨hc55, h⟩ | ⟨hc55, h⟩
  ·refine zT Ad W (t := 14) (f := 12) rfl (XT.ii_lt_t hc55) ?_
   refine zS Ad W 3 (st' := (19, [vR 1, vI x1], [.int x1, .ref 2], (H0 s o))) rfl ?_
   obtain ⟨y56, hy56, h⟩ := bind_eq_some_iff.mp h
   refine zB Ad W (f := fun y56 => (20, [vR 1, vI x1], [.int y56], (H0 s o))) rfl hy56 ?_
   obtain rfl := Option.some.inj h
   exact QTri.retI rfl rfl
  ·refine zF Ad W (t := 14) (f := 12) rfl (XT.ii_lt_f hc55) ?_
   refine zS Ad W 1 (st' := (13, [vR 1, vI x1], [.int (0:Int32)], (H0 s o))) rfl ?_
   obtain rfl := Option.some.inj h
   exact QTri.retI rfl rfl
/-- caseTargetAt(I)I -/
def F14 (o : Ob) (x1 : Int32) : Option (Int32) :=
 (if x1 < (0:Int32) then some (-1:Int32) else (if x1 < (f_curCount o) then (aget (f_curTgt o) x1).bind fun y60 => some y60 else some (-1:Int32)))
theorem tF14 (Ad : QAd n0 ad) (W : QW Z a0) (s : List Int32) (o : Ob) (x1 : Int32) {r : Int32} (h : F14 o x1 = some r) : QTri l Z n0 ad 14 (0, qentry [.ref 1, .int x1] (pMaxL 14), [], (H0 s o)) (some (Value.int r)) (H0 s o) := by
 unfold F14 at h
 refine zS Ad W 1 (st' := (1, [vR 1, vI x1], [.int x1], (H0 s o))) rfl ?_
 rcases qite h with ⟨hc58, h⟩ | ⟨hc58, h⟩
 ·refine zT Ad W (t := 12) (f := 4) rfl (XT.i0_lt_t hc58) ?_
  refine zS Ad W 1 (st' := (13, [vR 1, vI x1], [.int (-1:Int32)], (H0 s o))) rfl ?_
  obtain rfl := Option.some.inj h
  exact QTri.retI rfl rfl
 ·refine zF Ad W (t := 12) (f := 4) rfl (XT.i0_lt_f hc58) ?_
  refine zS Ad W 3 (st' := (9, [vR 1, vI x1], [.int (f_curCount o), .int x1], (H0 s o))) rfl ?_
  rcases qite h with ⟨hc59, h⟩ | ⟨hc59, h⟩
  ·refine zT Ad W (t := 14) (f := 12) rfl (XT.ii_lt_t hc59) ?_
   refine zS Ad W 3 (st' := (19, [vR 1, vI x1], [.int x1, .ref 3], (H0 s o))) rfl ?_
   obtain ⟨y60, hy60, h⟩ := bind_eq_some_iff.mp h
   refine zB Ad W (f := fun y60 => (20, [vR 1, vI x1], [.int y60], (H0 s o))) rfl hy60 ?_
   obtain rfl := Option.some.inj h
   exact QTri.retI rfl rfl
  ·refine zF Ad W (t := 14) (f := 12) rfl (XT.ii_lt_f hc59) ?_
   refine zS Ad W 1 (st' := (13, [vR 1, vI x1], [.int (-1:Int32)], (H0 s o))) rfl ?_
   obtain rfl := Option.some.inj h
   exact QTri.retI rfl rfl
/-- curIndexOf(I)I -/
def F18 (o : Ob) (x1 : Int32) : Option (Int32) :=
 (F19 o x1).bind fun r66 => (if r66 < (f_curCount o) then (aget (f_curVal o) r66).bind fun y68 => (if y68 = x1 then some r66 else some (-1:Int32)) else some (-1:Int32))
theorem tF18 (Ad : QAd n0 ad) (W : QW Z a0) (s : List Int32) (o : Ob) (x1 : Int32) {r : Int32} (h : F18 o x1 = some r) : QTri l Z n0 ad 18 (0, qentry [.ref 1, .int x1] (pMaxL 18), [], (H0 s o)) (some (Value.int r)) (H0 s o) := by
 unfold F18 at h
 refine zS Ad W 2 (st' := (2, [vR 1, vI x1, none], [.int x1, .ref 1], (H0 s o))) rfl ?_
 obtain ⟨r66, hr66, h⟩ := bind_eq_some_iff.mp h
 refine QTri.callP W (a := 1) (as := [.int x1]) (rest := []) (w := (some (.int r66))) (σ₁ := (H0 s o)) rfl rfl rfl rfl rfl rfl rfl rfl (tF19 Ad W s o x1 hr66) ?_
 refine zS Ad W 4 (st' := (11, [vR 1, vI x1, vI r66], [.int (f_curCount o), .int r66], (H0 s o))) rfl ?_
 rcases qite h with ⟨hc67, h⟩ | ⟨hc67, h⟩
 ·refine zF Ad W (t := 26) (f := 14) rfl (XT.ii_ge_f hc67) ?_
  refine zS Ad W 3 (st' := (19, [vR 1, vI x1, vI r66], [.int r66, .ref 2], (H0 s o))) rfl ?_
  obtain ⟨y68, hy68, h⟩ := bind_eq_some_iff.mp h
  refine zB Ad W (f := fun y68 => (20, [vR 1, vI x1, vI r66], [.int y68], (H0 s o))) rfl hy68 ?_
  refine zS Ad W 1 (st' := (21, [vR 1, vI x1, vI r66], [.int x1, .int y68], (H0 s o))) rfl ?_
  rcases qite h with ⟨hc69, h⟩ | ⟨hc69, h⟩
  ·refine zF Ad W (t := 26) (f := 24) rfl (XT.ii_ne_f hc69) ?_
   refine zS Ad W 1 (st' := (25, [vR 1, vI x1, vI r66], [.int r66], (H0 s o))) rfl ?_
   obtain rfl := Option.some.inj h
   exact QTri.retI rfl rfl
  ·refine zT Ad W (t := 26) (f := 24) rfl (XT.ii_ne_t hc69) ?_
   refine zS Ad W 1 (st' := (27, [vR 1, vI x1, vI r66], [.int (-1:Int32)], (H0 s o))) rfl ?_
   obtain rfl := Option.some.inj h
   exact QTri.retI rfl rfl
 ·refine zT Ad W (t := 26) (f := 14) rfl (XT.ii_ge_t hc67) ?_
  refine zS Ad W 1 (st' := (27, [vR 1, vI x1, vI r66], [.int (-1:Int32)], (H0 s o))) rfl ?_
  obtain rfl := Option.some.inj h
  exact QTri.retI rfl rfl
/-- lookup(I)I -/
def F17 (o : Ob) (x1 : Int32) : Option (Int32) :=
 (F18 o x1).bind fun r70 => (if r70 < (0:Int32) then some (f_curDefault o) else (aget (f_curTgt o) r70).bind fun y72 => some y72)
theorem tF17 (Ad : QAd n0 ad) (W : QW Z a0) (s : List Int32) (o : Ob) (x1 : Int32) {r : Int32} (h : F17 o x1 = some r) : QTri l Z n0 ad 17 (0, qentry [.ref 1, .int x1] (pMaxL 17), [], (H0 s o)) (some (Value.int r)) (H0 s o) := by
 unfold F17 at h
 refine zS Ad W 2 (st' := (2, [vR 1, vI x1, none], [.int x1, .ref 1], (H0 s o))) rfl ?_
 obtain ⟨r70, hr70, h⟩ := bind_eq_some_iff.mp h
 refine QTri.callP W (a := 1) (as := [.int x1]) (rest := []) (w := (some (.int r70))) (σ₁ := (H0 s o)) rfl rfl rfl rfl rfl rfl rfl rfl (tF18 Ad W s o x1 hr70) ?_
 refine zS Ad W 2 (st' := (7, [vR 1, vI x1, vI r70], [.int r70], (H0 s o))) rfl ?_
 rcases qite h with ⟨hc71, h⟩ | ⟨hc71, h⟩
 ·refine zF Ad W (t := 15) (f := 10) rfl (XT.i0_ge_f hc71) ?_
  refine zS Ad W 2 (st' := (14, [vR 1, vI x1, vI r70], [.int (f_curDefault o)], (H0 s o))) rfl ?_
  obtain rfl := Option.some.inj h
  exact QTri.retI rfl rfl
 ·refine zT Ad W (t := 15) (f := 10) rfl (XT.i0_ge_t hc71) ?_
  refine zS Ad W 3 (st' := (20, [vR 1, vI x1, vI r70], [.int r70, .ref 3], (H0 s o))) rfl ?_
  obtain ⟨y72, hy72, h⟩ := bind_eq_some_iff.mp h
  refine zB Ad W (f := fun y72 => (21, [vR 1, vI x1, vI r70], [.int y72], (H0 s o))) rfl hy72 ?_
  obtain rfl := Option.some.inj h
  exact QTri.retI rfl rfl
def J10_157 (o : Ob) (x1 : Int32) (x2 : Int32) (x3 : Int32) (x5 : Int32) (x7 : Int32) (x8 : Int32) : Option (((Unit) ⊕ (Unit) ⊕ (Int32)) ⊕ (Int32 × Int32)) :=
  some (.inr (x8, (x7 + (1 : Int32))))
theorem tJ10_157 (Ad : QAd n0 ad) (W : QW Z a0) (s : List Int32) (o : Ob) (x1 : Int32) (x2 : Int32) (x3 : Int32) (x5 : Int32) (x7 : Int32) (x8 : Int32) {r : ((Unit) ⊕ (Unit) ⊕ (Int32)) ⊕ (Int32 × Int32)} {u : Option Value} {τ : QHeap} (h : J10_157 o x1 x2 x3 x5 x7 x8 = some r) (hx0 : ∀ x : Unit, r = .inl (Sum.inl x) → QTri l Z n0 ad 10 (72, [vR 1, vI x1, vI x2, vI x3, none, vI x5, none, none, none, none, none, none], [], (H0 s o)) u τ) (hx1 : ∀ x : Unit, r = .inl (Sum.inr (Sum.inl x)) → QTri l Z n0 ad 10 (167, [vR 1, vI x1, vI x2, vI x3, none, vI x5, none, none, none, none, none, none], [], (H0 s o)) u τ) (hx2 : ∀ x : Int32, r = .inl (Sum.inr (Sum.inr x)) → u = (some (Value.int x)) ∧ τ = (H0 s o)) (hc : ∀ x : Int32 × Int32, r = .inr x → QTri l Z n0 ad 10 (59, [vR 1, vI x1, vI x2, vI x3, none, vI x5, vI x.1, vI x.2, none, none, none, none], [], (H0 s o)) u τ) : QTri l Z n0 ad 10 (157, [vR 1, vI x1, vI x2, vI x3, none, vI x5, none, vI x7, vI x8, none, none, none], [], (H0 s o)) u τ := by
 unfold J10_157 at h
 refine zS Ad W 3 (st' := (164, [vR 1, vI x1, vI x2, vI x3, none, vI x5, vI x8, vI (x7 + (1:Int32)), vI x8, none, none, none], [], (H0 s o))) rfl ?_
 refine zS Ad W 1 (st' := (59, [vR 1, vI x1, vI x2, vI x3, none, vI x5, vI x8, vI (x7 + (1:Int32)), vI x8, none, none, none], [], (H0 s o))) rfl ?_
 obtain rfl := Option.some.inj h
 exact zM [tt,tt,tt,tt,ff,tt,tt,tt,ff,ff,ff,ff] (hc (x8, (x7 + (1:Int32))) rfl)
def J16_25 (o : Ob) : Option (((Int32)) ⊕ (Int32 × Int32)) :=
  some (.inl (f_snapDefault o))
theorem tJ16_25 (Ad : QAd n0 ad) (W : QW Z a0) (s : List Int32) (x1 : Int32) (o : Ob) {r : ((Int32)) ⊕ (Int32 × Int32)} {u : Option Value} {τ : QHeap} (h : J16_25 o = some r) (hx0 : ∀ x : Int32, r = .inl x → u = (some (Value.int x)) ∧ τ = (H0 s o)) (hc : ∀ x : Int32 × Int32, r = .inr x → QTri l Z n0 ad 16 (7, [vR 1, vI x1, vI x.1, vI x.2, none, none], [], (H0 s o)) u τ) : QTri l Z n0 ad 16 (25, [vR 1, none, none, none, none, none], [], (H0 s o)) u τ := by
 unfold J16_25 at h
 refine zS Ad W 2 (st' := (29, [vR 1, none, none, none, none, none], [.int (f_snapDefault o)], (H0 s o))) rfl ?_
 obtain rfl := Option.some.inj h
 obtain ⟨rfl, rfl⟩ := hx0 (f_snapDefault o) rfl
 exact QTri.retI rfl rfl
def J16_103 (o : Ob) (x1 : Int32) (x2 : Int32) (x3 : Int32) : Option (((Int32)) ⊕ (Int32 × Int32)) :=
  some (.inr (x2, (x3 + (1 : Int32))))
theorem tJ16_103 (Ad : QAd n0 ad) (W : QW Z a0) (s : List Int32) (o : Ob) (x1 : Int32) (x2 : Int32) (x3 : Int32) {r : ((Int32)) ⊕ (Int32 × Int32)} {u : Option Value} {τ : QHeap} (h : J16_103 o x1 x2 x3 = some r) (hx0 : ∀ x : Int32, r = .inl x → u = (some (Value.int x)) ∧ τ = (H0 s o)) (hc : ∀ x : Int32 × Int32, r = .inr x → QTri l Z n0 ad 16 (7, [vR 1, vI x1, vI x.1, vI x.2, none, none], [], (H0 s o)) u τ) : QTri l Z n0 ad 16 (103, [vR 1, vI x1, vI x2, vI x3, none, none], [], (H0 s o)) u τ := by
 unfold J16_103 at h
 refine zS Ad W 2 (st' := (7, [vR 1, vI x1, vI x2, vI (x3 + (1:Int32)), none, none], [], (H0 s o))) rfl ?_
 obtain rfl := Option.some.inj h
 exact zM [tt,tt,tt,tt,ff,ff] (hc (x2, (x3 + (1:Int32))) rfl)
def J16_81 (o : Ob) (x1 : Int32) (x3 : Int32) (w0 : Int32) : Option (((Int32)) ⊕ (Int32 × Int32)) :=
  (J16_103 o x1 w0 x3)
theorem tJ16_81 (Ad : QAd n0 ad) (W : QW Z a0) (s : List Int32) (o : Ob) (x1 : Int32) (x3 : Int32) (w0 : Int32) {r : ((Int32)) ⊕ (Int32 × Int32)} {u : Option Value} {τ : QHeap} (h : J16_81 o x1 x3 w0 = some r) (hx0 : ∀ x : Int32, r = .inl x → u = (some (Value.int x)) ∧ τ = (H0 s o)) (hc : ∀ x : Int32 × Int32, r = .inr x → QTri l Z n0 ad 16 (7, [vR 1, vI x1, vI x.1, vI x.2, none, none], [], (H0 s o)) u τ) : QTri l Z n0 ad 16 (81, [vR 1, vI x1, none, vI x3, none, none], [.int w0], (H0 s o)) u τ := by
 unfold J16_81 at h
 refine zS Ad W 2 (st' := (103, [vR 1, vI x1, vI w0, vI x3, none, none], [], (H0 s o))) rfl ?_
 exact zM [tt,tt,tt,tt,ff,ff] (tJ16_103 Ad W s o x1 w0 x3 h hx0 hc)
/-- unsignedOffset(II)J -/
def F32 (x1 : Int32) (x2 : Int32) : Option (Int64) :=
 some (((x1 - x2).toInt64) &&& (4294967295 : Int64))
theorem tF32 (Ad : QAd n0 ad) (W : QW Z a0) {a : Nat} {σ : QHeap} (x1 : Int32) (x2 : Int32) {r : Int64} (h : F32 x1 x2 = some r) : QTri l Z n0 ad 32 (0, qentry [.ref a, .int x1, .int x2] (pMaxL 32), [], σ) (some (Value.long r)) σ := by
 unfold F32 at h
 refine zS Ad W 6 (st' := (8, [vR a, vI x1, vI x2], [.long (((x1 - x2).toInt64) &&& (4294967295 : Int64))], σ)) rfl ?_
 obtain rfl := Option.some.inj h
 exact QTri.retJ rfl rfl
def B31_57 (o : Ob) (x5 : Int32) (x6 : Int32) (x7 : Int32) (v : Int32) : Option (((Int32)) ⊕ (Int32)) :=
  (if v < x7 then (if v < (3 : Int32) then (if (x6 + v) < (0 : Int32) then some (.inl (-1 : Int32)) else (if (x6 + v) < ((f_maskPool o).length.toInt32) then (aget (f_maskPool o) (x6 + v)).bind fun y106 => (if ((XT.ushrL y106 x5) &&& (1 : Int64)) = (0 : Int64) then some (.inr (v + (1 : Int32))) else (aget (f_maskTarget o) (x6 + v)).bind fun y108 => some (.inl y108)) else some (.inl (-1 : Int32)))) else some (.inl (-1 : Int32))) else some (.inl (-1 : Int32)))
theorem tB31_57 (Ad : QAd n0 ad) (W : QW Z a0) (s : List Int32) (o : Ob) (x5 : Int32) (x6 : Int32) (x7 : Int32) (v : Int32) {r : ((Int32)) ⊕ (Int32)} {u : Option Value} {τ : QHeap} (h : B31_57 o x5 x6 x7 v = some r) (hx0 : ∀ x : Int32, r = .inl x → u = (some (Value.int x)) ∧ τ = (H0 s o)) (hc : ∀ x : Int32, r = .inr x → QTri l Z n0 ad 31 (57, [vR 1, none, none, none, none, vI x5, vI x6, vI x7, vI x, none], [], (H0 s o)) u τ) : QTri l Z n0 ad 31 (57, [vR 1, none, none, none, none, vI x5, vI x6, vI x7, vI v, none], [], (H0 s o)) u τ := by
 unfold B31_57 at h
 refine zS Ad W 2 (st' := (61, [vR 1, none, none, none, none, vI x5, vI x6, vI x7, vI v, none], [.int x7, .int v], (H0 s o))) rfl ?_
 rcases qite h with ⟨hc102, h⟩ | ⟨hc102, h⟩
 ·refine zF Ad W (t := 125) (f := 64) rfl (XT.ii_ge_f hc102) ?_
  refine zS Ad W 2 (st' := (67, [vR 1, none, none, none, none, vI x5, vI x6, vI x7, vI v, none], [.int (3:Int32), .int v], (H0 s o))) rfl ?_
  rcases qite h with ⟨hc103, h⟩ | ⟨hc103, h⟩
  ·refine zF Ad W (t := 125) (f := 70) rfl (XT.ii_ge_f hc103) ?_
   refine zS Ad W 5 (st' := (79, [vR 1, none, none, none, none, vI x5, vI x6, vI x7, vI v, vI (x6 + v)], [.int (x6 + v)], (H0 s o))) rfl ?_
   rcases qite h with ⟨hc104, h⟩ | ⟨hc104, h⟩
   ·refine zT Ad W (t := 92) (f := 82) rfl (XT.i0_lt_t hc104) ?_
    refine zS Ad W 1 (st' := (93, [vR 1, none, none, none, none, vI x5, vI x6, vI x7, vI v, vI (x6 + v)], [.int (-1:Int32)], (H0 s o))) rfl ?_
    obtain rfl := Option.some.inj h
    obtain ⟨rfl, rfl⟩ := hx0 (-1:Int32) rfl
    exact QTri.retI rfl rfl
   ·refine zF Ad W (t := 92) (f := 82) rfl (XT.i0_lt_f hc104) ?_
    refine zS Ad W 4 (st' := (89, [vR 1, none, none, none, none, vI x5, vI x6, vI x7, vI v, vI (x6 + v)], [.int ((f_maskPool o).length.toInt32), .int (x6 + v)], (H0 s o))) rfl ?_
    rcases qite h with ⟨hc105, h⟩ | ⟨hc105, h⟩
    ·refine zT Ad W (t := 94) (f := 92) rfl (XT.ii_lt_t hc105) ?_
     refine zS Ad W 3 (st' := (100, [vR 1, none, none, none, none, vI x5, vI x6, vI x7, vI v, vI (x6 + v)], [.int (x6 + v), .ref 16], (H0 s o))) rfl ?_
     obtain ⟨y106, hy106, h⟩ := bind_eq_some_iff.mp h
     refine zB Ad W (f := fun y106 => (101, [vR 1, none, none, none, none, vI x5, vI x6, vI x7, vI v, vI (x6 + v)], [.long y106], (H0 s o))) rfl hy106 ?_
     refine zS Ad W 6 (st' := (108, [vR 1, none, none, none, none, vI x5, vI x6, vI x7, vI v, vI (x6 + v)], [.int (XT.cmpL ((XT.ushrL y106 x5) &&& (1 : Int64)) (0 : Int64))], (H0 s o))) rfl ?_
     rcases qite h with ⟨hc107, h⟩ | ⟨hc107, h⟩
     ·refine zT Ad W (t := 119) (f := 111) rfl (XT.ll_eq_t hc107) ?_
      refine zS Ad W 2 (st' := (57, [vR 1, none, none, none, none, vI x5, vI x6, vI x7, vI (v + (1:Int32)), vI (x6 + v)], [], (H0 s o))) rfl ?_
      obtain rfl := Option.some.inj h
      exact zM [tt,ff,ff,ff,ff,tt,tt,tt,tt,ff] (hc (v + (1:Int32)) rfl)
     ·refine zF Ad W (t := 119) (f := 111) rfl (XT.ll_eq_f hc107) ?_
      refine zS Ad W 3 (st' := (117, [vR 1, none, none, none, none, vI x5, vI x6, vI x7, vI v, vI (x6 + v)], [.int (x6 + v), .ref 17], (H0 s o))) rfl ?_
      obtain ⟨y108, hy108, h⟩ := bind_eq_some_iff.mp h
      refine zB Ad W (f := fun y108 => (118, [vR 1, none, none, none, none, vI x5, vI x6, vI x7, vI v, vI (x6 + v)], [.int y108], (H0 s o))) rfl hy108 ?_
      obtain rfl := Option.some.inj h
      obtain ⟨rfl, rfl⟩ := hx0 y108 rfl
      exact QTri.retI rfl rfl
    ·refine zF Ad W (t := 94) (f := 92) rfl (XT.ii_lt_f hc105) ?_
     refine zS Ad W 1 (st' := (93, [vR 1, none, none, none, none, vI x5, vI x6, vI x7, vI v, vI (x6 + v)], [.int (-1:Int32)], (H0 s o))) rfl ?_
     obtain rfl := Option.some.inj h
     obtain ⟨rfl, rfl⟩ := hx0 (-1:Int32) rfl
     exact QTri.retI rfl rfl
  ·refine zT Ad W (t := 125) (f := 70) rfl (XT.ii_ge_t hc103) ?_
   refine zS Ad W 1 (st' := (126, [vR 1, none, none, none, none, vI x5, vI x6, vI x7, vI v, none], [.int (-1:Int32)], (H0 s o))) rfl ?_
   obtain rfl := Option.some.inj h
   obtain ⟨rfl, rfl⟩ := hx0 (-1:Int32) rfl
   exact QTri.retI rfl rfl
 ·refine zT Ad W (t := 125) (f := 64) rfl (XT.ii_ge_t hc102) ?_
  refine zS Ad W 1 (st' := (126, [vR 1, none, none, none, none, vI x5, vI x6, vI x7, vI v, none], [.int (-1:Int32)], (H0 s o))) rfl ?_
  obtain rfl := Option.some.inj h
  obtain ⟨rfl, rfl⟩ := hx0 (-1:Int32) rfl
  exact QTri.retI rfl rfl
/-- runBits(II)I -/
def F31 (o : Ob) (x1 : Int32) (x2 : Int32) : Option (Int32) :=
 (aget (f_argA o) x1).bind fun y95 => (F32 x2 y95).bind fun r96 => (aget (f_argD o) x1).bind fun y97 => (if r96 < (y97.toInt64) then (if r96 < (64 : Int64) then (aget (f_argB o) x1).bind fun y100 => (aget (f_argC o) x1).bind fun y101 => (loopN (B31_57 o (r96.toInt32) y100 y101) qN (0:Int32)).bind fun e109 => some e109 else some (-1:Int32)) else some (-1:Int32))
theorem tF31 (Ad : QAd n0 ad) (W : QW Z a0) (s : List Int32) (o : Ob) (x1 : Int32) (x2 : Int32) {r : Int32} (h : F31 o x1 x2 = some r) : QTri l Z n0 ad 31 (0, qentry [.ref 1, .int x1, .int x2] (pMaxL 31), [], (H0 s o)) (some (Value.int r)) (H0 s o) := by
 unfold F31 at h
 refine zS Ad W 5 (st' := (7, [vR 1, vI x1, vI x2, none, none, none, none, none, none, none], [.int x1, .ref 11, .int x2, .ref 1], (H0 s o))) rfl ?_
 obtain ⟨y95, hy95, h⟩ := bind_eq_some_iff.mp h
 refine zB Ad W (f := fun y95 => (8, [vR 1, vI x1, vI x2, none, none, none, none, none, none, none], [.int y95, .int x2, .ref 1], (H0 s o))) rfl hy95 ?_
 obtain ⟨r96, hr96, h⟩ := bind_eq_some_iff.mp h
 refine QTri.callP W (a := 1) (as := [.int x2, .int y95]) (rest := []) (w := (some (.long r96))) (σ₁ := (H0 s o)) rfl rfl rfl rfl rfl rfl rfl rfl (tF32 Ad W x2 y95 hr96) ?_
 refine zS Ad W 5 (st' := (18, [vR 1, vI x1, vI x2, vL r96, none, none, none, none, none, none], [.int x1, .ref 14, .long r96], (H0 s o))) rfl ?_
 obtain ⟨y97, hy97, h⟩ := bind_eq_some_iff.mp h
 refine zB Ad W (f := fun y97 => (19, [vR 1, vI x1, vI x2, vL r96, none, none, none, none, none, none], [.int y97, .long r96], (H0 s o))) rfl hy97 ?_
 refine zS Ad W 2 (st' := (21, [vR 1, vI x1, vI x2, vL r96, none, none, none, none, none, none], [.int (XT.cmpL r96 (y97.toInt64))], (H0 s o))) rfl ?_
 rcases qite h with ⟨hc98, h⟩ | ⟨hc98, h⟩
 ·refine zF Ad W (t := 32) (f := 24) rfl (XT.ll_ge_f hc98) ?_
  refine zS Ad W 3 (st' := (29, [vR 1, vI x1, vI x2, vL r96, none, none, none, none, none, none], [.int (XT.cmpL r96 (64 : Int64))], (H0 s o))) rfl ?_
  rcases qite h with ⟨hc99, h⟩ | ⟨hc99, h⟩
  ·refine zT Ad W (t := 34) (f := 32) rfl (XT.ll_lt_t hc99) ?_
   refine zS Ad W 6 (st' := (43, [vR 1, vI x1, vI x2, vL r96, none, vI (r96.toInt32), none, none, none, none], [.int x1, .ref 12], (H0 s o))) rfl ?_
   obtain ⟨y100, hy100, h⟩ := bind_eq_some_iff.mp h
   refine zB Ad W (f := fun y100 => (44, [vR 1, vI x1, vI x2, vL r96, none, vI (r96.toInt32), none, none, none, none], [.int y100], (H0 s o))) rfl hy100 ?_
   refine zS Ad W 4 (st' := (51, [vR 1, vI x1, vI x2, vL r96, none, vI (r96.toInt32), vI y100, none, none, none], [.int x1, .ref 13], (H0 s o))) rfl ?_
   obtain ⟨y101, hy101, h⟩ := bind_eq_some_iff.mp h
   refine zB Ad W (f := fun y101 => (52, [vR 1, vI x1, vI x2, vL r96, none, vI (r96.toInt32), vI y100, none, none, none], [.int y101], (H0 s o))) rfl hy101 ?_
   refine zS Ad W 3 (st' := (57, [vR 1, vI x1, vI x2, vL r96, none, vI (r96.toInt32), vI y100, vI y101, vI (0:Int32), none], [], (H0 s o))) rfl ?_
   obtain ⟨e109, he109, h⟩ := bind_eq_some_iff.mp h
   refine zM [tt,ff,ff,ff,ff,tt,tt,tt,tt,ff] (loopN_tri (B := B31_57 o (r96.toInt32) y100 y101) (T := fun lv110 => QTri l Z n0 ad 31 (57, [vR 1, none, none, none, none, vI (r96.toInt32), vI y100, vI y101, vI lv110, none], [], (H0 s o)) (some (Value.int r)) (H0 s o)) (KE := fun e109a => (some (Value.int r)) = (some (Value.int e109a)) ∧ (H0 s o) = (H0 s o)) (fun lv110 r hB hE hC => tB31_57 Ad W s o (r96.toInt32) y100 y101 lv110 hB (fun x q => hE _ q) (fun x q => hC x q)) qN (0:Int32) e109 he109 ?_)
   obtain rfl := Option.some.inj h
   exact ⟨rfl, rfl⟩
  ·refine zF Ad W (t := 34) (f := 32) rfl (XT.ll_lt_f hc99) ?_
   refine zS Ad W 1 (st' := (33, [vR 1, vI x1, vI x2, vL r96, none, none, none, none, none, none], [.int (-1:Int32)], (H0 s o))) rfl ?_
   obtain rfl := Option.some.inj h
   exact QTri.retI rfl rfl
 ·refine zT Ad W (t := 32) (f := 24) rfl (XT.ll_ge_t hc98) ?_
  refine zS Ad W 1 (st' := (33, [vR 1, vI x1, vI x2, vL r96, none, none, none, none, none, none], [.int (-1:Int32)], (H0 s o))) rfl ?_
  obtain rfl := Option.some.inj h
  exact QTri.retI rfl rfl
/-- runLeaf(II)I -/
def F30 (o : Ob) (x1 : Int32) (x2 : Int32) : Option (Int32) :=
 (aget (f_opc o) x1).bind fun y88 => (if y88 = (2:Int32) then (aget (f_argA o) x1).bind fun y90 => (if x2 = y90 then (aget (f_argB o) x1).bind fun y92 => some y92 else some (-1:Int32)) else (if y88 = (3:Int32) then none else (if y88 = (4:Int32) then (F31 o x1 x2).bind fun r111 => some r111 else some (-1:Int32))))
theorem tF30 (Ad : QAd n0 ad) (W : QW Z a0) (s : List Int32) (o : Ob) (x1 : Int32) (x2 : Int32) {r : Int32} (h : F30 o x1 x2 = some r) : QTri l Z n0 ad 30 (0, qentry [.ref 1, .int x1, .int x2] (pMaxL 30), [], (H0 s o)) (some (Value.int r)) (H0 s o) := by
 unfold F30 at h
 refine zS Ad W 3 (st' := (5, [vR 1, vI x1, vI x2, none], [.int x1, .ref 10], (H0 s o))) rfl ?_
 obtain ⟨y88, hy88, h⟩ := bind_eq_some_iff.mp h
 refine zB Ad W (f := fun y88 => (6, [vR 1, vI x1, vI x2, none], [.int y88], (H0 s o))) rfl hy88 ?_
 refine zS Ad W 3 (st' := (9, [vR 1, vI x1, vI x2, vI y88], [.int (2:Int32), .int y88], (H0 s o))) rfl ?_
 rcases qite h with ⟨hc89, h⟩ | ⟨hc89, h⟩
 ·refine zF Ad W (t := 31) (f := 12) rfl (XT.ii_ne_f hc89) ?_
  refine zS Ad W 4 (st' := (18, [vR 1, vI x1, vI x2, vI y88], [.int x1, .ref 11, .int x2], (H0 s o))) rfl ?_
  obtain ⟨y90, hy90, h⟩ := bind_eq_some_iff.mp h
  refine zB Ad W (f := fun y90 => (19, [vR 1, vI x1, vI x2, vI y88], [.int y90, .int x2], (H0 s o))) rfl hy90 ?_
  rcases qite h with ⟨hc91, h⟩ | ⟨hc91, h⟩
  ·refine zF Ad W (t := 29) (f := 22) rfl (XT.ii_ne_f hc91) ?_
   refine zS Ad W 3 (st' := (27, [vR 1, vI x1, vI x2, vI y88], [.int x1, .ref 12], (H0 s o))) rfl ?_
   obtain ⟨y92, hy92, h⟩ := bind_eq_some_iff.mp h
   refine zB Ad W (f := fun y92 => (28, [vR 1, vI x1, vI x2, vI y88], [.int y92], (H0 s o))) rfl hy92 ?_
   obtain rfl := Option.some.inj h
   exact QTri.retI rfl rfl
  ·refine zT Ad W (t := 29) (f := 22) rfl (XT.ii_ne_t hc91) ?_
   refine zS Ad W 1 (st' := (30, [vR 1, vI x1, vI x2, vI y88], [.int (-1:Int32)], (H0 s o))) rfl ?_
   obtain rfl := Option.some.inj h
   exact QTri.retI rfl rfl
 ·refine zT Ad W (t := 31) (f := 12) rfl (XT.ii_ne_t hc89) ?_
  refine zS Ad W 2 (st' := (33, [vR 1, vI x1, vI x2, vI y88], [.int (3:Int32), .int y88], (H0 s o))) rfl ?_
  rcases qite h with ⟨hc93, h⟩ | ⟨hc93, h⟩
  ·refine zF Ad W (t := 43) (f := 36) rfl (XT.ii_ne_f hc93) ?_
   cases h
  ·refine zT Ad W (t := 43) (f := 36) rfl (XT.ii_ne_t hc93) ?_
   refine zS Ad W 2 (st' := (45, [vR 1, vI x1, vI x2, vI y88], [.int (4:Int32), .int y88], (H0 s o))) rfl ?_
   rcases qite h with ⟨hc94, h⟩ | ⟨hc94, h⟩
   ·refine zF Ad W (t := 55) (f := 48) rfl (XT.ii_ne_f hc94) ?_
    refine zS Ad W 3 (st' := (51, [vR 1, vI x1, vI x2, vI y88], [.int x2, .int x1, .ref 1], (H0 s o))) rfl ?_
    obtain ⟨r111, hr111, h⟩ := bind_eq_some_iff.mp h
    refine QTri.callP W (a := 1) (as := [.int x1, .int x2]) (rest := []) (w := (some (.int r111))) (σ₁ := (H0 s o)) rfl rfl rfl rfl rfl rfl rfl rfl (tF31 Ad W s o x1 x2 hr111) ?_
    obtain rfl := Option.some.inj h
    exact QTri.retI rfl rfl
   ·refine zT Ad W (t := 55) (f := 48) rfl (XT.ii_ne_t hc94) ?_
    refine zS Ad W 1 (st' := (56, [vR 1, vI x1, vI x2, vI y88], [.int (-1:Int32)], (H0 s o))) rfl ?_
    obtain rfl := Option.some.inj h
    exact QTri.retI rfl rfl
def B16_7 (o : Ob) (x1 : Int32) (v : Int32 × Int32) : Option (((Int32)) ⊕ (Int32 × Int32)) :=
  (if v.2 < (64 : Int32) then (if v.1 < (0 : Int32) then (J16_25 o) else (if v.1 < (f_codeLen o) then (aget (f_opc o) v.1).bind fun y80 => (if y80 = (0 : Int32) then (aget (f_argA o) v.1).bind fun y82 => some (.inl y82) else (if y80 = (1 : Int32) then (aget (f_argA o) v.1).bind fun y84 => (if x1 < y84 then (aget (f_argB o) v.1).bind fun y86 => (J16_81 o x1 v.2 y86) else (aget (f_argC o) v.1).bind fun y87 => (J16_81 o x1 v.2 y87)) else (F30 o v.1 x1).bind fun r112 => (if r112 < (0 : Int32) then (J16_103 o x1 (0 : Int32) v.2) else some (.inl r112)))) else (J16_25 o))) else some (.inl (f_snapDefault o)))
theorem tB16_7 (Ad : QAd n0 ad) (W : QW Z a0) (s : List Int32) (o : Ob) (x1 : Int32) (v : Int32 × Int32) {r : ((Int32)) ⊕ (Int32 × Int32)} {u : Option Value} {τ : QHeap} (h : B16_7 o x1 v = some r) (hx0 : ∀ x : Int32, r = .inl x → u = (some (Value.int x)) ∧ τ = (H0 s o)) (hc : ∀ x : Int32 × Int32, r = .inr x → QTri l Z n0 ad 16 (7, [vR 1, vI x1, vI x.1, vI x.2, none, none], [], (H0 s o)) u τ) : QTri l Z n0 ad 16 (7, [vR 1, vI x1, vI v.1, vI v.2, none, none], [], (H0 s o)) u τ := by
 unfold B16_7 at h
 refine zS Ad W 2 (st' := (10, [vR 1, vI x1, vI v.1, vI v.2, none, none], [.int (64:Int32), .int v.2], (H0 s o))) rfl ?_
 rcases qite h with ⟨hc77, h⟩ | ⟨hc77, h⟩
 ·refine zF Ad W (t := 109) (f := 13) rfl (XT.ii_ge_f hc77) ?_
  refine zS Ad W 1 (st' := (14, [vR 1, vI x1, vI v.1, vI v.2, none, none], [.int v.1], (H0 s o))) rfl ?_
  rcases qite h with ⟨hc78, h⟩ | ⟨hc78, h⟩
  ·refine zT Ad W (t := 25) (f := 17) rfl (XT.i0_lt_t hc78) ?_
   exact zM [tt,ff,ff,ff,ff,ff] (tJ16_25 Ad W s x1 o h hx0 hc)
  ·refine zF Ad W (t := 25) (f := 17) rfl (XT.i0_lt_f hc78) ?_
   refine zS Ad W 3 (st' := (22, [vR 1, vI x1, vI v.1, vI v.2, none, none], [.int (f_codeLen o), .int v.1], (H0 s o))) rfl ?_
   rcases qite h with ⟨hc79, h⟩ | ⟨hc79, h⟩
   ·refine zT Ad W (t := 30) (f := 25) rfl (XT.ii_lt_t hc79) ?_
    refine zS Ad W 3 (st' := (35, [vR 1, vI x1, vI v.1, vI v.2, none, none], [.int v.1, .ref 10], (H0 s o))) rfl ?_
    obtain ⟨y80, hy80, h⟩ := bind_eq_some_iff.mp h
    refine zB Ad W (f := fun y80 => (36, [vR 1, vI x1, vI v.1, vI v.2, none, none], [.int y80], (H0 s o))) rfl hy80 ?_
    refine zS Ad W 2 (st' := (40, [vR 1, vI x1, vI v.1, vI v.2, vI y80, none], [.int y80], (H0 s o))) rfl ?_
    rcases qite h with ⟨hc81, h⟩ | ⟨hc81, h⟩
    ·refine zF Ad W (t := 50) (f := 43) rfl (XT.i0_ne_f hc81) ?_
     refine zS Ad W 3 (st' := (48, [vR 1, vI x1, vI v.1, vI v.2, vI y80, none], [.int v.1, .ref 11], (H0 s o))) rfl ?_
     obtain ⟨y82, hy82, h⟩ := bind_eq_some_iff.mp h
     refine zB Ad W (f := fun y82 => (49, [vR 1, vI x1, vI v.1, vI v.2, vI y80, none], [.int y82], (H0 s o))) rfl hy82 ?_
     obtain rfl := Option.some.inj h
     obtain ⟨rfl, rfl⟩ := hx0 y82 rfl
     exact QTri.retI rfl rfl
    ·refine zT Ad W (t := 50) (f := 43) rfl (XT.i0_ne_t hc81) ?_
     refine zS Ad W 2 (st' := (53, [vR 1, vI x1, vI v.1, vI v.2, vI y80, none], [.int (1:Int32), .int y80], (H0 s o))) rfl ?_
     rcases qite h with ⟨hc83, h⟩ | ⟨hc83, h⟩
     ·refine zF Ad W (t := 85) (f := 56) rfl (XT.ii_ne_f hc83) ?_
      refine zS Ad W 4 (st' := (62, [vR 1, vI x1, vI v.1, vI v.2, vI y80, none], [.int v.1, .ref 11, .int x1], (H0 s o))) rfl ?_
      obtain ⟨y84, hy84, h⟩ := bind_eq_some_iff.mp h
      refine zB Ad W (f := fun y84 => (63, [vR 1, vI x1, vI v.1, vI v.2, vI y80, none], [.int y84, .int x1], (H0 s o))) rfl hy84 ?_
      rcases qite h with ⟨hc85, h⟩ | ⟨hc85, h⟩
      ·refine zF Ad W (t := 75) (f := 66) rfl (XT.ii_ge_f hc85) ?_
       refine zS Ad W 3 (st' := (71, [vR 1, vI x1, vI v.1, vI v.2, vI y80, none], [.int v.1, .ref 12], (H0 s o))) rfl ?_
       obtain ⟨y86, hy86, h⟩ := bind_eq_some_iff.mp h
       refine zB Ad W (f := fun y86 => (72, [vR 1, vI x1, vI v.1, vI v.2, vI y80, none], [.int y86], (H0 s o))) rfl hy86 ?_
       refine zS Ad W 1 (st' := (81, [vR 1, vI x1, vI v.1, vI v.2, vI y80, none], [.int y86], (H0 s o))) rfl ?_
       exact zM [tt,tt,ff,tt,ff,ff] (tJ16_81 Ad W s o x1 v.2 y86 h hx0 hc)
      ·refine zT Ad W (t := 75) (f := 66) rfl (XT.ii_ge_t hc85) ?_
       refine zS Ad W 3 (st' := (80, [vR 1, vI x1, vI v.1, vI v.2, vI y80, none], [.int v.1, .ref 13], (H0 s o))) rfl ?_
       obtain ⟨y87, hy87, h⟩ := bind_eq_some_iff.mp h
       refine zB Ad W (f := fun y87 => (81, [vR 1, vI x1, vI v.1, vI v.2, vI y80, none], [.int y87], (H0 s o))) rfl hy87 ?_
       exact zM [tt,tt,ff,tt,ff,ff] (tJ16_81 Ad W s o x1 v.2 y87 h hx0 hc)
     ·refine zT Ad W (t := 85) (f := 56) rfl (XT.ii_ne_t hc83) ?_
      refine zS Ad W 3 (st' := (88, [vR 1, vI x1, vI v.1, vI v.2, vI y80, none], [.int x1, .int v.1, .ref 1], (H0 s o))) rfl ?_
      obtain ⟨r112, hr112, h⟩ := bind_eq_some_iff.mp h
      refine QTri.callP W (a := 1) (as := [.int v.1, .int x1]) (rest := []) (w := (some (.int r112))) (σ₁ := (H0 s o)) rfl rfl rfl rfl rfl rfl rfl rfl (tF30 Ad W s o v.1 x1 hr112) ?_
      refine zS Ad W 2 (st' := (95, [vR 1, vI x1, vI v.1, vI v.2, vI y80, vI r112], [.int r112], (H0 s o))) rfl ?_
      rcases qite h with ⟨hc113, h⟩ | ⟨hc113, h⟩
      ·refine zT Ad W (t := 101) (f := 98) rfl (XT.i0_lt_t hc113) ?_
       refine zS Ad W 2 (st' := (103, [vR 1, vI x1, vI (0:Int32), vI v.2, vI y80, vI r112], [], (H0 s o))) rfl ?_
       exact zM [tt,tt,tt,tt,ff,ff] (tJ16_103 Ad W s o x1 (0:Int32) v.2 h hx0 hc)
      ·refine zF Ad W (t := 101) (f := 98) rfl (XT.i0_lt_f hc113) ?_
       refine zS Ad W 1 (st' := (100, [vR 1, vI x1, vI v.1, vI v.2, vI y80, vI r112], [.int r112], (H0 s o))) rfl ?_
       obtain rfl := Option.some.inj h
       obtain ⟨rfl, rfl⟩ := hx0 r112 rfl
       exact QTri.retI rfl rfl
   ·refine zF Ad W (t := 30) (f := 25) rfl (XT.ii_lt_f hc79) ?_
    exact zM [tt,ff,ff,ff,ff,ff] (tJ16_25 Ad W s x1 o h hx0 hc)
 ·refine zT Ad W (t := 109) (f := 13) rfl (XT.ii_ge_t hc77) ?_
  refine zS Ad W 2 (st' := (113, [vR 1, vI x1, vI v.1, vI v.2, none, none], [.int (f_snapDefault o)], (H0 s o))) rfl ?_
  obtain rfl := Option.some.inj h
  obtain ⟨rfl, rfl⟩ := hx0 (f_snapDefault o) rfl
  exact QTri.retI rfl rfl
/-- run(I)I -/
def F16 (o : Ob) (x1 : Int32) : Option (Int32) :=
 (loopN (B16_7 o x1) qN ((f_rootPc o), (0:Int32))).bind fun e114 => some e114
theorem tF16 (Ad : QAd n0 ad) (W : QW Z a0) (s : List Int32) (o : Ob) (x1 : Int32) {r : Int32} (h : F16 o x1 = some r) : QTri l Z n0 ad 16 (0, qentry [.ref 1, .int x1] (pMaxL 16), [], (H0 s o)) (some (Value.int r)) (H0 s o) := by
 unfold F16 at h
 refine zS Ad W 5 (st' := (7, [vR 1, vI x1, vI (f_rootPc o), vI (0:Int32), none, none], [], (H0 s o))) rfl ?_
 obtain ⟨e114, he114, h⟩ := bind_eq_some_iff.mp h
 refine zM [tt,tt,tt,tt,ff,ff] (loopN_tri (B := B16_7 o x1) (T := fun lv115 => QTri l Z n0 ad 16 (7, [vR 1, vI x1, vI lv115.1, vI lv115.2, none, none], [], (H0 s o)) (some (Value.int r)) (H0 s o)) (KE := fun e114a => (some (Value.int r)) = (some (Value.int e114a)) ∧ (H0 s o) = (H0 s o)) (fun lv115 r hB hE hC => tB16_7 Ad W s o x1 lv115 hB (fun x q => hE _ q) (fun x q => hC x q)) qN ((f_rootPc o), (0:Int32)) e114 he114 ?_)
 obtain rfl := Option.some.inj h
 exact ⟨rfl, rfl⟩
/-- route(I)I -/
def F15 (o : Ob) (x1 : Int32) : Option (Int32) :=
 (if (f_hasSnap o) = (0:Int32) then some (-1:Int32) else (F16 o x1).bind fun r116 => some r116)
theorem tF15 (Ad : QAd n0 ad) (W : QW Z a0) (s : List Int32) (o : Ob) (x1 : Int32) {r : Int32} (h : F15 o x1 = some r) : QTri l Z n0 ad 15 (0, qentry [.ref 1, .int x1] (pMaxL 15), [], (H0 s o)) (some (Value.int r)) (H0 s o) := by
 unfold F15 at h
 refine zS Ad W 2 (st' := (4, [vR 1, vI x1], [.int (f_hasSnap o)], (H0 s o))) rfl ?_
 rcases qite h with ⟨hc76, h⟩ | ⟨hc76, h⟩
 ·refine zF Ad W (t := 9) (f := 7) rfl (XT.i0_ne_f hc76) ?_
  refine zS Ad W 1 (st' := (8, [vR 1, vI x1], [.int (-1:Int32)], (H0 s o))) rfl ?_
  obtain rfl := Option.some.inj h
  exact QTri.retI rfl rfl
 ·refine zT Ad W (t := 9) (f := 7) rfl (XT.i0_ne_t hc76) ?_
  refine zS Ad W 2 (st' := (11, [vR 1, vI x1], [.int x1, .ref 1], (H0 s o))) rfl ?_
  obtain ⟨r116, hr116, h⟩ := bind_eq_some_iff.mp h
  refine QTri.callP W (a := 1) (as := [.int x1]) (rest := []) (w := (some (.int r116))) (σ₁ := (H0 s o)) rfl rfl rfl rfl rfl rfl rfl rfl (tF16 Ad W s o x1 hr116) ?_
  obtain rfl := Option.some.inj h
  exact QTri.retI rfl rfl
def J10_118 (o : Ob) (x1 : Int32) (x2 : Int32) (x3 : Int32) (x5 : Int32) (x7 : Int32) (x8 : Int32) (x9 : Int32) : Option (((Unit) ⊕ (Unit) ⊕ (Int32)) ⊕ (Int32 × Int32)) :=
  (F17 o x8).bind fun r73 => (if r73 = x9 then (if x5 = (0 : Int32) then (J10_157 o x1 x2 x3 x5 x7 x8) else (F15 o x8).bind fun r117 => (if r117 = x9 then (J10_157 o x1 x2 x3 x5 x7 x8) else some (.inl (Sum.inr (Sum.inr (0 : Int32)))))) else some (.inl (Sum.inr (Sum.inr (0 : Int32)))))
theorem tJ10_118 (Ad : QAd n0 ad) (W : QW Z a0) (s : List Int32) (o : Ob) (x1 : Int32) (x2 : Int32) (x3 : Int32) (x5 : Int32) (x7 : Int32) (x8 : Int32) (x9 : Int32) {r : ((Unit) ⊕ (Unit) ⊕ (Int32)) ⊕ (Int32 × Int32)} {u : Option Value} {τ : QHeap} (h : J10_118 o x1 x2 x3 x5 x7 x8 x9 = some r) (hx0 : ∀ x : Unit, r = .inl (Sum.inl x) → QTri l Z n0 ad 10 (72, [vR 1, vI x1, vI x2, vI x3, none, vI x5, none, none, none, none, none, none], [], (H0 s o)) u τ) (hx1 : ∀ x : Unit, r = .inl (Sum.inr (Sum.inl x)) → QTri l Z n0 ad 10 (167, [vR 1, vI x1, vI x2, vI x3, none, vI x5, none, none, none, none, none, none], [], (H0 s o)) u τ) (hx2 : ∀ x : Int32, r = .inl (Sum.inr (Sum.inr x)) → u = (some (Value.int x)) ∧ τ = (H0 s o)) (hc : ∀ x : Int32 × Int32, r = .inr x → QTri l Z n0 ad 10 (59, [vR 1, vI x1, vI x2, vI x3, none, vI x5, vI x.1, vI x.2, none, none, none, none], [], (H0 s o)) u τ) : QTri l Z n0 ad 10 (118, [vR 1, vI x1, vI x2, vI x3, none, vI x5, none, vI x7, vI x8, vI x9, none, none], [], (H0 s o)) u τ := by
 unfold J10_118 at h
 refine zS Ad W 2 (st' := (121, [vR 1, vI x1, vI x2, vI x3, none, vI x5, none, vI x7, vI x8, vI x9, none, none], [.int x8, .ref 1], (H0 s o))) rfl ?_
 obtain ⟨r73, hr73, h⟩ := bind_eq_some_iff.mp h
 refine QTri.callV W (a := 1) (as := [.int x8]) (rest := []) (w := (some (.int r73))) (σ₁ := (H0 s o)) rfl rfl rfl rfl rfl rfl rfl rfl (tF17 Ad W s o x8 hr73) ?_
 refine zS Ad W 3 (st' := (130, [vR 1, vI x1, vI x2, vI x3, none, vI x5, none, vI x7, vI x8, vI x9, vI r73, none], [.int x9, .int r73], (H0 s o))) rfl ?_
 rcases qite h with ⟨hc74, h⟩ | ⟨hc74, h⟩
 ·refine zT Ad W (t := 135) (f := 133) rfl (XT.ii_eq_t hc74) ?_
  refine zS Ad W 1 (st' := (137, [vR 1, vI x1, vI x2, vI x3, none, vI x5, none, vI x7, vI x8, vI x9, vI r73, none], [.int x5], (H0 s o))) rfl ?_
  rcases qite h with ⟨hc75, h⟩ | ⟨hc75, h⟩
  ·refine zT Ad W (t := 157) (f := 140) rfl (XT.i0_eq_t hc75) ?_
   exact zM [tt,tt,tt,tt,ff,tt,ff,tt,tt,ff,ff,ff] (tJ10_157 Ad W s o x1 x2 x3 x5 x7 x8 h hx0 hx1 hx2 hc)
  ·refine zF Ad W (t := 157) (f := 140) rfl (XT.i0_eq_f hc75) ?_
   refine zS Ad W 2 (st' := (143, [vR 1, vI x1, vI x2, vI x3, none, vI x5, none, vI x7, vI x8, vI x9, vI r73, none], [.int x8, .ref 1], (H0 s o))) rfl ?_
   obtain ⟨r117, hr117, h⟩ := bind_eq_some_iff.mp h
   refine QTri.callV W (a := 1) (as := [.int x8]) (rest := []) (w := (some (.int r117))) (σ₁ := (H0 s o)) rfl rfl rfl rfl rfl rfl rfl rfl (tF15 Ad W s o x8 hr117) ?_
   refine zS Ad W 3 (st' := (152, [vR 1, vI x1, vI x2, vI x3, none, vI x5, none, vI x7, vI x8, vI x9, vI r73, vI r117], [.int x9, .int r117], (H0 s o))) rfl ?_
   rcases qite h with ⟨hc118, h⟩ | ⟨hc118, h⟩
   ·refine zT Ad W (t := 157) (f := 155) rfl (XT.ii_eq_t hc118) ?_
    exact zM [tt,tt,tt,tt,ff,tt,ff,tt,tt,ff,ff,ff] (tJ10_157 Ad W s o x1 x2 x3 x5 x7 x8 h hx0 hx1 hx2 hc)
   ·refine zF Ad W (t := 157) (f := 155) rfl (XT.ii_eq_f hc118) ?_
    refine zS Ad W 1 (st' := (156, [vR 1, vI x1, vI x2, vI x3, none, vI x5, none, vI x7, vI x8, vI x9, vI r73, vI r117], [.int (0:Int32)], (H0 s o))) rfl ?_
    obtain rfl := Option.some.inj h
    obtain ⟨rfl, rfl⟩ := hx2 (0:Int32) rfl
    exact QTri.retZ rfl rfl
 ·refine zF Ad W (t := 135) (f := 133) rfl (XT.ii_eq_f hc74) ?_
  refine zS Ad W 1 (st' := (134, [vR 1, vI x1, vI x2, vI x3, none, vI x5, none, vI x7, vI x8, vI x9, vI r73, none], [.int (0:Int32)], (H0 s o))) rfl ?_
  obtain rfl := Option.some.inj h
  obtain ⟨rfl, rfl⟩ := hx2 (0:Int32) rfl
  exact QTri.retZ rfl rfl
def B10_59 (o : Ob) (x1 : Int32) (x2 : Int32) (x3 : Int32) (x5 : Int32) (v : Int32 × Int32) : Option (((Unit) ⊕ (Unit) ⊕ (Int32)) ⊕ (Int32 × Int32)) :=
  (if v.2 < (8 : Int32) then (if v.2 < x3 then (F21 o v.2).bind fun r57 => (F14 o v.2).bind fun r61 => (if r61 < (0 : Int32) then some (.inl (Sum.inr (Sum.inr (0 : Int32)))) else (if (3 : Int32) < r61 then some (.inl (Sum.inr (Sum.inr (0 : Int32)))) else (if (0 : Int32) < v.2 then (if v.1 < r57 then (J10_118 o x1 x2 x3 x5 v.2 r57 r61) else some (.inl (Sum.inr (Sum.inr (0 : Int32))))) else (J10_118 o x1 x2 x3 x5 v.2 r57 r61)))) else some (.inl (Sum.inl ()))) else some (.inl (Sum.inr (Sum.inl ()))))
theorem tB10_59 (Ad : QAd n0 ad) (W : QW Z a0) (s : List Int32) (o : Ob) (x1 : Int32) (x2 : Int32) (x3 : Int32) (x5 : Int32) (v : Int32 × Int32) {r : ((Unit) ⊕ (Unit) ⊕ (Int32)) ⊕ (Int32 × Int32)} {u : Option Value} {τ : QHeap} (h : B10_59 o x1 x2 x3 x5 v = some r) (hx0 : ∀ x : Unit, r = .inl (Sum.inl x) → QTri l Z n0 ad 10 (72, [vR 1, vI x1, vI x2, vI x3, none, vI x5, none, none, none, none, none, none], [], (H0 s o)) u τ) (hx1 : ∀ x : Unit, r = .inl (Sum.inr (Sum.inl x)) → QTri l Z n0 ad 10 (167, [vR 1, vI x1, vI x2, vI x3, none, vI x5, none, none, none, none, none, none], [], (H0 s o)) u τ) (hx2 : ∀ x : Int32, r = .inl (Sum.inr (Sum.inr x)) → u = (some (Value.int x)) ∧ τ = (H0 s o)) (hc : ∀ x : Int32 × Int32, r = .inr x → QTri l Z n0 ad 10 (59, [vR 1, vI x1, vI x2, vI x3, none, vI x5, vI x.1, vI x.2, none, none, none, none], [], (H0 s o)) u τ) : QTri l Z n0 ad 10 (59, [vR 1, vI x1, vI x2, vI x3, none, vI x5, vI v.1, vI v.2, none, none, none, none], [], (H0 s o)) u τ := by
 unfold B10_59 at h
 refine zS Ad W 2 (st' := (63, [vR 1, vI x1, vI x2, vI x3, none, vI x5, vI v.1, vI v.2, none, none, none, none], [.int (8:Int32), .int v.2], (H0 s o))) rfl ?_
 rcases qite h with ⟨hc52, h⟩ | ⟨hc52, h⟩
 ·refine zF Ad W (t := 167) (f := 66) rfl (XT.ii_ge_f hc52) ?_
  refine zS Ad W 2 (st' := (69, [vR 1, vI x1, vI x2, vI x3, none, vI x5, vI v.1, vI v.2, none, none, none, none], [.int x3, .int v.2], (H0 s o))) rfl ?_
  rcases qite h with ⟨hc53, h⟩ | ⟨hc53, h⟩
  ·refine zT Ad W (t := 75) (f := 72) rfl (XT.ii_lt_t hc53) ?_
   refine zS Ad W 2 (st' := (78, [vR 1, vI x1, vI x2, vI x3, none, vI x5, vI v.1, vI v.2, none, none, none, none], [.int v.2, .ref 1], (H0 s o))) rfl ?_
   obtain ⟨r57, hr57, h⟩ := bind_eq_some_iff.mp h
   refine QTri.callV W (a := 1) (as := [.int v.2]) (rest := []) (w := (some (.int r57))) (σ₁ := (H0 s o)) rfl rfl rfl rfl rfl rfl rfl rfl (tF21 Ad W s o v.2 hr57) ?_
   refine zS Ad W 3 (st' := (86, [vR 1, vI x1, vI x2, vI x3, none, vI x5, vI v.1, vI v.2, vI r57, none, none, none], [.int v.2, .ref 1], (H0 s o))) rfl ?_
   obtain ⟨r61, hr61, h⟩ := bind_eq_some_iff.mp h
   refine QTri.callV W (a := 1) (as := [.int v.2]) (rest := []) (w := (some (.int r61))) (σ₁ := (H0 s o)) rfl rfl rfl rfl rfl rfl rfl rfl (tF14 Ad W s o v.2 hr61) ?_
   refine zS Ad W 2 (st' := (93, [vR 1, vI x1, vI x2, vI x3, none, vI x5, vI v.1, vI v.2, vI r57, vI r61, none, none], [.int r61], (H0 s o))) rfl ?_
   rcases qite h with ⟨hc62, h⟩ | ⟨hc62, h⟩
   ·refine zT Ad W (t := 102) (f := 96) rfl (XT.i0_lt_t hc62) ?_
    refine zS Ad W 1 (st' := (103, [vR 1, vI x1, vI x2, vI x3, none, vI x5, vI v.1, vI v.2, vI r57, vI r61, none, none], [.int (0:Int32)], (H0 s o))) rfl ?_
    obtain rfl := Option.some.inj h
    obtain ⟨rfl, rfl⟩ := hx2 (0:Int32) rfl
    exact QTri.retZ rfl rfl
   ·refine zF Ad W (t := 102) (f := 96) rfl (XT.i0_lt_f hc62) ?_
    refine zS Ad W 2 (st' := (99, [vR 1, vI x1, vI x2, vI x3, none, vI x5, vI v.1, vI v.2, vI r57, vI r61, none, none], [.int (3:Int32), .int r61], (H0 s o))) rfl ?_
    rcases qite h with ⟨hc63, h⟩ | ⟨hc63, h⟩
    ·refine zF Ad W (t := 104) (f := 102) rfl (XT.ii_le_f hc63) ?_
     refine zS Ad W 1 (st' := (103, [vR 1, vI x1, vI x2, vI x3, none, vI x5, vI v.1, vI v.2, vI r57, vI r61, none, none], [.int (0:Int32)], (H0 s o))) rfl ?_
     obtain rfl := Option.some.inj h
     obtain ⟨rfl, rfl⟩ := hx2 (0:Int32) rfl
     exact QTri.retZ rfl rfl
    ·refine zT Ad W (t := 104) (f := 102) rfl (XT.ii_le_t hc63) ?_
     refine zS Ad W 1 (st' := (106, [vR 1, vI x1, vI x2, vI x3, none, vI x5, vI v.1, vI v.2, vI r57, vI r61, none, none], [.int v.2], (H0 s o))) rfl ?_
     rcases qite h with ⟨hc64, h⟩ | ⟨hc64, h⟩
     ·refine zF Ad W (t := 118) (f := 109) rfl (XT.i0_le_f hc64) ?_
      refine zS Ad W 2 (st' := (113, [vR 1, vI x1, vI x2, vI x3, none, vI x5, vI v.1, vI v.2, vI r57, vI r61, none, none], [.int v.1, .int r57], (H0 s o))) rfl ?_
      rcases qite h with ⟨hc65, h⟩ | ⟨hc65, h⟩
      ·refine zT Ad W (t := 118) (f := 116) rfl (XT.ii_gt_t hc65) ?_
       exact zM [tt,tt,tt,tt,ff,tt,ff,tt,tt,tt,ff,ff] (tJ10_118 Ad W s o x1 x2 x3 x5 v.2 r57 r61 h hx0 hx1 hx2 hc)
      ·refine zF Ad W (t := 118) (f := 116) rfl (XT.ii_gt_f hc65) ?_
       refine zS Ad W 1 (st' := (117, [vR 1, vI x1, vI x2, vI x3, none, vI x5, vI v.1, vI v.2, vI r57, vI r61, none, none], [.int (0:Int32)], (H0 s o))) rfl ?_
       obtain rfl := Option.some.inj h
       obtain ⟨rfl, rfl⟩ := hx2 (0:Int32) rfl
       exact QTri.retZ rfl rfl
     ·refine zT Ad W (t := 118) (f := 109) rfl (XT.i0_le_t hc64) ?_
      exact zM [tt,tt,tt,tt,ff,tt,ff,tt,tt,tt,ff,ff] (tJ10_118 Ad W s o x1 x2 x3 x5 v.2 r57 r61 h hx0 hx1 hx2 hc)
  ·refine zF Ad W (t := 75) (f := 72) rfl (XT.ii_lt_f hc53) ?_
   obtain rfl := Option.some.inj h
   exact zM [tt,tt,tt,tt,ff,tt,ff,ff,ff,ff,ff,ff] (hx0 () rfl)
 ·refine zT Ad W (t := 167) (f := 66) rfl (XT.ii_ge_t hc52) ?_
  obtain rfl := Option.some.inj h
  exact zM [tt,tt,tt,tt,ff,tt,ff,ff,ff,ff,ff,ff] (hx1 () rfl)
def J10_167 (o : Ob) (x1 : Int32) (x2 : Int32) (x3 : Int32) (x5 : Int32) : Option (Int32) :=
  (F14 o x3).bind fun r121 => (if r121 = (-1 : Int32) then (F15 o x2).bind fun r123 => (if x1 = (0 : Int32) then (if r123 = (-1 : Int32) then some (1 : Int32) else some (0 : Int32)) else (if r123 < (0 : Int32) then some (0 : Int32) else (if (3 : Int32) < r123 then some (0 : Int32) else (if x5 = (0 : Int32) then some (1 : Int32) else (F17 o x2).bind fun r129 => (if r123 = r129 then some (1 : Int32) else some (0 : Int32)))))) else some (0 : Int32))
theorem tJ10_167 (Ad : QAd n0 ad) (W : QW Z a0) (s : List Int32) (o : Ob) (x1 : Int32) (x2 : Int32) (x3 : Int32) (x5 : Int32) {r : Int32} (h : J10_167 o x1 x2 x3 x5 = some r) : QTri l Z n0 ad 10 (167, [vR 1, vI x1, vI x2, vI x3, none, vI x5, none, none, none, none, none, none], [], (H0 s o)) (some (Value.int r)) (H0 s o) := by
 unfold J10_167 at h
 refine zS Ad W 2 (st' := (169, [vR 1, vI x1, vI x2, vI x3, none, vI x5, none, none, none, none, none, none], [.int x3, .ref 1], (H0 s o))) rfl ?_
 obtain ⟨r121, hr121, h⟩ := bind_eq_some_iff.mp h
 refine QTri.callV W (a := 1) (as := [.int x3]) (rest := []) (w := (some (.int r121))) (σ₁ := (H0 s o)) rfl rfl rfl rfl rfl rfl rfl rfl (tF14 Ad W s o x3 hr121) ?_
 refine zS Ad W 1 (st' := (173, [vR 1, vI x1, vI x2, vI x3, none, vI x5, none, none, none, none, none, none], [.int (-1:Int32), .int r121], (H0 s o))) rfl ?_
 rcases qite h with ⟨hc122, h⟩ | ⟨hc122, h⟩
 ·refine zT Ad W (t := 178) (f := 176) rfl (XT.ii_eq_t hc122) ?_
  refine zS Ad W 2 (st' := (180, [vR 1, vI x1, vI x2, vI x3, none, vI x5, none, none, none, none, none, none], [.int x2, .ref 1], (H0 s o))) rfl ?_
  obtain ⟨r123, hr123, h⟩ := bind_eq_some_iff.mp h
  refine QTri.callV W (a := 1) (as := [.int x2]) (rest := []) (w := (some (.int r123))) (σ₁ := (H0 s o)) rfl rfl rfl rfl rfl rfl rfl rfl (tF15 Ad W s o x2 hr123) ?_
  refine zS Ad W 2 (st' := (186, [vR 1, vI x1, vI x2, vI x3, none, vI x5, none, vI r123, none, none, none, none], [.int x1], (H0 s o))) rfl ?_
  rcases qite h with ⟨hc124, h⟩ | ⟨hc124, h⟩
  ·refine zF Ad W (t := 201) (f := 189) rfl (XT.i0_ne_f hc124) ?_
   refine zS Ad W 2 (st' := (192, [vR 1, vI x1, vI x2, vI x3, none, vI x5, none, vI r123, none, none, none, none], [.int (-1:Int32), .int r123], (H0 s o))) rfl ?_
   rcases qite h with ⟨hc125, h⟩ | ⟨hc125, h⟩
   ·refine zF Ad W (t := 199) (f := 195) rfl (XT.ii_ne_f hc125) ?_
    refine zS Ad W 2 (st' := (200, [vR 1, vI x1, vI x2, vI x3, none, vI x5, none, vI r123, none, none, none, none], [.int (1:Int32)], (H0 s o))) rfl ?_
    obtain rfl := Option.some.inj h
    exact QTri.retZ rfl rfl
   ·refine zT Ad W (t := 199) (f := 195) rfl (XT.ii_ne_t hc125) ?_
    refine zS Ad W 1 (st' := (200, [vR 1, vI x1, vI x2, vI x3, none, vI x5, none, vI r123, none, none, none, none], [.int (0:Int32)], (H0 s o))) rfl ?_
    obtain rfl := Option.some.inj h
    exact QTri.retZ rfl rfl
  ·refine zT Ad W (t := 201) (f := 189) rfl (XT.i0_ne_t hc124) ?_
   refine zS Ad W 1 (st' := (203, [vR 1, vI x1, vI x2, vI x3, none, vI x5, none, vI r123, none, none, none, none], [.int r123], (H0 s o))) rfl ?_
   rcases qite h with ⟨hc126, h⟩ | ⟨hc126, h⟩
   ·refine zT Ad W (t := 212) (f := 206) rfl (XT.i0_lt_t hc126) ?_
    refine zS Ad W 1 (st' := (213, [vR 1, vI x1, vI x2, vI x3, none, vI x5, none, vI r123, none, none, none, none], [.int (0:Int32)], (H0 s o))) rfl ?_
    obtain rfl := Option.some.inj h
    exact QTri.retZ rfl rfl
   ·refine zF Ad W (t := 212) (f := 206) rfl (XT.i0_lt_f hc126) ?_
    refine zS Ad W 2 (st' := (209, [vR 1, vI x1, vI x2, vI x3, none, vI x5, none, vI r123, none, none, none, none], [.int (3:Int32), .int r123], (H0 s o))) rfl ?_
    rcases qite h with ⟨hc127, h⟩ | ⟨hc127, h⟩
    ·refine zF Ad W (t := 214) (f := 212) rfl (XT.ii_le_f hc127) ?_
     refine zS Ad W 1 (st' := (213, [vR 1, vI x1, vI x2, vI x3, none, vI x5, none, vI r123, none, none, none, none], [.int (0:Int32)], (H0 s o))) rfl ?_
     obtain rfl := Option.some.inj h
     exact QTri.retZ rfl rfl
    ·refine zT Ad W (t := 214) (f := 212) rfl (XT.ii_le_t hc127) ?_
     refine zS Ad W 1 (st' := (216, [vR 1, vI x1, vI x2, vI x3, none, vI x5, none, vI r123, none, none, none, none], [.int x5], (H0 s o))) rfl ?_
     rcases qite h with ⟨hc128, h⟩ | ⟨hc128, h⟩
     ·refine zT Ad W (t := 235) (f := 219) rfl (XT.i0_eq_t hc128) ?_
      refine zS Ad W 1 (st' := (236, [vR 1, vI x1, vI x2, vI x3, none, vI x5, none, vI r123, none, none, none, none], [.int (1:Int32)], (H0 s o))) rfl ?_
      obtain rfl := Option.some.inj h
      exact QTri.retZ rfl rfl
     ·refine zF Ad W (t := 235) (f := 219) rfl (XT.i0_eq_f hc128) ?_
      refine zS Ad W 2 (st' := (221, [vR 1, vI x1, vI x2, vI x3, none, vI x5, none, vI r123, none, none, none, none], [.int x2, .ref 1], (H0 s o))) rfl ?_
      obtain ⟨r129, hr129, h⟩ := bind_eq_some_iff.mp h
      refine QTri.callV W (a := 1) (as := [.int x2]) (rest := []) (w := (some (.int r129))) (σ₁ := (H0 s o)) rfl rfl rfl rfl rfl rfl rfl rfl (tF17 Ad W s o x2 hr129) ?_
      refine zS Ad W 3 (st' := (230, [vR 1, vI x1, vI x2, vI x3, none, vI x5, none, vI r123, vI r129, none, none, none], [.int r129, .int r123], (H0 s o))) rfl ?_
      rcases qite h with ⟨hc130, h⟩ | ⟨hc130, h⟩
      ·refine zT Ad W (t := 235) (f := 233) rfl (XT.ii_eq_t hc130) ?_
       refine zS Ad W 1 (st' := (236, [vR 1, vI x1, vI x2, vI x3, none, vI x5, none, vI r123, vI r129, none, none, none], [.int (1:Int32)], (H0 s o))) rfl ?_
       obtain rfl := Option.some.inj h
       exact QTri.retZ rfl rfl
      ·refine zF Ad W (t := 235) (f := 233) rfl (XT.ii_eq_f hc130) ?_
       refine zS Ad W 1 (st' := (234, [vR 1, vI x1, vI x2, vI x3, none, vI x5, none, vI r123, vI r129, none, none, none], [.int (0:Int32)], (H0 s o))) rfl ?_
       obtain rfl := Option.some.inj h
       exact QTri.retZ rfl rfl
 ·refine zF Ad W (t := 178) (f := 176) rfl (XT.ii_eq_f hc122) ?_
  refine zS Ad W 1 (st' := (177, [vR 1, vI x1, vI x2, vI x3, none, vI x5, none, none, none, none, none, none], [.int (0:Int32)], (H0 s o))) rfl ?_
  obtain rfl := Option.some.inj h
  exact QTri.retZ rfl rfl
def J10_53 (o : Ob) (x1 : Int32) (x2 : Int32) (x3 : Int32) (x5 : Int32) : Option (Int32) :=
  ((loopN (B10_59 o x1 x2 x3 x5) qN ((0 : Int32), (0 : Int32))).bind fun e119 => match e119 with | .inl e119a => (J10_167 o x1 x2 x3 x5) | .inr (.inl e119a) => (J10_167 o x1 x2 x3 x5) | .inr (.inr e119a) => some e119a)
theorem tJ10_53 (Ad : QAd n0 ad) (W : QW Z a0) (s : List Int32) (o : Ob) (x1 : Int32) (x2 : Int32) (x3 : Int32) (x5 : Int32) {r : Int32} (h : J10_53 o x1 x2 x3 x5 = some r) : QTri l Z n0 ad 10 (53, [vR 1, vI x1, vI x2, vI x3, none, vI x5, none, none, none, none, none, none], [], (H0 s o)) (some (Value.int r)) (H0 s o) := by
 unfold J10_53 at h
 refine zS Ad W 4 (st' := (59, [vR 1, vI x1, vI x2, vI x3, none, vI x5, vI (0:Int32), vI (0:Int32), none, none, none, none], [], (H0 s o))) rfl ?_
 obtain ⟨e119, he119, h⟩ := bind_eq_some_iff.mp h
 refine zM [tt,tt,tt,tt,ff,tt,tt,tt,ff,ff,ff,ff] (loopN_tri (B := B10_59 o x1 x2 x3 x5) (T := fun lv120 => QTri l Z n0 ad 10 (59, [vR 1, vI x1, vI x2, vI x3, none, vI x5, vI lv120.1, vI lv120.2, none, none, none, none], [], (H0 s o)) (some (Value.int r)) (H0 s o)) (KE := fun e => match e with | .inl e119a => QTri l Z n0 ad 10 (72, [vR 1, vI x1, vI x2, vI x3, none, vI x5, none, none, none, none, none, none], [], (H0 s o)) (some (Value.int r)) (H0 s o) | .inr (.inl e119a) => QTri l Z n0 ad 10 (167, [vR 1, vI x1, vI x2, vI x3, none, vI x5, none, none, none, none, none, none], [], (H0 s o)) (some (Value.int r)) (H0 s o) | .inr (.inr e119a) => (some (Value.int r)) = (some (Value.int e119a)) ∧ (H0 s o) = (H0 s o)) (fun lv120 r hB hE hC => tB10_59 Ad W s o x1 x2 x3 x5 lv120 hB (fun x q => hE _ q) (fun x q => hE _ q) (fun x q => hE _ q) (fun x q => hC x q)) qN ((0:Int32), (0:Int32)) e119 he119 ?_)
 rcases e119 with e119a | e119a | e119a
 ·refine zS Ad W 1 (st' := (167, [vR 1, vI x1, vI x2, vI x3, none, vI x5, none, none, none, none, none, none], [], (H0 s o))) rfl ?_
  exact zM [tt,tt,tt,tt,ff,tt,ff,ff,ff,ff,ff,ff] (tJ10_167 Ad W s o x1 x2 x3 x5 h)
 ·exact zM [tt,tt,tt,tt,ff,tt,ff,ff,ff,ff,ff,ff] (tJ10_167 Ad W s o x1 x2 x3 x5 h)
 ·obtain rfl := Option.some.inj h
  exact ⟨rfl, rfl⟩
/-- holds(LSwitchLowererX;ZI)Z -/
def F10 (o : Ob) (x1 : Int32) (x2 : Int32) : Option (Int32) :=
 (F11 o).bind fun r42 => (if r42 < (0:Int32) then some (0:Int32) else (if (8:Int32) < r42 then some (0:Int32) else (F12 o).bind fun r45 => (if r45 < (0:Int32) then some (0:Int32) else (if (3:Int32) < r45 then some (0:Int32) else (F13 o).bind fun r50 => (if r50 = (0:Int32) then (J10_53 o x1 x2 r42 r50) else (if x1 = (0:Int32) then some (0:Int32) else (J10_53 o x1 x2 r42 r50)))))))
theorem tF10 (Ad : QAd n0 ad) (W : QW Z a0) (s : List Int32) (o : Ob) (x1 : Int32) (x2 : Int32) {r : Int32} (h : F10 o x1 x2 = some r) : QTri l Z n0 ad 10 (0, qentry [.ref 1, .int x1, .int x2] (pMaxL 10), [], (H0 s o)) (some (Value.int r)) (H0 s o) := by
 unfold F10 at h
 refine zS Ad W 1 (st' := (1, [vR 1, vI x1, vI x2, none, none, none, none, none, none, none, none, none], [.ref 1], (H0 s o))) rfl ?_
 obtain ⟨r42, hr42, h⟩ := bind_eq_some_iff.mp h
 refine QTri.callV W (a := 1) (as := []) (rest := []) (w := (some (.int r42))) (σ₁ := (H0 s o)) rfl rfl rfl rfl rfl rfl rfl rfl (tF11 Ad W s o hr42) ?_
 refine zS Ad W 2 (st' := (6, [vR 1, vI x1, vI x2, vI r42, none, none, none, none, none, none, none, none], [.int r42], (H0 s o))) rfl ?_
 rcases qite h with ⟨hc43, h⟩ | ⟨hc43, h⟩
 ·refine zT Ad W (t := 15) (f := 9) rfl (XT.i0_lt_t hc43) ?_
  refine zS Ad W 1 (st' := (16, [vR 1, vI x1, vI x2, vI r42, none, none, none, none, none, none, none, none], [.int (0:Int32)], (H0 s o))) rfl ?_
  obtain rfl := Option.some.inj h
  exact QTri.retZ rfl rfl
 ·refine zF Ad W (t := 15) (f := 9) rfl (XT.i0_lt_f hc43) ?_
  refine zS Ad W 2 (st' := (12, [vR 1, vI x1, vI x2, vI r42, none, none, none, none, none, none, none, none], [.int (8:Int32), .int r42], (H0 s o))) rfl ?_
  rcases qite h with ⟨hc44, h⟩ | ⟨hc44, h⟩
  ·refine zF Ad W (t := 17) (f := 15) rfl (XT.ii_le_f hc44) ?_
   refine zS Ad W 1 (st' := (16, [vR 1, vI x1, vI x2, vI r42, none, none, none, none, none, none, none, none], [.int (0:Int32)], (H0 s o))) rfl ?_
   obtain rfl := Option.some.inj h
   exact QTri.retZ rfl rfl
  ·refine zT Ad W (t := 17) (f := 15) rfl (XT.ii_le_t hc44) ?_
   refine zS Ad W 1 (st' := (18, [vR 1, vI x1, vI x2, vI r42, none, none, none, none, none, none, none, none], [.ref 1], (H0 s o))) rfl ?_
   obtain ⟨r45, hr45, h⟩ := bind_eq_some_iff.mp h
   refine QTri.callV W (a := 1) (as := []) (rest := []) (w := (some (.int r45))) (σ₁ := (H0 s o)) rfl rfl rfl rfl rfl rfl rfl rfl (tF12 Ad W s o hr45) ?_
   refine zS Ad W 2 (st' := (25, [vR 1, vI x1, vI x2, vI r42, vI r45, none, none, none, none, none, none, none], [.int r45], (H0 s o))) rfl ?_
   rcases qite h with ⟨hc46, h⟩ | ⟨hc46, h⟩
   ·refine zT Ad W (t := 34) (f := 28) rfl (XT.i0_lt_t hc46) ?_
    refine zS Ad W 1 (st' := (35, [vR 1, vI x1, vI x2, vI r42, vI r45, none, none, none, none, none, none, none], [.int (0:Int32)], (H0 s o))) rfl ?_
    obtain rfl := Option.some.inj h
    exact QTri.retZ rfl rfl
   ·refine zF Ad W (t := 34) (f := 28) rfl (XT.i0_lt_f hc46) ?_
    refine zS Ad W 2 (st' := (31, [vR 1, vI x1, vI x2, vI r42, vI r45, none, none, none, none, none, none, none], [.int (3:Int32), .int r45], (H0 s o))) rfl ?_
    rcases qite h with ⟨hc47, h⟩ | ⟨hc47, h⟩
    ·refine zF Ad W (t := 36) (f := 34) rfl (XT.ii_le_f hc47) ?_
     refine zS Ad W 1 (st' := (35, [vR 1, vI x1, vI x2, vI r42, vI r45, none, none, none, none, none, none, none], [.int (0:Int32)], (H0 s o))) rfl ?_
     obtain rfl := Option.some.inj h
     exact QTri.retZ rfl rfl
    ·refine zT Ad W (t := 36) (f := 34) rfl (XT.ii_le_t hc47) ?_
     refine zS Ad W 1 (st' := (37, [vR 1, vI x1, vI x2, vI r42, vI r45, none, none, none, none, none, none, none], [.ref 1], (H0 s o))) rfl ?_
     obtain ⟨r50, hr50, h⟩ := bind_eq_some_iff.mp h
     refine QTri.callV W (a := 1) (as := []) (rest := []) (w := (some (.int r50))) (σ₁ := (H0 s o)) rfl rfl rfl rfl rfl rfl rfl rfl (tF13 Ad W s o hr50) ?_
     refine zS Ad W 2 (st' := (44, [vR 1, vI x1, vI x2, vI r42, vI r45, vI r50, none, none, none, none, none, none], [.int r50], (H0 s o))) rfl ?_
     rcases qite h with ⟨hc51, h⟩ | ⟨hc51, h⟩
     ·refine zT Ad W (t := 53) (f := 47) rfl (XT.i0_eq_t hc51) ?_
      exact zM [tt,tt,tt,tt,ff,tt,ff,ff,ff,ff,ff,ff] (tJ10_53 Ad W s o x1 x2 r42 r50 h)
     ·refine zF Ad W (t := 53) (f := 47) rfl (XT.i0_eq_f hc51) ?_
      refine zS Ad W 1 (st' := (48, [vR 1, vI x1, vI x2, vI r42, vI r45, vI r50, none, none, none, none, none, none], [.int x1], (H0 s o))) rfl ?_
      rcases qite h with ⟨hc131, h⟩ | ⟨hc131, h⟩
      ·refine zF Ad W (t := 53) (f := 51) rfl (XT.i0_ne_f hc131) ?_
       refine zS Ad W 1 (st' := (52, [vR 1, vI x1, vI x2, vI r42, vI r45, vI r50, none, none, none, none, none, none], [.int (0:Int32)], (H0 s o))) rfl ?_
       obtain rfl := Option.some.inj h
       exact QTri.retZ rfl rfl
      ·refine zT Ad W (t := 53) (f := 51) rfl (XT.i0_ne_t hc131) ?_
       exact zM [tt,tt,tt,tt,ff,tt,ff,ff,ff,ff,ff,ff] (tJ10_53 Ad W s o x1 x2 r42 r50 h)
def J0_136 (s : List Int32) (p0 : Ob) (x2 : Int32) (x3 : Int32) (x5 : Int32) : Option (((Int32 × QHeap)) ⊕ (Int32 × Int32 × Ob)) :=
  (F10 p0 x2 x5).bind fun r132 => (if r132 = (0 : Int32) then some (.inl ((0 : Int32), (H0 s p0))) else some (.inr (x2, (x3 + (3 : Int32)), p0)))
theorem tJ0_136 (Ad : QAd n0 ad) (W : QW Z a0) (s : List Int32) (p0 : Ob) (x2 : Int32) (x3 : Int32) (x5 : Int32) {r : ((Int32 × QHeap)) ⊕ (Int32 × Int32 × Ob)} {u : Option Value} {τ : QHeap} (h : J0_136 s p0 x2 x3 x5 = some r) (hx0 : ∀ x : Int32 × QHeap, r = .inl x → u = (some (Value.int x.1)) ∧ τ = x.2) (hc : ∀ x : Int32 × Int32 × Ob, r = .inr x → QTri l Z n0 ad 0 (15, [vR 0, vR 1, vI x.1, vI x.2.1, none, none, none], [], (H0 s x.2.2)) u τ) : QTri l Z n0 ad 0 (136, [vR 0, vR 1, vI x2, vI x3, none, vI x5, none], [], (H0 s p0)) u τ := by
 unfold J0_136 at h
 refine zS Ad W 3 (st' := (140, [vR 0, vR 1, vI x2, vI x3, none, vI x5, none], [.int x5, .int x2, .ref 1], (H0 s p0))) rfl ?_
 obtain ⟨r132, hr132, h⟩ := bind_eq_some_iff.mp h
 refine QTri.callS W (as := [.ref 1, .int x2, .int x5]) (rest := []) (w := (some (.int r132))) (σ₁ := (H0 s p0)) rfl rfl rfl rfl rfl rfl rfl (tF10 Ad W s p0 x2 x5 hr132) ?_
 rcases qite h with ⟨hc133, h⟩ | ⟨hc133, h⟩
 ·refine zF Ad W (t := 148) (f := 146) rfl (XT.i0_ne_f hc133) ?_
  refine zS Ad W 1 (st' := (147, [vR 0, vR 1, vI x2, vI x3, none, vI x5, none], [.int (0:Int32)], (H0 s p0))) rfl ?_
  obtain rfl := Option.some.inj h
  obtain ⟨rfl, rfl⟩ := hx0 ((0:Int32), (H0 s p0)) rfl
  exact QTri.retZ rfl rfl
 ·refine zT Ad W (t := 148) (f := 146) rfl (XT.i0_ne_t hc133) ?_
  refine zS Ad W 2 (st' := (15, [vR 0, vR 1, vI x2, vI (x3 + (3:Int32)), none, vI x5, none], [], (H0 s p0))) rfl ?_
  obtain rfl := Option.some.inj h
  exact zM [tt,tt,tt,tt,ff,ff,ff] (hc (x2, (x3 + (3:Int32)), p0) rfl)
def J0_56 (s : List Int32) (p0 : Ob) (x2 : Int32) (x3 : Int32) (x5 : Int32) (x6 : Int32) : Option (((Int32 × QHeap)) ⊕ (Int32 × Int32 × Ob)) :=
  (F20 p0 x5 x6).bind fun r41 => (J0_136 s r41.2 x2 x3 x5)
theorem tJ0_56 (Ad : QAd n0 ad) (W : QW Z a0) (s : List Int32) (p0 : Ob) (x2 : Int32) (x3 : Int32) (x5 : Int32) (x6 : Int32) {r : ((Int32 × QHeap)) ⊕ (Int32 × Int32 × Ob)} {u : Option Value} {τ : QHeap} (h : J0_56 s p0 x2 x3 x5 x6 = some r) (hx0 : ∀ x : Int32 × QHeap, r = .inl x → u = (some (Value.int x.1)) ∧ τ = x.2) (hc : ∀ x : Int32 × Int32 × Ob, r = .inr x → QTri l Z n0 ad 0 (15, [vR 0, vR 1, vI x.1, vI x.2.1, none, none, none], [], (H0 s x.2.2)) u τ) : QTri l Z n0 ad 0 (56, [vR 0, vR 1, vI x2, vI x3, none, vI x5, vI x6], [], (H0 s p0)) u τ := by
 unfold J0_56 at h
 refine zS Ad W 3 (st' := (61, [vR 0, vR 1, vI x2, vI x3, none, vI x5, vI x6], [.int x6, .int x5, .ref 1], (H0 s p0))) rfl ?_
 obtain ⟨r41, hr41, h⟩ := bind_eq_some_iff.mp h
 refine QTri.callV W (a := 1) (as := [.int x5, .int x6]) (rest := []) (w := (some (.int r41.1))) (σ₁ := (H0 s r41.2)) rfl rfl rfl rfl rfl rfl rfl rfl (tF20 Ad W s p0 x5 x6 hr41) ?_
 refine zS Ad W 2 (st' := (136, [vR 0, vR 1, vI x2, vI x3, none, vI x5, vI x6], [], (H0 s r41.2))) rfl ?_
 exact zM [tt,tt,tt,tt,ff,tt,ff] (tJ0_136 Ad W s r41.2 x2 x3 x5 h hx0 hc)
def B33_14 (v : Int32 × Ob) : Option (((Ob)) ⊕ (Int32 × Ob)) :=
  (if (v.1 + (1 : Int32)) < (f_curCount v.2) then (aget (f_curVal v.2) (v.1 + (1 : Int32))).bind fun y139 => (aset (f_curVal v.2) v.1 y139).bind fun y140 => (aget (f_curTgt v.2) (v.1 + (1 : Int32))).bind fun y141 => (aset (f_curTgt v.2) v.1 (y141.toInt8.toInt32)).bind fun y142 => some (.inr ((v.1 + (1 : Int32)), (s_curTgt (s_curVal v.2 y140) y142))) else some (.inl v.2))
theorem tB33_14 (Ad : QAd n0 ad) (W : QW Z a0) (s : List Int32) (v : Int32 × Ob) {r : ((Ob)) ⊕ (Int32 × Ob)} {u : Option Value} {τ : QHeap} (h : B33_14 v = some r) (hx0 : ∀ x : Ob, r = .inl x → QTri l Z n0 ad 33 (58, [vR 1, none, none, none], [], (H0 s x)) u τ) (hc : ∀ x : Int32 × Ob, r = .inr x → QTri l Z n0 ad 33 (14, [vR 1, none, none, vI x.1], [], (H0 s x.2)) u τ) : QTri l Z n0 ad 33 (14, [vR 1, none, none, vI v.1], [], (H0 s v.2)) u τ := by
 unfold B33_14 at h
 refine zS Ad W 5 (st' := (21, [vR 1, none, none, vI v.1], [.int (f_curCount v.2), .int (v.1 + (1:Int32))], (H0 s v.2))) rfl ?_
 rcases qite h with ⟨hc138, h⟩ | ⟨hc138, h⟩
 ·refine zF Ad W (t := 58) (f := 24) rfl (XT.ii_ge_f hc138) ?_
  refine zS Ad W 8 (st' := (36, [vR 1, none, none, vI v.1], [.int (v.1 + (1:Int32)), .ref 2, .int v.1, .ref 2], (H0 s v.2))) rfl ?_
  obtain ⟨y139, hy139, h⟩ := bind_eq_some_iff.mp h
  refine zB Ad W (f := fun y139 => (37, [vR 1, none, none, vI v.1], [.int y139, .int v.1, .ref 2], (H0 s v.2))) rfl hy139 ?_
  obtain ⟨y140, hy140, h⟩ := bind_eq_some_iff.mp h
  refine zB Ad W (f := fun y140 => (38, [vR 1, none, none, vI v.1], [], (H0x15 s v.2 y140))) rfl hy140 ?_
  refine zS Ad W 8 (st' := (50, [vR 1, none, none, vI v.1], [.int (v.1 + (1:Int32)), .ref 3, .int v.1, .ref 3], (H0x15 s v.2 y140))) rfl ?_
  obtain ⟨y141, hy141, h⟩ := bind_eq_some_iff.mp h
  refine zB Ad W (f := fun y141 => (51, [vR 1, none, none, vI v.1], [.int y141, .int v.1, .ref 3], (H0x15 s v.2 y140))) rfl hy141 ?_
  obtain ⟨y142, hy142, h⟩ := bind_eq_some_iff.mp h
  refine zB Ad W (f := fun y142 => (52, [vR 1, none, none, vI v.1], [], (H0x16 s v.2 y140 y142))) rfl hy142 ?_
  refine zS Ad W 2 (st' := (14, [vR 1, none, none, vI (v.1 + (1:Int32))], [], (H0x16 s v.2 y140 y142))) rfl ?_
  have E143 : ((H0x16 s v.2 y140 y142) : QHeap) = (H0 s (s_curTgt (s_curVal v.2 y140) y142)) := by simp only [fs, H0, H0v, H0x16, s_curVal, s_curTgt]
  rw [E143]
  obtain rfl := Option.some.inj h
  exact zM [tt,ff,ff,tt] (hc ((v.1 + (1:Int32)), (s_curTgt (s_curVal v.2 y140) y142)) rfl)
 ·refine zT Ad W (t := 58) (f := 24) rfl (XT.ii_ge_t hc138) ?_
  obtain rfl := Option.some.inj h
  exact zM [tt,ff,ff,ff] (hx0 v.2 rfl)
def H0x19 (s : List Int32) (o0 : Ob) (a0_36 : Int32) (a0_38 : Int32) : QHeap := H0v s (f_opRet o0) (f_opLess o0) (f_opEq o0) (f_opTable o0) (f_opBits o0) (f_maxCap o0) (f_maxTargets o0) (f_maxSteps o0) (f_tableSpanPerCase o0) (f_maxTableSpan o0) (f_maxBitSpan o0) (f_maxBitTargets o0) (f_unsignedMask o0) (f_maxInt o0) (f_curVal o0) (f_curTgt o0) (f_snapVal o0) (f_snapTgt o0) (f_bestCost o0) (f_bestCut o0) (f_clStart o0) (f_clEnd o0) (f_opc o0) (f_argA o0) (f_argB o0) (f_argC o0) (f_argD o0) (f_tablePool o0) (f_maskPool o0) (f_maskTarget o0) (f_stLo o0) (f_stHi o0) (f_stParent o0) (f_stSlot o0) (f_cap o0) (f_targets o0) a0_36 (f_curDefault o0) a0_38 (f_snapCount o0) (f_snapDefault o0) (f_hasSnap o0) (f_clCount o0) (f_codeLen o0) (f_rootPc o0) (f_tableUsed o0) (f_maskUsed o0) (f_sp o0)
/-- removeCase(I)I -/
def F33 (o : Ob) (x1 : Int32) : Option (Int32 × Ob) :=
 (F18 o x1).bind fun r136 => (if r136 < (0:Int32) then some ((4:Int32), o) else (loopN (B33_14) qN (r136, o)).bind fun e144 => some ((0:Int32), (s_dirty (s_curCount e144 ((f_curCount e144) - (1:Int32))) (1:Int32))))
theorem tF33 (Ad : QAd n0 ad) (W : QW Z a0) (s : List Int32) (o : Ob) (x1 : Int32) {r : Int32 × Ob} (h : F33 o x1 = some r) : QTri l Z n0 ad 33 (0, qentry [.ref 1, .int x1] (pMaxL 33), [], (H0 s o)) (some (Value.int r.1)) (H0 s r.2) := by
 unfold F33 at h
 refine zS Ad W 2 (st' := (2, [vR 1, vI x1, none, none], [.int x1, .ref 1], (H0 s o))) rfl ?_
 obtain ⟨r136, hr136, h⟩ := bind_eq_some_iff.mp h
 refine QTri.callP W (a := 1) (as := [.int x1]) (rest := []) (w := (some (.int r136))) (σ₁ := (H0 s o)) rfl rfl rfl rfl rfl rfl rfl rfl (tF18 Ad W s o x1 hr136) ?_
 refine zS Ad W 2 (st' := (7, [vR 1, vI x1, vI r136, none], [.int r136], (H0 s o))) rfl ?_
 rcases qite h with ⟨hc137, h⟩ | ⟨hc137, h⟩
 ·refine zF Ad W (t := 12) (f := 10) rfl (XT.i0_ge_f hc137) ?_
  refine zS Ad W 1 (st' := (11, [vR 1, vI x1, vI r136, none], [.int (4:Int32)], (H0 s o))) rfl ?_
  obtain rfl := Option.some.inj h
  exact QTri.retI rfl rfl
 ·refine zT Ad W (t := 12) (f := 10) rfl (XT.i0_ge_t hc137) ?_
  refine zS Ad W 2 (st' := (14, [vR 1, vI x1, vI r136, vI r136], [], (H0 s o))) rfl ?_
  obtain ⟨e144, he144, h⟩ := bind_eq_some_iff.mp h
  refine zM [tt,ff,ff,tt] (loopN_tri (B := B33_14) (T := fun lv145 => QTri l Z n0 ad 33 (14, [vR 1, none, none, vI lv145.1], [], (H0 s lv145.2)) (some (Value.int r.1)) (H0 s r.2)) (KE := fun e144a => QTri l Z n0 ad 33 (58, [vR 1, none, none, none], [], (H0 s e144a)) (some (Value.int r.1)) (H0 s r.2)) (fun lv145 r hB hE hC => tB33_14 Ad W s lv145 hB (fun x q => hE _ q) (fun x q => hC x q)) qN (r136, o) e144 he144 ?_)
  refine zS Ad W 6 (st' := (68, [vR 1, none, none, none], [], (H0x3 s e144 ((f_curCount e144) - (1:Int32))))) rfl ?_
  refine zS Ad W 3 (st' := (73, [vR 1, none, none, none], [], (H0x19 s e144 ((f_curCount e144) - (1:Int32)) (1:Int32)))) rfl ?_
  refine zS Ad W 1 (st' := (74, [vR 1, none, none, none], [.int (0:Int32)], (H0x19 s e144 ((f_curCount e144) - (1:Int32)) (1:Int32)))) rfl ?_
  have E146 : ((H0x19 s e144 ((f_curCount e144) - (1:Int32)) (1:Int32)) : QHeap) = (H0 s (s_dirty (s_curCount e144 ((f_curCount e144) - (1:Int32))) (1:Int32))) := by simp only [fs, H0, H0v, H0x19, s_curCount, s_dirty]
  rw [E146]
  obtain rfl := Option.some.inj h
  exact QTri.retI rfl rfl
def J0_81 (s : List Int32) (p0 : Ob) (x2 : Int32) (x3 : Int32) (x5 : Int32) : Option (((Int32 × QHeap)) ⊕ (Int32 × Int32 × Ob)) :=
  (F33 p0 x5).bind fun r147 => (J0_136 s r147.2 x2 x3 x5)
theorem tJ0_81 (Ad : QAd n0 ad) (W : QW Z a0) (s : List Int32) (p0 : Ob) (x2 : Int32) (x3 : Int32) (x5 : Int32) {r : ((Int32 × QHeap)) ⊕ (Int32 × Int32 × Ob)} {u : Option Value} {τ : QHeap} (h : J0_81 s p0 x2 x3 x5 = some r) (hx0 : ∀ x : Int32 × QHeap, r = .inl x → u = (some (Value.int x.1)) ∧ τ = x.2) (hc : ∀ x : Int32 × Int32 × Ob, r = .inr x → QTri l Z n0 ad 0 (15, [vR 0, vR 1, vI x.1, vI x.2.1, none, none, none], [], (H0 s x.2.2)) u τ) : QTri l Z n0 ad 0 (81, [vR 0, vR 1, vI x2, vI x3, none, vI x5, none], [], (H0 s p0)) u τ := by
 unfold J0_81 at h
 refine zS Ad W 2 (st' := (84, [vR 0, vR 1, vI x2, vI x3, none, vI x5, none], [.int x5, .ref 1], (H0 s p0))) rfl ?_
 obtain ⟨r147, hr147, h⟩ := bind_eq_some_iff.mp h
 refine QTri.callV W (a := 1) (as := [.int x5]) (rest := []) (w := (some (.int r147.1))) (σ₁ := (H0 s r147.2)) rfl rfl rfl rfl rfl rfl rfl rfl (tF33 Ad W s p0 x5 hr147) ?_
 refine zS Ad W 2 (st' := (136, [vR 0, vR 1, vI x2, vI x3, none, vI x5, none], [], (H0 s r147.2))) rfl ?_
 exact zM [tt,tt,tt,tt,ff,tt,ff] (tJ0_136 Ad W s r147.2 x2 x3 x5 h hx0 hc)
def H0x20 (s : List Int32) (o0 : Ob) (a0_37 : Int32) : QHeap := H0v s (f_opRet o0) (f_opLess o0) (f_opEq o0) (f_opTable o0) (f_opBits o0) (f_maxCap o0) (f_maxTargets o0) (f_maxSteps o0) (f_tableSpanPerCase o0) (f_maxTableSpan o0) (f_maxBitSpan o0) (f_maxBitTargets o0) (f_unsignedMask o0) (f_maxInt o0) (f_curVal o0) (f_curTgt o0) (f_snapVal o0) (f_snapTgt o0) (f_bestCost o0) (f_bestCut o0) (f_clStart o0) (f_clEnd o0) (f_opc o0) (f_argA o0) (f_argB o0) (f_argC o0) (f_argD o0) (f_tablePool o0) (f_maskPool o0) (f_maskTarget o0) (f_stLo o0) (f_stHi o0) (f_stParent o0) (f_stSlot o0) (f_cap o0) (f_targets o0) (f_curCount o0) a0_37 (f_dirty o0) (f_snapCount o0) (f_snapDefault o0) (f_hasSnap o0) (f_clCount o0) (f_codeLen o0) (f_rootPc o0) (f_tableUsed o0) (f_maskUsed o0) (f_sp o0)
def H0x21 (s : List Int32) (o0 : Ob) (a0_37 : Int32) (a0_38 : Int32) : QHeap := H0v s (f_opRet o0) (f_opLess o0) (f_opEq o0) (f_opTable o0) (f_opBits o0) (f_maxCap o0) (f_maxTargets o0) (f_maxSteps o0) (f_tableSpanPerCase o0) (f_maxTableSpan o0) (f_maxBitSpan o0) (f_maxBitTargets o0) (f_unsignedMask o0) (f_maxInt o0) (f_curVal o0) (f_curTgt o0) (f_snapVal o0) (f_snapTgt o0) (f_bestCost o0) (f_bestCut o0) (f_clStart o0) (f_clEnd o0) (f_opc o0) (f_argA o0) (f_argB o0) (f_argC o0) (f_argD o0) (f_tablePool o0) (f_maskPool o0) (f_maskTarget o0) (f_stLo o0) (f_stHi o0) (f_stParent o0) (f_stSlot o0) (f_cap o0) (f_targets o0) (f_curCount o0) a0_37 a0_38 (f_snapCount o0) (f_snapDefault o0) (f_hasSnap o0) (f_clCount o0) (f_codeLen o0) (f_rootPc o0) (f_tableUsed o0) (f_maskUsed o0) (f_sp o0)
/-- setDefault(I)I -/
def F22 (o : Ob) (x1 : Int32) : Option (Int32 × Ob) :=
 (if x1 < (0:Int32) then some ((3:Int32), o) else (if x1 < (f_targets o) then some ((0:Int32), (s_dirty (s_curDefault o x1) (1:Int32))) else some ((3:Int32), o)))
theorem tF22 (Ad : QAd n0 ad) (W : QW Z a0) (s : List Int32) (o : Ob) (x1 : Int32) {r : Int32 × Ob} (h : F22 o x1 = some r) : QTri l Z n0 ad 22 (0, qentry [.ref 1, .int x1] (pMaxL 22), [], (H0 s o)) (some (Value.int r.1)) (H0 s r.2) := by
 unfold F22 at h
 refine zS Ad W 1 (st' := (1, [vR 1, vI x1], [.int x1], (H0 s o))) rfl ?_
 rcases qite h with ⟨hc150, h⟩ | ⟨hc150, h⟩
 ·refine zT Ad W (t := 12) (f := 4) rfl (XT.i0_lt_t hc150) ?_
  refine zS Ad W 1 (st' := (13, [vR 1, vI x1], [.int (3:Int32)], (H0 s o))) rfl ?_
  obtain rfl := Option.some.inj h
  exact QTri.retI rfl rfl
 ·refine zF Ad W (t := 12) (f := 4) rfl (XT.i0_lt_f hc150) ?_
  refine zS Ad W 3 (st' := (9, [vR 1, vI x1], [.int (f_targets o), .int x1], (H0 s o))) rfl ?_
  rcases qite h with ⟨hc151, h⟩ | ⟨hc151, h⟩
  ·refine zT Ad W (t := 14) (f := 12) rfl (XT.ii_lt_t hc151) ?_
   refine zS Ad W 3 (st' := (19, [vR 1, vI x1], [], (H0x20 s o x1))) rfl ?_
   refine zS Ad W 3 (st' := (24, [vR 1, vI x1], [], (H0x21 s o x1 (1:Int32)))) rfl ?_
   refine zS Ad W 1 (st' := (25, [vR 1, vI x1], [.int (0:Int32)], (H0x21 s o x1 (1:Int32)))) rfl ?_
   have E152 : ((H0x21 s o x1 (1:Int32)) : QHeap) = (H0 s (s_dirty (s_curDefault o x1) (1:Int32))) := by simp only [fs, H0, H0v, H0x21, s_curDefault, s_dirty]
   rw [E152]
   obtain rfl := Option.some.inj h
   exact QTri.retI rfl rfl
  ·refine zF Ad W (t := 14) (f := 12) rfl (XT.ii_lt_f hc151) ?_
   refine zS Ad W 1 (st' := (13, [vR 1, vI x1], [.int (3:Int32)], (H0 s o))) rfl ?_
   obtain rfl := Option.some.inj h
   exact QTri.retI rfl rfl
def J0_104 (s : List Int32) (p0 : Ob) (x2 : Int32) (x3 : Int32) (x5 : Int32) : Option (((Int32 × QHeap)) ⊕ (Int32 × Int32 × Ob)) :=
  (F22 p0 x5).bind fun r153 => (J0_136 s r153.2 x2 x3 x5)
theorem tJ0_104 (Ad : QAd n0 ad) (W : QW Z a0) (s : List Int32) (p0 : Ob) (x2 : Int32) (x3 : Int32) (x5 : Int32) {r : ((Int32 × QHeap)) ⊕ (Int32 × Int32 × Ob)} {u : Option Value} {τ : QHeap} (h : J0_104 s p0 x2 x3 x5 = some r) (hx0 : ∀ x : Int32 × QHeap, r = .inl x → u = (some (Value.int x.1)) ∧ τ = x.2) (hc : ∀ x : Int32 × Int32 × Ob, r = .inr x → QTri l Z n0 ad 0 (15, [vR 0, vR 1, vI x.1, vI x.2.1, none, none, none], [], (H0 s x.2.2)) u τ) : QTri l Z n0 ad 0 (104, [vR 0, vR 1, vI x2, vI x3, none, vI x5, none], [], (H0 s p0)) u τ := by
 unfold J0_104 at h
 refine zS Ad W 2 (st' := (107, [vR 0, vR 1, vI x2, vI x3, none, vI x5, none], [.int x5, .ref 1], (H0 s p0))) rfl ?_
 obtain ⟨r153, hr153, h⟩ := bind_eq_some_iff.mp h
 refine QTri.callV W (a := 1) (as := [.int x5]) (rest := []) (w := (some (.int r153.1))) (σ₁ := (H0 s r153.2)) rfl rfl rfl rfl rfl rfl rfl rfl (tF22 Ad W s p0 x5 hr153) ?_
 refine zS Ad W 2 (st' := (136, [vR 0, vR 1, vI x2, vI x3, none, vI x5, none], [], (H0 s r153.2))) rfl ?_
 exact zM [tt,tt,tt,tt,ff,tt,ff] (tJ0_136 Ad W s r153.2 x2 x3 x5 h hx0 hc)
def H0x22 (s : List Int32) (o0 : Ob) (a0_39 : Int32) : QHeap := H0v s (f_opRet o0) (f_opLess o0) (f_opEq o0) (f_opTable o0) (f_opBits o0) (f_maxCap o0) (f_maxTargets o0) (f_maxSteps o0) (f_tableSpanPerCase o0) (f_maxTableSpan o0) (f_maxBitSpan o0) (f_maxBitTargets o0) (f_unsignedMask o0) (f_maxInt o0) (f_curVal o0) (f_curTgt o0) (f_snapVal o0) (f_snapTgt o0) (f_bestCost o0) (f_bestCut o0) (f_clStart o0) (f_clEnd o0) (f_opc o0) (f_argA o0) (f_argB o0) (f_argC o0) (f_argD o0) (f_tablePool o0) (f_maskPool o0) (f_maskTarget o0) (f_stLo o0) (f_stHi o0) (f_stParent o0) (f_stSlot o0) (f_cap o0) (f_targets o0) (f_curCount o0) (f_curDefault o0) (f_dirty o0) a0_39 (f_snapDefault o0) (f_hasSnap o0) (f_clCount o0) (f_codeLen o0) (f_rootPc o0) (f_tableUsed o0) (f_maskUsed o0) (f_sp o0)
def H0x23 (s : List Int32) (o0 : Ob) (a0_39 : Int32) (a0_40 : Int32) : QHeap := H0v s (f_opRet o0) (f_opLess o0) (f_opEq o0) (f_opTable o0) (f_opBits o0) (f_maxCap o0) (f_maxTargets o0) (f_maxSteps o0) (f_tableSpanPerCase o0) (f_maxTableSpan o0) (f_maxBitSpan o0) (f_maxBitTargets o0) (f_unsignedMask o0) (f_maxInt o0) (f_curVal o0) (f_curTgt o0) (f_snapVal o0) (f_snapTgt o0) (f_bestCost o0) (f_bestCut o0) (f_clStart o0) (f_clEnd o0) (f_opc o0) (f_argA o0) (f_argB o0) (f_argC o0) (f_argD o0) (f_tablePool o0) (f_maskPool o0) (f_maskTarget o0) (f_stLo o0) (f_stHi o0) (f_stParent o0) (f_stSlot o0) (f_cap o0) (f_targets o0) (f_curCount o0) (f_curDefault o0) (f_dirty o0) a0_39 a0_40 (f_hasSnap o0) (f_clCount o0) (f_codeLen o0) (f_rootPc o0) (f_tableUsed o0) (f_maskUsed o0) (f_sp o0)
def H0x24 (s : List Int32) (o0 : Ob) (a0_16 : List Int32) : QHeap := H0v s (f_opRet o0) (f_opLess o0) (f_opEq o0) (f_opTable o0) (f_opBits o0) (f_maxCap o0) (f_maxTargets o0) (f_maxSteps o0) (f_tableSpanPerCase o0) (f_maxTableSpan o0) (f_maxBitSpan o0) (f_maxBitTargets o0) (f_unsignedMask o0) (f_maxInt o0) (f_curVal o0) (f_curTgt o0) a0_16 (f_snapTgt o0) (f_bestCost o0) (f_bestCut o0) (f_clStart o0) (f_clEnd o0) (f_opc o0) (f_argA o0) (f_argB o0) (f_argC o0) (f_argD o0) (f_tablePool o0) (f_maskPool o0) (f_maskTarget o0) (f_stLo o0) (f_stHi o0) (f_stParent o0) (f_stSlot o0) (f_cap o0) (f_targets o0) (f_curCount o0) (f_curDefault o0) (f_dirty o0) (f_snapCount o0) (f_snapDefault o0) (f_hasSnap o0) (f_clCount o0) (f_codeLen o0) (f_rootPc o0) (f_tableUsed o0) (f_maskUsed o0) (f_sp o0)
def H0x25 (s : List Int32) (o0 : Ob) (a0_16 : List Int32) (a0_17 : List Int32) : QHeap := H0v s (f_opRet o0) (f_opLess o0) (f_opEq o0) (f_opTable o0) (f_opBits o0) (f_maxCap o0) (f_maxTargets o0) (f_maxSteps o0) (f_tableSpanPerCase o0) (f_maxTableSpan o0) (f_maxBitSpan o0) (f_maxBitTargets o0) (f_unsignedMask o0) (f_maxInt o0) (f_curVal o0) (f_curTgt o0) a0_16 a0_17 (f_bestCost o0) (f_bestCut o0) (f_clStart o0) (f_clEnd o0) (f_opc o0) (f_argA o0) (f_argB o0) (f_argC o0) (f_argD o0) (f_tablePool o0) (f_maskPool o0) (f_maskTarget o0) (f_stLo o0) (f_stHi o0) (f_stParent o0) (f_stSlot o0) (f_cap o0) (f_targets o0) (f_curCount o0) (f_curDefault o0) (f_dirty o0) (f_snapCount o0) (f_snapDefault o0) (f_hasSnap o0) (f_clCount o0) (f_codeLen o0) (f_rootPc o0) (f_tableUsed o0) (f_maskUsed o0) (f_sp o0)
def H0x26 (s : List Int32) (o0 : Ob) (a0_41 : Int32) : QHeap := H0v s (f_opRet o0) (f_opLess o0) (f_opEq o0) (f_opTable o0) (f_opBits o0) (f_maxCap o0) (f_maxTargets o0) (f_maxSteps o0) (f_tableSpanPerCase o0) (f_maxTableSpan o0) (f_maxBitSpan o0) (f_maxBitTargets o0) (f_unsignedMask o0) (f_maxInt o0) (f_curVal o0) (f_curTgt o0) (f_snapVal o0) (f_snapTgt o0) (f_bestCost o0) (f_bestCut o0) (f_clStart o0) (f_clEnd o0) (f_opc o0) (f_argA o0) (f_argB o0) (f_argC o0) (f_argD o0) (f_tablePool o0) (f_maskPool o0) (f_maskTarget o0) (f_stLo o0) (f_stHi o0) (f_stParent o0) (f_stSlot o0) (f_cap o0) (f_targets o0) (f_curCount o0) (f_curDefault o0) (f_dirty o0) (f_snapCount o0) (f_snapDefault o0) a0_41 (f_clCount o0) (f_codeLen o0) (f_rootPc o0) (f_tableUsed o0) (f_maskUsed o0) (f_sp o0)
def H0x27 (s : List Int32) (o0 : Ob) (a0_38 : Int32) (a0_41 : Int32) : QHeap := H0v s (f_opRet o0) (f_opLess o0) (f_opEq o0) (f_opTable o0) (f_opBits o0) (f_maxCap o0) (f_maxTargets o0) (f_maxSteps o0) (f_tableSpanPerCase o0) (f_maxTableSpan o0) (f_maxBitSpan o0) (f_maxBitTargets o0) (f_unsignedMask o0) (f_maxInt o0) (f_curVal o0) (f_curTgt o0) (f_snapVal o0) (f_snapTgt o0) (f_bestCost o0) (f_bestCut o0) (f_clStart o0) (f_clEnd o0) (f_opc o0) (f_argA o0) (f_argB o0) (f_argC o0) (f_argD o0) (f_tablePool o0) (f_maskPool o0) (f_maskTarget o0) (f_stLo o0) (f_stHi o0) (f_stParent o0) (f_stSlot o0) (f_cap o0) (f_targets o0) (f_curCount o0) (f_curDefault o0) a0_38 (f_snapCount o0) (f_snapDefault o0) a0_41 (f_clCount o0) (f_codeLen o0) (f_rootPc o0) (f_tableUsed o0) (f_maskUsed o0) (f_sp o0)
def B5_18 (v : Int32 × Ob) : Option (((Ob)) ⊕ (Int32 × Ob)) :=
  (if v.1 < (f_curCount v.2) then (aget (f_curVal v.2) v.1).bind fun y158 => (aset (f_snapVal v.2) v.1 y158).bind fun y159 => (aget (f_curTgt v.2) v.1).bind fun y160 => (aset (f_snapTgt v.2) v.1 (y160.toInt8.toInt32)).bind fun y161 => some (.inr ((v.1 + (1 : Int32)), (s_snapTgt (s_snapVal v.2 y159) y161))) else some (.inl (s_dirty (s_hasSnap v.2 (1 : Int32)) (0 : Int32))))
theorem tB5_18 (Ad : QAd n0 ad) (W : QW Z a0) (s : List Int32) (v : Int32 × Ob) {r : ((Ob)) ⊕ (Int32 × Ob)} {u : Option Value} {τ : QHeap} (h : B5_18 v = some r) (hx0 : ∀ x : Ob, r = .inl x → u = (none : Option Value) ∧ τ = (H0 s x)) (hc : ∀ x : Int32 × Ob, r = .inr x → QTri l Z n0 ad 5 (18, [vR 1, vI x.1], [], (H0 s x.2)) u τ) : QTri l Z n0 ad 5 (18, [vR 1, vI v.1], [], (H0 s v.2)) u τ := by
 unfold B5_18 at h
 refine zS Ad W 3 (st' := (23, [vR 1, vI v.1], [.int (f_curCount v.2), .int v.1], (H0 s v.2))) rfl ?_
 rcases qite h with ⟨hc157, h⟩ | ⟨hc157, h⟩
 ·refine zF Ad W (t := 56) (f := 26) rfl (XT.ii_ge_f hc157) ?_
  refine zS Ad W 6 (st' := (36, [vR 1, vI v.1], [.int v.1, .ref 2, .int v.1, .ref 4], (H0 s v.2))) rfl ?_
  obtain ⟨y158, hy158, h⟩ := bind_eq_some_iff.mp h
  refine zB Ad W (f := fun y158 => (37, [vR 1, vI v.1], [.int y158, .int v.1, .ref 4], (H0 s v.2))) rfl hy158 ?_
  obtain ⟨y159, hy159, h⟩ := bind_eq_some_iff.mp h
  refine zB Ad W (f := fun y159 => (38, [vR 1, vI v.1], [], (H0x24 s v.2 y159))) rfl hy159 ?_
  refine zS Ad W 6 (st' := (48, [vR 1, vI v.1], [.int v.1, .ref 3, .int v.1, .ref 5], (H0x24 s v.2 y159))) rfl ?_
  obtain ⟨y160, hy160, h⟩ := bind_eq_some_iff.mp h
  refine zB Ad W (f := fun y160 => (49, [vR 1, vI v.1], [.int y160, .int v.1, .ref 5], (H0x24 s v.2 y159))) rfl hy160 ?_
  obtain ⟨y161, hy161, h⟩ := bind_eq_some_iff.mp h
  refine zB Ad W (f := fun y161 => (50, [vR 1, vI v.1], [], (H0x25 s v.2 y159 y161))) rfl hy161 ?_
  refine zS Ad W 2 (st' := (18, [vR 1, vI (v.1 + (1:Int32))], [], (H0x25 s v.2 y159 y161))) rfl ?_
  have E162 : ((H0x25 s v.2 y159 y161) : QHeap) = (H0 s (s_snapTgt (s_snapVal v.2 y159) y161)) := by simp only [fs, H0, H0v, H0x25, s_snapVal, s_snapTgt]
  rw [E162]
  obtain rfl := Option.some.inj h
  exact zM [tt,tt] (hc ((v.1 + (1:Int32)), (s_snapTgt (s_snapVal v.2 y159) y161)) rfl)
 ·refine zT Ad W (t := 56) (f := 26) rfl (XT.ii_ge_t hc157) ?_
  refine zS Ad W 3 (st' := (61, [vR 1, vI v.1], [], (H0x26 s v.2 (1:Int32)))) rfl ?_
  refine zS Ad W 3 (st' := (66, [vR 1, vI v.1], [], (H0x27 s v.2 (0:Int32) (1:Int32)))) rfl ?_
  have E163 : ((H0x27 s v.2 (0:Int32) (1:Int32)) : QHeap) = (H0 s (s_dirty (s_hasSnap v.2 (1:Int32)) (0:Int32))) := by simp only [fs, H0, H0v, H0x27, s_dirty, s_hasSnap]
  rw [E163]
  obtain rfl := Option.some.inj h
  obtain ⟨rfl, rfl⟩ := hx0 (s_dirty (s_hasSnap v.2 (1:Int32)) (0:Int32)) rfl
  exact QTri.ret0 rfl rfl
/-- takeSnapshot()V -/
def F5 (o : Ob) : Option (Ob) :=
 (loopN (B5_18) qN ((0:Int32), (s_snapDefault (s_snapCount o (f_curCount o)) (f_curDefault o)))).bind fun e164 => some e164
theorem tF5 (Ad : QAd n0 ad) (W : QW Z a0) (s : List Int32) (o : Ob) {r : Ob} (h : F5 o = some r) : QTri l Z n0 ad 5 (0, qentry [.ref 1] (pMaxL 5), [], (H0 s o)) (none : Option Value) (H0 s r) := by
 unfold F5 at h
 refine zS Ad W 4 (st' := (8, [vR 1, none], [], (H0x22 s o (f_curCount o)))) rfl ?_
 refine zS Ad W 4 (st' := (16, [vR 1, none], [], (H0x23 s o (f_curCount o) (f_curDefault o)))) rfl ?_
 refine zS Ad W 2 (st' := (18, [vR 1, vI (0:Int32)], [], (H0x23 s o (f_curCount o) (f_curDefault o)))) rfl ?_
 have E156 : ((H0x23 s o (f_curCount o) (f_curDefault o)) : QHeap) = (H0 s (s_snapDefault (s_snapCount o (f_curCount o)) (f_curDefault o))) := by simp only [fs, H0, H0v, H0x23, s_snapCount, s_snapDefault]
 rw [E156]
 obtain ⟨e164, he164, h⟩ := bind_eq_some_iff.mp h
 refine zM [tt,tt] (loopN_tri (B := B5_18) (T := fun lv165 => QTri l Z n0 ad 5 (18, [vR 1, vI lv165.1], [], (H0 s lv165.2)) (none : Option Value) (H0 s r)) (KE := fun e164a => (none : Option Value) = (none : Option Value) ∧ (H0 s r) = (H0 s e164a)) (fun lv165 r hB hE hC => tB5_18 Ad W s lv165 hB (fun x q => hE _ q) (fun x q => hC x q)) qN ((0:Int32), (s_snapDefault (s_snapCount o (f_curCount o)) (f_curDefault o))) e164 he164 ?_)
 obtain rfl := Option.some.inj h
 exact ⟨rfl, rfl⟩
def H0x28 (s : List Int32) (o0 : Ob) (a0_18 : List Int32) : QHeap := H0v s (f_opRet o0) (f_opLess o0) (f_opEq o0) (f_opTable o0) (f_opBits o0) (f_maxCap o0) (f_maxTargets o0) (f_maxSteps o0) (f_tableSpanPerCase o0) (f_maxTableSpan o0) (f_maxBitSpan o0) (f_maxBitTargets o0) (f_unsignedMask o0) (f_maxInt o0) (f_curVal o0) (f_curTgt o0) (f_snapVal o0) (f_snapTgt o0) a0_18 (f_bestCut o0) (f_clStart o0) (f_clEnd o0) (f_opc o0) (f_argA o0) (f_argB o0) (f_argC o0) (f_argD o0) (f_tablePool o0) (f_maskPool o0) (f_maskTarget o0) (f_stLo o0) (f_stHi o0) (f_stParent o0) (f_stSlot o0) (f_cap o0) (f_targets o0) (f_curCount o0) (f_curDefault o0) (f_dirty o0) (f_snapCount o0) (f_snapDefault o0) (f_hasSnap o0) (f_clCount o0) (f_codeLen o0) (f_rootPc o0) (f_tableUsed o0) (f_maskUsed o0) (f_sp o0)
def H0x29 (s : List Int32) (o0 : Ob) (a0_18 : List Int32) (a0_19 : List Int32) : QHeap := H0v s (f_opRet o0) (f_opLess o0) (f_opEq o0) (f_opTable o0) (f_opBits o0) (f_maxCap o0) (f_maxTargets o0) (f_maxSteps o0) (f_tableSpanPerCase o0) (f_maxTableSpan o0) (f_maxBitSpan o0) (f_maxBitTargets o0) (f_unsignedMask o0) (f_maxInt o0) (f_curVal o0) (f_curTgt o0) (f_snapVal o0) (f_snapTgt o0) a0_18 a0_19 (f_clStart o0) (f_clEnd o0) (f_opc o0) (f_argA o0) (f_argB o0) (f_argC o0) (f_argD o0) (f_tablePool o0) (f_maskPool o0) (f_maskTarget o0) (f_stLo o0) (f_stHi o0) (f_stParent o0) (f_stSlot o0) (f_cap o0) (f_targets o0) (f_curCount o0) (f_curDefault o0) (f_dirty o0) (f_snapCount o0) (f_snapDefault o0) (f_hasSnap o0) (f_clCount o0) (f_codeLen o0) (f_rootPc o0) (f_tableUsed o0) (f_maskUsed o0) (f_sp o0)
/-- clusterFits(JII)Z -/
def F23 (x1 : Int64) (x3 : Int32) (x4 : Int32) : Option (Int32) :=
 (if x3 < (2:Int32) then some (0:Int32) else (if (if (64 : Int64) < x1 then (0:Int32) else (if (3:Int32) < x4 then (0:Int32) else (1:Int32))) = (0:Int32) then (if (if ((4 : Int64) * (x3.toInt64)) < x1 then (0:Int32) else (1:Int32)) = (0:Int32) then some (0:Int32) else some (1:Int32)) else some (1:Int32)))
theorem tF23 (Ad : QAd n0 ad) (W : QW Z a0) {a : Nat} {σ : QHeap} (x1 : Int64) (x3 : Int32) (x4 : Int32) {r : Int32} (h : F23 x1 x3 x4 = some r) : QTri l Z n0 ad 23 (0, qentry [.ref a, .long x1, .int x3, .int x4] (pMaxL 23), [], σ) (some (Value.int r)) σ := by
 unfold F23 at h
 refine zS Ad W 2 (st' := (2, [vR a, vL x1, none, vI x3, vI x4, none, none], [.int (2:Int32), .int x3], σ)) rfl ?_
 rcases qite h with ⟨hc184, h⟩ | ⟨hc184, h⟩
 ·refine zF Ad W (t := 7) (f := 5) rfl (XT.ii_ge_f hc184) ?_
  refine zS Ad W 1 (st' := (6, [vR a, vL x1, none, vI x3, vI x4, none, none], [.int (0:Int32)], σ)) rfl ?_
  obtain rfl := Option.some.inj h
  exact QTri.retZ rfl rfl
 ·refine zT Ad W (t := 7) (f := 5) rfl (XT.ii_ge_t hc184) ?_
  refine zS Ad W 3 (st' := (12, [vR a, vL x1, none, vI x3, vI x4, none, none], [.int (XT.cmpL x1 (64 : Int64))], σ)) rfl ?_
  have K186 : ∀ z185 : Int32, z185 = (if (64 : Int64) < x1 then (0:Int32) else (if (3:Int32) < x4 then (0:Int32) else (1:Int32))) → QTri l Z n0 ad 23 (26, [none, vL x1, none, vI x3, none, none, none], [.int z185], σ) (some (Value.int r)) σ := by
   intro z185 ez185
   subst ez185
   refine zS Ad W 7 (st' := (36, [none, vL x1, none, vI x3, none, vI (if (64 : Int64) < x1 then (0:Int32) else (if (3:Int32) < x4 then (0:Int32) else (1:Int32))), none], [.int (XT.cmpL x1 ((4 : Int64) * (x3.toInt64)))], σ)) rfl ?_
   have K190 : ∀ z189 : Int32, z189 = (if ((4 : Int64) * (x3.toInt64)) < x1 then (0:Int32) else (1:Int32)) → QTri l Z n0 ad 23 (44, [none, none, none, none, none, vI (if (64 : Int64) < x1 then (0:Int32) else (if (3:Int32) < x4 then (0:Int32) else (1:Int32))), none], [.int z189], σ) (some (Value.int r)) σ := by
    intro z189 ez189
    subst ez189
    refine zS Ad W 2 (st' := (48, [none, none, none, none, none, vI (if (64 : Int64) < x1 then (0:Int32) else (if (3:Int32) < x4 then (0:Int32) else (1:Int32))), vI (if ((4 : Int64) * (x3.toInt64)) < x1 then (0:Int32) else (1:Int32))], [.int (if (64 : Int64) < x1 then (0:Int32) else (if (3:Int32) < x4 then (0:Int32) else (1:Int32)))], σ)) rfl ?_
    rcases qite h with ⟨hc192, h⟩ | ⟨hc192, h⟩
    ·refine zF Ad W (t := 56) (f := 51) rfl (XT.i0_ne_f hc192) ?_
     refine zS Ad W 1 (st' := (53, [none, none, none, none, none, vI (if (64 : Int64) < x1 then (0:Int32) else (if (3:Int32) < x4 then (0:Int32) else (1:Int32))), vI (if ((4 : Int64) * (x3.toInt64)) < x1 then (0:Int32) else (1:Int32))], [.int (if ((4 : Int64) * (x3.toInt64)) < x1 then (0:Int32) else (1:Int32))], σ)) rfl ?_
     rcases qite h with ⟨hc193, h⟩ | ⟨hc193, h⟩
     ·refine zT Ad W (t := 60) (f := 56) rfl (XT.i0_eq_t hc193) ?_
      refine zS Ad W 1 (st' := (61, [none, none, none, none, none, vI (if (64 : Int64) < x1 then (0:Int32) else (if (3:Int32) < x4 then (0:Int32) else (1:Int32))), vI (if ((4 : Int64) * (x3.toInt64)) < x1 then (0:Int32) else (1:Int32))], [.int (0:Int32)], σ)) rfl ?_
      obtain rfl := Option.some.inj h
      exact QTri.retZ rfl rfl
     ·refine zF Ad W (t := 60) (f := 56) rfl (XT.i0_eq_f hc193) ?_
      refine zS Ad W 2 (st' := (61, [none, none, none, none, none, vI (if (64 : Int64) < x1 then (0:Int32) else (if (3:Int32) < x4 then (0:Int32) else (1:Int32))), vI (if ((4 : Int64) * (x3.toInt64)) < x1 then (0:Int32) else (1:Int32))], [.int (1:Int32)], σ)) rfl ?_
      obtain rfl := Option.some.inj h
      exact QTri.retZ rfl rfl
    ·refine zT Ad W (t := 56) (f := 51) rfl (XT.i0_ne_t hc192) ?_
     refine zS Ad W 2 (st' := (61, [none, none, none, none, none, vI (if (64 : Int64) < x1 then (0:Int32) else (if (3:Int32) < x4 then (0:Int32) else (1:Int32))), vI (if ((4 : Int64) * (x3.toInt64)) < x1 then (0:Int32) else (1:Int32))], [.int (1:Int32)], σ)) rfl ?_
     obtain rfl := Option.some.inj h
     exact QTri.retZ rfl rfl
   rcases em (((4 : Int64) * (x3.toInt64)) < x1) with hc191 | hc191
   ·refine zT Ad W (t := 43) (f := 39) rfl (XT.ll_gt_t hc191) ?_
    refine zS Ad W 1 (st' := (44, [none, vL x1, none, vI x3, none, vI (if (64 : Int64) < x1 then (0:Int32) else (if (3:Int32) < x4 then (0:Int32) else (1:Int32))), none], [.int (0:Int32)], σ)) rfl ?_
    exact zM [ff,ff,ff,ff,ff,tt,ff] (K190 _ (if_pos hc191).symm)
   ·refine zF Ad W (t := 43) (f := 39) rfl (XT.ll_gt_f hc191) ?_
    refine zS Ad W 2 (st' := (44, [none, vL x1, none, vI x3, none, vI (if (64 : Int64) < x1 then (0:Int32) else (if (3:Int32) < x4 then (0:Int32) else (1:Int32))), none], [.int (1:Int32)], σ)) rfl ?_
    exact zM [ff,ff,ff,ff,ff,tt,ff] (K190 _ (if_neg hc191).symm)
  rcases em ((64 : Int64) < x1) with hc187 | hc187
  ·refine zT Ad W (t := 25) (f := 15) rfl (XT.ll_gt_t hc187) ?_
   refine zS Ad W 1 (st' := (26, [vR a, vL x1, none, vI x3, vI x4, none, none], [.int (0:Int32)], σ)) rfl ?_
   exact zM [ff,tt,ff,tt,ff,ff,ff] (K186 _ (if_pos hc187).symm)
  ·refine zF Ad W (t := 25) (f := 15) rfl (XT.ll_gt_f hc187) ?_
   refine zS Ad W 2 (st' := (18, [vR a, vL x1, none, vI x3, vI x4, none, none], [.int (3:Int32), .int x4], σ)) rfl ?_
   rcases em ((3:Int32) < x4) with hc188 | hc188
   ·refine zT Ad W (t := 25) (f := 21) rfl (XT.ii_gt_t hc188) ?_
    refine zS Ad W 1 (st' := (26, [vR a, vL x1, none, vI x3, vI x4, none, none], [.int (0:Int32)], σ)) rfl ?_
    exact zM [ff,tt,ff,tt,ff,ff,ff] (K186 _ ((if_neg hc187).trans (if_pos hc188)).symm)
   ·refine zF Ad W (t := 25) (f := 21) rfl (XT.ii_gt_f hc188) ?_
    refine zS Ad W 2 (st' := (26, [vR a, vL x1, none, vI x3, vI x4, none, none], [.int (1:Int32)], σ)) rfl ?_
    exact zM [ff,tt,ff,tt,ff,ff,ff] (K186 _ ((if_neg hc187).trans (if_neg hc188)).symm)
def J6_194 (o : Ob) (x1 : Int32) (x2 : Int32) (x3 : Int32) (x4 : Int32) (x5 : Int32) : Option (((Ob) ⊕ (Ob)) ⊕ (Int32 × Int32 × Int32 × Ob)) :=
  some (.inr (x3, x4, (x5 + (-1 : Int32)), o))
theorem tJ6_194 (Ad : QAd n0 ad) (W : QW Z a0) (s : List Int32) (o : Ob) (x1 : Int32) (x2 : Int32) (x3 : Int32) (x4 : Int32) (x5 : Int32) {r : ((Ob) ⊕ (Ob)) ⊕ (Int32 × Int32 × Int32 × Ob)} {u : Option Value} {τ : QHeap} (h : J6_194 o x1 x2 x3 x4 x5 = some r) (hx0 : ∀ x : Ob, r = .inl (Sum.inl x) → QTri l Z n0 ad 6 (123, [vR 1, vI x1, vI x2, none, none, none, none, none, none, none], [], (H0 s x)) u τ) (hx1 : ∀ x : Ob, r = .inl (Sum.inr x) → QTri l Z n0 ad 6 (200, [vR 1, vI x1, vI x2, none, none, none, none, none, none, none], [], (H0 s x)) u τ) (hc : ∀ x : Int32 × Int32 × Int32 × Ob, r = .inr x → QTri l Z n0 ad 6 (52, [vR 1, vI x1, vI x2, vI x.1, vI x.2.1, vI x.2.2.1, none, none, none, none], [], (H0 s x.2.2.2)) u τ) : QTri l Z n0 ad 6 (194, [vR 1, vI x1, vI x2, vI x3, vI x4, vI x5, none, none, none, none], [], (H0 s o)) u τ := by
 unfold J6_194 at h
 refine zS Ad W 2 (st' := (52, [vR 1, vI x1, vI x2, vI x3, vI x4, vI (x5 + (-1:Int32)), none, none, none, none], [], (H0 s o))) rfl ?_
 obtain rfl := Option.some.inj h
 exact zM [tt,tt,tt,tt,tt,tt,ff,ff,ff,ff] (hc (x3, x4, (x5 + (-1:Int32)), o) rfl)
def B6_52 (x1 : Int32) (x2 : Int32) (v : Int32 × Int32 × Int32 × Ob) : Option (((Ob) ⊕ (Ob)) ⊕ (Int32 × Int32 × Int32 × Ob)) :=
  (if v.2.2.1 < (0 : Int32) then some (.inl (Sum.inr v.2.2.2)) else (aget (f_snapTgt v.2.2.2) v.2.2.1).bind fun y175 => (aget (f_snapVal v.2.2.2) x2).bind fun y181 => (aget (f_snapVal v.2.2.2) v.2.2.1).bind fun y182 => (if (256 : Int64) < (((y181.toInt64) - (y182.toInt64)) + (1 : Int64)) then some (.inl (Sum.inl v.2.2.2)) else (F23 (((y181.toInt64) - (y182.toInt64)) + (1 : Int64)) ((x2 - v.2.2.1) + (1 : Int32)) (if y175 = (f_snapDefault v.2.2.2) then v.2.1 else (if (v.1 &&& ((1 : Int32) <<< (y175 &&& 31))) = (0 : Int32) then (v.2.1 + (1 : Int32)) else v.2.1))).bind fun r194 => (if r194 = (0 : Int32) then (J6_194 v.2.2.2 x1 x2 (if y175 = (f_snapDefault v.2.2.2) then v.1 else (if (v.1 &&& ((1 : Int32) <<< (y175 &&& 31))) = (0 : Int32) then (v.1 ||| ((1 : Int32) <<< (y175 &&& 31))) else v.1)) (if y175 = (f_snapDefault v.2.2.2) then v.2.1 else (if (v.1 &&& ((1 : Int32) <<< (y175 &&& 31))) = (0 : Int32) then (v.2.1 + (1 : Int32)) else v.2.1)) v.2.2.1) else (aget (f_bestCost v.2.2.2) v.2.2.1).bind fun y196 => (aget (f_bestCost v.2.2.2) (x2 + (1 : Int32))).bind fun y197 => (if (y196 + (1 : Int32)) < y197 then (aget (f_bestCost v.2.2.2) v.2.2.1).bind fun y199 => (aset (f_bestCost v.2.2.2) (x2 + (1 : Int32)) (y199 + (1 : Int32))).bind fun y200 => (aset (f_bestCut v.2.2.2) (x2 + (1 : Int32)) v.2.2.1).bind fun y201 => (J6_194 (s_bestCut (s_bestCost v.2.2.2 y200) y201) x1 x2 (if y175 = (f_snapDefault v.2.2.2) then v.1 else (if (v.1 &&& ((1 : Int32) <<< (y175 &&& 31))) = (0 : Int32) then (v.1 ||| ((1 : Int32) <<< (y175 &&& 31))) else v.1)) (if y175 = (f_snapDefault v.2.2.2) then v.2.1 else (if (v.1 &&& ((1 : Int32) <<< (y175 &&& 31))) = (0 : Int32) then (v.2.1 + (1 : Int32)) else v.2.1)) v.2.2.1) else (J6_194 v.2.2.2 x1 x2 (if y175 = (f_snapDefault v.2.2.2) then v.1 else (if (v.1 &&& ((1 : Int32) <<< (y175 &&& 31))) = (0 : Int32) then (v.1 ||| ((1 : Int32) <<< (y175 &&& 31))) else v.1)) (if y175 = (f_snapDefault v.2.2.2) then v.2.1 else (if (v.1 &&& ((1 : Int32) <<< (y175 &&& 31))) = (0 : Int32) then (v.2.1 + (1 : Int32)) else v.2.1)) v.2.2.1)))))
theorem tB6_52 (Ad : QAd n0 ad) (W : QW Z a0) (s : List Int32) (x1 : Int32) (x2 : Int32) (v : Int32 × Int32 × Int32 × Ob) {r : ((Ob) ⊕ (Ob)) ⊕ (Int32 × Int32 × Int32 × Ob)} {u : Option Value} {τ : QHeap} (h : B6_52 x1 x2 v = some r) (hx0 : ∀ x : Ob, r = .inl (Sum.inl x) → QTri l Z n0 ad 6 (123, [vR 1, vI x1, vI x2, none, none, none, none, none, none, none], [], (H0 s x)) u τ) (hx1 : ∀ x : Ob, r = .inl (Sum.inr x) → QTri l Z n0 ad 6 (200, [vR 1, vI x1, vI x2, none, none, none, none, none, none, none], [], (H0 s x)) u τ) (hc : ∀ x : Int32 × Int32 × Int32 × Ob, r = .inr x → QTri l Z n0 ad 6 (52, [vR 1, vI x1, vI x2, vI x.1, vI x.2.1, vI x.2.2.1, none, none, none, none], [], (H0 s x.2.2.2)) u τ) : QTri l Z n0 ad 6 (52, [vR 1, vI x1, vI x2, vI v.1, vI v.2.1, vI v.2.2.1, none, none, none, none], [], (H0 s v.2.2.2)) u τ := by
 unfold B6_52 at h
 refine zS Ad W 1 (st' := (54, [vR 1, vI x1, vI x2, vI v.1, vI v.2.1, vI v.2.2.1, none, none, none, none], [.int v.2.2.1], (H0 s v.2.2.2))) rfl ?_
 rcases qite h with ⟨hc174, h⟩ | ⟨hc174, h⟩
 ·refine zT Ad W (t := 200) (f := 57) rfl (XT.i0_lt_t hc174) ?_
  obtain rfl := Option.some.inj h
  exact zM [tt,tt,tt,ff,ff,ff,ff,ff,ff,ff] (hx1 v.2.2.2 rfl)
 ·refine zF Ad W (t := 200) (f := 57) rfl (XT.i0_lt_f hc174) ?_
  refine zS Ad W 3 (st' := (63, [vR 1, vI x1, vI x2, vI v.1, vI v.2.1, vI v.2.2.1, none, none, none, none], [.int v.2.2.1, .ref 5], (H0 s v.2.2.2))) rfl ?_
  obtain ⟨y175, hy175, h⟩ := bind_eq_some_iff.mp h
  refine zB Ad W (f := fun y175 => (64, [vR 1, vI x1, vI x2, vI v.1, vI v.2.1, vI v.2.2.1, none, none, none, none], [.int y175], (H0 s v.2.2.2))) rfl hy175 ?_
  refine zS Ad W 4 (st' := (72, [vR 1, vI x1, vI x2, vI v.1, vI v.2.1, vI v.2.2.1, vI y175, none, none, none], [.int (f_snapDefault v.2.2.2), .int y175], (H0 s v.2.2.2))) rfl ?_
  have K178 : ∀ z176 : Int32, z176 = (if y175 = (f_snapDefault v.2.2.2) then v.1 else (if (v.1 &&& ((1:Int32) <<< (y175 &&& 31))) = (0:Int32) then (v.1 ||| ((1:Int32) <<< (y175 &&& 31))) else v.1)) → ∀ z177 : Int32, z177 = (if y175 = (f_snapDefault v.2.2.2) then v.2.1 else (if (v.1 &&& ((1:Int32) <<< (y175 &&& 31))) = (0:Int32) then (v.2.1 + (1:Int32)) else v.2.1)) → QTri l Z n0 ad 6 (94, [vR 1, vI x1, vI x2, vI z176, vI z177, vI v.2.2.1, none, none, none, none], [], (H0 s v.2.2.2)) u τ := by
   intro z176 ez176
   intro z177 ez177
   subst ez176
   subst ez177
   refine zS Ad W 3 (st' := (99, [vR 1, vI x1, vI x2, vI (if y175 = (f_snapDefault v.2.2.2) then v.1 else (if (v.1 &&& ((1:Int32) <<< (y175 &&& 31))) = (0:Int32) then (v.1 ||| ((1:Int32) <<< (y175 &&& 31))) else v.1)), vI (if y175 = (f_snapDefault v.2.2.2) then v.2.1 else (if (v.1 &&& ((1:Int32) <<< (y175 &&& 31))) = (0:Int32) then (v.2.1 + (1:Int32)) else v.2.1)), vI v.2.2.1, none, none, none, none], [.int x2, .ref 4], (H0 s v.2.2.2))) rfl ?_
   obtain ⟨y181, hy181, h⟩ := bind_eq_some_iff.mp h
   refine zB Ad W (f := fun y181 => (100, [vR 1, vI x1, vI x2, vI (if y175 = (f_snapDefault v.2.2.2) then v.1 else (if (v.1 &&& ((1:Int32) <<< (y175 &&& 31))) = (0:Int32) then (v.1 ||| ((1:Int32) <<< (y175 &&& 31))) else v.1)), vI (if y175 = (f_snapDefault v.2.2.2) then v.2.1 else (if (v.1 &&& ((1:Int32) <<< (y175 &&& 31))) = (0:Int32) then (v.2.1 + (1:Int32)) else v.2.1)), vI v.2.2.1, none, none, none, none], [.int y181], (H0 s v.2.2.2))) rfl hy181 ?_
   refine zS Ad W 4 (st' := (107, [vR 1, vI x1, vI x2, vI (if y175 = (f_snapDefault v.2.2.2) then v.1 else (if (v.1 &&& ((1:Int32) <<< (y175 &&& 31))) = (0:Int32) then (v.1 ||| ((1:Int32) <<< (y175 &&& 31))) else v.1)), vI (if y175 = (f_snapDefault v.2.2.2) then v.2.1 else (if (v.1 &&& ((1:Int32) <<< (y175 &&& 31))) = (0:Int32) then (v.2.1 + (1:Int32)) else v.2.1)), vI v.2.2.1, none, none, none, none], [.int v.2.2.1, .ref 4, .long (y181.toInt64)], (H0 s v.2.2.2))) rfl ?_
   obtain ⟨y182, hy182, h⟩ := bind_eq_some_iff.mp h
   refine zB Ad W (f := fun y182 => (108, [vR 1, vI x1, vI x2, vI (if y175 = (f_snapDefault v.2.2.2) then v.1 else (if (v.1 &&& ((1:Int32) <<< (y175 &&& 31))) = (0:Int32) then (v.1 ||| ((1:Int32) <<< (y175 &&& 31))) else v.1)), vI (if y175 = (f_snapDefault v.2.2.2) then v.2.1 else (if (v.1 &&& ((1:Int32) <<< (y175 &&& 31))) = (0:Int32) then (v.2.1 + (1:Int32)) else v.2.1)), vI v.2.2.1, none, none, none, none], [.int y182, .long (y181.toInt64)], (H0 s v.2.2.2))) rfl hy182 ?_
   refine zS Ad W 8 (st' := (120, [vR 1, vI x1, vI x2, vI (if y175 = (f_snapDefault v.2.2.2) then v.1 else (if (v.1 &&& ((1:Int32) <<< (y175 &&& 31))) = (0:Int32) then (v.1 ||| ((1:Int32) <<< (y175 &&& 31))) else v.1)), vI (if y175 = (f_snapDefault v.2.2.2) then v.2.1 else (if (v.1 &&& ((1:Int32) <<< (y175 &&& 31))) = (0:Int32) then (v.2.1 + (1:Int32)) else v.2.1)), vI v.2.2.1, none, vL (((y181.toInt64) - (y182.toInt64)) + (1 : Int64)), none, none], [.int (XT.cmpL (((y181.toInt64) - (y182.toInt64)) + (1 : Int64)) (256 : Int64))], (H0 s v.2.2.2))) rfl ?_
   rcases qite h with ⟨hc183, h⟩ | ⟨hc183, h⟩
   ·refine zF Ad W (t := 126) (f := 123) rfl (XT.ll_le_f hc183) ?_
    obtain rfl := Option.some.inj h
    exact zM [tt,tt,tt,ff,ff,ff,ff,ff,ff,ff] (hx0 v.2.2.2 rfl)
   ·refine zT Ad W (t := 126) (f := 123) rfl (XT.ll_le_t hc183) ?_
    refine zS Ad W 8 (st' := (137, [vR 1, vI x1, vI x2, vI (if y175 = (f_snapDefault v.2.2.2) then v.1 else (if (v.1 &&& ((1:Int32) <<< (y175 &&& 31))) = (0:Int32) then (v.1 ||| ((1:Int32) <<< (y175 &&& 31))) else v.1)), vI (if y175 = (f_snapDefault v.2.2.2) then v.2.1 else (if (v.1 &&& ((1:Int32) <<< (y175 &&& 31))) = (0:Int32) then (v.2.1 + (1:Int32)) else v.2.1)), vI v.2.2.1, none, vL (((y181.toInt64) - (y182.toInt64)) + (1 : Int64)), none, none], [.int (if y175 = (f_snapDefault v.2.2.2) then v.2.1 else (if (v.1 &&& ((1:Int32) <<< (y175 &&& 31))) = (0:Int32) then (v.2.1 + (1:Int32)) else v.2.1)), .int ((x2 - v.2.2.1) + (1:Int32)), .long (((y181.toInt64) - (y182.toInt64)) + (1 : Int64)), .ref 1], (H0 s v.2.2.2))) rfl ?_
    obtain ⟨r194, hr194, h⟩ := bind_eq_some_iff.mp h
    refine QTri.callP W (a := 1) (as := [.long (((y181.toInt64) - (y182.toInt64)) + (1 : Int64)), .int ((x2 - v.2.2.1) + (1:Int32)), .int (if y175 = (f_snapDefault v.2.2.2) then v.2.1 else (if (v.1 &&& ((1:Int32) <<< (y175 &&& 31))) = (0:Int32) then (v.2.1 + (1:Int32)) else v.2.1))]) (rest := []) (w := (some (.int r194))) (σ₁ := (H0 s v.2.2.2)) rfl rfl rfl rfl rfl rfl rfl rfl (tF23 Ad W (((y181.toInt64) - (y182.toInt64)) + (1 : Int64)) ((x2 - v.2.2.1) + (1:Int32)) (if y175 = (f_snapDefault v.2.2.2) then v.2.1 else (if (v.1 &&& ((1:Int32) <<< (y175 &&& 31))) = (0:Int32) then (v.2.1 + (1:Int32)) else v.2.1)) hr194) ?_
    refine zS Ad W 2 (st' := (144, [vR 1, vI x1, vI x2, vI (if y175 = (f_snapDefault v.2.2.2) then v.1 else (if (v.1 &&& ((1:Int32) <<< (y175 &&& 31))) = (0:Int32) then (v.1 ||| ((1:Int32) <<< (y175 &&& 31))) else v.1)), vI (if y175 = (f_snapDefault v.2.2.2) then v.2.1 else (if (v.1 &&& ((1:Int32) <<< (y175 &&& 31))) = (0:Int32) then (v.2.1 + (1:Int32)) else v.2.1)), vI v.2.2.1, none, vL (((y181.toInt64) - (y182.toInt64)) + (1 : Int64)), none, vI r194], [.int r194], (H0 s v.2.2.2))) rfl ?_
    rcases qite h with ⟨hc195, h⟩ | ⟨hc195, h⟩
    ·refine zT Ad W (t := 194) (f := 147) rfl (XT.i0_eq_t hc195) ?_
     exact zM [tt,tt,tt,tt,tt,tt,ff,ff,ff,ff] (tJ6_194 Ad W s v.2.2.2 x1 x2 (if y175 = (f_snapDefault v.2.2.2) then v.1 else (if (v.1 &&& ((1:Int32) <<< (y175 &&& 31))) = (0:Int32) then (v.1 ||| ((1:Int32) <<< (y175 &&& 31))) else v.1)) (if y175 = (f_snapDefault v.2.2.2) then v.2.1 else (if (v.1 &&& ((1:Int32) <<< (y175 &&& 31))) = (0:Int32) then (v.2.1 + (1:Int32)) else v.2.1)) v.2.2.1 h hx0 hx1 hc)
    ·refine zF Ad W (t := 194) (f := 147) rfl (XT.i0_eq_f hc195) ?_
     refine zS Ad W 3 (st' := (153, [vR 1, vI x1, vI x2, vI (if y175 = (f_snapDefault v.2.2.2) then v.1 else (if (v.1 &&& ((1:Int32) <<< (y175 &&& 31))) = (0:Int32) then (v.1 ||| ((1:Int32) <<< (y175 &&& 31))) else v.1)), vI (if y175 = (f_snapDefault v.2.2.2) then v.2.1 else (if (v.1 &&& ((1:Int32) <<< (y175 &&& 31))) = (0:Int32) then (v.2.1 + (1:Int32)) else v.2.1)), vI v.2.2.1, none, vL (((y181.toInt64) - (y182.toInt64)) + (1 : Int64)), none, vI r194], [.int v.2.2.1, .ref 6], (H0 s v.2.2.2))) rfl ?_
     obtain ⟨y196, hy196, h⟩ := bind_eq_some_iff.mp h
     refine zB Ad W (f := fun y196 => (154, [vR 1, vI x1, vI x2, vI (if y175 = (f_snapDefault v.2.2.2) then v.1 else (if (v.1 &&& ((1:Int32) <<< (y175 &&& 31))) = (0:Int32) then (v.1 ||| ((1:Int32) <<< (y175 &&& 31))) else v.1)), vI (if y175 = (f_snapDefault v.2.2.2) then v.2.1 else (if (v.1 &&& ((1:Int32) <<< (y175 &&& 31))) = (0:Int32) then (v.2.1 + (1:Int32)) else v.2.1)), vI v.2.2.1, none, vL (((y181.toInt64) - (y182.toInt64)) + (1 : Int64)), none, vI r194], [.int y196], (H0 s v.2.2.2))) rfl hy196 ?_
     refine zS Ad W 7 (st' := (163, [vR 1, vI x1, vI x2, vI (if y175 = (f_snapDefault v.2.2.2) then v.1 else (if (v.1 &&& ((1:Int32) <<< (y175 &&& 31))) = (0:Int32) then (v.1 ||| ((1:Int32) <<< (y175 &&& 31))) else v.1)), vI (if y175 = (f_snapDefault v.2.2.2) then v.2.1 else (if (v.1 &&& ((1:Int32) <<< (y175 &&& 31))) = (0:Int32) then (v.2.1 + (1:Int32)) else v.2.1)), vI v.2.2.1, none, vL (((y181.toInt64) - (y182.toInt64)) + (1 : Int64)), none, vI r194], [.int (x2 + (1:Int32)), .ref 6, .int (y196 + (1:Int32))], (H0 s v.2.2.2))) rfl ?_
     obtain ⟨y197, hy197, h⟩ := bind_eq_some_iff.mp h
     refine zB Ad W (f := fun y197 => (164, [vR 1, vI x1, vI x2, vI (if y175 = (f_snapDefault v.2.2.2) then v.1 else (if (v.1 &&& ((1:Int32) <<< (y175 &&& 31))) = (0:Int32) then (v.1 ||| ((1:Int32) <<< (y175 &&& 31))) else v.1)), vI (if y175 = (f_snapDefault v.2.2.2) then v.2.1 else (if (v.1 &&& ((1:Int32) <<< (y175 &&& 31))) = (0:Int32) then (v.2.1 + (1:Int32)) else v.2.1)), vI v.2.2.1, none, vL (((y181.toInt64) - (y182.toInt64)) + (1 : Int64)), none, vI r194], [.int y197, .int (y196 + (1:Int32))], (H0 s v.2.2.2))) rfl hy197 ?_
     rcases qite h with ⟨hc198, h⟩ | ⟨hc198, h⟩
     ·refine zF Ad W (t := 194) (f := 167) rfl (XT.ii_ge_f hc198) ?_
      refine zS Ad W 8 (st' := (180, [vR 1, vI x1, vI x2, vI (if y175 = (f_snapDefault v.2.2.2) then v.1 else (if (v.1 &&& ((1:Int32) <<< (y175 &&& 31))) = (0:Int32) then (v.1 ||| ((1:Int32) <<< (y175 &&& 31))) else v.1)), vI (if y175 = (f_snapDefault v.2.2.2) then v.2.1 else (if (v.1 &&& ((1:Int32) <<< (y175 &&& 31))) = (0:Int32) then (v.2.1 + (1:Int32)) else v.2.1)), vI v.2.2.1, none, vL (((y181.toInt64) - (y182.toInt64)) + (1 : Int64)), none, vI r194], [.int v.2.2.1, .ref 6, .int (x2 + (1:Int32)), .ref 6], (H0 s v.2.2.2))) rfl ?_
      obtain ⟨y199, hy199, h⟩ := bind_eq_some_iff.mp h
      refine zB Ad W (f := fun y199 => (181, [vR 1, vI x1, vI x2, vI (if y175 = (f_snapDefault v.2.2.2) then v.1 else (if (v.1 &&& ((1:Int32) <<< (y175 &&& 31))) = (0:Int32) then (v.1 ||| ((1:Int32) <<< (y175 &&& 31))) else v.1)), vI (if y175 = (f_snapDefault v.2.2.2) then v.2.1 else (if (v.1 &&& ((1:Int32) <<< (y175 &&& 31))) = (0:Int32) then (v.2.1 + (1:Int32)) else v.2.1)), vI v.2.2.1, none, vL (((y181.toInt64) - (y182.toInt64)) + (1 : Int64)), none, vI r194], [.int y199, .int (x2 + (1:Int32)), .ref 6], (H0 s v.2.2.2))) rfl hy199 ?_
      refine zS Ad W 2 (st' := (183, [vR 1, vI x1, vI x2, vI (if y175 = (f_snapDefault v.2.2.2) then v.1 else (if (v.1 &&& ((1:Int32) <<< (y175 &&& 31))) = (0:Int32) then (v.1 ||| ((1:Int32) <<< (y175 &&& 31))) else v.1)), vI (if y175 = (f_snapDefault v.2.2.2) then v.2.1 else (if (v.1 &&& ((1:Int32) <<< (y175 &&& 31))) = (0:Int32) then (v.2.1 + (1:Int32)) else v.2.1)), vI v.2.2.1, none, vL (((y181.toInt64) - (y182.toInt64)) + (1 : Int64)), none, vI r194], [.int (y199 + (1:Int32)), .int (x2 + (1:Int32)), .ref 6], (H0 s v.2.2.2))) rfl ?_
      obtain ⟨y200, hy200, h⟩ := bind_eq_some_iff.mp h
      refine zB Ad W (f := fun y200 => (184, [vR 1, vI x1, vI x2, vI (if y175 = (f_snapDefault v.2.2.2) then v.1 else (if (v.1 &&& ((1:Int32) <<< (y175 &&& 31))) = (0:Int32) then (v.1 ||| ((1:Int32) <<< (y175 &&& 31))) else v.1)), vI (if y175 = (f_snapDefault v.2.2.2) then v.2.1 else (if (v.1 &&& ((1:Int32) <<< (y175 &&& 31))) = (0:Int32) then (v.2.1 + (1:Int32)) else v.2.1)), vI v.2.2.1, none, vL (((y181.toInt64) - (y182.toInt64)) + (1 : Int64)), none, vI r194], [], (H0x28 s v.2.2.2 y200))) rfl hy200 ?_
      refine zS Ad W 6 (st' := (193, [vR 1, vI x1, vI x2, vI (if y175 = (f_snapDefault v.2.2.2) then v.1 else (if (v.1 &&& ((1:Int32) <<< (y175 &&& 31))) = (0:Int32) then (v.1 ||| ((1:Int32) <<< (y175 &&& 31))) else v.1)), vI (if y175 = (f_snapDefault v.2.2.2) then v.2.1 else (if (v.1 &&& ((1:Int32) <<< (y175 &&& 31))) = (0:Int32) then (v.2.1 + (1:Int32)) else v.2.1)), vI v.2.2.1, none, vL (((y181.toInt64) - (y182.toInt64)) + (1 : Int64)), none, vI r194], [.int v.2.2.1, .int (x2 + (1:Int32)), .ref 7], (H0x28 s v.2.2.2 y200))) rfl ?_
      obtain ⟨y201, hy201, h⟩ := bind_eq_some_iff.mp h
      refine zB Ad W (f := fun y201 => (194, [vR 1, vI x1, vI x2, vI (if y175 = (f_snapDefault v.2.2.2) then v.1 else (if (v.1 &&& ((1:Int32) <<< (y175 &&& 31))) = (0:Int32) then (v.1 ||| ((1:Int32) <<< (y175 &&& 31))) else v.1)), vI (if y175 = (f_snapDefault v.2.2.2) then v.2.1 else (if (v.1 &&& ((1:Int32) <<< (y175 &&& 31))) = (0:Int32) then (v.2.1 + (1:Int32)) else v.2.1)), vI v.2.2.1, none, vL (((y181.toInt64) - (y182.toInt64)) + (1 : Int64)), none, vI r194], [], (H0x29 s v.2.2.2 y200 y201))) rfl hy201 ?_
      have E202 : ((H0x29 s v.2.2.2 y200 y201) : QHeap) = (H0 s (s_bestCut (s_bestCost v.2.2.2 y200) y201)) := by simp only [fs, H0, H0v, H0x29, s_bestCost, s_bestCut]
      rw [E202]
      exact zM [tt,tt,tt,tt,tt,tt,ff,ff,ff,ff] (tJ6_194 Ad W s (s_bestCut (s_bestCost v.2.2.2 y200) y201) x1 x2 (if y175 = (f_snapDefault v.2.2.2) then v.1 else (if (v.1 &&& ((1:Int32) <<< (y175 &&& 31))) = (0:Int32) then (v.1 ||| ((1:Int32) <<< (y175 &&& 31))) else v.1)) (if y175 = (f_snapDefault v.2.2.2) then v.2.1 else (if (v.1 &&& ((1:Int32) <<< (y175 &&& 31))) = (0:Int32) then (v.2.1 + (1:Int32)) else v.2.1)) v.2.2.1 h hx0 hx1 hc)
     ·refine zT Ad W (t := 194) (f := 167) rfl (XT.ii_ge_t hc198) ?_
      exact zM [tt,tt,tt,tt,tt,tt,ff,ff,ff,ff] (tJ6_194 Ad W s v.2.2.2 x1 x2 (if y175 = (f_snapDefault v.2.2.2) then v.1 else (if (v.1 &&& ((1:Int32) <<< (y175 &&& 31))) = (0:Int32) then (v.1 ||| ((1:Int32) <<< (y175 &&& 31))) else v.1)) (if y175 = (f_snapDefault v.2.2.2) then v.2.1 else (if (v.1 &&& ((1:Int32) <<< (y175 &&& 31))) = (0:Int32) then (v.2.1 + (1:Int32)) else v.2.1)) v.2.2.1 h hx0 hx1 hc)
  rcases em (y175 = (f_snapDefault v.2.2.2)) with hc179 | hc179
  ·refine zT Ad W (t := 94) (f := 75) rfl (XT.ii_eq_t hc179) ?_
   exact zM [tt,tt,tt,tt,tt,tt,ff,ff,ff,ff] (K178 _ (if_pos hc179).symm _ (if_pos hc179).symm)
  ·refine zF Ad W (t := 94) (f := 75) rfl (XT.ii_eq_f hc179) ?_
   refine zS Ad W 5 (st' := (81, [vR 1, vI x1, vI x2, vI v.1, vI v.2.1, vI v.2.2.1, vI y175, none, none, none], [.int (v.1 &&& ((1:Int32) <<< (y175 &&& 31)))], (H0 s v.2.2.2))) rfl ?_
   rcases em ((v.1 &&& ((1:Int32) <<< (y175 &&& 31))) = (0:Int32)) with hc180 | hc180
   ·refine zF Ad W (t := 94) (f := 84) rfl (XT.i0_ne_f hc180) ?_
    refine zS Ad W 7 (st' := (94, [vR 1, vI x1, vI x2, vI (v.1 ||| ((1:Int32) <<< (y175 &&& 31))), vI (v.2.1 + (1:Int32)), vI v.2.2.1, vI y175, none, none, none], [], (H0 s v.2.2.2))) rfl ?_
    exact zM [tt,tt,tt,tt,tt,tt,ff,ff,ff,ff] (K178 _ ((if_neg hc179).trans (if_pos hc180)).symm _ ((if_neg hc179).trans (if_pos hc180)).symm)
   ·refine zT Ad W (t := 94) (f := 84) rfl (XT.i0_ne_t hc180) ?_
    exact zM [tt,tt,tt,tt,tt,tt,ff,ff,ff,ff] (K178 _ ((if_neg hc179).trans (if_neg hc180)).symm _ ((if_neg hc179).trans (if_neg hc180)).symm)
def J6_200 (o : Ob) (x1 : Int32) (x2 : Int32) : Option (((Ob)) ⊕ (Int32 × Ob)) :=
  some (.inr ((x2 + (1 : Int32)), o))
theorem tJ6_200 (Ad : QAd n0 ad) (W : QW Z a0) (s : List Int32) (o : Ob) (x1 : Int32) (x2 : Int32) {r : ((Ob)) ⊕ (Int32 × Ob)} {u : Option Value} {τ : QHeap} (h : J6_200 o x1 x2 = some r) (hx0 : ∀ x : Ob, r = .inl x → u = (none : Option Value) ∧ τ = (H0 s x)) (hc : ∀ x : Int32 × Ob, r = .inr x → QTri l Z n0 ad 6 (14, [vR 1, vI x1, vI x.1, none, none, none, none, none, none, none], [], (H0 s x.2)) u τ) : QTri l Z n0 ad 6 (200, [vR 1, vI x1, vI x2, none, none, none, none, none, none, none], [], (H0 s o)) u τ := by
 unfold J6_200 at h
 refine zS Ad W 2 (st' := (14, [vR 1, vI x1, vI (x2 + (1:Int32)), none, none, none, none, none, none, none], [], (H0 s o))) rfl ?_
 obtain rfl := Option.some.inj h
 exact zM [tt,tt,tt,ff,ff,ff,ff,ff,ff,ff] (hc ((x2 + (1:Int32)), o) rfl)
def B6_14 (x1 : Int32) (v : Int32 × Ob) : Option (((Ob)) ⊕ (Int32 × Ob)) :=
  (if v.1 < x1 then (aget (f_bestCost v.2) v.1).bind fun y170 => (aset (f_bestCost v.2) (v.1 + (1 : Int32)) (y170 + (1 : Int32))).bind fun y171 => (aset (f_bestCut v.2) (v.1 + (1 : Int32)) v.1).bind fun y172 => ((loopN (B6_52 x1 v.1) qN ((0 : Int32), (0 : Int32), v.1, (s_bestCut (s_bestCost v.2 y171) y172))).bind fun e203 => match e203 with | .inl e203a => (J6_200 e203a x1 v.1) | .inr e203a => (J6_200 e203a x1 v.1)) else some (.inl v.2))
theorem tB6_14 (Ad : QAd n0 ad) (W : QW Z a0) (s : List Int32) (x1 : Int32) (v : Int32 × Ob) {r : ((Ob)) ⊕ (Int32 × Ob)} {u : Option Value} {τ : QHeap} (h : B6_14 x1 v = some r) (hx0 : ∀ x : Ob, r = .inl x → u = (none : Option Value) ∧ τ = (H0 s x)) (hc : ∀ x : Int32 × Ob, r = .inr x → QTri l Z n0 ad 6 (14, [vR 1, vI x1, vI x.1, none, none, none, none, none, none, none], [], (H0 s x.2)) u τ) : QTri l Z n0 ad 6 (14, [vR 1, vI x1, vI v.1, none, none, none, none, none, none, none], [], (H0 s v.2)) u τ := by
 unfold B6_14 at h
 refine zS Ad W 2 (st' := (16, [vR 1, vI x1, vI v.1, none, none, none, none, none, none, none], [.int x1, .int v.1], (H0 s v.2))) rfl ?_
 rcases qite h with ⟨hc169, h⟩ | ⟨hc169, h⟩
 ·refine zF Ad W (t := 206) (f := 19) rfl (XT.ii_ge_f hc169) ?_
  refine zS Ad W 8 (st' := (31, [vR 1, vI x1, vI v.1, none, none, none, none, none, none, none], [.int v.1, .ref 6, .int (v.1 + (1:Int32)), .ref 6], (H0 s v.2))) rfl ?_
  obtain ⟨y170, hy170, h⟩ := bind_eq_some_iff.mp h
  refine zB Ad W (f := fun y170 => (32, [vR 1, vI x1, vI v.1, none, none, none, none, none, none, none], [.int y170, .int (v.1 + (1:Int32)), .ref 6], (H0 s v.2))) rfl hy170 ?_
  refine zS Ad W 2 (st' := (34, [vR 1, vI x1, vI v.1, none, none, none, none, none, none, none], [.int (y170 + (1:Int32)), .int (v.1 + (1:Int32)), .ref 6], (H0 s v.2))) rfl ?_
  obtain ⟨y171, hy171, h⟩ := bind_eq_some_iff.mp h
  refine zB Ad W (f := fun y171 => (35, [vR 1, vI x1, vI v.1, none, none, none, none, none, none, none], [], (H0x28 s v.2 y171))) rfl hy171 ?_
  refine zS Ad W 6 (st' := (43, [vR 1, vI x1, vI v.1, none, none, none, none, none, none, none], [.int v.1, .int (v.1 + (1:Int32)), .ref 7], (H0x28 s v.2 y171))) rfl ?_
  obtain ⟨y172, hy172, h⟩ := bind_eq_some_iff.mp h
  refine zB Ad W (f := fun y172 => (44, [vR 1, vI x1, vI v.1, none, none, none, none, none, none, none], [], (H0x29 s v.2 y171 y172))) rfl hy172 ?_
  refine zS Ad W 4 (st' := (49, [vR 1, vI x1, vI v.1, vI (0:Int32), vI (0:Int32), none, none, none, none, none], [], (H0x29 s v.2 y171 y172))) rfl ?_
  refine zS Ad W 2 (st' := (52, [vR 1, vI x1, vI v.1, vI (0:Int32), vI (0:Int32), vI v.1, none, none, none, none], [], (H0x29 s v.2 y171 y172))) rfl ?_
  have E173 : ((H0x29 s v.2 y171 y172) : QHeap) = (H0 s (s_bestCut (s_bestCost v.2 y171) y172)) := by simp only [fs, H0, H0v, H0x29, s_bestCost, s_bestCut]
  rw [E173]
  obtain ⟨e203, he203, h⟩ := bind_eq_some_iff.mp h
  refine zM [tt,tt,tt,tt,tt,tt,ff,ff,ff,ff] (loopN_tri (B := B6_52 x1 v.1) (T := fun lv204 => QTri l Z n0 ad 6 (52, [vR 1, vI x1, vI v.1, vI lv204.1, vI lv204.2.1, vI lv204.2.2.1, none, none, none, none], [], (H0 s lv204.2.2.2)) u τ) (KE := fun e => match e with | .inl e203a => QTri l Z n0 ad 6 (123, [vR 1, vI x1, vI v.1, none, none, none, none, none, none, none], [], (H0 s e203a)) u τ | .inr e203a => QTri l Z n0 ad 6 (200, [vR 1, vI x1, vI v.1, none, none, none, none, none, none, none], [], (H0 s e203a)) u τ) (fun lv204 r hB hE hC => tB6_52 Ad W s x1 v.1 lv204 hB (fun x q => hE _ q) (fun x q => hE _ q) (fun x q => hC x q)) qN ((0:Int32), (0:Int32), v.1, (s_bestCut (s_bestCost v.2 y171) y172)) e203 he203 ?_)
  rcases e203 with e203a | e203a
  ·refine zS Ad W 1 (st' := (200, [vR 1, vI x1, vI v.1, none, none, none, none, none, none, none], [], (H0 s e203a))) rfl ?_
   exact zM [tt,tt,tt,ff,ff,ff,ff,ff,ff,ff] (tJ6_200 Ad W s e203a x1 v.1 h hx0 hc)
  ·exact zM [tt,tt,tt,ff,ff,ff,ff,ff,ff,ff] (tJ6_200 Ad W s e203a x1 v.1 h hx0 hc)
 ·refine zT Ad W (t := 206) (f := 19) rfl (XT.ii_ge_t hc169) ?_
  obtain rfl := Option.some.inj h
  obtain ⟨rfl, rfl⟩ := hx0 v.2 rfl
  exact QTri.ret0 rfl rfl
/-- planClusters()V -/
def F6 (o : Ob) : Option (Ob) :=
 (aset (f_bestCost o) (0:Int32) (0:Int32)).bind fun y167 => (loopN (B6_14 (f_snapCount o)) qN ((0:Int32), (s_bestCost o y167))).bind fun e205 => some e205
theorem tF6 (Ad : QAd n0 ad) (W : QW Z a0) (s : List Int32) (o : Ob) {r : Ob} (h : F6 o = some r) : QTri l Z n0 ad 6 (0, qentry [.ref 1] (pMaxL 6), [], (H0 s o)) (none : Option Value) (H0 s r) := by
 unfold F6 at h
 refine zS Ad W 7 (st' := (11, [vR 1, vI (f_snapCount o), none, none, none, none, none, none, none, none], [.int (0:Int32), .int (0:Int32), .ref 6], (H0 s o))) rfl ?_
 obtain ⟨y167, hy167, h⟩ := bind_eq_some_iff.mp h
 refine zB Ad W (f := fun y167 => (12, [vR 1, vI (f_snapCount o), none, none, none, none, none, none, none, none], [], (H0x28 s o y167))) rfl hy167 ?_
 refine zS Ad W 2 (st' := (14, [vR 1, vI (f_snapCount o), vI (0:Int32), none, none, none, none, none, none, none], [], (H0x28 s o y167))) rfl ?_
 have E168 : ((H0x28 s o y167) : QHeap) = (H0 s (s_bestCost o y167)) := by simp only [fs, H0, H0v, H0x28, s_bestCost]
 rw [E168]
 obtain ⟨e205, he205, h⟩ := bind_eq_some_iff.mp h
 refine zM [tt,tt,tt,ff,ff,ff,ff,ff,ff,ff] (loopN_tri (B := B6_14 (f_snapCount o)) (T := fun lv206 => QTri l Z n0 ad 6 (14, [vR 1, vI (f_snapCount o), vI lv206.1, none, none, none, none, none, none, none], [], (H0 s lv206.2)) (none : Option Value) (H0 s r)) (KE := fun e205a => (none : Option Value) = (none : Option Value) ∧ (H0 s r) = (H0 s e205a)) (fun lv206 r hB hE hC => tB6_14 Ad W s (f_snapCount o) lv206 hB (fun x q => hE _ q) (fun x q => hC x q)) qN ((0:Int32), (s_bestCost o y167)) e205 he205 ?_)
 obtain rfl := Option.some.inj h
 exact ⟨rfl, rfl⟩
def H0x30 (s : List Int32) (o0 : Ob) (a0_42 : Int32) : QHeap := H0v s (f_opRet o0) (f_opLess o0) (f_opEq o0) (f_opTable o0) (f_opBits o0) (f_maxCap o0) (f_maxTargets o0) (f_maxSteps o0) (f_tableSpanPerCase o0) (f_maxTableSpan o0) (f_maxBitSpan o0) (f_maxBitTargets o0) (f_unsignedMask o0) (f_maxInt o0) (f_curVal o0) (f_curTgt o0) (f_snapVal o0) (f_snapTgt o0) (f_bestCost o0) (f_bestCut o0) (f_clStart o0) (f_clEnd o0) (f_opc o0) (f_argA o0) (f_argB o0) (f_argC o0) (f_argD o0) (f_tablePool o0) (f_maskPool o0) (f_maskTarget o0) (f_stLo o0) (f_stHi o0) (f_stParent o0) (f_stSlot o0) (f_cap o0) (f_targets o0) (f_curCount o0) (f_curDefault o0) (f_dirty o0) (f_snapCount o0) (f_snapDefault o0) (f_hasSnap o0) a0_42 (f_codeLen o0) (f_rootPc o0) (f_tableUsed o0) (f_maskUsed o0) (f_sp o0)
def H0x31 (s : List Int32) (o0 : Ob) (a0_20 : List Int32) : QHeap := H0v s (f_opRet o0) (f_opLess o0) (f_opEq o0) (f_opTable o0) (f_opBits o0) (f_maxCap o0) (f_maxTargets o0) (f_maxSteps o0) (f_tableSpanPerCase o0) (f_maxTableSpan o0) (f_maxBitSpan o0) (f_maxBitTargets o0) (f_unsignedMask o0) (f_maxInt o0) (f_curVal o0) (f_curTgt o0) (f_snapVal o0) (f_snapTgt o0) (f_bestCost o0) (f_bestCut o0) a0_20 (f_clEnd o0) (f_opc o0) (f_argA o0) (f_argB o0) (f_argC o0) (f_argD o0) (f_tablePool o0) (f_maskPool o0) (f_maskTarget o0) (f_stLo o0) (f_stHi o0) (f_stParent o0) (f_stSlot o0) (f_cap o0) (f_targets o0) (f_curCount o0) (f_curDefault o0) (f_dirty o0) (f_snapCount o0) (f_snapDefault o0) (f_hasSnap o0) (f_clCount o0) (f_codeLen o0) (f_rootPc o0) (f_tableUsed o0) (f_maskUsed o0) (f_sp o0)
def H0x32 (s : List Int32) (o0 : Ob) (a0_20 : List Int32) (a0_21 : List Int32) : QHeap := H0v s (f_opRet o0) (f_opLess o0) (f_opEq o0) (f_opTable o0) (f_opBits o0) (f_maxCap o0) (f_maxTargets o0) (f_maxSteps o0) (f_tableSpanPerCase o0) (f_maxTableSpan o0) (f_maxBitSpan o0) (f_maxBitTargets o0) (f_unsignedMask o0) (f_maxInt o0) (f_curVal o0) (f_curTgt o0) (f_snapVal o0) (f_snapTgt o0) (f_bestCost o0) (f_bestCut o0) a0_20 a0_21 (f_opc o0) (f_argA o0) (f_argB o0) (f_argC o0) (f_argD o0) (f_tablePool o0) (f_maskPool o0) (f_maskTarget o0) (f_stLo o0) (f_stHi o0) (f_stParent o0) (f_stSlot o0) (f_cap o0) (f_targets o0) (f_curCount o0) (f_curDefault o0) (f_dirty o0) (f_snapCount o0) (f_snapDefault o0) (f_hasSnap o0) (f_clCount o0) (f_codeLen o0) (f_rootPc o0) (f_tableUsed o0) (f_maskUsed o0) (f_sp o0)
def B7_22 (v : Int32 × Int32 × Int32 × Ob) : Option (((Ob)) ⊕ (Int32 × Int32 × Int32 × Ob)) :=
  (if v.2.2.1 < (65 : Int32) then (if (0 : Int32) < v.2.1 then (aget (f_bestCut v.2.2.2) v.2.1).bind fun y212 => (if (v.1 + (-1 : Int32)) < (0 : Int32) then some (.inl v.2.2.2) else (if y212 < (0 : Int32) then some (.inl v.2.2.2) else (if y212 < v.2.1 then (aset (f_clStart v.2.2.2) (v.1 + (-1 : Int32)) y212).bind fun y216 => (aset (f_clEnd v.2.2.2) (v.1 + (-1 : Int32)) (v.2.1 - (1 : Int32))).bind fun y217 => some (.inr ((v.1 + (-1 : Int32)), y212, (v.2.2.1 + (1 : Int32)), (s_clEnd (s_clStart v.2.2.2 y216) y217))) else some (.inl v.2.2.2)))) else some (.inl v.2.2.2)) else some (.inl v.2.2.2))
theorem htB7_22_y216 (s : List Int32) (v : Int32 × Int32 × Int32 × Ob) (y212 : Int32) (z9 z8 : Int32) : qstep 7 (69, [vR 1, none, vI z9, vI v.2.1, vI v.2.2.1, vI y212], [.int y212, .int z9, .ref 8], (H0 s v.2.2.2)) = (aset (f_clStart v.2.2.2) z9 y212).bind fun y216 => some (70, [vR 1, none, vI z9, vI v.2.1, vI v.2.2.1, vI y212], [], (H0x31 s v.2.2.2 y216)) := rfl
theorem htB7_22_y217 (s : List Int32) (v : Int32 × Int32 × Int32 × Ob) (y212 : Int32) (y216 : List Int32) (z9 z8 : Int32) : qstep 7 (78, [vR 1, none, vI z9, vI v.2.1, vI v.2.2.1, vI y212], [.int z8, .int z9, .ref 9], (H0x31 s v.2.2.2 y216)) = (aset (f_clEnd v.2.2.2) z9 z8).bind fun y217 => some (79, [vR 1, none, vI z9, vI v.2.1, vI v.2.2.1, vI y212], [], (H0x32 s v.2.2.2 y216 y217)) := rfl
theorem tB7_22 (Ad : QAd n0 ad) (W : QW Z a0) (s : List Int32) (v : Int32 × Int32 × Int32 × Ob) {r : ((Ob)) ⊕ (Int32 × Int32 × Int32 × Ob)} {u : Option Value} {τ : QHeap} (h : B7_22 v = some r) (hx0 : ∀ x : Ob, r = .inl x → u = (none : Option Value) ∧ τ = (H0 s x)) (hc : ∀ x : Int32 × Int32 × Int32 × Ob, r = .inr x → QTri l Z n0 ad 7 (22, [vR 1, none, vI x.1, vI x.2.1, vI x.2.2.1, none], [], (H0 s x.2.2.2)) u τ) : QTri l Z n0 ad 7 (22, [vR 1, none, vI v.1, vI v.2.1, vI v.2.2.1, none], [], (H0 s v.2.2.2)) u τ := by
 unfold B7_22 at h
 refine zS Ad W 2 (st' := (26, [vR 1, none, vI v.1, vI v.2.1, vI v.2.2.1, none], [.int (65:Int32), .int v.2.2.1], (H0 s v.2.2.2))) rfl ?_
 rcases qite h with ⟨hc210, h⟩ | ⟨hc210, h⟩
 ·refine zF Ad W (t := 88) (f := 29) rfl (XT.ii_ge_f hc210) ?_
  refine zS Ad W 1 (st' := (30, [vR 1, none, vI v.1, vI v.2.1, vI v.2.2.1, none], [.int v.2.1], (H0 s v.2.2.2))) rfl ?_
  rcases qite h with ⟨hc211, h⟩ | ⟨hc211, h⟩
  ·refine zF Ad W (t := 88) (f := 33) rfl (XT.i0_le_f hc211) ?_
   refine zS Ad W 3 (st' := (38, [vR 1, none, vI v.1, vI v.2.1, vI v.2.2.1, none], [.int v.2.1, .ref 7], (H0 s v.2.2.2))) rfl ?_
   obtain ⟨y212, hy212, h⟩ := bind_eq_some_iff.mp h
   refine zB Ad W (f := fun y212 => (39, [vR 1, none, vI v.1, vI v.2.1, vI v.2.2.1, none], [.int y212], (H0 s v.2.2.2))) rfl hy212 ?_
   refine zS Ad W 2 (st' := (44, [vR 1, none, vI (v.1 + (-1:Int32)), vI v.2.1, vI v.2.2.1, vI y212], [], (H0 s v.2.2.2))) rfl ?_
   refine zS Ad W 1 (st' := (45, [vR 1, none, vI (v.1 + (-1:Int32)), vI v.2.1, vI v.2.2.1, vI y212], [.int (v.1 + (-1:Int32))], (H0 s v.2.2.2))) rfl ?_
   rcases qite h with ⟨hc213, h⟩ | ⟨hc213, h⟩
   ·refine zT Ad W (t := 88) (f := 48) rfl (XT.i0_lt_t hc213) ?_
    obtain rfl := Option.some.inj h
    obtain ⟨rfl, rfl⟩ := hx0 v.2.2.2 rfl
    exact QTri.ret0 rfl rfl
   ·refine zF Ad W (t := 88) (f := 48) rfl (XT.i0_lt_f hc213) ?_
    refine zS Ad W 1 (st' := (50, [vR 1, none, vI (v.1 + (-1:Int32)), vI v.2.1, vI v.2.2.1, vI y212], [.int y212], (H0 s v.2.2.2))) rfl ?_
    rcases qite h with ⟨hc214, h⟩ | ⟨hc214, h⟩
    ·refine zT Ad W (t := 88) (f := 53) rfl (XT.i0_lt_t hc214) ?_
     obtain rfl := Option.some.inj h
     obtain ⟨rfl, rfl⟩ := hx0 v.2.2.2 rfl
     exact QTri.ret0 rfl rfl
    ·refine zF Ad W (t := 88) (f := 53) rfl (XT.i0_lt_f hc214) ?_
     refine zS Ad W 2 (st' := (56, [vR 1, none, vI (v.1 + (-1:Int32)), vI v.2.1, vI v.2.2.1, vI y212], [.int v.2.1, .int y212], (H0 s v.2.2.2))) rfl ?_
     rcases qite h with ⟨hc215, h⟩ | ⟨hc215, h⟩
     ·refine zT Ad W (t := 62) (f := 59) rfl (XT.ii_lt_t hc215) ?_
      refine zS Ad W 4 (st' := (69, [vR 1, none, vI (v.1 + (-1:Int32)), vI v.2.1, vI v.2.2.1, vI y212], [.int y212, .int (v.1 + (-1:Int32)), .ref 8], (H0 s v.2.2.2))) rfl ?_
      obtain ⟨y216, hy216, h⟩ := bind_eq_some_iff.mp h
      refine zB Ad W (f := fun y216 => (70, [vR 1, none, vI (v.1 + (-1:Int32)), vI v.2.1, vI v.2.2.1, vI y212], [], (H0x31 s v.2.2.2 y216))) (htB7_22_y216 s v y212 (v.1 + (-1:Int32)) 0) hy216 ?_
      refine zS Ad W 6 (st' := (78, [vR 1, none, vI (v.1 + (-1:Int32)), vI v.2.1, vI v.2.2.1, vI y212], [.int (v.2.1 - (1:Int32)), .int (v.1 + (-1:Int32)), .ref 9], (H0x31 s v.2.2.2 y216))) rfl ?_
      obtain ⟨y217, hy217, h⟩ := bind_eq_some_iff.mp h
      refine zB Ad W (f := fun y217 => (79, [vR 1, none, vI (v.1 + (-1:Int32)), vI v.2.1, vI v.2.2.1, vI y212], [], (H0x32 s v.2.2.2 y216 y217))) (htB7_22_y217 s v y212 y216 (v.1 + (-1:Int32)) (v.2.1 - (1:Int32))) hy217 ?_
      refine zS Ad W 3 (st' := (85, [vR 1, none, vI (v.1 + (-1:Int32)), vI y212, vI (v.2.2.1 + (1:Int32)), vI y212], [], (H0x32 s v.2.2.2 y216 y217))) rfl ?_
      refine zS Ad W 1 (st' := (22, [vR 1, none, vI (v.1 + (-1:Int32)), vI y212, vI (v.2.2.1 + (1:Int32)), vI y212], [], (H0x32 s v.2.2.2 y216 y217))) rfl ?_
      have E218 : ((H0x32 s v.2.2.2 y216 y217) : QHeap) = (H0 s (s_clEnd (s_clStart v.2.2.2 y216) y217)) := by simp only [fs, H0, H0v, H0x32, s_clStart, s_clEnd]
      rw [E218]
      obtain rfl := Option.some.inj h
      exact zM [tt,ff,tt,tt,tt,ff] (hc ((v.1 + (-1:Int32)), y212, (v.2.2.1 + (1:Int32)), (s_clEnd (s_clStart v.2.2.2 y216) y217)) rfl)
     ·refine zF Ad W (t := 62) (f := 59) rfl (XT.ii_lt_f hc215) ?_
      refine zS Ad W 1 (st' := (88, [vR 1, none, vI (v.1 + (-1:Int32)), vI v.2.1, vI v.2.2.1, vI y212], [], (H0 s v.2.2.2))) rfl ?_
      obtain rfl := Option.some.inj h
      obtain ⟨rfl, rfl⟩ := hx0 v.2.2.2 rfl
      exact QTri.ret0 rfl rfl
  ·refine zT Ad W (t := 88) (f := 33) rfl (XT.i0_le_t hc211) ?_
   obtain rfl := Option.some.inj h
   obtain ⟨rfl, rfl⟩ := hx0 v.2.2.2 rfl
   exact QTri.ret0 rfl rfl
 ·refine zT Ad W (t := 88) (f := 29) rfl (XT.ii_ge_t hc210) ?_
  obtain rfl := Option.some.inj h
  obtain ⟨rfl, rfl⟩ := hx0 v.2.2.2 rfl
  exact QTri.ret0 rfl rfl
/-- collectClusters()V -/
def F7 (o : Ob) : Option (Ob) :=
 (aget (f_bestCost o) (f_snapCount o)).bind fun y208 => (loopN (B7_22) qN (y208, (f_snapCount o), (0:Int32), (s_clCount o y208))).bind fun e219 => some e219
theorem tF7 (Ad : QAd n0 ad) (W : QW Z a0) (s : List Int32) (o : Ob) {r : Ob} (h : F7 o = some r) : QTri l Z n0 ad 7 (0, qentry [.ref 1] (pMaxL 7), [], (H0 s o)) (none : Option Value) (H0 s r) := by
 unfold F7 at h
 refine zS Ad W 6 (st' := (10, [vR 1, vI (f_snapCount o), none, none, none, none], [.int (f_snapCount o), .ref 6], (H0 s o))) rfl ?_
 obtain ⟨y208, hy208, h⟩ := bind_eq_some_iff.mp h
 refine zB Ad W (f := fun y208 => (11, [vR 1, vI (f_snapCount o), none, none, none, none], [.int y208], (H0 s o))) rfl hy208 ?_
 refine zS Ad W 4 (st' := (17, [vR 1, vI (f_snapCount o), vI y208, none, none, none], [], (H0x30 s o y208))) rfl ?_
 refine zS Ad W 4 (st' := (22, [vR 1, vI (f_snapCount o), vI y208, vI (f_snapCount o), vI (0:Int32), none], [], (H0x30 s o y208))) rfl ?_
 have E209 : ((H0x30 s o y208) : QHeap) = (H0 s (s_clCount o y208)) := by simp only [fs, H0, H0v, H0x30, s_clCount]
 rw [E209]
 obtain ⟨e219, he219, h⟩ := bind_eq_some_iff.mp h
 refine zM [tt,ff,tt,tt,tt,ff] (loopN_tri (B := B7_22) (T := fun lv220 => QTri l Z n0 ad 7 (22, [vR 1, none, vI lv220.1, vI lv220.2.1, vI lv220.2.2.1, none], [], (H0 s lv220.2.2.2)) (none : Option Value) (H0 s r)) (KE := fun e219a => (none : Option Value) = (none : Option Value) ∧ (H0 s r) = (H0 s e219a)) (fun lv220 r hB hE hC => tB7_22 Ad W s lv220 hB (fun x q => hE _ q) (fun x q => hC x q)) qN (y208, (f_snapCount o), (0:Int32), (s_clCount o y208)) e219 he219 ?_)
 obtain rfl := Option.some.inj h
 exact ⟨rfl, rfl⟩
def H0x33 (s : List Int32) (o0 : Ob) (a0_43 : Int32) : QHeap := H0v s (f_opRet o0) (f_opLess o0) (f_opEq o0) (f_opTable o0) (f_opBits o0) (f_maxCap o0) (f_maxTargets o0) (f_maxSteps o0) (f_tableSpanPerCase o0) (f_maxTableSpan o0) (f_maxBitSpan o0) (f_maxBitTargets o0) (f_unsignedMask o0) (f_maxInt o0) (f_curVal o0) (f_curTgt o0) (f_snapVal o0) (f_snapTgt o0) (f_bestCost o0) (f_bestCut o0) (f_clStart o0) (f_clEnd o0) (f_opc o0) (f_argA o0) (f_argB o0) (f_argC o0) (f_argD o0) (f_tablePool o0) (f_maskPool o0) (f_maskTarget o0) (f_stLo o0) (f_stHi o0) (f_stParent o0) (f_stSlot o0) (f_cap o0) (f_targets o0) (f_curCount o0) (f_curDefault o0) (f_dirty o0) (f_snapCount o0) (f_snapDefault o0) (f_hasSnap o0) (f_clCount o0) a0_43 (f_rootPc o0) (f_tableUsed o0) (f_maskUsed o0) (f_sp o0)
def H0x34 (s : List Int32) (o0 : Ob) (a0_43 : Int32) (a0_45 : Int32) : QHeap := H0v s (f_opRet o0) (f_opLess o0) (f_opEq o0) (f_opTable o0) (f_opBits o0) (f_maxCap o0) (f_maxTargets o0) (f_maxSteps o0) (f_tableSpanPerCase o0) (f_maxTableSpan o0) (f_maxBitSpan o0) (f_maxBitTargets o0) (f_unsignedMask o0) (f_maxInt o0) (f_curVal o0) (f_curTgt o0) (f_snapVal o0) (f_snapTgt o0) (f_bestCost o0) (f_bestCut o0) (f_clStart o0) (f_clEnd o0) (f_opc o0) (f_argA o0) (f_argB o0) (f_argC o0) (f_argD o0) (f_tablePool o0) (f_maskPool o0) (f_maskTarget o0) (f_stLo o0) (f_stHi o0) (f_stParent o0) (f_stSlot o0) (f_cap o0) (f_targets o0) (f_curCount o0) (f_curDefault o0) (f_dirty o0) (f_snapCount o0) (f_snapDefault o0) (f_hasSnap o0) (f_clCount o0) a0_43 (f_rootPc o0) a0_45 (f_maskUsed o0) (f_sp o0)
def H0x35 (s : List Int32) (o0 : Ob) (a0_43 : Int32) (a0_45 : Int32) (a0_46 : Int32) : QHeap := H0v s (f_opRet o0) (f_opLess o0) (f_opEq o0) (f_opTable o0) (f_opBits o0) (f_maxCap o0) (f_maxTargets o0) (f_maxSteps o0) (f_tableSpanPerCase o0) (f_maxTableSpan o0) (f_maxBitSpan o0) (f_maxBitTargets o0) (f_unsignedMask o0) (f_maxInt o0) (f_curVal o0) (f_curTgt o0) (f_snapVal o0) (f_snapTgt o0) (f_bestCost o0) (f_bestCut o0) (f_clStart o0) (f_clEnd o0) (f_opc o0) (f_argA o0) (f_argB o0) (f_argC o0) (f_argD o0) (f_tablePool o0) (f_maskPool o0) (f_maskTarget o0) (f_stLo o0) (f_stHi o0) (f_stParent o0) (f_stSlot o0) (f_cap o0) (f_targets o0) (f_curCount o0) (f_curDefault o0) (f_dirty o0) (f_snapCount o0) (f_snapDefault o0) (f_hasSnap o0) (f_clCount o0) a0_43 (f_rootPc o0) a0_45 a0_46 (f_sp o0)
def H0x36 (s : List Int32) (o0 : Ob) (a0_43 : Int32) (a0_45 : Int32) (a0_46 : Int32) (a0_47 : Int32) : QHeap := H0v s (f_opRet o0) (f_opLess o0) (f_opEq o0) (f_opTable o0) (f_opBits o0) (f_maxCap o0) (f_maxTargets o0) (f_maxSteps o0) (f_tableSpanPerCase o0) (f_maxTableSpan o0) (f_maxBitSpan o0) (f_maxBitTargets o0) (f_unsignedMask o0) (f_maxInt o0) (f_curVal o0) (f_curTgt o0) (f_snapVal o0) (f_snapTgt o0) (f_bestCost o0) (f_bestCut o0) (f_clStart o0) (f_clEnd o0) (f_opc o0) (f_argA o0) (f_argB o0) (f_argC o0) (f_argD o0) (f_tablePool o0) (f_maskPool o0) (f_maskTarget o0) (f_stLo o0) (f_stHi o0) (f_stParent o0) (f_stSlot o0) (f_cap o0) (f_targets o0) (f_curCount o0) (f_curDefault o0) (f_dirty o0) (f_snapCount o0) (f_snapDefault o0) (f_hasSnap o0) (f_clCount o0) a0_43 (f_rootPc o0) a0_45 a0_46 a0_47
def H0x37 (s : List Int32) (o0 : Ob) (a0_22 : List Int32) : QHeap := H0v s (f_opRet o0) (f_opLess o0) (f_opEq o0) (f_opTable o0) (f_opBits o0) (f_maxCap o0) (f_maxTargets o0) (f_maxSteps o0) (f_tableSpanPerCase o0) (f_maxTableSpan o0) (f_maxBitSpan o0) (f_maxBitTargets o0) (f_unsignedMask o0) (f_maxInt o0) (f_curVal o0) (f_curTgt o0) (f_snapVal o0) (f_snapTgt o0) (f_bestCost o0) (f_bestCut o0) (f_clStart o0) (f_clEnd o0) a0_22 (f_argA o0) (f_argB o0) (f_argC o0) (f_argD o0) (f_tablePool o0) (f_maskPool o0) (f_maskTarget o0) (f_stLo o0) (f_stHi o0) (f_stParent o0) (f_stSlot o0) (f_cap o0) (f_targets o0) (f_curCount o0) (f_curDefault o0) (f_dirty o0) (f_snapCount o0) (f_snapDefault o0) (f_hasSnap o0) (f_clCount o0) (f_codeLen o0) (f_rootPc o0) (f_tableUsed o0) (f_maskUsed o0) (f_sp o0)
def H0x38 (s : List Int32) (o0 : Ob) (a0_22 : List Int32) (a0_23 : List Int32) : QHeap := H0v s (f_opRet o0) (f_opLess o0) (f_opEq o0) (f_opTable o0) (f_opBits o0) (f_maxCap o0) (f_maxTargets o0) (f_maxSteps o0) (f_tableSpanPerCase o0) (f_maxTableSpan o0) (f_maxBitSpan o0) (f_maxBitTargets o0) (f_unsignedMask o0) (f_maxInt o0) (f_curVal o0) (f_curTgt o0) (f_snapVal o0) (f_snapTgt o0) (f_bestCost o0) (f_bestCut o0) (f_clStart o0) (f_clEnd o0) a0_22 a0_23 (f_argB o0) (f_argC o0) (f_argD o0) (f_tablePool o0) (f_maskPool o0) (f_maskTarget o0) (f_stLo o0) (f_stHi o0) (f_stParent o0) (f_stSlot o0) (f_cap o0) (f_targets o0) (f_curCount o0) (f_curDefault o0) (f_dirty o0) (f_snapCount o0) (f_snapDefault o0) (f_hasSnap o0) (f_clCount o0) (f_codeLen o0) (f_rootPc o0) (f_tableUsed o0) (f_maskUsed o0) (f_sp o0)
def H0x39 (s : List Int32) (o0 : Ob) (a0_22 : List Int32) (a0_23 : List Int32) (a0_24 : List Int32) : QHeap := H0v s (f_opRet o0) (f_opLess o0) (f_opEq o0) (f_opTable o0) (f_opBits o0) (f_maxCap o0) (f_maxTargets o0) (f_maxSteps o0) (f_tableSpanPerCase o0) (f_maxTableSpan o0) (f_maxBitSpan o0) (f_maxBitTargets o0) (f_unsignedMask o0) (f_maxInt o0) (f_curVal o0) (f_curTgt o0) (f_snapVal o0) (f_snapTgt o0) (f_bestCost o0) (f_bestCut o0) (f_clStart o0) (f_clEnd o0) a0_22 a0_23 a0_24 (f_argC o0) (f_argD o0) (f_tablePool o0) (f_maskPool o0) (f_maskTarget o0) (f_stLo o0) (f_stHi o0) (f_stParent o0) (f_stSlot o0) (f_cap o0) (f_targets o0) (f_curCount o0) (f_curDefault o0) (f_dirty o0) (f_snapCount o0) (f_snapDefault o0) (f_hasSnap o0) (f_clCount o0) (f_codeLen o0) (f_rootPc o0) (f_tableUsed o0) (f_maskUsed o0) (f_sp o0)
def H0x40 (s : List Int32) (o0 : Ob) (a0_22 : List Int32) (a0_23 : List Int32) (a0_24 : List Int32) (a0_25 : List Int32) : QHeap := H0v s (f_opRet o0) (f_opLess o0) (f_opEq o0) (f_opTable o0) (f_opBits o0) (f_maxCap o0) (f_maxTargets o0) (f_maxSteps o0) (f_tableSpanPerCase o0) (f_maxTableSpan o0) (f_maxBitSpan o0) (f_maxBitTargets o0) (f_unsignedMask o0) (f_maxInt o0) (f_curVal o0) (f_curTgt o0) (f_snapVal o0) (f_snapTgt o0) (f_bestCost o0) (f_bestCut o0) (f_clStart o0) (f_clEnd o0) a0_22 a0_23 a0_24 a0_25 (f_argD o0) (f_tablePool o0) (f_maskPool o0) (f_maskTarget o0) (f_stLo o0) (f_stHi o0) (f_stParent o0) (f_stSlot o0) (f_cap o0) (f_targets o0) (f_curCount o0) (f_curDefault o0) (f_dirty o0) (f_snapCount o0) (f_snapDefault o0) (f_hasSnap o0) (f_clCount o0) (f_codeLen o0) (f_rootPc o0) (f_tableUsed o0) (f_maskUsed o0) (f_sp o0)
def H0x41 (s : List Int32) (o0 : Ob) (a0_22 : List Int32) (a0_23 : List Int32) (a0_24 : List Int32) (a0_25 : List Int32) (a0_26 : List Int32) : QHeap := H0v s (f_opRet o0) (f_opLess o0) (f_opEq o0) (f_opTable o0) (f_opBits o0) (f_maxCap o0) (f_maxTargets o0) (f_maxSteps o0) (f_tableSpanPerCase o0) (f_maxTableSpan o0) (f_maxBitSpan o0) (f_maxBitTargets o0) (f_unsignedMask o0) (f_maxInt o0) (f_curVal o0) (f_curTgt o0) (f_snapVal o0) (f_snapTgt o0) (f_bestCost o0) (f_bestCut o0) (f_clStart o0) (f_clEnd o0) a0_22 a0_23 a0_24 a0_25 a0_26 (f_tablePool o0) (f_maskPool o0) (f_maskTarget o0) (f_stLo o0) (f_stHi o0) (f_stParent o0) (f_stSlot o0) (f_cap o0) (f_targets o0) (f_curCount o0) (f_curDefault o0) (f_dirty o0) (f_snapCount o0) (f_snapDefault o0) (f_hasSnap o0) (f_clCount o0) (f_codeLen o0) (f_rootPc o0) (f_tableUsed o0) (f_maskUsed o0) (f_sp o0)
def H0x42 (s : List Int32) (o0 : Ob) (a0_22 : List Int32) (a0_23 : List Int32) (a0_24 : List Int32) (a0_25 : List Int32) (a0_26 : List Int32) (a0_43 : Int32) : QHeap := H0v s (f_opRet o0) (f_opLess o0) (f_opEq o0) (f_opTable o0) (f_opBits o0) (f_maxCap o0) (f_maxTargets o0) (f_maxSteps o0) (f_tableSpanPerCase o0) (f_maxTableSpan o0) (f_maxBitSpan o0) (f_maxBitTargets o0) (f_unsignedMask o0) (f_maxInt o0) (f_curVal o0) (f_curTgt o0) (f_snapVal o0) (f_snapTgt o0) (f_bestCost o0) (f_bestCut o0) (f_clStart o0) (f_clEnd o0) a0_22 a0_23 a0_24 a0_25 a0_26 (f_tablePool o0) (f_maskPool o0) (f_maskTarget o0) (f_stLo o0) (f_stHi o0) (f_stParent o0) (f_stSlot o0) (f_cap o0) (f_targets o0) (f_curCount o0) (f_curDefault o0) (f_dirty o0) (f_snapCount o0) (f_snapDefault o0) (f_hasSnap o0) (f_clCount o0) a0_43 (f_rootPc o0) (f_tableUsed o0) (f_maskUsed o0) (f_sp o0)
/-- emit(IIIII)I -/
def F9 (o : Ob) (x1 : Int32) (x2 : Int32) (x3 : Int32) (x4 : Int32) (x5 : Int32) : Option (Int32 × Ob) :=
 (if (f_codeLen o) < (0:Int32) then some ((0:Int32), o) else (if (f_codeLen o) < ((f_opc o).length.toInt32) then (aset (f_opc o) (f_codeLen o) ((x1.toInt8.toInt32).toInt8.toInt32)).bind fun y225 => (aset (f_argA o) (f_codeLen o) x2).bind fun y226 => (aset (f_argB o) (f_codeLen o) x3).bind fun y227 => (aset (f_argC o) (f_codeLen o) x4).bind fun y228 => (aset (f_argD o) (f_codeLen o) x5).bind fun y229 => some ((f_codeLen o), (s_codeLen (s_argD (s_argC (s_argB (s_argA (s_opc o y225) y226) y227) y228) y229) ((f_codeLen o) + (1:Int32)))) else some ((0:Int32), o)))
theorem tF9 (Ad : QAd n0 ad) (W : QW Z a0) (s : List Int32) (o : Ob) (x1 : Int32) (x2 : Int32) (x3 : Int32) (x4 : Int32) (x5 : Int32) {r : Int32 × Ob} (h : F9 o x1 x2 x3 x4 x5 = some r) : QTri l Z n0 ad 9 (0, qentry [.ref 1, .int x1, .int x2, .int x3, .int x4, .int x5] (pMaxL 9), [], (H0 s o)) (some (Value.int r.1)) (H0 s r.2) := by
 unfold F9 at h
 refine zS Ad W 4 (st' := (8, [vR 1, vI x1, vI x2, vI x3, vI x4, vI x5, vI (f_codeLen o)], [.int (f_codeLen o)], (H0 s o))) rfl ?_
 rcases qite h with ⟨hc223, h⟩ | ⟨hc223, h⟩
 ·refine zT Ad W (t := 21) (f := 11) rfl (XT.i0_lt_t hc223) ?_
  refine zS Ad W 1 (st' := (22, [vR 1, vI x1, vI x2, vI x3, vI x4, vI x5, vI (f_codeLen o)], [.int (0:Int32)], (H0 s o))) rfl ?_
  obtain rfl := Option.some.inj h
  exact QTri.retI rfl rfl
 ·refine zF Ad W (t := 21) (f := 11) rfl (XT.i0_lt_f hc223) ?_
  refine zS Ad W 4 (st' := (18, [vR 1, vI x1, vI x2, vI x3, vI x4, vI x5, vI (f_codeLen o)], [.int ((f_opc o).length.toInt32), .int (f_codeLen o)], (H0 s o))) rfl ?_
  rcases qite h with ⟨hc224, h⟩ | ⟨hc224, h⟩
  ·refine zT Ad W (t := 23) (f := 21) rfl (XT.ii_lt_t hc224) ?_
   refine zS Ad W 5 (st' := (31, [vR 1, vI x1, vI x2, vI x3, vI x4, vI x5, vI (f_codeLen o)], [.int (x1.toInt8.toInt32), .int (f_codeLen o), .ref 10], (H0 s o))) rfl ?_
   obtain ⟨y225, hy225, h⟩ := bind_eq_some_iff.mp h
   refine zB Ad W (f := fun y225 => (32, [vR 1, vI x1, vI x2, vI x3, vI x4, vI x5, vI (f_codeLen o)], [], (H0x37 s o y225))) rfl hy225 ?_
   refine zS Ad W 4 (st' := (39, [vR 1, vI x1, vI x2, vI x3, vI x4, vI x5, vI (f_codeLen o)], [.int x2, .int (f_codeLen o), .ref 11], (H0x37 s o y225))) rfl ?_
   obtain ⟨y226, hy226, h⟩ := bind_eq_some_iff.mp h
   refine zB Ad W (f := fun y226 => (40, [vR 1, vI x1, vI x2, vI x3, vI x4, vI x5, vI (f_codeLen o)], [], (H0x38 s o y225 y226))) rfl hy226 ?_
   refine zS Ad W 4 (st' := (47, [vR 1, vI x1, vI x2, vI x3, vI x4, vI x5, vI (f_codeLen o)], [.int x3, .int (f_codeLen o), .ref 12], (H0x38 s o y225 y226))) rfl ?_
   obtain ⟨y227, hy227, h⟩ := bind_eq_some_iff.mp h
   refine zB Ad W (f := fun y227 => (48, [vR 1, vI x1, vI x2, vI x3, vI x4, vI x5, vI (f_codeLen o)], [], (H0x39 s o y225 y226 y227))) rfl hy227 ?_
   refine zS Ad W 4 (st' := (56, [vR 1, vI x1, vI x2, vI x3, vI x4, vI x5, vI (f_codeLen o)], [.int x4, .int (f_codeLen o), .ref 13], (H0x39 s o y225 y226 y227))) rfl ?_
   obtain ⟨y228, hy228, h⟩ := bind_eq_some_iff.mp h
   refine zB Ad W (f := fun y228 => (57, [vR 1, vI x1, vI x2, vI x3, vI x4, vI x5, vI (f_codeLen o)], [], (H0x40 s o y225 y226 y227 y228))) rfl hy228 ?_
   refine zS Ad W 4 (st' := (65, [vR 1, vI x1, vI x2, vI x3, vI x4, vI x5, vI (f_codeLen o)], [.int x5, .int (f_codeLen o), .ref 14], (H0x40 s o y225 y226 y227 y228))) rfl ?_
   obtain ⟨y229, hy229, h⟩ := bind_eq_some_iff.mp h
   refine zB Ad W (f := fun y229 => (66, [vR 1, vI x1, vI x2, vI x3, vI x4, vI x5, vI (f_codeLen o)], [], (H0x41 s o y225 y226 y227 y228 y229))) rfl hy229 ?_
   refine zS Ad W 5 (st' := (74, [vR 1, vI x1, vI x2, vI x3, vI x4, vI x5, vI (f_codeLen o)], [], (H0x42 s o y225 y226 y227 y228 y229 ((f_codeLen o) + (1:Int32))))) rfl ?_
   refine zS Ad W 1 (st' := (76, [vR 1, vI x1, vI x2, vI x3, vI x4, vI x5, vI (f_codeLen o)], [.int (f_codeLen o)], (H0x42 s o y225 y226 y227 y228 y229 ((f_codeLen o) + (1:Int32))))) rfl ?_
   have E230 : ((H0x42 s o y225 y226 y227 y228 y229 ((f_codeLen o) + (1:Int32))) : QHeap) = (H0 s (s_codeLen (s_argD (s_argC (s_argB (s_argA (s_opc o y225) y226) y227) y228) y229) ((f_codeLen o) + (1:Int32)))) := by simp only [fs, H0, H0v, H0x42, s_opc, s_argA, s_argB, s_argC, s_argD, s_codeLen]
   rw [E230]
   obtain rfl := Option.some.inj h
   exact QTri.retI rfl rfl
  ·refine zF Ad W (t := 23) (f := 21) rfl (XT.ii_lt_f hc224) ?_
   refine zS Ad W 1 (st' := (22, [vR 1, vI x1, vI x2, vI x3, vI x4, vI x5, vI (f_codeLen o)], [.int (0:Int32)], (H0 s o))) rfl ?_
   obtain rfl := Option.some.inj h
   exact QTri.retI rfl rfl
def H0x43 (s : List Int32) (o0 : Ob) (a0_44 : Int32) : QHeap := H0v s (f_opRet o0) (f_opLess o0) (f_opEq o0) (f_opTable o0) (f_opBits o0) (f_maxCap o0) (f_maxTargets o0) (f_maxSteps o0) (f_tableSpanPerCase o0) (f_maxTableSpan o0) (f_maxBitSpan o0) (f_maxBitTargets o0) (f_unsignedMask o0) (f_maxInt o0) (f_curVal o0) (f_curTgt o0) (f_snapVal o0) (f_snapTgt o0) (f_bestCost o0) (f_bestCut o0) (f_clStart o0) (f_clEnd o0) (f_opc o0) (f_argA o0) (f_argB o0) (f_argC o0) (f_argD o0) (f_tablePool o0) (f_maskPool o0) (f_maskTarget o0) (f_stLo o0) (f_stHi o0) (f_stParent o0) (f_stSlot o0) (f_cap o0) (f_targets o0) (f_curCount o0) (f_curDefault o0) (f_dirty o0) (f_snapCount o0) (f_snapDefault o0) (f_hasSnap o0) (f_clCount o0) (f_codeLen o0) a0_44 (f_tableUsed o0) (f_maskUsed o0) (f_sp o0)
def H0x44 (s : List Int32) (o0 : Ob) (a0_30 : List Int32) : QHeap := H0v s (f_opRet o0) (f_opLess o0) (f_opEq o0) (f_opTable o0) (f_opBits o0) (f_maxCap o0) (f_maxTargets o0) (f_maxSteps o0) (f_tableSpanPerCase o0) (f_maxTableSpan o0) (f_maxBitSpan o0) (f_maxBitTargets o0) (f_unsignedMask o0) (f_maxInt o0) (f_curVal o0) (f_curTgt o0) (f_snapVal o0) (f_snapTgt o0) (f_bestCost o0) (f_bestCut o0) (f_clStart o0) (f_clEnd o0) (f_opc o0) (f_argA o0) (f_argB o0) (f_argC o0) (f_argD o0) (f_tablePool o0) (f_maskPool o0) (f_maskTarget o0) a0_30 (f_stHi o0) (f_stParent o0) (f_stSlot o0) (f_cap o0) (f_targets o0) (f_curCount o0) (f_curDefault o0) (f_dirty o0) (f_snapCount o0) (f_snapDefault o0) (f_hasSnap o0) (f_clCount o0) (f_codeLen o0) (f_rootPc o0) (f_tableUsed o0) (f_maskUsed o0) (f_sp o0)
def H0x45 (s : List Int32) (o0 : Ob) (a0_30 : List Int32) (a0_31 : List Int32) : QHeap := H0v s (f_opRet o0) (f_opLess o0) (f_opEq o0) (f_opTable o0) (f_opBits o0) (f_maxCap o0) (f_maxTargets o0) (f_maxSteps o0) (f_tableSpanPerCase o0) (f_maxTableSpan o0) (f_maxBitSpan o0) (f_maxBitTargets o0) (f_unsignedMask o0) (f_maxInt o0) (f_curVal o0) (f_curTgt o0) (f_snapVal o0) (f_snapTgt o0) (f_bestCost o0) (f_bestCut o0) (f_clStart o0) (f_clEnd o0) (f_opc o0) (f_argA o0) (f_argB o0) (f_argC o0) (f_argD o0) (f_tablePool o0) (f_maskPool o0) (f_maskTarget o0) a0_30 a0_31 (f_stParent o0) (f_stSlot o0) (f_cap o0) (f_targets o0) (f_curCount o0) (f_curDefault o0) (f_dirty o0) (f_snapCount o0) (f_snapDefault o0) (f_hasSnap o0) (f_clCount o0) (f_codeLen o0) (f_rootPc o0) (f_tableUsed o0) (f_maskUsed o0) (f_sp o0)
def H0x46 (s : List Int32) (o0 : Ob) (a0_30 : List Int32) (a0_31 : List Int32) (a0_32 : List Int32) : QHeap := H0v s (f_opRet o0) (f_opLess o0) (f_opEq o0) (f_opTable o0) (f_opBits o0) (f_maxCap o0) (f_maxTargets o0) (f_maxSteps o0) (f_tableSpanPerCase o0) (f_maxTableSpan o0) (f_maxBitSpan o0) (f_maxBitTargets o0) (f_unsignedMask o0) (f_maxInt o0) (f_curVal o0) (f_curTgt o0) (f_snapVal o0) (f_snapTgt o0) (f_bestCost o0) (f_bestCut o0) (f_clStart o0) (f_clEnd o0) (f_opc o0) (f_argA o0) (f_argB o0) (f_argC o0) (f_argD o0) (f_tablePool o0) (f_maskPool o0) (f_maskTarget o0) a0_30 a0_31 a0_32 (f_stSlot o0) (f_cap o0) (f_targets o0) (f_curCount o0) (f_curDefault o0) (f_dirty o0) (f_snapCount o0) (f_snapDefault o0) (f_hasSnap o0) (f_clCount o0) (f_codeLen o0) (f_rootPc o0) (f_tableUsed o0) (f_maskUsed o0) (f_sp o0)
def H0x47 (s : List Int32) (o0 : Ob) (a0_30 : List Int32) (a0_31 : List Int32) (a0_32 : List Int32) (a0_33 : List Int32) : QHeap := H0v s (f_opRet o0) (f_opLess o0) (f_opEq o0) (f_opTable o0) (f_opBits o0) (f_maxCap o0) (f_maxTargets o0) (f_maxSteps o0) (f_tableSpanPerCase o0) (f_maxTableSpan o0) (f_maxBitSpan o0) (f_maxBitTargets o0) (f_unsignedMask o0) (f_maxInt o0) (f_curVal o0) (f_curTgt o0) (f_snapVal o0) (f_snapTgt o0) (f_bestCost o0) (f_bestCut o0) (f_clStart o0) (f_clEnd o0) (f_opc o0) (f_argA o0) (f_argB o0) (f_argC o0) (f_argD o0) (f_tablePool o0) (f_maskPool o0) (f_maskTarget o0) a0_30 a0_31 a0_32 a0_33 (f_cap o0) (f_targets o0) (f_curCount o0) (f_curDefault o0) (f_dirty o0) (f_snapCount o0) (f_snapDefault o0) (f_hasSnap o0) (f_clCount o0) (f_codeLen o0) (f_rootPc o0) (f_tableUsed o0) (f_maskUsed o0) (f_sp o0)
def H0x48 (s : List Int32) (o0 : Ob) (a0_30 : List Int32) (a0_31 : List Int32) (a0_32 : List Int32) (a0_33 : List Int32) (a0_47 : Int32) : QHeap := H0v s (f_opRet o0) (f_opLess o0) (f_opEq o0) (f_opTable o0) (f_opBits o0) (f_maxCap o0) (f_maxTargets o0) (f_maxSteps o0) (f_tableSpanPerCase o0) (f_maxTableSpan o0) (f_maxBitSpan o0) (f_maxBitTargets o0) (f_unsignedMask o0) (f_maxInt o0) (f_curVal o0) (f_curTgt o0) (f_snapVal o0) (f_snapTgt o0) (f_bestCost o0) (f_bestCut o0) (f_clStart o0) (f_clEnd o0) (f_opc o0) (f_argA o0) (f_argB o0) (f_argC o0) (f_argD o0) (f_tablePool o0) (f_maskPool o0) (f_maskTarget o0) a0_30 a0_31 a0_32 a0_33 (f_cap o0) (f_targets o0) (f_curCount o0) (f_curDefault o0) (f_dirty o0) (f_snapCount o0) (f_snapDefault o0) (f_hasSnap o0) (f_clCount o0) (f_codeLen o0) (f_rootPc o0) (f_tableUsed o0) (f_maskUsed o0) a0_47
/-- push(IIII)V -/
def F24 (o : Ob) (x1 : Int32) (x2 : Int32) (x3 : Int32) (x4 : Int32) : Option (Ob) :=
 (if (f_sp o) < (0:Int32) then some o else (if (f_sp o) < ((f_stLo o).length.toInt32) then (aset (f_stLo o) (f_sp o) x1).bind fun y236 => (aset (f_stHi o) (f_sp o) x2).bind fun y237 => (aset (f_stParent o) (f_sp o) x3).bind fun y238 => (aset (f_stSlot o) (f_sp o) x4).bind fun y239 => some (s_sp (s_stSlot (s_stParent (s_stHi (s_stLo o y236) y237) y238) y239) ((f_sp o) + (1:Int32))) else some o))
theorem tF24 (Ad : QAd n0 ad) (W : QW Z a0) (s : List Int32) (o : Ob) (x1 : Int32) (x2 : Int32) (x3 : Int32) (x4 : Int32) {r : Ob} (h : F24 o x1 x2 x3 x4 = some r) : QTri l Z n0 ad 24 (0, qentry [.ref 1, .int x1, .int x2, .int x3, .int x4] (pMaxL 24), [], (H0 s o)) (none : Option Value) (H0 s r) := by
 unfold F24 at h
 refine zS Ad W 2 (st' := (4, [vR 1, vI x1, vI x2, vI x3, vI x4], [.int (f_sp o)], (H0 s o))) rfl ?_
 rcases qite h with ⟨hc234, h⟩ | ⟨hc234, h⟩
 ·refine zT Ad W (t := 19) (f := 7) rfl (XT.i0_lt_t hc234) ?_
  obtain rfl := Option.some.inj h
  exact QTri.ret0 rfl rfl
 ·refine zF Ad W (t := 19) (f := 7) rfl (XT.i0_lt_f hc234) ?_
  refine zS Ad W 5 (st' := (16, [vR 1, vI x1, vI x2, vI x3, vI x4], [.int ((f_stLo o).length.toInt32), .int (f_sp o)], (H0 s o))) rfl ?_
  rcases qite h with ⟨hc235, h⟩ | ⟨hc235, h⟩
  ·refine zT Ad W (t := 20) (f := 19) rfl (XT.ii_lt_t hc235) ?_
   refine zS Ad W 5 (st' := (29, [vR 1, vI x1, vI x2, vI x3, vI x4], [.int x1, .int (f_sp o), .ref 18], (H0 s o))) rfl ?_
   obtain ⟨y236, hy236, h⟩ := bind_eq_some_iff.mp h
   refine zB Ad W (f := fun y236 => (30, [vR 1, vI x1, vI x2, vI x3, vI x4], [], (H0x44 s o y236))) rfl hy236 ?_
   refine zS Ad W 5 (st' := (39, [vR 1, vI x1, vI x2, vI x3, vI x4], [.int x2, .int (f_sp o), .ref 19], (H0x44 s o y236))) rfl ?_
   obtain ⟨y237, hy237, h⟩ := bind_eq_some_iff.mp h
   refine zB Ad W (f := fun y237 => (40, [vR 1, vI x1, vI x2, vI x3, vI x4], [], (H0x45 s o y236 y237))) rfl hy237 ?_
   refine zS Ad W 5 (st' := (49, [vR 1, vI x1, vI x2, vI x3, vI x4], [.int x3, .int (f_sp o), .ref 20], (H0x45 s o y236 y237))) rfl ?_
   obtain ⟨y238, hy238, h⟩ := bind_eq_some_iff.mp h
   refine zB Ad W (f := fun y238 => (50, [vR 1, vI x1, vI x2, vI x3, vI x4], [], (H0x46 s o y236 y237 y238))) rfl hy238 ?_
   refine zS Ad W 5 (st' := (60, [vR 1, vI x1, vI x2, vI x3, vI x4], [.int x4, .int (f_sp o), .ref 21], (H0x46 s o y236 y237 y238))) rfl ?_
   obtain ⟨y239, hy239, h⟩ := bind_eq_some_iff.mp h
   refine zB Ad W (f := fun y239 => (61, [vR 1, vI x1, vI x2, vI x3, vI x4], [], (H0x47 s o y236 y237 y238 y239))) rfl hy239 ?_
   refine zS Ad W 6 (st' := (71, [vR 1, vI x1, vI x2, vI x3, vI x4], [], (H0x48 s o y236 y237 y238 y239 ((f_sp o) + (1:Int32))))) rfl ?_
   have E240 : ((H0x48 s o y236 y237 y238 y239 ((f_sp o) + (1:Int32))) : QHeap) = (H0 s (s_sp (s_stSlot (s_stParent (s_stHi (s_stLo o y236) y237) y238) y239) ((f_sp o) + (1:Int32)))) := by simp only [fs, H0, H0v, H0x48, s_stLo, s_stHi, s_stParent, s_stSlot, s_sp]
   rw [E240]
   obtain rfl := Option.some.inj h
   exact QTri.ret0 rfl rfl
  ·refine zF Ad W (t := 20) (f := 19) rfl (XT.ii_lt_f hc235) ?_
   obtain rfl := Option.some.inj h
   exact QTri.ret0 rfl rfl
def H0x49 (s : List Int32) (o0 : Ob) (a0_47 : Int32) : QHeap := H0v s (f_opRet o0) (f_opLess o0) (f_opEq o0) (f_opTable o0) (f_opBits o0) (f_maxCap o0) (f_maxTargets o0) (f_maxSteps o0) (f_tableSpanPerCase o0) (f_maxTableSpan o0) (f_maxBitSpan o0) (f_maxBitTargets o0) (f_unsignedMask o0) (f_maxInt o0) (f_curVal o0) (f_curTgt o0) (f_snapVal o0) (f_snapTgt o0) (f_bestCost o0) (f_bestCut o0) (f_clStart o0) (f_clEnd o0) (f_opc o0) (f_argA o0) (f_argB o0) (f_argC o0) (f_argD o0) (f_tablePool o0) (f_maskPool o0) (f_maskTarget o0) (f_stLo o0) (f_stHi o0) (f_stParent o0) (f_stSlot o0) (f_cap o0) (f_targets o0) (f_curCount o0) (f_curDefault o0) (f_dirty o0) (f_snapCount o0) (f_snapDefault o0) (f_hasSnap o0) (f_clCount o0) (f_codeLen o0) (f_rootPc o0) (f_tableUsed o0) (f_maskUsed o0) a0_47
/-- clusterLow(I)I -/
def F34 (o : Ob) (x1 : Int32) : Option (Int32) :=
 (if x1 < (0:Int32) then some (0:Int32) else (if x1 < (f_clCount o) then (aget (f_clStart o) x1).bind fun y252 => (if y252 < (0:Int32) then some (0:Int32) else (if y252 < (f_snapCount o) then (aget (f_snapVal o) y252).bind fun y255 => some y255 else some (0:Int32))) else some (0:Int32)))
theorem tF34 (Ad : QAd n0 ad) (W : QW Z a0) (s : List Int32) (o : Ob) (x1 : Int32) {r : Int32} (h : F34 o x1 = some r) : QTri l Z n0 ad 34 (0, qentry [.ref 1, .int x1] (pMaxL 34), [], (H0 s o)) (some (Value.int r)) (H0 s o) := by
 unfold F34 at h
 refine zS Ad W 1 (st' := (1, [vR 1, vI x1, none], [.int x1], (H0 s o))) rfl ?_
 rcases qite h with ⟨hc250, h⟩ | ⟨hc250, h⟩
 ·refine zT Ad W (t := 12) (f := 4) rfl (XT.i0_lt_t hc250) ?_
  refine zS Ad W 1 (st' := (13, [vR 1, vI x1, none], [.int (0:Int32)], (H0 s o))) rfl ?_
  obtain rfl := Option.some.inj h
  exact QTri.retI rfl rfl
 ·refine zF Ad W (t := 12) (f := 4) rfl (XT.i0_lt_f hc250) ?_
  refine zS Ad W 3 (st' := (9, [vR 1, vI x1, none], [.int (f_clCount o), .int x1], (H0 s o))) rfl ?_
  rcases qite h with ⟨hc251, h⟩ | ⟨hc251, h⟩
  ·refine zT Ad W (t := 14) (f := 12) rfl (XT.ii_lt_t hc251) ?_
   refine zS Ad W 3 (st' := (19, [vR 1, vI x1, none], [.int x1, .ref 8], (H0 s o))) rfl ?_
   obtain ⟨y252, hy252, h⟩ := bind_eq_some_iff.mp h
   refine zB Ad W (f := fun y252 => (20, [vR 1, vI x1, none], [.int y252], (H0 s o))) rfl hy252 ?_
   refine zS Ad W 2 (st' := (22, [vR 1, vI x1, vI y252], [.int y252], (H0 s o))) rfl ?_
   rcases qite h with ⟨hc253, h⟩ | ⟨hc253, h⟩
   ·refine zT Ad W (t := 33) (f := 25) rfl (XT.i0_lt_t hc253) ?_
    refine zS Ad W 1 (st' := (34, [vR 1, vI x1, vI y252], [.int (0:Int32)], (H0 s o))) rfl ?_
    obtain rfl := Option.some.inj h
    exact QTri.retI rfl rfl
   ·refine zF Ad W (t := 33) (f := 25) rfl (XT.i0_lt_f hc253) ?_
    refine zS Ad W 3 (st' := (30, [vR 1, vI x1, vI y252], [.int (f_snapCount o), .int y252], (H0 s o))) rfl ?_
    rcases qite h with ⟨hc254, h⟩ | ⟨hc254, h⟩
    ·refine zT Ad W (t := 35) (f := 33) rfl (XT.ii_lt_t hc254) ?_
     refine zS Ad W 3 (st' := (40, [vR 1, vI x1, vI y252], [.int y252, .ref 4], (H0 s o))) rfl ?_
     obtain ⟨y255, hy255, h⟩ := bind_eq_some_iff.mp h
     refine zB Ad W (f := fun y255 => (41, [vR 1, vI x1, vI y252], [.int y255], (H0 s o))) rfl hy255 ?_
     obtain rfl := Option.some.inj h
     exact QTri.retI rfl rfl
    ·refine zF Ad W (t := 35) (f := 33) rfl (XT.ii_lt_f hc254) ?_
     refine zS Ad W 1 (st' := (34, [vR 1, vI x1, vI y252], [.int (0:Int32)], (H0 s o))) rfl ?_
     obtain rfl := Option.some.inj h
     exact QTri.retI rfl rfl
  ·refine zF Ad W (t := 14) (f := 12) rfl (XT.ii_lt_f hc251) ?_
   refine zS Ad W 1 (st' := (13, [vR 1, vI x1, none], [.int (0:Int32)], (H0 s o))) rfl ?_
   obtain rfl := Option.some.inj h
   exact QTri.retI rfl rfl
def J29_12 (o : Ob) (x3 : Int32) : Option (Ob) :=
  some (s_rootPc o x3)
theorem tJ29_12 (Ad : QAd n0 ad) (W : QW Z a0) (s : List Int32) (o : Ob) (x3 : Int32) {r : Ob} (h : J29_12 o x3 = some r) : QTri l Z n0 ad 29 (12, [vR 1, none, none, vI x3], [], (H0 s o)) (none : Option Value) (H0 s r) := by
 unfold J29_12 at h
 refine zS Ad W 3 (st' := (17, [vR 1, none, none, vI x3], [], (H0x43 s o x3))) rfl ?_
 have E261 : ((H0x43 s o x3) : QHeap) = (H0 s (s_rootPc o x3)) := by simp only [fs, H0, H0v, H0x43, s_rootPc]
 rw [E261]
 obtain rfl := Option.some.inj h
 exact QTri.ret0 rfl rfl
def H0x50 (s : List Int32) (o0 : Ob) (a0_24 : List Int32) : QHeap := H0v s (f_opRet o0) (f_opLess o0) (f_opEq o0) (f_opTable o0) (f_opBits o0) (f_maxCap o0) (f_maxTargets o0) (f_maxSteps o0) (f_tableSpanPerCase o0) (f_maxTableSpan o0) (f_maxBitSpan o0) (f_maxBitTargets o0) (f_unsignedMask o0) (f_maxInt o0) (f_curVal o0) (f_curTgt o0) (f_snapVal o0) (f_snapTgt o0) (f_bestCost o0) (f_bestCut o0) (f_clStart o0) (f_clEnd o0) (f_opc o0) (f_argA o0) a0_24 (f_argC o0) (f_argD o0) (f_tablePool o0) (f_maskPool o0) (f_maskTarget o0) (f_stLo o0) (f_stHi o0) (f_stParent o0) (f_stSlot o0) (f_cap o0) (f_targets o0) (f_curCount o0) (f_curDefault o0) (f_dirty o0) (f_snapCount o0) (f_snapDefault o0) (f_hasSnap o0) (f_clCount o0) (f_codeLen o0) (f_rootPc o0) (f_tableUsed o0) (f_maskUsed o0) (f_sp o0)
def H0x51 (s : List Int32) (o0 : Ob) (a0_25 : List Int32) : QHeap := H0v s (f_opRet o0) (f_opLess o0) (f_opEq o0) (f_opTable o0) (f_opBits o0) (f_maxCap o0) (f_maxTargets o0) (f_maxSteps o0) (f_tableSpanPerCase o0) (f_maxTableSpan o0) (f_maxBitSpan o0) (f_maxBitTargets o0) (f_unsignedMask o0) (f_maxInt o0) (f_curVal o0) (f_curTgt o0) (f_snapVal o0) (f_snapTgt o0) (f_bestCost o0) (f_bestCut o0) (f_clStart o0) (f_clEnd o0) (f_opc o0) (f_argA o0) (f_argB o0) a0_25 (f_argD o0) (f_tablePool o0) (f_maskPool o0) (f_maskTarget o0) (f_stLo o0) (f_stHi o0) (f_stParent o0) (f_stSlot o0) (f_cap o0) (f_targets o0) (f_curCount o0) (f_curDefault o0) (f_dirty o0) (f_snapCount o0) (f_snapDefault o0) (f_hasSnap o0) (f_clCount o0) (f_codeLen o0) (f_rootPc o0) (f_tableUsed o0) (f_maskUsed o0) (f_sp o0)
/-- patch(III)V -/
def F29 (o : Ob) (x1 : Int32) (x2 : Int32) (x3 : Int32) : Option (Ob) :=
 (if x1 < (0:Int32) then (J29_12 o x3) else (if x1 < (f_codeLen o) then (if x2 = (0:Int32) then (aset (f_argB o) x1 x3).bind fun y264 => some (s_argB o y264) else (aset (f_argC o) x1 x3).bind fun y266 => some (s_argC o y266)) else (J29_12 o x3)))
theorem tF29 (Ad : QAd n0 ad) (W : QW Z a0) (s : List Int32) (o : Ob) (x1 : Int32) (x2 : Int32) (x3 : Int32) {r : Ob} (h : F29 o x1 x2 x3 = some r) : QTri l Z n0 ad 29 (0, qentry [.ref 1, .int x1, .int x2, .int x3] (pMaxL 29), [], (H0 s o)) (none : Option Value) (H0 s r) := by
 unfold F29 at h
 refine zS Ad W 1 (st' := (1, [vR 1, vI x1, vI x2, vI x3], [.int x1], (H0 s o))) rfl ?_
 rcases qite h with ⟨hc260, h⟩ | ⟨hc260, h⟩
 ·refine zT Ad W (t := 12) (f := 4) rfl (XT.i0_lt_t hc260) ?_
  exact zM [tt,ff,ff,tt] (tJ29_12 Ad W s o x3 h)
 ·refine zF Ad W (t := 12) (f := 4) rfl (XT.i0_lt_f hc260) ?_
  refine zS Ad W 3 (st' := (9, [vR 1, vI x1, vI x2, vI x3], [.int (f_codeLen o), .int x1], (H0 s o))) rfl ?_
  rcases qite h with ⟨hc262, h⟩ | ⟨hc262, h⟩
  ·refine zT Ad W (t := 18) (f := 12) rfl (XT.ii_lt_t hc262) ?_
   refine zS Ad W 1 (st' := (19, [vR 1, vI x1, vI x2, vI x3], [.int x2], (H0 s o))) rfl ?_
   rcases qite h with ⟨hc263, h⟩ | ⟨hc263, h⟩
   ·refine zF Ad W (t := 32) (f := 22) rfl (XT.i0_ne_f hc263) ?_
    refine zS Ad W 4 (st' := (28, [vR 1, vI x1, vI x2, vI x3], [.int x3, .int x1, .ref 12], (H0 s o))) rfl ?_
    obtain ⟨y264, hy264, h⟩ := bind_eq_some_iff.mp h
    refine zB Ad W (f := fun y264 => (29, [vR 1, vI x1, vI x2, vI x3], [], (H0x50 s o y264))) rfl hy264 ?_
    refine zS Ad W 1 (st' := (39, [vR 1, vI x1, vI x2, vI x3], [], (H0x50 s o y264))) rfl ?_
    have E265 : ((H0x50 s o y264) : QHeap) = (H0 s (s_argB o y264)) := by simp only [fs, H0, H0v, H0x50, s_argB]
    rw [E265]
    obtain rfl := Option.some.inj h
    exact QTri.ret0 rfl rfl
   ·refine zT Ad W (t := 32) (f := 22) rfl (XT.i0_ne_t hc263) ?_
    refine zS Ad W 4 (st' := (38, [vR 1, vI x1, vI x2, vI x3], [.int x3, .int x1, .ref 13], (H0 s o))) rfl ?_
    obtain ⟨y266, hy266, h⟩ := bind_eq_some_iff.mp h
    refine zB Ad W (f := fun y266 => (39, [vR 1, vI x1, vI x2, vI x3], [], (H0x51 s o y266))) rfl hy266 ?_
    have E267 : ((H0x51 s o y266) : QHeap) = (H0 s (s_argC o y266)) := by simp only [fs, H0, H0v, H0x51, s_argC]
    rw [E267]
    obtain rfl := Option.some.inj h
    exact QTri.ret0 rfl rfl
  ·refine zF Ad W (t := 18) (f := 12) rfl (XT.ii_lt_f hc262) ?_
   exact zM [tt,ff,ff,tt] (tJ29_12 Ad W s o x3 h)
def J8_193 (o : Ob) (x1 : Int32) (x4 : Int32) (x5 : Int32) (x6 : Int32) : Option (((Ob)) ⊕ (Int32 × Ob)) :=
  (F29 o x4 x5 x6).bind fun r268 => some (.inr ((x1 + (1 : Int32)), r268))
theorem tJ8_193 (Ad : QAd n0 ad) (W : QW Z a0) (s : List Int32) (o : Ob) (x1 : Int32) (x4 : Int32) (x5 : Int32) (x6 : Int32) {r : ((Ob)) ⊕ (Int32 × Ob)} {u : Option Value} {τ : QHeap} (h : J8_193 o x1 x4 x5 x6 = some r) (hx0 : ∀ x : Ob, r = .inl x → u = (none : Option Value) ∧ τ = (H0 s x)) (hc : ∀ x : Int32 × Ob, r = .inr x → QTri l Z n0 ad 8 (59, [vR 1, vI x.1, none, none, none, none, none, none, none], [], (H0 s x.2)) u τ) : QTri l Z n0 ad 8 (193, [vR 1, vI x1, none, none, vI x4, vI x5, vI x6, none, none], [], (H0 s o)) u τ := by
 unfold J8_193 at h
 refine zS Ad W 4 (st' := (200, [vR 1, vI x1, none, none, vI x4, vI x5, vI x6, none, none], [.int x6, .int x5, .int x4, .ref 1], (H0 s o))) rfl ?_
 obtain ⟨r268, hr268, h⟩ := bind_eq_some_iff.mp h
 refine QTri.callP W (a := 1) (as := [.int x4, .int x5, .int x6]) (rest := []) (w := none) (σ₁ := (H0 s r268)) rfl rfl rfl rfl rfl rfl rfl rfl (tF29 Ad W s o x4 x5 x6 hr268) ?_
 refine zS Ad W 2 (st' := (59, [vR 1, vI (x1 + (1:Int32)), none, none, vI x4, vI x5, vI x6, none, none], [], (H0 s r268))) rfl ?_
 obtain rfl := Option.some.inj h
 exact zM [tt,tt,ff,ff,ff,ff,ff,ff,ff] (hc ((x1 + (1:Int32)), r268) rfl)
def B26_8 (o : Ob) (x2 : Int32) (v : Int32 × Int32 × Int32) : Option (((Int32)) ⊕ (Int32 × Int32 × Int32)) :=
  (if x2 < v.2.2 then some (.inl v.2.1) else (if v.2.2 < (f_snapCount o) then (aget (f_snapTgt o) v.2.2).bind fun y285 => some (.inr ((if y285 = (f_snapDefault o) then v.1 else (if (v.1 &&& ((1 : Int32) <<< (y285 &&& 31))) = (0 : Int32) then (v.1 ||| ((1 : Int32) <<< (y285 &&& 31))) else v.1)), (if y285 = (f_snapDefault o) then v.2.1 else (if (v.1 &&& ((1 : Int32) <<< (y285 &&& 31))) = (0 : Int32) then (v.2.1 + (1 : Int32)) else v.2.1)), (v.2.2 + (1 : Int32)))) else some (.inl v.2.1)))
theorem tB26_8 (Ad : QAd n0 ad) (W : QW Z a0) (s : List Int32) (o : Ob) (x2 : Int32) (v : Int32 × Int32 × Int32) {r : ((Int32)) ⊕ (Int32 × Int32 × Int32)} {u : Option Value} {τ : QHeap} (h : B26_8 o x2 v = some r) (hx0 : ∀ x : Int32, r = .inl x → u = (some (Value.int x)) ∧ τ = (H0 s o)) (hc : ∀ x : Int32 × Int32 × Int32, r = .inr x → QTri l Z n0 ad 26 (8, [vR 1, none, vI x2, vI x.1, vI x.2.1, vI x.2.2, none], [], (H0 s o)) u τ) : QTri l Z n0 ad 26 (8, [vR 1, none, vI x2, vI v.1, vI v.2.1, vI v.2.2, none], [], (H0 s o)) u τ := by
 unfold B26_8 at h
 refine zS Ad W 2 (st' := (11, [vR 1, none, vI x2, vI v.1, vI v.2.1, vI v.2.2, none], [.int x2, .int v.2.2], (H0 s o))) rfl ?_
 rcases qite h with ⟨hc283, h⟩ | ⟨hc283, h⟩
 ·refine zT Ad W (t := 66) (f := 14) rfl (XT.ii_gt_t hc283) ?_
  refine zS Ad W 1 (st' := (68, [vR 1, none, vI x2, vI v.1, vI v.2.1, vI v.2.2, none], [.int v.2.1], (H0 s o))) rfl ?_
  obtain rfl := Option.some.inj h
  obtain ⟨rfl, rfl⟩ := hx0 v.2.1 rfl
  exact QTri.retI rfl rfl
 ·refine zF Ad W (t := 66) (f := 14) rfl (XT.ii_gt_f hc283) ?_
  refine zS Ad W 3 (st' := (20, [vR 1, none, vI x2, vI v.1, vI v.2.1, vI v.2.2, none], [.int (f_snapCount o), .int v.2.2], (H0 s o))) rfl ?_
  rcases qite h with ⟨hc284, h⟩ | ⟨hc284, h⟩
  ·refine zF Ad W (t := 66) (f := 23) rfl (XT.ii_ge_f hc284) ?_
   refine zS Ad W 3 (st' := (29, [vR 1, none, vI x2, vI v.1, vI v.2.1, vI v.2.2, none], [.int v.2.2, .ref 5], (H0 s o))) rfl ?_
   obtain ⟨y285, hy285, h⟩ := bind_eq_some_iff.mp h
   refine zB Ad W (f := fun y285 => (30, [vR 1, none, vI x2, vI v.1, vI v.2.1, vI v.2.2, none], [.int y285], (H0 s o))) rfl hy285 ?_
   refine zS Ad W 4 (st' := (38, [vR 1, none, vI x2, vI v.1, vI v.2.1, vI v.2.2, vI y285], [.int (f_snapDefault o), .int y285], (H0 s o))) rfl ?_
   have K288 : ∀ z286 : Int32, z286 = (if y285 = (f_snapDefault o) then v.1 else (if (v.1 &&& ((1:Int32) <<< (y285 &&& 31))) = (0:Int32) then (v.1 ||| ((1:Int32) <<< (y285 &&& 31))) else v.1)) → ∀ z287 : Int32, z287 = (if y285 = (f_snapDefault o) then v.2.1 else (if (v.1 &&& ((1:Int32) <<< (y285 &&& 31))) = (0:Int32) then (v.2.1 + (1:Int32)) else v.2.1)) → QTri l Z n0 ad 26 (60, [vR 1, none, vI x2, vI z286, vI z287, vI v.2.2, none], [], (H0 s o)) u τ := by
    intro z286 ez286
    intro z287 ez287
    subst ez286
    subst ez287
    refine zS Ad W 2 (st' := (8, [vR 1, none, vI x2, vI (if y285 = (f_snapDefault o) then v.1 else (if (v.1 &&& ((1:Int32) <<< (y285 &&& 31))) = (0:Int32) then (v.1 ||| ((1:Int32) <<< (y285 &&& 31))) else v.1)), vI (if y285 = (f_snapDefault o) then v.2.1 else (if (v.1 &&& ((1:Int32) <<< (y285 &&& 31))) = (0:Int32) then (v.2.1 + (1:Int32)) else v.2.1)), vI (v.2.2 + (1:Int32)), none], [], (H0 s o))) rfl ?_
    obtain rfl := Option.some.inj h
    exact zM [tt,ff,tt,tt,tt,tt,ff] (hc ((if y285 = (f_snapDefault o) then v.1 else (if (v.1 &&& ((1:Int32) <<< (y285 &&& 31))) = (0:Int32) then (v.1 ||| ((1:Int32) <<< (y285 &&& 31))) else v.1)), (if y285 = (f_snapDefault o) then v.2.1 else (if (v.1 &&& ((1:Int32) <<< (y285 &&& 31))) = (0:Int32) then (v.2.1 + (1:Int32)) else v.2.1)), (v.2.2 + (1:Int32))) rfl)
   rcases em (y285 = (f_snapDefault o)) with hc289 | hc289
   ·refine zT Ad W (t := 60) (f := 41) rfl (XT.ii_eq_t hc289) ?_
    exact zM [tt,ff,tt,tt,tt,tt,ff] (K288 _ (if_pos hc289).symm _ (if_pos hc289).symm)
   ·refine zF Ad W (t := 60) (f := 41) rfl (XT.ii_eq_f hc289) ?_
    refine zS Ad W 5 (st' := (47, [vR 1, none, vI x2, vI v.1, vI v.2.1, vI v.2.2, vI y285], [.int (v.1 &&& ((1:Int32) <<< (y285 &&& 31)))], (H0 s o))) rfl ?_
    rcases em ((v.1 &&& ((1:Int32) <<< (y285 &&& 31))) = (0:Int32)) with hc290 | hc290
    ·refine zF Ad W (t := 60) (f := 50) rfl (XT.i0_ne_f hc290) ?_
     refine zS Ad W 7 (st' := (60, [vR 1, none, vI x2, vI (v.1 ||| ((1:Int32) <<< (y285 &&& 31))), vI (v.2.1 + (1:Int32)), vI v.2.2, vI y285], [], (H0 s o))) rfl ?_
     exact zM [tt,ff,tt,tt,tt,tt,ff] (K288 _ ((if_neg hc289).trans (if_pos hc290)).symm _ ((if_neg hc289).trans (if_pos hc290)).symm)
    ·refine zT Ad W (t := 60) (f := 50) rfl (XT.i0_ne_t hc290) ?_
     exact zM [tt,ff,tt,tt,tt,tt,ff] (K288 _ ((if_neg hc289).trans (if_neg hc290)).symm _ ((if_neg hc289).trans (if_neg hc290)).symm)
  ·refine zT Ad W (t := 66) (f := 23) rfl (XT.ii_ge_t hc284) ?_
   refine zS Ad W 1 (st' := (68, [vR 1, none, vI x2, vI v.1, vI v.2.1, vI v.2.2, none], [.int v.2.1], (H0 s o))) rfl ?_
   obtain rfl := Option.some.inj h
   obtain ⟨rfl, rfl⟩ := hx0 v.2.1 rfl
   exact QTri.retI rfl rfl
/-- distinctTargets(II)I -/
def F26 (o : Ob) (x1 : Int32) (x2 : Int32) : Option (Int32) :=
 (loopN (B26_8 o x2) qN ((0:Int32), (0:Int32), x1)).bind fun e291 => some e291
theorem tF26 (Ad : QAd n0 ad) (W : QW Z a0) (s : List Int32) (o : Ob) (x1 : Int32) (x2 : Int32) {r : Int32} (h : F26 o x1 x2 = some r) : QTri l Z n0 ad 26 (0, qentry [.ref 1, .int x1, .int x2] (pMaxL 26), [], (H0 s o)) (some (Value.int r)) (H0 s o) := by
 unfold F26 at h
 refine zS Ad W 4 (st' := (5, [vR 1, vI x1, vI x2, vI (0:Int32), vI (0:Int32), none, none], [], (H0 s o))) rfl ?_
 refine zS Ad W 2 (st' := (8, [vR 1, vI x1, vI x2, vI (0:Int32), vI (0:Int32), vI x1, none], [], (H0 s o))) rfl ?_
 obtain ⟨e291, he291, h⟩ := bind_eq_some_iff.mp h
 refine zM [tt,ff,tt,tt,tt,tt,ff] (loopN_tri (B := B26_8 o x2) (T := fun lv292 => QTri l Z n0 ad 26 (8, [vR 1, none, vI x2, vI lv292.1, vI lv292.2.1, vI lv292.2.2, none], [], (H0 s o)) (some (Value.int r)) (H0 s o)) (KE := fun e291a => (some (Value.int r)) = (some (Value.int e291a)) ∧ (H0 s o) = (H0 s o)) (fun lv292 r hB hE hC => tB26_8 Ad W s o x2 lv292 hB (fun x q => hE _ q) (fun x q => hC x q)) qN ((0:Int32), (0:Int32), x1) e291 he291 ?_)
 obtain rfl := Option.some.inj h
 exact ⟨rfl, rfl⟩
def J25_124 (o : Ob) (x2 : Int32) (x3 : Int32) (x4 : Int64) : Option (Int32 × Ob) :=
  none
theorem tJ25_124 (Ad : QAd n0 ad) (W : QW Z a0) (s : List Int32) (o : Ob) (x2 : Int32) (x3 : Int32) (x4 : Int64) {r : Int32 × Ob} (h : J25_124 o x2 x3 x4 = some r) : QTri l Z n0 ad 25 (124, [vR 1, none, vI x2, vI x3, vL x4, none, none], [], (H0 s o)) (some (Value.int r.1)) (H0 s r.2) := by
 unfold J25_124 at h
 cases h
def J27_151 (o : Ob) (x2 : Int32) (x3 : Int32) (x4 : Int32) (x5 : Int32) (x6 : Int32) (x7 : Int32) : Option (((Int32 × Ob)) ⊕ (Int32 × Int32 × Ob)) :=
  some (.inr (x6, (x7 + (1 : Int32)), o))
theorem tJ27_151 (Ad : QAd n0 ad) (W : QW Z a0) (s : List Int32) (o : Ob) (x2 : Int32) (x3 : Int32) (x4 : Int32) (x5 : Int32) (x6 : Int32) (x7 : Int32) {r : ((Int32 × Ob)) ⊕ (Int32 × Int32 × Ob)} {u : Option Value} {τ : QHeap} (h : J27_151 o x2 x3 x4 x5 x6 x7 = some r) (hx0 : ∀ x : Int32 × Ob, r = .inl x → QTri l Z n0 ad 27 (157, [vR 1, none, none, vI x3, vI x4, vI x5, vI x.1, none, none, none, none], [], (H0 s x.2)) u τ) (hc : ∀ x : Int32 × Int32 × Ob, r = .inr x → QTri l Z n0 ad 27 (20, [vR 1, none, vI x2, vI x3, vI x4, vI x5, vI x.1, vI x.2.1, none, none, none], [], (H0 s x.2.2)) u τ) : QTri l Z n0 ad 27 (151, [vR 1, none, vI x2, vI x3, vI x4, vI x5, vI x6, vI x7, none, none, none], [], (H0 s o)) u τ := by
 unfold J27_151 at h
 refine zS Ad W 2 (st' := (20, [vR 1, none, vI x2, vI x3, vI x4, vI x5, vI x6, vI (x7 + (1:Int32)), none, none, none], [], (H0 s o))) rfl ?_
 obtain rfl := Option.some.inj h
 exact zM [tt,ff,tt,tt,tt,tt,tt,tt,ff,ff,ff] (hc (x6, (x7 + (1:Int32)), o) rfl)
def J28_44 (o : Ob) (x1 : Int32) (x2 : Int32) (x3 : Int32) (x4 : Int32) : Option (((Int32)) ⊕ (Int32)) :=
  some (.inr (x4 + (1 : Int32)))
theorem tJ28_44 (Ad : QAd n0 ad) (W : QW Z a0) (s : List Int32) (o : Ob) (x1 : Int32) (x2 : Int32) (x3 : Int32) (x4 : Int32) {r : ((Int32)) ⊕ (Int32)} {u : Option Value} {τ : QHeap} (h : J28_44 o x1 x2 x3 x4 = some r) (hx0 : ∀ x : Int32, r = .inl x → u = (some (Value.int x)) ∧ τ = (H0 s o)) (hc : ∀ x : Int32, r = .inr x → QTri l Z n0 ad 28 (3, [vR 1, vI x1, vI x2, vI x3, vI x, none], [], (H0 s o)) u τ) : QTri l Z n0 ad 28 (44, [vR 1, vI x1, vI x2, vI x3, vI x4, none], [], (H0 s o)) u τ := by
 unfold J28_44 at h
 refine zS Ad W 2 (st' := (3, [vR 1, vI x1, vI x2, vI x3, vI (x4 + (1:Int32)), none], [], (H0 s o))) rfl ?_
 obtain rfl := Option.some.inj h
 exact zM [tt,tt,tt,tt,tt,ff] (hc (x4 + (1:Int32)) rfl)
def B28_3 (o : Ob) (x1 : Int32) (x2 : Int32) (x3 : Int32) (v : Int32) : Option (((Int32)) ⊕ (Int32)) :=
  (if v < x2 then (if (x1 + v) < (0 : Int32) then (J28_44 o x1 x2 x3 v) else (if (x1 + v) < ((f_maskTarget o).length.toInt32) then (aget (f_maskTarget o) (x1 + v)).bind fun y304 => (if y304 = x3 then some (.inl (x1 + v)) else (J28_44 o x1 x2 x3 v)) else (J28_44 o x1 x2 x3 v))) else some (.inl (-1 : Int32)))
theorem tB28_3 (Ad : QAd n0 ad) (W : QW Z a0) (s : List Int32) (o : Ob) (x1 : Int32) (x2 : Int32) (x3 : Int32) (v : Int32) {r : ((Int32)) ⊕ (Int32)} {u : Option Value} {τ : QHeap} (h : B28_3 o x1 x2 x3 v = some r) (hx0 : ∀ x : Int32, r = .inl x → u = (some (Value.int x)) ∧ τ = (H0 s o)) (hc : ∀ x : Int32, r = .inr x → QTri l Z n0 ad 28 (3, [vR 1, vI x1, vI x2, vI x3, vI x, none], [], (H0 s o)) u τ) : QTri l Z n0 ad 28 (3, [vR 1, vI x1, vI x2, vI x3, vI v, none], [], (H0 s o)) u τ := by
 unfold B28_3 at h
 refine zS Ad W 2 (st' := (6, [vR 1, vI x1, vI x2, vI x3, vI v, none], [.int x2, .int v], (H0 s o))) rfl ?_
 rcases qite h with ⟨hc301, h⟩ | ⟨hc301, h⟩
 ·refine zF Ad W (t := 50) (f := 9) rfl (XT.ii_ge_f hc301) ?_
  refine zS Ad W 5 (st' := (17, [vR 1, vI x1, vI x2, vI x3, vI v, vI (x1 + v)], [.int (x1 + v)], (H0 s o))) rfl ?_
  rcases qite h with ⟨hc302, h⟩ | ⟨hc302, h⟩
  ·refine zT Ad W (t := 44) (f := 20) rfl (XT.i0_lt_t hc302) ?_
   exact zM [tt,tt,tt,tt,tt,ff] (tJ28_44 Ad W s o x1 x2 x3 v h hx0 hc)
  ·refine zF Ad W (t := 44) (f := 20) rfl (XT.i0_lt_f hc302) ?_
   refine zS Ad W 4 (st' := (27, [vR 1, vI x1, vI x2, vI x3, vI v, vI (x1 + v)], [.int ((f_maskTarget o).length.toInt32), .int (x1 + v)], (H0 s o))) rfl ?_
   rcases qite h with ⟨hc303, h⟩ | ⟨hc303, h⟩
   ·refine zF Ad W (t := 44) (f := 30) rfl (XT.ii_ge_f hc303) ?_
    refine zS Ad W 3 (st' := (36, [vR 1, vI x1, vI x2, vI x3, vI v, vI (x1 + v)], [.int (x1 + v), .ref 17], (H0 s o))) rfl ?_
    obtain ⟨y304, hy304, h⟩ := bind_eq_some_iff.mp h
    refine zB Ad W (f := fun y304 => (37, [vR 1, vI x1, vI x2, vI x3, vI v, vI (x1 + v)], [.int y304], (H0 s o))) rfl hy304 ?_
    refine zS Ad W 1 (st' := (38, [vR 1, vI x1, vI x2, vI x3, vI v, vI (x1 + v)], [.int x3, .int y304], (H0 s o))) rfl ?_
    rcases qite h with ⟨hc305, h⟩ | ⟨hc305, h⟩
    ·refine zF Ad W (t := 44) (f := 41) rfl (XT.ii_ne_f hc305) ?_
     refine zS Ad W 1 (st' := (43, [vR 1, vI x1, vI x2, vI x3, vI v, vI (x1 + v)], [.int (x1 + v)], (H0 s o))) rfl ?_
     obtain rfl := Option.some.inj h
     obtain ⟨rfl, rfl⟩ := hx0 (x1 + v) rfl
     exact QTri.retI rfl rfl
    ·refine zT Ad W (t := 44) (f := 41) rfl (XT.ii_ne_t hc305) ?_
     exact zM [tt,tt,tt,tt,tt,ff] (tJ28_44 Ad W s o x1 x2 x3 v h hx0 hc)
   ·refine zT Ad W (t := 44) (f := 30) rfl (XT.ii_ge_t hc303) ?_
    exact zM [tt,tt,tt,tt,tt,ff] (tJ28_44 Ad W s o x1 x2 x3 v h hx0 hc)
 ·refine zT Ad W (t := 50) (f := 9) rfl (XT.ii_ge_t hc301) ?_
  refine zS Ad W 1 (st' := (51, [vR 1, vI x1, vI x2, vI x3, vI v, none], [.int (-1:Int32)], (H0 s o))) rfl ?_
  obtain rfl := Option.some.inj h
  obtain ⟨rfl, rfl⟩ := hx0 (-1:Int32) rfl
  exact QTri.retI rfl rfl
/-- findMaskSlot(III)I -/
def F28 (o : Ob) (x1 : Int32) (x2 : Int32) (x3 : Int32) : Option (Int32) :=
 (loopN (B28_3 o x1 x2 x3) qN (0:Int32)).bind fun e306 => some e306
theorem tF28 (Ad : QAd n0 ad) (W : QW Z a0) (s : List Int32) (o : Ob) (x1 : Int32) (x2 : Int32) (x3 : Int32) {r : Int32} (h : F28 o x1 x2 x3 = some r) : QTri l Z n0 ad 28 (0, qentry [.ref 1, .int x1, .int x2, .int x3] (pMaxL 28), [], (H0 s o)) (some (Value.int r)) (H0 s o) := by
 unfold F28 at h
 refine zS Ad W 2 (st' := (3, [vR 1, vI x1, vI x2, vI x3, vI (0:Int32), none], [], (H0 s o))) rfl ?_
 obtain ⟨e306, he306, h⟩ := bind_eq_some_iff.mp h
 refine zM [tt,tt,tt,tt,tt,ff] (loopN_tri (B := B28_3 o x1 x2 x3) (T := fun lv307 => QTri l Z n0 ad 28 (3, [vR 1, vI x1, vI x2, vI x3, vI lv307, none], [], (H0 s o)) (some (Value.int r)) (H0 s o)) (KE := fun e306a => (some (Value.int r)) = (some (Value.int e306a)) ∧ (H0 s o) = (H0 s o)) (fun lv307 r hB hE hC => tB28_3 Ad W s o x1 x2 x3 lv307 hB (fun x q => hE _ q) (fun x q => hC x q)) qN (0:Int32) e306 he306 ?_)
 obtain rfl := Option.some.inj h
 exact ⟨rfl, rfl⟩
def H0x52 (s : List Int32) (o0 : Ob) (a0_29 : List Int32) : QHeap := H0v s (f_opRet o0) (f_opLess o0) (f_opEq o0) (f_opTable o0) (f_opBits o0) (f_maxCap o0) (f_maxTargets o0) (f_maxSteps o0) (f_tableSpanPerCase o0) (f_maxTableSpan o0) (f_maxBitSpan o0) (f_maxBitTargets o0) (f_unsignedMask o0) (f_maxInt o0) (f_curVal o0) (f_curTgt o0) (f_snapVal o0) (f_snapTgt o0) (f_bestCost o0) (f_bestCut o0) (f_clStart o0) (f_clEnd o0) (f_opc o0) (f_argA o0) (f_argB o0) (f_argC o0) (f_argD o0) (f_tablePool o0) (f_maskPool o0) a0_29 (f_stLo o0) (f_stHi o0) (f_stParent o0) (f_stSlot o0) (f_cap o0) (f_targets o0) (f_curCount o0) (f_curDefault o0) (f_dirty o0) (f_snapCount o0) (f_snapDefault o0) (f_hasSnap o0) (f_clCount o0) (f_codeLen o0) (f_rootPc o0) (f_tableUsed o0) (f_maskUsed o0) (f_sp o0)
def H0x53 (s : List Int32) (o0 : Ob) (a0_28 : List Int64) (a0_29 : List Int32) : QHeap := H0v s (f_opRet o0) (f_opLess o0) (f_opEq o0) (f_opTable o0) (f_opBits o0) (f_maxCap o0) (f_maxTargets o0) (f_maxSteps o0) (f_tableSpanPerCase o0) (f_maxTableSpan o0) (f_maxBitSpan o0) (f_maxBitTargets o0) (f_unsignedMask o0) (f_maxInt o0) (f_curVal o0) (f_curTgt o0) (f_snapVal o0) (f_snapTgt o0) (f_bestCost o0) (f_bestCut o0) (f_clStart o0) (f_clEnd o0) (f_opc o0) (f_argA o0) (f_argB o0) (f_argC o0) (f_argD o0) (f_tablePool o0) a0_28 a0_29 (f_stLo o0) (f_stHi o0) (f_stParent o0) (f_stSlot o0) (f_cap o0) (f_targets o0) (f_curCount o0) (f_curDefault o0) (f_dirty o0) (f_snapCount o0) (f_snapDefault o0) (f_hasSnap o0) (f_clCount o0) (f_codeLen o0) (f_rootPc o0) (f_tableUsed o0) (f_maskUsed o0) (f_sp o0)
def H0x54 (s : List Int32) (o0 : Ob) (a0_28 : List Int64) : QHeap := H0v s (f_opRet o0) (f_opLess o0) (f_opEq o0) (f_opTable o0) (f_opBits o0) (f_maxCap o0) (f_maxTargets o0) (f_maxSteps o0) (f_tableSpanPerCase o0) (f_maxTableSpan o0) (f_maxBitSpan o0) (f_maxBitTargets o0) (f_unsignedMask o0) (f_maxInt o0) (f_curVal o0) (f_curTgt o0) (f_snapVal o0) (f_snapTgt o0) (f_bestCost o0) (f_bestCut o0) (f_clStart o0) (f_clEnd o0) (f_opc o0) (f_argA o0) (f_argB o0) (f_argC o0) (f_argD o0) (f_tablePool o0) a0_28 (f_maskTarget o0) (f_stLo o0) (f_stHi o0) (f_stParent o0) (f_stSlot o0) (f_cap o0) (f_targets o0) (f_curCount o0) (f_curDefault o0) (f_dirty o0) (f_snapCount o0) (f_snapDefault o0) (f_hasSnap o0) (f_clCount o0) (f_codeLen o0) (f_rootPc o0) (f_tableUsed o0) (f_maskUsed o0) (f_sp o0)
def J27_120 (o : Ob) (x2 : Int32) (x3 : Int32) (x4 : Int32) (x5 : Int32) (x6 : Int32) (x7 : Int32) (x9 : Int32) : Option (((Int32 × Ob)) ⊕ (Int32 × Int32 × Ob)) :=
  (if x9 < (0 : Int32) then (J27_151 o x2 x3 x4 x5 x6 x7) else (aget (f_snapVal o) x7).bind fun y316 => (aget (f_maskPool o) x9).bind fun y317 => (aset (f_maskPool o) x9 (y317 ||| ((1 : Int64) <<< ((y316 - x4).toInt64 &&& 63)))).bind fun y318 => (J27_151 (s_maskPool o y318) x2 x3 x4 x5 x6 x7))
theorem tJ27_120 (Ad : QAd n0 ad) (W : QW Z a0) (s : List Int32) (o : Ob) (x2 : Int32) (x3 : Int32) (x4 : Int32) (x5 : Int32) (x6 : Int32) (x7 : Int32) (x9 : Int32) {r : ((Int32 × Ob)) ⊕ (Int32 × Int32 × Ob)} {u : Option Value} {τ : QHeap} (h : J27_120 o x2 x3 x4 x5 x6 x7 x9 = some r) (hx0 : ∀ x : Int32 × Ob, r = .inl x → QTri l Z n0 ad 27 (157, [vR 1, none, none, vI x3, vI x4, vI x5, vI x.1, none, none, none, none], [], (H0 s x.2)) u τ) (hc : ∀ x : Int32 × Int32 × Ob, r = .inr x → QTri l Z n0 ad 27 (20, [vR 1, none, vI x2, vI x3, vI x4, vI x5, vI x.1, vI x.2.1, none, none, none], [], (H0 s x.2.2)) u τ) : QTri l Z n0 ad 27 (120, [vR 1, none, vI x2, vI x3, vI x4, vI x5, vI x6, vI x7, none, vI x9, none], [], (H0 s o)) u τ := by
 unfold J27_120 at h
 refine zS Ad W 1 (st' := (122, [vR 1, none, vI x2, vI x3, vI x4, vI x5, vI x6, vI x7, none, vI x9, none], [.int x9], (H0 s o))) rfl ?_
 rcases qite h with ⟨hc315, h⟩ | ⟨hc315, h⟩
 ·refine zT Ad W (t := 151) (f := 125) rfl (XT.i0_lt_t hc315) ?_
  exact zM [tt,ff,tt,tt,tt,tt,tt,tt,ff,ff,ff] (tJ27_151 Ad W s o x2 x3 x4 x5 x6 x7 h hx0 hc)
 ·refine zF Ad W (t := 151) (f := 125) rfl (XT.i0_lt_f hc315) ?_
  refine zS Ad W 3 (st' := (131, [vR 1, none, vI x2, vI x3, vI x4, vI x5, vI x6, vI x7, none, vI x9, none], [.int x7, .ref 4], (H0 s o))) rfl ?_
  obtain ⟨y316, hy316, h⟩ := bind_eq_some_iff.mp h
  refine zB Ad W (f := fun y316 => (132, [vR 1, none, vI x2, vI x3, vI x4, vI x5, vI x6, vI x7, none, vI x9, none], [.int y316], (H0 s o))) rfl hy316 ?_
  refine zS Ad W 7 (st' := (144, [vR 1, none, vI x2, vI x3, vI x4, vI x5, vI x6, vI x7, none, vI x9, vI (y316 - x4)], [.int x9, .ref 16, .int x9, .ref 16], (H0 s o))) rfl ?_
  obtain ⟨y317, hy317, h⟩ := bind_eq_some_iff.mp h
  refine zB Ad W (f := fun y317 => (145, [vR 1, none, vI x2, vI x3, vI x4, vI x5, vI x6, vI x7, none, vI x9, vI (y316 - x4)], [.long y317, .int x9, .ref 16], (H0 s o))) rfl hy317 ?_
  refine zS Ad W 4 (st' := (150, [vR 1, none, vI x2, vI x3, vI x4, vI x5, vI x6, vI x7, none, vI x9, vI (y316 - x4)], [.long (y317 ||| ((1 : Int64) <<< ((y316 - x4).toInt64 &&& 63))), .int x9, .ref 16], (H0 s o))) rfl ?_
  obtain ⟨y318, hy318, h⟩ := bind_eq_some_iff.mp h
  refine zB Ad W (f := fun y318 => (151, [vR 1, none, vI x2, vI x3, vI x4, vI x5, vI x6, vI x7, none, vI x9, vI (y316 - x4)], [], (H0x54 s o y318))) rfl hy318 ?_
  have E319 : ((H0x54 s o y318) : QHeap) = (H0 s (s_maskPool o y318)) := by simp only [fs, H0, H0v, H0x54, s_maskPool]
  rw [E319]
  exact zM [tt,ff,tt,tt,tt,tt,tt,tt,ff,ff,ff] (tJ27_151 Ad W s (s_maskPool o y318) x2 x3 x4 x5 x6 x7 h hx0 hc)
def B27_20 (x2 : Int32) (x3 : Int32) (x4 : Int32) (x5 : Int32) (v : Int32 × Int32 × Ob) : Option (((Int32 × Ob)) ⊕ (Int32 × Int32 × Ob)) :=
  (if x2 < v.2.1 then some (.inl (v.1, v.2.2)) else (if v.2.1 < (f_snapCount v.2.2) then (aget (f_snapTgt v.2.2) v.2.1).bind fun y299 => (if y299 = (f_snapDefault v.2.2) then (J27_151 v.2.2 x2 x3 x4 x5 v.1 v.2.1) else (F28 v.2.2 x5 v.1 y299).bind fun r308 => (if r308 < (0 : Int32) then (if v.1 < (3 : Int32) then (if (x5 + v.1) < ((f_maskPool v.2.2).length.toInt32) then (aset (f_maskTarget v.2.2) (x5 + v.1) ((y299.toInt8.toInt32).toInt8.toInt32)).bind fun y312 => (aset (f_maskPool v.2.2) (x5 + v.1) (0 : Int64)).bind fun y313 => (J27_120 (s_maskPool (s_maskTarget v.2.2 y312) y313) x2 x3 x4 x5 (v.1 + (1 : Int32)) v.2.1 (x5 + v.1)) else (J27_120 v.2.2 x2 x3 x4 x5 v.1 v.2.1 r308)) else (J27_120 v.2.2 x2 x3 x4 x5 v.1 v.2.1 r308)) else (J27_120 v.2.2 x2 x3 x4 x5 v.1 v.2.1 r308))) else some (.inl (v.1, v.2.2))))
theorem tB27_20 (Ad : QAd n0 ad) (W : QW Z a0) (s : List Int32) (x2 : Int32) (x3 : Int32) (x4 : Int32) (x5 : Int32) (v : Int32 × Int32 × Ob) {r : ((Int32 × Ob)) ⊕ (Int32 × Int32 × Ob)} {u : Option Value} {τ : QHeap} (h : B27_20 x2 x3 x4 x5 v = some r) (hx0 : ∀ x : Int32 × Ob, r = .inl x → QTri l Z n0 ad 27 (157, [vR 1, none, none, vI x3, vI x4, vI x5, vI x.1, none, none, none, none], [], (H0 s x.2)) u τ) (hc : ∀ x : Int32 × Int32 × Ob, r = .inr x → QTri l Z n0 ad 27 (20, [vR 1, none, vI x2, vI x3, vI x4, vI x5, vI x.1, vI x.2.1, none, none, none], [], (H0 s x.2.2)) u τ) : QTri l Z n0 ad 27 (20, [vR 1, none, vI x2, vI x3, vI x4, vI x5, vI v.1, vI v.2.1, none, none, none], [], (H0 s v.2.2)) u τ := by
 unfold B27_20 at h
 refine zS Ad W 2 (st' := (23, [vR 1, none, vI x2, vI x3, vI x4, vI x5, vI v.1, vI v.2.1, none, none, none], [.int x2, .int v.2.1], (H0 s v.2.2))) rfl ?_
 rcases qite h with ⟨hc297, h⟩ | ⟨hc297, h⟩
 ·refine zT Ad W (t := 157) (f := 26) rfl (XT.ii_gt_t hc297) ?_
  obtain rfl := Option.some.inj h
  exact zM [tt,ff,ff,tt,tt,tt,tt,ff,ff,ff,ff] (hx0 (v.1, v.2.2) rfl)
 ·refine zF Ad W (t := 157) (f := 26) rfl (XT.ii_gt_f hc297) ?_
  refine zS Ad W 3 (st' := (32, [vR 1, none, vI x2, vI x3, vI x4, vI x5, vI v.1, vI v.2.1, none, none, none], [.int (f_snapCount v.2.2), .int v.2.1], (H0 s v.2.2))) rfl ?_
  rcases qite h with ⟨hc298, h⟩ | ⟨hc298, h⟩
  ·refine zF Ad W (t := 157) (f := 35) rfl (XT.ii_ge_f hc298) ?_
   refine zS Ad W 3 (st' := (41, [vR 1, none, vI x2, vI x3, vI x4, vI x5, vI v.1, vI v.2.1, none, none, none], [.int v.2.1, .ref 5], (H0 s v.2.2))) rfl ?_
   obtain ⟨y299, hy299, h⟩ := bind_eq_some_iff.mp h
   refine zB Ad W (f := fun y299 => (42, [vR 1, none, vI x2, vI x3, vI x4, vI x5, vI v.1, vI v.2.1, none, none, none], [.int y299], (H0 s v.2.2))) rfl hy299 ?_
   refine zS Ad W 4 (st' := (50, [vR 1, none, vI x2, vI x3, vI x4, vI x5, vI v.1, vI v.2.1, vI y299, none, none], [.int (f_snapDefault v.2.2), .int y299], (H0 s v.2.2))) rfl ?_
   rcases qite h with ⟨hc300, h⟩ | ⟨hc300, h⟩
   ·refine zF Ad W (t := 56) (f := 53) rfl (XT.ii_ne_f hc300) ?_
    refine zS Ad W 1 (st' := (151, [vR 1, none, vI x2, vI x3, vI x4, vI x5, vI v.1, vI v.2.1, vI y299, none, none], [], (H0 s v.2.2))) rfl ?_
    exact zM [tt,ff,tt,tt,tt,tt,tt,tt,ff,ff,ff] (tJ27_151 Ad W s v.2.2 x2 x3 x4 x5 v.1 v.2.1 h hx0 hc)
   ·refine zT Ad W (t := 56) (f := 53) rfl (XT.ii_ne_t hc300) ?_
    refine zS Ad W 4 (st' := (63, [vR 1, none, vI x2, vI x3, vI x4, vI x5, vI v.1, vI v.2.1, vI y299, none, none], [.int y299, .int v.1, .int x5, .ref 1], (H0 s v.2.2))) rfl ?_
    obtain ⟨r308, hr308, h⟩ := bind_eq_some_iff.mp h
    refine QTri.callP W (a := 1) (as := [.int x5, .int v.1, .int y299]) (rest := []) (w := (some (.int r308))) (σ₁ := (H0 s v.2.2)) rfl rfl rfl rfl rfl rfl rfl rfl (tF28 Ad W s v.2.2 x5 v.1 y299 hr308) ?_
    refine zS Ad W 2 (st' := (70, [vR 1, none, vI x2, vI x3, vI x4, vI x5, vI v.1, vI v.2.1, vI y299, vI r308, none], [.int r308], (H0 s v.2.2))) rfl ?_
    rcases qite h with ⟨hc309, h⟩ | ⟨hc309, h⟩
    ·refine zF Ad W (t := 120) (f := 73) rfl (XT.i0_ge_f hc309) ?_
     refine zS Ad W 2 (st' := (76, [vR 1, none, vI x2, vI x3, vI x4, vI x5, vI v.1, vI v.2.1, vI y299, vI r308, none], [.int (3:Int32), .int v.1], (H0 s v.2.2))) rfl ?_
     rcases qite h with ⟨hc310, h⟩ | ⟨hc310, h⟩
     ·refine zF Ad W (t := 120) (f := 79) rfl (XT.ii_ge_f hc310) ?_
      refine zS Ad W 6 (st' := (89, [vR 1, none, vI x2, vI x3, vI x4, vI x5, vI v.1, vI v.2.1, vI y299, vI r308, none], [.int ((f_maskPool v.2.2).length.toInt32), .int (x5 + v.1)], (H0 s v.2.2))) rfl ?_
      rcases qite h with ⟨hc311, h⟩ | ⟨hc311, h⟩
      ·refine zF Ad W (t := 120) (f := 92) rfl (XT.ii_ge_f hc311) ?_
       refine zS Ad W 9 (st' := (108, [vR 1, none, vI x2, vI x3, vI x4, vI x5, vI v.1, vI v.2.1, vI y299, vI (x5 + v.1), none], [.int (y299.toInt8.toInt32), .int (x5 + v.1), .ref 17], (H0 s v.2.2))) rfl ?_
       obtain ⟨y312, hy312, h⟩ := bind_eq_some_iff.mp h
       refine zB Ad W (f := fun y312 => (109, [vR 1, none, vI x2, vI x3, vI x4, vI x5, vI v.1, vI v.2.1, vI y299, vI (x5 + v.1), none], [], (H0x52 s v.2.2 y312))) rfl hy312 ?_
       refine zS Ad W 4 (st' := (116, [vR 1, none, vI x2, vI x3, vI x4, vI x5, vI v.1, vI v.2.1, vI y299, vI (x5 + v.1), none], [.long (0 : Int64), .int (x5 + v.1), .ref 16], (H0x52 s v.2.2 y312))) rfl ?_
       obtain ⟨y313, hy313, h⟩ := bind_eq_some_iff.mp h
       refine zB Ad W (f := fun y313 => (117, [vR 1, none, vI x2, vI x3, vI x4, vI x5, vI v.1, vI v.2.1, vI y299, vI (x5 + v.1), none], [], (H0x53 s v.2.2 y313 y312))) rfl hy313 ?_
       refine zS Ad W 1 (st' := (120, [vR 1, none, vI x2, vI x3, vI x4, vI x5, vI (v.1 + (1:Int32)), vI v.2.1, vI y299, vI (x5 + v.1), none], [], (H0x53 s v.2.2 y313 y312))) rfl ?_
       have E314 : ((H0x53 s v.2.2 y313 y312) : QHeap) = (H0 s (s_maskPool (s_maskTarget v.2.2 y312) y313)) := by simp only [fs, H0, H0v, H0x53, s_maskPool, s_maskTarget]
       rw [E314]
       exact zM [tt,ff,tt,tt,tt,tt,tt,tt,ff,tt,ff] (tJ27_120 Ad W s (s_maskPool (s_maskTarget v.2.2 y312) y313) x2 x3 x4 x5 (v.1 + (1:Int32)) v.2.1 (x5 + v.1) h hx0 hc)
      ·refine zT Ad W (t := 120) (f := 92) rfl (XT.ii_ge_t hc311) ?_
       exact zM [tt,ff,tt,tt,tt,tt,tt,tt,ff,tt,ff] (tJ27_120 Ad W s v.2.2 x2 x3 x4 x5 v.1 v.2.1 r308 h hx0 hc)
     ·refine zT Ad W (t := 120) (f := 79) rfl (XT.ii_ge_t hc310) ?_
      exact zM [tt,ff,tt,tt,tt,tt,tt,tt,ff,tt,ff] (tJ27_120 Ad W s v.2.2 x2 x3 x4 x5 v.1 v.2.1 r308 h hx0 hc)
    ·refine zT Ad W (t := 120) (f := 73) rfl (XT.i0_ge_t hc309) ?_
     exact zM [tt,ff,tt,tt,tt,tt,tt,tt,ff,tt,ff] (tJ27_120 Ad W s v.2.2 x2 x3 x4 x5 v.1 v.2.1 r308 h hx0 hc)
  ·refine zT Ad W (t := 157) (f := 35) rfl (XT.ii_ge_t hc298) ?_
   obtain rfl := Option.some.inj h
   exact zM [tt,ff,ff,tt,tt,tt,tt,ff,ff,ff,ff] (hx0 (v.1, v.2.2) rfl)
def H0x55 (s : List Int32) (o0 : Ob) (a0_46 : Int32) : QHeap := H0v s (f_opRet o0) (f_opLess o0) (f_opEq o0) (f_opTable o0) (f_opBits o0) (f_maxCap o0) (f_maxTargets o0) (f_maxSteps o0) (f_tableSpanPerCase o0) (f_maxTableSpan o0) (f_maxBitSpan o0) (f_maxBitTargets o0) (f_unsignedMask o0) (f_maxInt o0) (f_curVal o0) (f_curTgt o0) (f_snapVal o0) (f_snapTgt o0) (f_bestCost o0) (f_bestCut o0) (f_clStart o0) (f_clEnd o0) (f_opc o0) (f_argA o0) (f_argB o0) (f_argC o0) (f_argD o0) (f_tablePool o0) (f_maskPool o0) (f_maskTarget o0) (f_stLo o0) (f_stHi o0) (f_stParent o0) (f_stSlot o0) (f_cap o0) (f_targets o0) (f_curCount o0) (f_curDefault o0) (f_dirty o0) (f_snapCount o0) (f_snapDefault o0) (f_hasSnap o0) (f_clCount o0) (f_codeLen o0) (f_rootPc o0) (f_tableUsed o0) a0_46 (f_sp o0)
def J27_157 (o : Ob) (x3 : Int32) (x4 : Int32) (x5 : Int32) (x6 : Int32) : Option (Int32 × Ob) :=
  (F9 (s_maskUsed o (x5 + x6)) (4 : Int32) x4 x5 x6 x3).bind fun r323 => some (r323.1, r323.2)
theorem tJ27_157 (Ad : QAd n0 ad) (W : QW Z a0) (s : List Int32) (o : Ob) (x3 : Int32) (x4 : Int32) (x5 : Int32) (x6 : Int32) {r : Int32 × Ob} (h : J27_157 o x3 x4 x5 x6 = some r) : QTri l Z n0 ad 27 (157, [vR 1, none, none, vI x3, vI x4, vI x5, vI x6, none, none, none, none], [], (H0 s o)) (some (Value.int r.1)) (H0 s r.2) := by
 unfold J27_157 at h
 refine zS Ad W 5 (st' := (166, [vR 1, none, none, vI x3, vI x4, vI x5, vI x6, none, none, none, none], [], (H0x55 s o (x5 + x6)))) rfl ?_
 refine zS Ad W 6 (st' := (175, [vR 1, none, none, vI x3, vI x4, vI x5, vI x6, none, none, none, none], [.int x3, .int x6, .int x5, .int x4, .int (4:Int32), .ref 1], (H0x55 s o (x5 + x6)))) rfl ?_
 have E322 : ((H0x55 s o (x5 + x6)) : QHeap) = (H0 s (s_maskUsed o (x5 + x6))) := by simp only [fs, H0, H0v, H0x55, s_maskUsed]
 rw [E322]
 obtain ⟨r323, hr323, h⟩ := bind_eq_some_iff.mp h
 refine QTri.callP W (a := 1) (as := [.int (4:Int32), .int x4, .int x5, .int x6, .int x3]) (rest := []) (w := (some (.int r323.1))) (σ₁ := (H0 s r323.2)) rfl rfl rfl rfl rfl rfl rfl rfl (tF9 Ad W s (s_maskUsed o (x5 + x6)) (4:Int32) x4 x5 x6 x3 hr323) ?_
 obtain rfl := Option.some.inj h
 exact QTri.retI rfl rfl
/-- emitBits(III)I -/
def F27 (o : Ob) (x1 : Int32) (x2 : Int32) (x3 : Int32) : Option (Int32 × Ob) :=
 (aget (f_snapVal o) x1).bind fun y296 => (loopN (B27_20 x2 x3 y296 (f_maskUsed o)) qN ((0:Int32), x1, o)).bind fun e320 => (J27_157 e320.2 x3 y296 (f_maskUsed o) e320.1)
theorem tF27 (Ad : QAd n0 ad) (W : QW Z a0) (s : List Int32) (o : Ob) (x1 : Int32) (x2 : Int32) (x3 : Int32) {r : Int32 × Ob} (h : F27 o x1 x2 x3 = some r) : QTri l Z n0 ad 27 (0, qentry [.ref 1, .int x1, .int x2, .int x3] (pMaxL 27), [], (H0 s o)) (some (Value.int r.1)) (H0 s r.2) := by
 unfold F27 at h
 refine zS Ad W 3 (st' := (5, [vR 1, vI x1, vI x2, vI x3, none, none, none, none, none, none, none], [.int x1, .ref 4], (H0 s o))) rfl ?_
 obtain ⟨y296, hy296, h⟩ := bind_eq_some_iff.mp h
 refine zB Ad W (f := fun y296 => (6, [vR 1, vI x1, vI x2, vI x3, none, none, none, none, none, none, none], [.int y296], (H0 s o))) rfl hy296 ?_
 refine zS Ad W 4 (st' := (14, [vR 1, vI x1, vI x2, vI x3, vI y296, vI (f_maskUsed o), none, none, none, none, none], [], (H0 s o))) rfl ?_
 refine zS Ad W 4 (st' := (20, [vR 1, vI x1, vI x2, vI x3, vI y296, vI (f_maskUsed o), vI (0:Int32), vI x1, none, none, none], [], (H0 s o))) rfl ?_
 obtain ⟨e320, he320, h⟩ := bind_eq_some_iff.mp h
 refine zM [tt,ff,tt,tt,tt,tt,tt,tt,ff,ff,ff] (loopN_tri (B := B27_20 x2 x3 y296 (f_maskUsed o)) (T := fun lv321 => QTri l Z n0 ad 27 (20, [vR 1, none, vI x2, vI x3, vI y296, vI (f_maskUsed o), vI lv321.1, vI lv321.2.1, none, none, none], [], (H0 s lv321.2.2)) (some (Value.int r.1)) (H0 s r.2)) (KE := fun e320a => QTri l Z n0 ad 27 (157, [vR 1, none, none, vI x3, vI y296, vI (f_maskUsed o), vI e320a.1, none, none, none, none], [], (H0 s e320a.2)) (some (Value.int r.1)) (H0 s r.2)) (fun lv321 r hB hE hC => tB27_20 Ad W s x2 x3 y296 (f_maskUsed o) lv321 hB (fun x q => hE _ q) (fun x q => hC x q)) qN ((0:Int32), x1, o) e320 he320 ?_)
 exact zM [tt,ff,ff,tt,tt,tt,tt,ff,ff,ff,ff] (tJ27_157 Ad W s e320.2 x3 y296 (f_maskUsed o) e320.1 h)
/-- emitLeaf(I)I -/
def F25 (o : Ob) (x1 : Int32) : Option (Int32 × Ob) :=
 (if x1 < (0:Int32) then some ((0:Int32), o) else (if x1 < (f_clCount o) then (aget (f_clStart o) x1).bind fun y272 => (aget (f_clEnd o) x1).bind fun y273 => (if y272 < (0:Int32) then some ((0:Int32), o) else (if y273 < (f_snapCount o) then (if y273 < y272 then some ((0:Int32), o) else (if y272 = y273 then (aget (f_snapVal o) y272).bind fun y278 => (aget (f_snapTgt o) y272).bind fun y279 => (F9 o (2:Int32) y278 y279 (0:Int32) (0:Int32)).bind fun r280 => some (r280.1, r280.2) else (aget (f_snapVal o) y273).bind fun y281 => (aget (f_snapVal o) y272).bind fun y282 => (F26 o y272 y273).bind fun r293 => (if (64 : Int64) < (((y281.toInt64) - (y282.toInt64)) + (1 : Int64)) then (J25_124 o y272 y273 (((y281.toInt64) - (y282.toInt64)) + (1 : Int64))) else (if (3:Int32) < r293 then (J25_124 o y272 y273 (((y281.toInt64) - (y282.toInt64)) + (1 : Int64))) else (F27 o y272 y273 ((((y281.toInt64) - (y282.toInt64)) + (1 : Int64)).toInt32)).bind fun r324 => some (r324.1, r324.2))))) else some ((0:Int32), o))) else some ((0:Int32), o)))
theorem tF25 (Ad : QAd n0 ad) (W : QW Z a0) (s : List Int32) (o : Ob) (x1 : Int32) {r : Int32 × Ob} (h : F25 o x1 = some r) : QTri l Z n0 ad 25 (0, qentry [.ref 1, .int x1] (pMaxL 25), [], (H0 s o)) (some (Value.int r.1)) (H0 s r.2) := by
 unfold F25 at h
 refine zS Ad W 1 (st' := (1, [vR 1, vI x1, none, none, none, none, none], [.int x1], (H0 s o))) rfl ?_
 rcases qite h with ⟨hc270, h⟩ | ⟨hc270, h⟩
 ·refine zT Ad W (t := 12) (f := 4) rfl (XT.i0_lt_t hc270) ?_
  refine zS Ad W 1 (st' := (13, [vR 1, vI x1, none, none, none, none, none], [.int (0:Int32)], (H0 s o))) rfl ?_
  obtain rfl := Option.some.inj h
  exact QTri.retI rfl rfl
 ·refine zF Ad W (t := 12) (f := 4) rfl (XT.i0_lt_f hc270) ?_
  refine zS Ad W 3 (st' := (9, [vR 1, vI x1, none, none, none, none, none], [.int (f_clCount o), .int x1], (H0 s o))) rfl ?_
  rcases qite h with ⟨hc271, h⟩ | ⟨hc271, h⟩
  ·refine zT Ad W (t := 14) (f := 12) rfl (XT.ii_lt_t hc271) ?_
   refine zS Ad W 3 (st' := (19, [vR 1, vI x1, none, none, none, none, none], [.int x1, .ref 8], (H0 s o))) rfl ?_
   obtain ⟨y272, hy272, h⟩ := bind_eq_some_iff.mp h
   refine zB Ad W (f := fun y272 => (20, [vR 1, vI x1, none, none, none, none, none], [.int y272], (H0 s o))) rfl hy272 ?_
   refine zS Ad W 4 (st' := (26, [vR 1, vI x1, vI y272, none, none, none, none], [.int x1, .ref 9], (H0 s o))) rfl ?_
   obtain ⟨y273, hy273, h⟩ := bind_eq_some_iff.mp h
   refine zB Ad W (f := fun y273 => (27, [vR 1, vI x1, vI y272, none, none, none, none], [.int y273], (H0 s o))) rfl hy273 ?_
   refine zS Ad W 2 (st' := (29, [vR 1, vI x1, vI y272, vI y273, none, none, none], [.int y272], (H0 s o))) rfl ?_
   rcases qite h with ⟨hc274, h⟩ | ⟨hc274, h⟩
   ·refine zT Ad W (t := 45) (f := 32) rfl (XT.i0_lt_t hc274) ?_
    refine zS Ad W 1 (st' := (46, [vR 1, vI x1, vI y272, vI y273, none, none, none], [.int (0:Int32)], (H0 s o))) rfl ?_
    obtain rfl := Option.some.inj h
    exact QTri.retI rfl rfl
   ·refine zF Ad W (t := 45) (f := 32) rfl (XT.i0_lt_f hc274) ?_
    refine zS Ad W 3 (st' := (37, [vR 1, vI x1, vI y272, vI y273, none, none, none], [.int (f_snapCount o), .int y273], (H0 s o))) rfl ?_
    rcases qite h with ⟨hc275, h⟩ | ⟨hc275, h⟩
    ·refine zF Ad W (t := 45) (f := 40) rfl (XT.ii_ge_f hc275) ?_
     refine zS Ad W 2 (st' := (42, [vR 1, vI x1, vI y272, vI y273, none, none, none], [.int y273, .int y272], (H0 s o))) rfl ?_
     rcases qite h with ⟨hc276, h⟩ | ⟨hc276, h⟩
     ·refine zF Ad W (t := 47) (f := 45) rfl (XT.ii_le_f hc276) ?_
      refine zS Ad W 1 (st' := (46, [vR 1, vI x1, vI y272, vI y273, none, none, none], [.int (0:Int32)], (H0 s o))) rfl ?_
      obtain rfl := Option.some.inj h
      exact QTri.retI rfl rfl
     ·refine zT Ad W (t := 47) (f := 45) rfl (XT.ii_le_t hc276) ?_
      refine zS Ad W 2 (st' := (49, [vR 1, vI x1, vI y272, vI y273, none, none, none], [.int y273, .int y272], (H0 s o))) rfl ?_
      rcases qite h with ⟨hc277, h⟩ | ⟨hc277, h⟩
      ·refine zF Ad W (t := 72) (f := 52) rfl (XT.ii_ne_f hc277) ?_
       refine zS Ad W 5 (st' := (59, [vR 1, vI x1, vI y272, vI y273, none, none, none], [.int y272, .ref 4, .int (2:Int32), .ref 1], (H0 s o))) rfl ?_
       obtain ⟨y278, hy278, h⟩ := bind_eq_some_iff.mp h
       refine zB Ad W (f := fun y278 => (60, [vR 1, vI x1, vI y272, vI y273, none, none, none], [.int y278, .int (2:Int32), .ref 1], (H0 s o))) rfl hy278 ?_
       refine zS Ad W 3 (st' := (65, [vR 1, vI x1, vI y272, vI y273, none, none, none], [.int y272, .ref 5, .int y278, .int (2:Int32), .ref 1], (H0 s o))) rfl ?_
       obtain ⟨y279, hy279, h⟩ := bind_eq_some_iff.mp h
       refine zB Ad W (f := fun y279 => (66, [vR 1, vI x1, vI y272, vI y273, none, none, none], [.int y279, .int y278, .int (2:Int32), .ref 1], (H0 s o))) rfl hy279 ?_
       refine zS Ad W 2 (st' := (68, [vR 1, vI x1, vI y272, vI y273, none, none, none], [.int (0:Int32), .int (0:Int32), .int y279, .int y278, .int (2:Int32), .ref 1], (H0 s o))) rfl ?_
       obtain ⟨r280, hr280, h⟩ := bind_eq_some_iff.mp h
       refine QTri.callP W (a := 1) (as := [.int (2:Int32), .int y278, .int y279, .int (0:Int32), .int (0:Int32)]) (rest := []) (w := (some (.int r280.1))) (σ₁ := (H0 s r280.2)) rfl rfl rfl rfl rfl rfl rfl rfl (tF9 Ad W s o (2:Int32) y278 y279 (0:Int32) (0:Int32) hr280) ?_
       obtain rfl := Option.some.inj h
       exact QTri.retI rfl rfl
      ·refine zT Ad W (t := 72) (f := 52) rfl (XT.ii_ne_t hc277) ?_
       refine zS Ad W 3 (st' := (77, [vR 1, vI x1, vI y272, vI y273, none, none, none], [.int y273, .ref 4], (H0 s o))) rfl ?_
       obtain ⟨y281, hy281, h⟩ := bind_eq_some_iff.mp h
       refine zB Ad W (f := fun y281 => (78, [vR 1, vI x1, vI y272, vI y273, none, none, none], [.int y281], (H0 s o))) rfl hy281 ?_
       refine zS Ad W 4 (st' := (84, [vR 1, vI x1, vI y272, vI y273, none, none, none], [.int y272, .ref 4, .long (y281.toInt64)], (H0 s o))) rfl ?_
       obtain ⟨y282, hy282, h⟩ := bind_eq_some_iff.mp h
       refine zB Ad W (f := fun y282 => (85, [vR 1, vI x1, vI y272, vI y273, none, none, none], [.int y282, .long (y281.toInt64)], (H0 s o))) rfl hy282 ?_
       refine zS Ad W 8 (st' := (94, [vR 1, vI x1, vI y272, vI y273, vL (((y281.toInt64) - (y282.toInt64)) + (1 : Int64)), none, none], [.int y273, .int y272, .ref 1], (H0 s o))) rfl ?_
       obtain ⟨r293, hr293, h⟩ := bind_eq_some_iff.mp h
       refine QTri.callP W (a := 1) (as := [.int y272, .int y273]) (rest := []) (w := (some (.int r293))) (σ₁ := (H0 s o)) rfl rfl rfl rfl rfl rfl rfl rfl (tF26 Ad W s o y272 y273 hr293) ?_
       refine zS Ad W 4 (st' := (105, [vR 1, vI x1, vI y272, vI y273, vL (((y281.toInt64) - (y282.toInt64)) + (1 : Int64)), none, vI r293], [.int (XT.cmpL (((y281.toInt64) - (y282.toInt64)) + (1 : Int64)) (64 : Int64))], (H0 s o))) rfl ?_
       rcases qite h with ⟨hc294, h⟩ | ⟨hc294, h⟩
       ·refine zT Ad W (t := 124) (f := 108) rfl (XT.ll_gt_t hc294) ?_
        exact zM [tt,ff,tt,tt,tt,ff,ff] (tJ25_124 Ad W s o y272 y273 (((y281.toInt64) - (y282.toInt64)) + (1 : Int64)) h)
       ·refine zF Ad W (t := 124) (f := 108) rfl (XT.ll_gt_f hc294) ?_
        refine zS Ad W 2 (st' := (111, [vR 1, vI x1, vI y272, vI y273, vL (((y281.toInt64) - (y282.toInt64)) + (1 : Int64)), none, vI r293], [.int (3:Int32), .int r293], (H0 s o))) rfl ?_
        rcases qite h with ⟨hc295, h⟩ | ⟨hc295, h⟩
        ·refine zT Ad W (t := 124) (f := 114) rfl (XT.ii_gt_t hc295) ?_
         exact zM [tt,ff,tt,tt,tt,ff,ff] (tJ25_124 Ad W s o y272 y273 (((y281.toInt64) - (y282.toInt64)) + (1 : Int64)) h)
        ·refine zF Ad W (t := 124) (f := 114) rfl (XT.ii_gt_f hc295) ?_
         refine zS Ad W 5 (st' := (120, [vR 1, vI x1, vI y272, vI y273, vL (((y281.toInt64) - (y282.toInt64)) + (1 : Int64)), none, vI r293], [.int ((((y281.toInt64) - (y282.toInt64)) + (1 : Int64)).toInt32), .int y273, .int y272, .ref 1], (H0 s o))) rfl ?_
         obtain ⟨r324, hr324, h⟩ := bind_eq_some_iff.mp h
         refine QTri.callP W (a := 1) (as := [.int y272, .int y273, .int ((((y281.toInt64) - (y282.toInt64)) + (1 : Int64)).toInt32)]) (rest := []) (w := (some (.int r324.1))) (σ₁ := (H0 s r324.2)) rfl rfl rfl rfl rfl rfl rfl rfl (tF27 Ad W s o y272 y273 ((((y281.toInt64) - (y282.toInt64)) + (1 : Int64)).toInt32) hr324) ?_
         obtain rfl := Option.some.inj h
         exact QTri.retI rfl rfl
    ·refine zT Ad W (t := 45) (f := 40) rfl (XT.ii_ge_t hc275) ?_
     refine zS Ad W 1 (st' := (46, [vR 1, vI x1, vI y272, vI y273, none, none, none], [.int (0:Int32)], (H0 s o))) rfl ?_
     obtain rfl := Option.some.inj h
     exact QTri.retI rfl rfl
  ·refine zF Ad W (t := 14) (f := 12) rfl (XT.ii_lt_f hc271) ?_
   refine zS Ad W 1 (st' := (13, [vR 1, vI x1, none, none, none, none, none], [.int (0:Int32)], (H0 s o))) rfl ?_
   obtain rfl := Option.some.inj h
   exact QTri.retI rfl rfl
def B8_59 (v : Int32 × Ob) : Option (((Ob)) ⊕ (Int32 × Ob)) :=
  (if v.1 < ((f_opc v.2).length.toInt32) then (if (0 : Int32) < (f_sp v.2) then (aget (f_stLo v.2) ((f_sp v.2) - (1 : Int32))).bind fun y244 => (aget (f_stHi v.2) ((f_sp v.2) - (1 : Int32))).bind fun y245 => (aget (f_stParent v.2) ((f_sp v.2) - (1 : Int32))).bind fun y246 => (aget (f_stSlot v.2) ((f_sp v.2) - (1 : Int32))).bind fun y247 => (if y244 < y245 then (F34 (s_sp v.2 ((f_sp v.2) - (1 : Int32))) (XT.ushr ((y244 + y245) + (1 : Int32)) (1 : Int32))).bind fun r256 => (F9 (s_sp v.2 ((f_sp v.2) - (1 : Int32))) (1 : Int32) r256 (0 : Int32) (0 : Int32) (0 : Int32)).bind fun r257 => (F24 r257.2 (XT.ushr ((y244 + y245) + (1 : Int32)) (1 : Int32)) y245 r257.1 (1 : Int32)).bind fun r258 => (F24 r258 y244 ((XT.ushr ((y244 + y245) + (1 : Int32)) (1 : Int32)) - (1 : Int32)) r257.1 (0 : Int32)).bind fun r259 => (J8_193 r259 v.1 y246 y247 r257.1) else (F25 (s_sp v.2 ((f_sp v.2) - (1 : Int32))) y244).bind fun r325 => (J8_193 r325.2 v.1 y246 y247 r325.1)) else some (.inl v.2)) else some (.inl v.2))
theorem tB8_59 (Ad : QAd n0 ad) (W : QW Z a0) (s : List Int32) (v : Int32 × Ob) {r : ((Ob)) ⊕ (Int32 × Ob)} {u : Option Value} {τ : QHeap} (h : B8_59 v = some r) (hx0 : ∀ x : Ob, r = .inl x → u = (none : Option Value) ∧ τ = (H0 s x)) (hc : ∀ x : Int32 × Ob, r = .inr x → QTri l Z n0 ad 8 (59, [vR 1, vI x.1, none, none, none, none, none, none, none], [], (H0 s x.2)) u τ) : QTri l Z n0 ad 8 (59, [vR 1, vI v.1, none, none, none, none, none, none, none], [], (H0 s v.2)) u τ := by
 unfold B8_59 at h
 refine zS Ad W 4 (st' := (65, [vR 1, vI v.1, none, none, none, none, none, none, none], [.int ((f_opc v.2).length.toInt32), .int v.1], (H0 s v.2))) rfl ?_
 rcases qite h with ⟨hc242, h⟩ | ⟨hc242, h⟩
 ·refine zF Ad W (t := 209) (f := 68) rfl (XT.ii_ge_f hc242) ?_
  refine zS Ad W 2 (st' := (72, [vR 1, vI v.1, none, none, none, none, none, none, none], [.int (f_sp v.2)], (H0 s v.2))) rfl ?_
  rcases qite h with ⟨hc243, h⟩ | ⟨hc243, h⟩
  ·refine zF Ad W (t := 209) (f := 75) rfl (XT.i0_le_f hc243) ?_
   refine zS Ad W 6 (st' := (85, [vR 1, vI v.1, none, none, none, none, none, none, none], [], (H0x49 s v.2 ((f_sp v.2) - (1:Int32))))) rfl ?_
   refine zS Ad W 4 (st' := (93, [vR 1, vI v.1, none, none, none, none, none, none, none], [.int ((f_sp v.2) - (1:Int32)), .ref 18], (H0x49 s v.2 ((f_sp v.2) - (1:Int32))))) rfl ?_
   obtain ⟨y244, hy244, h⟩ := bind_eq_some_iff.mp h
   refine zB Ad W (f := fun y244 => (94, [vR 1, vI v.1, none, none, none, none, none, none, none], [.int y244], (H0x49 s v.2 ((f_sp v.2) - (1:Int32))))) rfl hy244 ?_
   refine zS Ad W 5 (st' := (103, [vR 1, vI v.1, vI y244, none, none, none, none, none, none], [.int ((f_sp v.2) - (1:Int32)), .ref 19], (H0x49 s v.2 ((f_sp v.2) - (1:Int32))))) rfl ?_
   obtain ⟨y245, hy245, h⟩ := bind_eq_some_iff.mp h
   refine zB Ad W (f := fun y245 => (104, [vR 1, vI v.1, vI y244, none, none, none, none, none, none], [.int y245], (H0x49 s v.2 ((f_sp v.2) - (1:Int32))))) rfl hy245 ?_
   refine zS Ad W 5 (st' := (113, [vR 1, vI v.1, vI y244, vI y245, none, none, none, none, none], [.int ((f_sp v.2) - (1:Int32)), .ref 20], (H0x49 s v.2 ((f_sp v.2) - (1:Int32))))) rfl ?_
   obtain ⟨y246, hy246, h⟩ := bind_eq_some_iff.mp h
   refine zB Ad W (f := fun y246 => (114, [vR 1, vI v.1, vI y244, vI y245, none, none, none, none, none], [.int y246], (H0x49 s v.2 ((f_sp v.2) - (1:Int32))))) rfl hy246 ?_
   refine zS Ad W 5 (st' := (124, [vR 1, vI v.1, vI y244, vI y245, vI y246, none, none, none, none], [.int ((f_sp v.2) - (1:Int32)), .ref 21], (H0x49 s v.2 ((f_sp v.2) - (1:Int32))))) rfl ?_
   obtain ⟨y247, hy247, h⟩ := bind_eq_some_iff.mp h
   refine zB Ad W (f := fun y247 => (125, [vR 1, vI v.1, vI y244, vI y245, vI y246, none, none, none, none], [.int y247], (H0x49 s v.2 ((f_sp v.2) - (1:Int32))))) rfl hy247 ?_
   refine zS Ad W 3 (st' := (129, [vR 1, vI v.1, vI y244, vI y245, vI y246, vI y247, none, none, none], [.int y245, .int y244], (H0x49 s v.2 ((f_sp v.2) - (1:Int32))))) rfl ?_
   rcases qite h with ⟨hc248, h⟩ | ⟨hc248, h⟩
   ·refine zT Ad W (t := 142) (f := 132) rfl (XT.ii_lt_t hc248) ?_
    refine zS Ad W 10 (st' := (154, [vR 1, vI v.1, vI y244, vI y245, vI y246, vI y247, none, vI (XT.ushr ((y244 + y245) + (1:Int32)) (1:Int32)), none], [.int (XT.ushr ((y244 + y245) + (1:Int32)) (1:Int32)), .ref 1], (H0x49 s v.2 ((f_sp v.2) - (1:Int32))))) rfl ?_
    have E249 : ((H0x49 s v.2 ((f_sp v.2) - (1:Int32))) : QHeap) = (H0 s (s_sp v.2 ((f_sp v.2) - (1:Int32)))) := by simp only [fs, H0, H0v, H0x49, s_sp]
    rw [E249]
    obtain ⟨r256, hr256, h⟩ := bind_eq_some_iff.mp h
    refine QTri.callP W (a := 1) (as := [.int (XT.ushr ((y244 + y245) + (1:Int32)) (1:Int32))]) (rest := []) (w := (some (.int r256))) (σ₁ := (H0 s (s_sp v.2 ((f_sp v.2) - (1:Int32))))) rfl rfl rfl rfl rfl rfl rfl rfl (tF34 Ad W s (s_sp v.2 ((f_sp v.2) - (1:Int32))) (XT.ushr ((y244 + y245) + (1:Int32)) (1:Int32)) hr256) ?_
    refine zS Ad W 7 (st' := (166, [vR 1, vI v.1, vI y244, vI y245, vI y246, vI y247, none, vI (XT.ushr ((y244 + y245) + (1:Int32)) (1:Int32)), vI r256], [.int (0:Int32), .int (0:Int32), .int (0:Int32), .int r256, .int (1:Int32), .ref 1], (H0 s (s_sp v.2 ((f_sp v.2) - (1:Int32)))))) rfl ?_
    obtain ⟨r257, hr257, h⟩ := bind_eq_some_iff.mp h
    refine QTri.callP W (a := 1) (as := [.int (1:Int32), .int r256, .int (0:Int32), .int (0:Int32), .int (0:Int32)]) (rest := []) (w := (some (.int r257.1))) (σ₁ := (H0 s r257.2)) rfl rfl rfl rfl rfl rfl rfl rfl (tF9 Ad W s (s_sp v.2 ((f_sp v.2) - (1:Int32))) (1:Int32) r256 (0:Int32) (0:Int32) (0:Int32) hr257) ?_
    refine zS Ad W 6 (st' := (178, [vR 1, vI v.1, vI y244, vI y245, vI y246, vI y247, vI r257.1, vI (XT.ushr ((y244 + y245) + (1:Int32)) (1:Int32)), vI r256], [.int (1:Int32), .int r257.1, .int y245, .int (XT.ushr ((y244 + y245) + (1:Int32)) (1:Int32)), .ref 1], (H0 s r257.2))) rfl ?_
    obtain ⟨r258, hr258, h⟩ := bind_eq_some_iff.mp h
    refine QTri.callP W (a := 1) (as := [.int (XT.ushr ((y244 + y245) + (1:Int32)) (1:Int32)), .int y245, .int r257.1, .int (1:Int32)]) (rest := []) (w := none) (σ₁ := (H0 s r258)) rfl rfl rfl rfl rfl rfl rfl rfl (tF24 Ad W s r257.2 (XT.ushr ((y244 + y245) + (1:Int32)) (1:Int32)) y245 r257.1 (1:Int32) hr258) ?_
    refine zS Ad W 7 (st' := (190, [vR 1, vI v.1, vI y244, vI y245, vI y246, vI y247, vI r257.1, vI (XT.ushr ((y244 + y245) + (1:Int32)) (1:Int32)), vI r256], [.int (0:Int32), .int r257.1, .int ((XT.ushr ((y244 + y245) + (1:Int32)) (1:Int32)) - (1:Int32)), .int y244, .ref 1], (H0 s r258))) rfl ?_
    obtain ⟨r259, hr259, h⟩ := bind_eq_some_iff.mp h
    refine QTri.callP W (a := 1) (as := [.int y244, .int ((XT.ushr ((y244 + y245) + (1:Int32)) (1:Int32)) - (1:Int32)), .int r257.1, .int (0:Int32)]) (rest := []) (w := none) (σ₁ := (H0 s r259)) rfl rfl rfl rfl rfl rfl rfl rfl (tF24 Ad W s r258 y244 ((XT.ushr ((y244 + y245) + (1:Int32)) (1:Int32)) - (1:Int32)) r257.1 (0:Int32) hr259) ?_
    exact zM [tt,tt,ff,ff,tt,tt,tt,ff,ff] (tJ8_193 Ad W s r259 v.1 y246 y247 r257.1 h hx0 hc)
   ·refine zF Ad W (t := 142) (f := 132) rfl (XT.ii_lt_f hc248) ?_
    refine zS Ad W 2 (st' := (134, [vR 1, vI v.1, vI y244, vI y245, vI y246, vI y247, none, none, none], [.int y244, .ref 1], (H0x49 s v.2 ((f_sp v.2) - (1:Int32))))) rfl ?_
    have E269 : ((H0x49 s v.2 ((f_sp v.2) - (1:Int32))) : QHeap) = (H0 s (s_sp v.2 ((f_sp v.2) - (1:Int32)))) := by simp only [fs, H0, H0v, H0x49, s_sp]
    rw [E269]
    obtain ⟨r325, hr325, h⟩ := bind_eq_some_iff.mp h
    refine QTri.callP W (a := 1) (as := [.int y244]) (rest := []) (w := (some (.int r325.1))) (σ₁ := (H0 s r325.2)) rfl rfl rfl rfl rfl rfl rfl rfl (tF25 Ad W s (s_sp v.2 ((f_sp v.2) - (1:Int32))) y244 hr325) ?_
    refine zS Ad W 2 (st' := (193, [vR 1, vI v.1, vI y244, vI y245, vI y246, vI y247, vI r325.1, none, none], [], (H0 s r325.2))) rfl ?_
    exact zM [tt,tt,ff,ff,tt,tt,tt,ff,ff] (tJ8_193 Ad W s r325.2 v.1 y246 y247 r325.1 h hx0 hc)
  ·refine zT Ad W (t := 209) (f := 75) rfl (XT.i0_le_t hc243) ?_
   obtain rfl := Option.some.inj h
   obtain ⟨rfl, rfl⟩ := hx0 v.2 rfl
   exact QTri.ret0 rfl rfl
 ·refine zT Ad W (t := 209) (f := 68) rfl (XT.ii_ge_t hc242) ?_
  obtain rfl := Option.some.inj h
  obtain ⟨rfl, rfl⟩ := hx0 v.2 rfl
  exact QTri.ret0 rfl rfl
/-- buildTree()V -/
def F8 (o : Ob) : Option (Ob) :=
 (F9 (s_sp (s_maskUsed (s_tableUsed (s_codeLen o (0:Int32)) (0:Int32)) (0:Int32)) (0:Int32)) (0:Int32) (f_snapDefault o) (0:Int32) (0:Int32) (0:Int32)).bind fun r231 => (if (0:Int32) < (f_clCount r231.2) then (F24 (s_rootPc r231.2 r231.1) (0:Int32) ((f_clCount r231.2) - (1:Int32)) (-1:Int32) (0:Int32)).bind fun r241 => (loopN (B8_59) qN ((0:Int32), r241)).bind fun e326 => some e326 else some (s_rootPc r231.2 r231.1))
theorem tF8 (Ad : QAd n0 ad) (W : QW Z a0) (s : List Int32) (o : Ob) {r : Ob} (h : F8 o = some r) : QTri l Z n0 ad 8 (0, qentry [.ref 1] (pMaxL 8), [], (H0 s o)) (none : Option Value) (H0 s r) := by
 unfold F8 at h
 refine zS Ad W 3 (st' := (5, [vR 1, none, none, none, none, none, none, none, none], [], (H0x33 s o (0:Int32)))) rfl ?_
 refine zS Ad W 3 (st' := (10, [vR 1, none, none, none, none, none, none, none, none], [], (H0x34 s o (0:Int32) (0:Int32)))) rfl ?_
 refine zS Ad W 3 (st' := (15, [vR 1, none, none, none, none, none, none, none, none], [], (H0x35 s o (0:Int32) (0:Int32) (0:Int32)))) rfl ?_
 refine zS Ad W 3 (st' := (20, [vR 1, none, none, none, none, none, none, none, none], [], (H0x36 s o (0:Int32) (0:Int32) (0:Int32) (0:Int32)))) rfl ?_
 refine zS Ad W 8 (st' := (30, [vR 1, none, none, none, none, none, none, none, none], [.int (0:Int32), .int (0:Int32), .int (0:Int32), .int (f_snapDefault o), .int (0:Int32), .ref 1, .ref 1], (H0x36 s o (0:Int32) (0:Int32) (0:Int32) (0:Int32)))) rfl ?_
 have E222 : ((H0x36 s o (0:Int32) (0:Int32) (0:Int32) (0:Int32)) : QHeap) = (H0 s (s_sp (s_maskUsed (s_tableUsed (s_codeLen o (0:Int32)) (0:Int32)) (0:Int32)) (0:Int32))) := by simp only [fs, H0, H0v, H0x36, s_codeLen, s_tableUsed, s_maskUsed, s_sp]
 rw [E222]
 obtain ⟨r231, hr231, h⟩ := bind_eq_some_iff.mp h
 refine QTri.callP W (a := 1) (as := [.int (0:Int32), .int (f_snapDefault o), .int (0:Int32), .int (0:Int32), .int (0:Int32)]) (rest := [.ref 1]) (w := (some (.int r231.1))) (σ₁ := (H0 s r231.2)) rfl rfl rfl rfl rfl rfl rfl rfl (tF9 Ad W s (s_sp (s_maskUsed (s_tableUsed (s_codeLen o (0:Int32)) (0:Int32)) (0:Int32)) (0:Int32)) (0:Int32) (f_snapDefault o) (0:Int32) (0:Int32) (0:Int32) hr231) ?_
 refine zS Ad W 1 (st' := (36, [vR 1, none, none, none, none, none, none, none, none], [], (H0x43 s r231.2 r231.1))) rfl ?_
 refine zS Ad W 2 (st' := (40, [vR 1, none, none, none, none, none, none, none, none], [.int (f_clCount r231.2)], (H0x43 s r231.2 r231.1))) rfl ?_
 rcases qite h with ⟨hc232, h⟩ | ⟨hc232, h⟩
 ·refine zT Ad W (t := 44) (f := 43) rfl (XT.i0_gt_t hc232) ?_
  refine zS Ad W 8 (st' := (54, [vR 1, none, none, none, none, none, none, none, none], [.int (0:Int32), .int (-1:Int32), .int ((f_clCount r231.2) - (1:Int32)), .int (0:Int32), .ref 1], (H0x43 s r231.2 r231.1))) rfl ?_
  have E233 : ((H0x43 s r231.2 r231.1) : QHeap) = (H0 s (s_rootPc r231.2 r231.1)) := by simp only [fs, H0, H0v, H0x43, s_rootPc]
  rw [E233]
  obtain ⟨r241, hr241, h⟩ := bind_eq_some_iff.mp h
  refine QTri.callP W (a := 1) (as := [.int (0:Int32), .int ((f_clCount r231.2) - (1:Int32)), .int (-1:Int32), .int (0:Int32)]) (rest := []) (w := none) (σ₁ := (H0 s r241)) rfl rfl rfl rfl rfl rfl rfl rfl (tF24 Ad W s (s_rootPc r231.2 r231.1) (0:Int32) ((f_clCount r231.2) - (1:Int32)) (-1:Int32) (0:Int32) hr241) ?_
  refine zS Ad W 2 (st' := (59, [vR 1, vI (0:Int32), none, none, none, none, none, none, none], [], (H0 s r241))) rfl ?_
  obtain ⟨e326, he326, h⟩ := bind_eq_some_iff.mp h
  refine zM [tt,tt,ff,ff,ff,ff,ff,ff,ff] (loopN_tri (B := B8_59) (T := fun lv327 => QTri l Z n0 ad 8 (59, [vR 1, vI lv327.1, none, none, none, none, none, none, none], [], (H0 s lv327.2)) (none : Option Value) (H0 s r)) (KE := fun e326a => (none : Option Value) = (none : Option Value) ∧ (H0 s r) = (H0 s e326a)) (fun lv327 r hB hE hC => tB8_59 Ad W s lv327 hB (fun x q => hE _ q) (fun x q => hC x q)) qN ((0:Int32), r241) e326 he326 ?_)
  obtain rfl := Option.some.inj h
  exact ⟨rfl, rfl⟩
 ·refine zF Ad W (t := 44) (f := 43) rfl (XT.i0_gt_f hc232) ?_
  have E328 : ((H0x43 s r231.2 r231.1) : QHeap) = (H0 s (s_rootPc r231.2 r231.1)) := by simp only [fs, H0, H0v, H0x43, s_rootPc]
  rw [E328]
  obtain rfl := Option.some.inj h
  exact QTri.ret0 rfl rfl
/-- lower()I -/
def F4 (o : Ob) : Option (Int32 × Ob) :=
 (F5 o).bind fun r166 => (F6 r166).bind fun r207 => (F7 r207).bind fun r221 => (F8 r221).bind fun r329 => some ((f_snapCount r329), r329)
theorem tF4 (Ad : QAd n0 ad) (W : QW Z a0) (s : List Int32) (o : Ob) {r : Int32 × Ob} (h : F4 o = some r) : QTri l Z n0 ad 4 (0, qentry [.ref 1] (pMaxL 4), [], (H0 s o)) (some (Value.int r.1)) (H0 s r.2) := by
 unfold F4 at h
 refine zS Ad W 1 (st' := (1, [vR 1], [.ref 1], (H0 s o))) rfl ?_
 obtain ⟨r166, hr166, h⟩ := bind_eq_some_iff.mp h
 refine QTri.callP W (a := 1) (as := []) (rest := []) (w := none) (σ₁ := (H0 s r166)) rfl rfl rfl rfl rfl rfl rfl rfl (tF5 Ad W s o hr166) ?_
 refine zS Ad W 1 (st' := (5, [vR 1], [.ref 1], (H0 s r166))) rfl ?_
 obtain ⟨r207, hr207, h⟩ := bind_eq_some_iff.mp h
 refine QTri.callP W (a := 1) (as := []) (rest := []) (w := none) (σ₁ := (H0 s r207)) rfl rfl rfl rfl rfl rfl rfl rfl (tF6 Ad W s r166 hr207) ?_
 refine zS Ad W 1 (st' := (9, [vR 1], [.ref 1], (H0 s r207))) rfl ?_
 obtain ⟨r221, hr221, h⟩ := bind_eq_some_iff.mp h
 refine QTri.callP W (a := 1) (as := []) (rest := []) (w := none) (σ₁ := (H0 s r221)) rfl rfl rfl rfl rfl rfl rfl rfl (tF7 Ad W s r207 hr221) ?_
 refine zS Ad W 1 (st' := (13, [vR 1], [.ref 1], (H0 s r221))) rfl ?_
 obtain ⟨r329, hr329, h⟩ := bind_eq_some_iff.mp h
 refine QTri.callP W (a := 1) (as := []) (rest := []) (w := none) (σ₁ := (H0 s r329)) rfl rfl rfl rfl rfl rfl rfl rfl (tF8 Ad W s r221 hr329) ?_
 refine zS Ad W 2 (st' := (20, [vR 1], [.int (f_snapCount r329)], (H0 s r329))) rfl ?_
 obtain rfl := Option.some.inj h
 exact QTri.retI rfl rfl
def B0_15 (s : List Int32) (v : Int32 × Int32 × Ob) : Option (((Int32 × QHeap)) ⊕ (Int32 × Int32 × Ob)) :=
  (if (v.2.1 + (2 : Int32)) < (s.length.toInt32) then (aget s v.2.1).bind fun y10 => (aget s (v.2.1 + (1 : Int32))).bind fun y11 => (aget s (v.2.1 + (2 : Int32))).bind fun y12 => (if (y10 &&& (7 : Int32)) = (0 : Int32) then (J0_56 s v.2.2 v.1 v.2.1 y11 y12) else (if (y10 &&& (7 : Int32)) = (5 : Int32) then (J0_56 s v.2.2 v.1 v.2.1 y11 y12) else (if (y10 &&& (7 : Int32)) = (1 : Int32) then (J0_81 s v.2.2 v.1 v.2.1 y11) else (if (y10 &&& (7 : Int32)) = (6 : Int32) then (J0_81 s v.2.2 v.1 v.2.1 y11) else (if (y10 &&& (7 : Int32)) = (2 : Int32) then (J0_104 s v.2.2 v.1 v.2.1 y11) else (if (y10 &&& (7 : Int32)) = (7 : Int32) then (J0_104 s v.2.2 v.1 v.2.1 y11) else (if (y10 &&& (7 : Int32)) = (3 : Int32) then (F4 v.2.2).bind fun r330 => (J0_136 s r330.2 (1 : Int32) v.2.1 y11) else (F3 v.2.2).bind fun r331 => (J0_136 s r331 (0 : Int32) v.2.1 y11)))))))) else some (.inl ((1 : Int32), (H0 s v.2.2))))
theorem tB0_15 (Ad : QAd n0 ad) (W : QW Z a0) (s : List Int32) (v : Int32 × Int32 × Ob) {r : ((Int32 × QHeap)) ⊕ (Int32 × Int32 × Ob)} {u : Option Value} {τ : QHeap} (h : B0_15 s v = some r) (hx0 : ∀ x : Int32 × QHeap, r = .inl x → u = (some (Value.int x.1)) ∧ τ = x.2) (hc : ∀ x : Int32 × Int32 × Ob, r = .inr x → QTri l Z n0 ad 0 (15, [vR 0, vR 1, vI x.1, vI x.2.1, none, none, none], [], (H0 s x.2.2)) u τ) : QTri l Z n0 ad 0 (15, [vR 0, vR 1, vI v.1, vI v.2.1, none, none, none], [], (H0 s v.2.2)) u τ := by
 unfold B0_15 at h
 refine zS Ad W 5 (st' := (20, [vR 0, vR 1, vI v.1, vI v.2.1, none, none, none], [.int (s.length.toInt32), .int (v.2.1 + (2:Int32))], (H0 s v.2.2))) rfl ?_
 rcases qite h with ⟨hc9, h⟩ | ⟨hc9, h⟩
 ·refine zF Ad W (t := 154) (f := 23) rfl (XT.ii_ge_f hc9) ?_
  refine zS Ad W 2 (st' := (25, [vR 0, vR 1, vI v.1, vI v.2.1, none, none, none], [.int v.2.1, .ref 0], (H0 s v.2.2))) rfl ?_
  obtain ⟨y10, hy10, h⟩ := bind_eq_some_iff.mp h
  refine zB Ad W (f := fun y10 => (26, [vR 0, vR 1, vI v.1, vI v.2.1, none, none, none], [.int y10], (H0 s v.2.2))) rfl hy10 ?_
  refine zS Ad W 7 (st' := (35, [vR 0, vR 1, vI v.1, vI v.2.1, vI (y10 &&& (7:Int32)), none, none], [.int (v.2.1 + (1:Int32)), .ref 0], (H0 s v.2.2))) rfl ?_
  obtain ⟨y11, hy11, h⟩ := bind_eq_some_iff.mp h
  refine zB Ad W (f := fun y11 => (36, [vR 0, vR 1, vI v.1, vI v.2.1, vI (y10 &&& (7:Int32)), none, none], [.int y11], (H0 s v.2.2))) rfl hy11 ?_
  refine zS Ad W 5 (st' := (42, [vR 0, vR 1, vI v.1, vI v.2.1, vI (y10 &&& (7:Int32)), vI y11, none], [.int (v.2.1 + (2:Int32)), .ref 0], (H0 s v.2.2))) rfl ?_
  obtain ⟨y12, hy12, h⟩ := bind_eq_some_iff.mp h
  refine zB Ad W (f := fun y12 => (43, [vR 0, vR 1, vI v.1, vI v.2.1, vI (y10 &&& (7:Int32)), vI y11, none], [.int y12], (H0 s v.2.2))) rfl hy12 ?_
  refine zS Ad W 2 (st' := (47, [vR 0, vR 1, vI v.1, vI v.2.1, vI (y10 &&& (7:Int32)), vI y11, vI y12], [.int (y10 &&& (7:Int32))], (H0 s v.2.2))) rfl ?_
  rcases qite h with ⟨hc13, h⟩ | ⟨hc13, h⟩
  ·refine zT Ad W (t := 56) (f := 50) rfl (XT.i0_eq_t hc13) ?_
   exact zM [tt,tt,tt,tt,ff,tt,tt] (tJ0_56 Ad W s v.2.2 v.1 v.2.1 y11 y12 h hx0 hc)
  ·refine zF Ad W (t := 56) (f := 50) rfl (XT.i0_eq_f hc13) ?_
   refine zS Ad W 2 (st' := (53, [vR 0, vR 1, vI v.1, vI v.2.1, vI (y10 &&& (7:Int32)), vI y11, vI y12], [.int (5:Int32), .int (y10 &&& (7:Int32))], (H0 s v.2.2))) rfl ?_
   rcases qite h with ⟨hc134, h⟩ | ⟨hc134, h⟩
   ·refine zF Ad W (t := 68) (f := 56) rfl (XT.ii_ne_f hc134) ?_
    exact zM [tt,tt,tt,tt,ff,tt,tt] (tJ0_56 Ad W s v.2.2 v.1 v.2.1 y11 y12 h hx0 hc)
   ·refine zT Ad W (t := 68) (f := 56) rfl (XT.ii_ne_t hc134) ?_
    refine zS Ad W 2 (st' := (71, [vR 0, vR 1, vI v.1, vI v.2.1, vI (y10 &&& (7:Int32)), vI y11, vI y12], [.int (1:Int32), .int (y10 &&& (7:Int32))], (H0 s v.2.2))) rfl ?_
    rcases qite h with ⟨hc135, h⟩ | ⟨hc135, h⟩
    ·refine zT Ad W (t := 81) (f := 74) rfl (XT.ii_eq_t hc135) ?_
     exact zM [tt,tt,tt,tt,ff,tt,ff] (tJ0_81 Ad W s v.2.2 v.1 v.2.1 y11 h hx0 hc)
    ·refine zF Ad W (t := 81) (f := 74) rfl (XT.ii_eq_f hc135) ?_
     refine zS Ad W 2 (st' := (78, [vR 0, vR 1, vI v.1, vI v.2.1, vI (y10 &&& (7:Int32)), vI y11, vI y12], [.int (6:Int32), .int (y10 &&& (7:Int32))], (H0 s v.2.2))) rfl ?_
     rcases qite h with ⟨hc148, h⟩ | ⟨hc148, h⟩
     ·refine zF Ad W (t := 91) (f := 81) rfl (XT.ii_ne_f hc148) ?_
      exact zM [tt,tt,tt,tt,ff,tt,ff] (tJ0_81 Ad W s v.2.2 v.1 v.2.1 y11 h hx0 hc)
     ·refine zT Ad W (t := 91) (f := 81) rfl (XT.ii_ne_t hc148) ?_
      refine zS Ad W 2 (st' := (94, [vR 0, vR 1, vI v.1, vI v.2.1, vI (y10 &&& (7:Int32)), vI y11, vI y12], [.int (2:Int32), .int (y10 &&& (7:Int32))], (H0 s v.2.2))) rfl ?_
      rcases qite h with ⟨hc149, h⟩ | ⟨hc149, h⟩
      ·refine zT Ad W (t := 104) (f := 97) rfl (XT.ii_eq_t hc149) ?_
       exact zM [tt,tt,tt,tt,ff,tt,ff] (tJ0_104 Ad W s v.2.2 v.1 v.2.1 y11 h hx0 hc)
      ·refine zF Ad W (t := 104) (f := 97) rfl (XT.ii_eq_f hc149) ?_
       refine zS Ad W 2 (st' := (101, [vR 0, vR 1, vI v.1, vI v.2.1, vI (y10 &&& (7:Int32)), vI y11, vI y12], [.int (7:Int32), .int (y10 &&& (7:Int32))], (H0 s v.2.2))) rfl ?_
       rcases qite h with ⟨hc154, h⟩ | ⟨hc154, h⟩
       ·refine zF Ad W (t := 114) (f := 104) rfl (XT.ii_ne_f hc154) ?_
        exact zM [tt,tt,tt,tt,ff,tt,ff] (tJ0_104 Ad W s v.2.2 v.1 v.2.1 y11 h hx0 hc)
       ·refine zT Ad W (t := 114) (f := 104) rfl (XT.ii_ne_t hc154) ?_
        refine zS Ad W 2 (st' := (117, [vR 0, vR 1, vI v.1, vI v.2.1, vI (y10 &&& (7:Int32)), vI y11, vI y12], [.int (3:Int32), .int (y10 &&& (7:Int32))], (H0 s v.2.2))) rfl ?_
        rcases qite h with ⟨hc155, h⟩ | ⟨hc155, h⟩
        ·refine zF Ad W (t := 130) (f := 120) rfl (XT.ii_ne_f hc155) ?_
         refine zS Ad W 1 (st' := (121, [vR 0, vR 1, vI v.1, vI v.2.1, vI (y10 &&& (7:Int32)), vI y11, vI y12], [.ref 1], (H0 s v.2.2))) rfl ?_
         obtain ⟨r330, hr330, h⟩ := bind_eq_some_iff.mp h
         refine QTri.callV W (a := 1) (as := []) (rest := []) (w := (some (.int r330.1))) (σ₁ := (H0 s r330.2)) rfl rfl rfl rfl rfl rfl rfl rfl (tF4 Ad W s v.2.2 hr330) ?_
         refine zS Ad W 4 (st' := (136, [vR 0, vR 1, vI (1:Int32), vI v.2.1, vI (y10 &&& (7:Int32)), vI y11, vI y12], [], (H0 s r330.2))) rfl ?_
         exact zM [tt,tt,tt,tt,ff,tt,ff] (tJ0_136 Ad W s r330.2 (1:Int32) v.2.1 y11 h hx0 hc)
        ·refine zT Ad W (t := 130) (f := 120) rfl (XT.ii_ne_t hc155) ?_
         refine zS Ad W 1 (st' := (131, [vR 0, vR 1, vI v.1, vI v.2.1, vI (y10 &&& (7:Int32)), vI y11, vI y12], [.ref 1], (H0 s v.2.2))) rfl ?_
         obtain ⟨r331, hr331, h⟩ := bind_eq_some_iff.mp h
         refine QTri.callV W (a := 1) (as := []) (rest := []) (w := none) (σ₁ := (H0 s r331)) rfl rfl rfl rfl rfl rfl rfl rfl (tF3 Ad W s v.2.2 hr331) ?_
         refine zS Ad W 2 (st' := (136, [vR 0, vR 1, vI (0:Int32), vI v.2.1, vI (y10 &&& (7:Int32)), vI y11, vI y12], [], (H0 s r331))) rfl ?_
         exact zM [tt,tt,tt,tt,ff,tt,ff] (tJ0_136 Ad W s r331 (0:Int32) v.2.1 y11 h hx0 hc)
 ·refine zT Ad W (t := 154) (f := 23) rfl (XT.ii_ge_t hc9) ?_
  refine zS Ad W 1 (st' := (155, [vR 0, vR 1, vI v.1, vI v.2.1, none, none, none], [.int (1:Int32)], (H0 s v.2.2))) rfl ?_
  obtain rfl := Option.some.inj h
  obtain ⟨rfl, rfl⟩ := hx0 ((1:Int32), (H0 s v.2.2)) rfl
  exact QTri.retZ rfl rfl
/-- the law -/
def F0 (s : List Int32) : Option (Int32 × QHeap) :=
 (F1 (8:Int32) (4:Int32)).bind fun r8 => (loopN (B0_15 s) qN ((0:Int32), (0:Int32), r8)).bind fun e332 => some e332
theorem tF0 (Ad : QAd n0 ad) (W : QW Z a0) (s : List Int32) {r : Int32 × QHeap} (h : F0 s = some r) : QTri l Z n0 ad 0 (0, qentry [.ref 0] (pMaxL 0), [], [.inr (.inl (.int, s))]) (some (Value.int r.1)) r.2 := by
 unfold F0 at h
 refine zS Ad W 1 (st' := (3, [vR 0, none, none, none, none, none, none], [.ref 1], [.inr (.inl (.int, s)), .inl [.int (f_opRet ob0), .int (f_opLess ob0), .int (f_opEq ob0), .int (f_opTable ob0), .int (f_opBits ob0), .int (f_maxCap ob0), .int (f_maxTargets ob0), .int (f_maxSteps ob0), .int (f_tableSpanPerCase ob0), .int (f_maxTableSpan ob0), .int (f_maxBitSpan ob0), .int (f_maxBitTargets ob0), .long (f_unsignedMask ob0), .int (f_maxInt ob0), .null, .null, .null, .null, .null, .null, .null, .null, .null, .null, .null, .null, .null, .null, .null, .null, .null, .null, .null, .null, .int (f_cap ob0), .int (f_targets ob0), .int (f_curCount ob0), .int (f_curDefault ob0), .int (f_dirty ob0), .int (f_snapCount ob0), .int (f_snapDefault ob0), .int (f_hasSnap ob0), .int (f_clCount ob0), .int (f_codeLen ob0), .int (f_rootPc ob0), .int (f_tableUsed ob0), .int (f_maskUsed ob0), .int (f_sp ob0)]])) rfl ?_
 refine zS Ad W 3 (st' := (7, [vR 0, none, none, none, none, none, none], [.int (4:Int32), .int (8:Int32), .ref 1, .ref 1], [.inr (.inl (.int, s)), .inl [.int (f_opRet ob0), .int (f_opLess ob0), .int (f_opEq ob0), .int (f_opTable ob0), .int (f_opBits ob0), .int (f_maxCap ob0), .int (f_maxTargets ob0), .int (f_maxSteps ob0), .int (f_tableSpanPerCase ob0), .int (f_maxTableSpan ob0), .int (f_maxBitSpan ob0), .int (f_maxBitTargets ob0), .long (f_unsignedMask ob0), .int (f_maxInt ob0), .null, .null, .null, .null, .null, .null, .null, .null, .null, .null, .null, .null, .null, .null, .null, .null, .null, .null, .null, .null, .int (f_cap ob0), .int (f_targets ob0), .int (f_curCount ob0), .int (f_curDefault ob0), .int (f_dirty ob0), .int (f_snapCount ob0), .int (f_snapDefault ob0), .int (f_hasSnap ob0), .int (f_clCount ob0), .int (f_codeLen ob0), .int (f_rootPc ob0), .int (f_tableUsed ob0), .int (f_maskUsed ob0), .int (f_sp ob0)]])) rfl ?_
 obtain ⟨r8, hr8, h⟩ := bind_eq_some_iff.mp h
 refine QTri.callI W (a := 1) (as := [.int (8:Int32), .int (4:Int32)]) (rest := [.ref 1]) (σ₁ := (H0 s r8)) rfl rfl rfl rfl rfl rfl (tF1 Ad W s (8:Int32) (4:Int32) hr8) ?_
 refine zS Ad W 3 (st' := (13, [vR 0, vR 1, vI (0:Int32), none, none, none, none], [], (H0 s r8))) rfl ?_
 refine zS Ad W 2 (st' := (15, [vR 0, vR 1, vI (0:Int32), vI (0:Int32), none, none, none], [], (H0 s r8))) rfl ?_
 obtain ⟨e332, he332, h⟩ := bind_eq_some_iff.mp h
 refine zM [tt,tt,tt,tt,ff,ff,ff] (loopN_tri (B := B0_15 s) (T := fun lv333 => QTri l Z n0 ad 0 (15, [vR 0, vR 1, vI lv333.1, vI lv333.2.1, none, none, none], [], (H0 s lv333.2.2)) (some (Value.int r.1)) r.2) (KE := fun e332a => (some (Value.int r.1)) = (some (Value.int e332a.1)) ∧ r.2 = e332a.2) (fun lv333 r hB hE hC => tB0_15 Ad W s lv333 hB (fun x q => hE _ q) (fun x q => hC x q)) qN ((0:Int32), (0:Int32), r8) e332 he332 ?_)
 obtain rfl := Option.some.inj h
 exact ⟨rfl, rfl⟩
end Walks
theorem script_ok {s : State} {w : Value} (hfit : Fit s) (h1 : (Jvm.Cond.arrayOf (Jvm.Term.arg 0) Jvm.ClassFile.FieldType.int).value #[w] s none s [] = some true) (h2 : (Jvm.Cond.le (Jvm.Term.length (Jvm.Term.arg 0)) (Jvm.Term.int 260)).value #[w] s none s [] = some true) :
    ∃ (a : Addr) (c : Cell) (xs : List Int32), w = .ref a ∧ Arr s s.heap a c .int ∧ c.slots = (xs.map Value.int).toArray ∧ xs.length ≤ 260 := by
  obtain ⟨a, ha⟩ := arr_v h1
  obtain ⟨c, A⟩ := Arr.start ha h1
  have hw : w = .ref a := by simpa [Term.eval] using ha
  subst hw
  have hel : ∀ i, i < c.slots.size → ∃ x, c.slots[i]? = some (.int x) := fun i hi => by
    have q := hfit A.1 hi
    obtain ⟨hs, k, hk, comp, hkind⟩ := A.2.1
    have e : s.slotType? c.cls c.vm i = some .int := by
      cases hq : c.vm <;> first | exact absurd hq (hs _) | simp [State.slotType?, hk, hkind]
    have q2 : fits .int c.slots[i] = true := by simpa [State.fitsSlot, e] using q
    obtain ⟨x, hx⟩ := fit_I q2 (Or.inl rfl)
    exact ⟨x, by rw [Array.getElem?_eq_getElem hi, hx]⟩
  refine ⟨a, c, c.slots.toList.map (fun v => match v with | .int x => x | _ => 0), rfl, A, ?_, ?_⟩
  · apply Array.ext'
    rw [List.map_map]
    have : c.slots.toList.map (Value.int ∘ fun v => match v with | .int x => x | _ => 0) = c.slots.toList := by
      conv => rhs; rw [← List.map_id c.slots.toList]
      refine List.map_congr_left fun v hv => ?_
      obtain ⟨i, hi⟩ := List.mem_iff_getElem?.mp hv
      rw [Array.getElem?_toList] at hi
      obtain ⟨x, hx⟩ := hel i (Array.getElem?_eq_some_iff.mp hi).1
      rw [hi] at hx
      cases hx
      rfl
    exact this.symm
  · have hl := A.fin (Vm.Alike.refl _)
    simp only [List.length_map, Array.length_toList]
    simp only [Cond.value, Term.eval] at h2
    simp [hl] at h2
    by_cases hs : c.slots.size < 2147483648
    · rw [if_pos hs] at h2
      have h3 : c.slots.size.toInt32 ≤ 260 := by simpa using h2
      rw [Int32.le_iff_toInt_le] at h3
      have h4 : (c.slots.size.toInt32).toInt = c.slots.size := Int32.toInt_ofNat_of_lt (by omega)
      rw [h4] at h3
      have h5 : (260 : Int32).toInt = 260 := rfl
      rw [h5] at h3
      omega
    · rw [if_neg hs] at h2
      simp at h2
set_option maxHeartbeats 4000000
theorem i_lt {x y : Int32} : x < y ↔ x.toInt < y.toInt := Int32.lt_iff_toInt_lt
theorem i_eq {x y : Int32} : x = y ↔ x.toInt = y.toInt := Int32.toInt_inj.symm
theorem i_lo (x : Int32) : -2147483648 ≤ x.toInt := Int32.le_toInt x
theorem i_hi (x : Int32) : x.toInt < 2147483648 := Int32.toInt_lt x
theorem i_add {x y : Int32} (h1 : -2147483648 ≤ x.toInt + y.toInt) (h2 : x.toInt + y.toInt < 2147483648) : (x + y).toInt = x.toInt + y.toInt := XT.add32 ⟨h1, by omega⟩
theorem i_sub {x y : Int32} (h1 : -2147483648 ≤ x.toInt - y.toInt) (h2 : x.toInt - y.toInt < 2147483648) : (x - y).toInt = x.toInt - y.toInt := XT.sub32 ⟨h1, by omega⟩
theorem i_mul {x y : Int32} (h1 : -2147483648 ≤ x.toInt * y.toInt) (h2 : x.toInt * y.toInt < 2147483648) : (x * y).toInt = x.toInt * y.toInt := XT.mul32 ⟨h1, by omega⟩
theorem i_nat (x : Int32) : x.toNatClampNeg = x.toInt.toNat := rfl
theorem aget_at {α : Type} {xs : List α} {j : Int32} {n : Nat} (hj : j.toInt = n) (hn : n < xs.length) : aget xs j = some xs[n] := by
 have h0 : ¬ j < 0 := by rw [i_lt]; show ¬ j.toInt < 0; omega
 unfold aget
 rw [if_neg h0, i_nat, hj]
 simp [hn]
theorem aget_rep {α : Type} {m : Nat} {a : α} {j : Int32} (h0 : 0 ≤ j.toInt) (h1 : j.toInt < m) : aget (List.replicate m a) j = some a := by
 rw [aget_at (n := j.toInt.toNat) (by omega) (by rw [List.length_replicate]; omega)]
 simp
theorem aset_at {α : Type} {xs : List α} {j : Int32} {n : Nat} {v : α} (hj : j.toInt = n) (hn : n < xs.length) : aset xs j v = some (xs.set n v) := by
 have h0 : ¬ j < 0 := by rw [i_lt]; show ¬ j.toInt < 0; omega
 unfold aset
 have e : j.toNatClampNeg = n := by rw [i_nat, hj]; simp
 rw [if_neg h0, e, if_pos hn]
theorem rep_set {α : Type} (m k : Nat) (a : α) : (List.replicate m a).set k a = List.replicate m a := by
 apply List.ext_getElem (by simp)
 intro i h1 h2
 rw [List.getElem_set]
 split <;> simp
theorem small_cases {x : Int32} (h0 : 0 ≤ x.toInt) {n : Nat} (h1 : x.toInt < n) {P : Int32 → Prop} (h : ∀ m : Nat, m < n → P (Int32.ofInt m)) : P x := by
 have e : Int32.ofInt (x.toInt.toNat : Nat) = x := by
  rw [Int.toNat_of_nonneg h0, Int32.ofInt_toInt]
 rw [← e]
 exact h _ (by omega)
theorem bit_ne {x : Int32} (h0 : 0 ≤ x.toInt) (h1 : x.toInt < 32) : ¬ (((1 : Int32) <<< (x &&& 31)) &&& ((1 : Int32) <<< (x &&& 31))) = 0 :=
 small_cases (P := fun x => ¬ (((1 : Int32) <<< (x &&& 31)) &&& ((1 : Int32) <<< (x &&& 31))) = 0) h0 (n := 32) h1 (by decide)
def okP {α : Type} (m : Option α) (P : α → Prop) : Prop := ∃ a, m = some a ∧ P a
theorem okP.some {α : Type} {a : α} {P : α → Prop} (h : P a) : okP (some a) P := ⟨a, rfl, h⟩
theorem okP.bind {α β : Type} {m : Option α} {f : α → Option β} {P : β → Prop} (h : okP m fun a => okP (f a) P) : okP (m.bind f) P := by
 obtain ⟨a, e, b, e2, h2⟩ := h
 exact ⟨b, by rw [e]; exact e2, h2⟩
theorem okP.ite {α : Type} {c : Prop} [Decidable c] {a b : Option α} {P : α → Prop} (h1 : c → okP a P) (h2 : ¬ c → okP b P) : okP (if c then a else b) P := by
 by_cases h : c
 ·rw [if_pos h]; exact h1 h
 ·rw [if_neg h]; exact h2 h
theorem okP.mono {α : Type} {m : Option α} {P Q : α → Prop} (h : okP m P) (k : ∀ a, P a → Q a) : okP m Q := by
 obtain ⟨a, e, h⟩ := h
 exact ⟨a, e, k a h⟩
theorem okP.of {α : Type} {m : Option α} {a : α} {P : α → Prop} (e : m = Option.some a) (h : P a) : okP m P := ⟨a, e, h⟩
theorem okP.aget {α : Type} {xs : List α} {j : Int32} {P : α → Prop} (h0 : 0 ≤ j.toInt) (h1 : j.toInt < xs.length) (k : ∀ v, xs[j.toInt.toNat]? = Option.some v → P v) : okP (aget xs j) P :=
 ⟨_, aget_at (n := j.toInt.toNat) (by omega) (by omega), k _ (List.getElem?_eq_getElem _)⟩
theorem okP.aset {α : Type} {xs : List α} {j : Int32} {v : α} {P : List α → Prop} (h0 : 0 ≤ j.toInt) (h1 : j.toInt < xs.length) (k : P (xs.set j.toInt.toNat v)) : okP (aset xs j v) P :=
 ⟨_, aset_at (n := j.toInt.toNat) (by omega) (by omega), k⟩
theorem okP.loop {V E : Type} {B : V → Option (E ⊕ V)} {P : E → Prop} {n : Nat} {v : V} (I : V → Prop) (μ : V → Nat) (hv : I v) (hm : μ v < n) (hB : ∀ v, I v → okP (B v) (fun r => Sum.elim P (fun v' => I v' ∧ μ v' < μ v) r)) : okP (loopN B n v) P := by
 refine loopN_inv I P μ ?_ n v hv hm
 intro v hv
 obtain ⟨r, e, h⟩ := hB v hv
 cases r with
 | inl x => exact Or.inl ⟨x, e, h⟩
 | inr x => exact Or.inr ⟨x, e, h⟩
theorem len_i {n : Nat} (h : n ≤ 1000) : (n.toInt32).toInt = n := by
 have e : n.toInt32 = Int32.ofInt n := rfl
 rw [e, Int32.toInt_ofInt_of_le (by show _ ≤ (n : Int); omega) (by show (n : Int) < _; omega)]
theorem and1 (x : Int32) : x &&& 1 = 0 ∨ x &&& 1 = 1 := by
 have e : (x &&& 1).toBitVec = x.toBitVec &&& 1#32 := rfl
 have h := BitVec.and_one_eq_setWidth_ofBool_getLsbD (x := x.toBitVec)
 cases g : x.toBitVec.getLsbD 0
 ·left; apply Int32.toBitVec_inj.1; rw [e, h, g]; rfl
 ·right; apply Int32.toBitVec_inj.1; rw [e, h, g]; rfl
theorem okP.not {α : Type} {m : Option α} {a : α} {P : α → Prop} (h : okP m P) (e : m = Option.some a) : P a := by
 obtain ⟨b, e2, h⟩ := h
 rw [e] at e2
 exact (Option.some.inj e2) ▸ h
theorem and_rng {x m : Int32} (hm : 0 ≤ m.toInt) : 0 ≤ (x &&& m).toInt ∧ (x &&& m).toInt ≤ m.toInt := by
 have e : (x &&& m).toBitVec.toNat = x.toBitVec.toNat &&& m.toBitVec.toNat := BitVec.toNat_and ..
 have l : (x &&& m).toBitVec.toNat ≤ m.toBitVec.toNat := by rw [e]; exact Nat.and_le_right
 have c1 : m.toInt = if 2 * m.toBitVec.toNat < 2 ^ 32 then (m.toBitVec.toNat : Int) else m.toBitVec.toNat - (2 ^ 32 : Nat) := BitVec.toInt_eq_toNat_cond m.toBitVec
 have c2 : (x &&& m).toInt = if 2 * (x &&& m).toBitVec.toNat < 2 ^ 32 then ((x &&& m).toBitVec.toNat : Int) else (x &&& m).toBitVec.toNat - (2 ^ 32 : Nat) := BitVec.toInt_eq_toNat_cond (x &&& m).toBitVec
 have b : m.toBitVec.toNat < 2 ^ 32 := m.toBitVec.isLt
 by_cases h : 2 * m.toBitVec.toNat < 2 ^ 32
 ·rw [if_pos h] at c1
  rw [if_pos (by omega)] at c2
  omega
 ·rw [if_neg h] at c1
  omega
theorem mod_rng {x m : Int32} (hx : 0 ≤ x.toInt) (hm : 0 < m.toInt) : 0 ≤ (x % m).toInt ∧ (x % m).toInt < m.toInt := by
 rw [Int32.toInt_mod, Int.tmod_eq_emod_of_nonneg hx]
 exact ⟨Int.emod_nonneg _ (by omega), Int.emod_lt_of_pos _ hm⟩
def sFit (s : List Int32) (τ : QHeap) : Prop := τ.length - List.length ([Sum.inr (Sum.inl (FieldType.int, s))] : QHeap) ≤ room_1.cells ∧ qhs τ - qhs [Sum.inr (Sum.inl (FieldType.int, s))] ≤ room_1.slots
theorem inc1 {x : Int32} (h : x.toInt < 2147483647) : (x + 1).toInt = x.toInt + 1 := by
 have := i_lo x
 have e1 : (1 : Int32).toInt = 1 := rfl
 rw [i_add (by omega) (by omega), e1]
theorem J_lt {x y : Int64} : x < y ↔ x.toInt < y.toInt := Int64.lt_iff_toInt_lt
theorem J_e (x : Int32) : x.toInt64.toInt = x.toInt := Int32.toInt_toInt64 x
theorem J_add {x y : Int64} (h1 : -9223372036854775808 ≤ x.toInt + y.toInt) (h2 : x.toInt + y.toInt < 9223372036854775808) : (x + y).toInt = x.toInt + y.toInt := by
 rw [Int64.toInt_add, Int.bmod_eq_of_le (by omega) (by omega)]
theorem J_sub {x y : Int64} (h1 : -9223372036854775808 ≤ x.toInt - y.toInt) (h2 : x.toInt - y.toInt < 9223372036854775808) : (x - y).toInt = x.toInt - y.toInt := by
 rw [Int64.toInt_sub, Int.bmod_eq_of_le (by omega) (by omega)]
theorem J_mul {x y : Int64} (h1 : -9223372036854775808 ≤ x.toInt * y.toInt) (h2 : x.toInt * y.toInt < 9223372036854775808) : (x * y).toInt = x.toInt * y.toInt := by
 rw [Int64.toInt_mul, Int.bmod_eq_of_le (by omega) (by omega)]
def at' (l : List Int32) (j : Nat) : Int32 := l.getD j 0
def gd (l : List Int32) (j : Nat) : Int := (at' l j).toInt
theorem at_set {l : List Int32} {i k : Nat} {v : Int32} (hi : i < l.length) : at' (l.set i v) k = if k = i then v else at' l k := by
 unfold at'
 rw [List.getD_eq_getElem?_getD, List.getD_eq_getElem?_getD, List.getElem?_set]
 by_cases h : i = k
 ·rw [if_pos h, if_pos h.symm, if_pos hi]; rfl
 ·rw [if_neg h, if_neg (fun w => h w.symm)]
theorem gd_set {l : List Int32} {i k : Nat} {v : Int32} (hi : i < l.length) : gd (l.set i v) k = if k = i then v.toInt else gd l k := by
 unfold gd
 rw [at_set hi]
 split <;> rfl
theorem ag {l : List Int32} {x : Int32} {a : Nat} (hx : x.toInt = a) (ha : a < l.length) : aget l x = some (at' l a) := by
 unfold at'
 rw [aget_at hx ha, List.getD_eq_getElem?_getD, List.getElem?_eq_getElem ha]; rfl
theorem ls {α : Type} {l : List α} {m n : Nat} {v : α} (h : l.length = n) : (l.set m v).length = n := by rw [List.length_set]; exact h
abbrev CT := List Int32 × List Int32 × Int32 × Int32 × Int32
abbrev FT := Int32 × Int32 × List Int32 × Int32
abbrev PT := List Int32 × List Int32
abbrev KT := List Int32 × List Int32 × Int32
abbrev DT := List Int32 × List Int32 × List Int32 × List Int32 × List Int32 × Int32 × Int32
abbrev MT := List Int64 × List Int32 × Int32
abbrev BT := List Int32 × List Int32 × List Int32 × List Int32 × Int32
abbrev AT := CT × CT × FT × PT × KT × DT × MT × BT
def A (o : Ob) : AT := ((f_curVal o, f_curTgt o, f_curCount o, f_curDefault o, f_dirty o), (f_snapVal o, f_snapTgt o, f_snapCount o, f_snapDefault o, f_hasSnap o), (f_cap o, f_targets o, f_tablePool o, f_tableUsed o), (f_bestCost o, f_bestCut o), (f_clStart o, f_clEnd o, f_clCount o), (f_opc o, f_argA o, f_argB o, f_argC o, f_argD o, f_codeLen o, f_rootPc o), (f_maskPool o, f_maskTarget o, f_maskUsed o), (f_stLo o, f_stHi o, f_stParent o, f_stSlot o, f_sp o))
theorem g_curVal {c : CT} {s : CT} {f : FT} {p : PT} {k : KT} {d : DT} {m : MT} {b : BT} {o : Ob} (h : A o = (c, s, f, p, k, d, m, b)) : f_curVal o = c.1 := congrArg (fun x : AT => x.1.1) h
theorem g_curTgt {c : CT} {s : CT} {f : FT} {p : PT} {k : KT} {d : DT} {m : MT} {b : BT} {o : Ob} (h : A o = (c, s, f, p, k, d, m, b)) : f_curTgt o = c.2.1 := congrArg (fun x : AT => x.1.2.1) h
theorem g_curCount {c : CT} {s : CT} {f : FT} {p : PT} {k : KT} {d : DT} {m : MT} {b : BT} {o : Ob} (h : A o = (c, s, f, p, k, d, m, b)) : f_curCount o = c.2.2.1 := congrArg (fun x : AT => x.1.2.2.1) h
theorem g_curDefault {c : CT} {s : CT} {f : FT} {p : PT} {k : KT} {d : DT} {m : MT} {b : BT} {o : Ob} (h : A o = (c, s, f, p, k, d, m, b)) : f_curDefault o = c.2.2.2.1 := congrArg (fun x : AT => x.1.2.2.2.1) h
theorem g_dirty {c : CT} {s : CT} {f : FT} {p : PT} {k : KT} {d : DT} {m : MT} {b : BT} {o : Ob} (h : A o = (c, s, f, p, k, d, m, b)) : f_dirty o = c.2.2.2.2 := congrArg (fun x : AT => x.1.2.2.2.2) h
theorem g_snapVal {c : CT} {s : CT} {f : FT} {p : PT} {k : KT} {d : DT} {m : MT} {b : BT} {o : Ob} (h : A o = (c, s, f, p, k, d, m, b)) : f_snapVal o = s.1 := congrArg (fun x : AT => x.2.1.1) h
theorem g_snapTgt {c : CT} {s : CT} {f : FT} {p : PT} {k : KT} {d : DT} {m : MT} {b : BT} {o : Ob} (h : A o = (c, s, f, p, k, d, m, b)) : f_snapTgt o = s.2.1 := congrArg (fun x : AT => x.2.1.2.1) h
theorem g_snapCount {c : CT} {s : CT} {f : FT} {p : PT} {k : KT} {d : DT} {m : MT} {b : BT} {o : Ob} (h : A o = (c, s, f, p, k, d, m, b)) : f_snapCount o = s.2.2.1 := congrArg (fun x : AT => x.2.1.2.2.1) h
theorem g_snapDefault {c : CT} {s : CT} {f : FT} {p : PT} {k : KT} {d : DT} {m : MT} {b : BT} {o : Ob} (h : A o = (c, s, f, p, k, d, m, b)) : f_snapDefault o = s.2.2.2.1 := congrArg (fun x : AT => x.2.1.2.2.2.1) h
theorem g_hasSnap {c : CT} {s : CT} {f : FT} {p : PT} {k : KT} {d : DT} {m : MT} {b : BT} {o : Ob} (h : A o = (c, s, f, p, k, d, m, b)) : f_hasSnap o = s.2.2.2.2 := congrArg (fun x : AT => x.2.1.2.2.2.2) h
theorem g_cap {c : CT} {s : CT} {f : FT} {p : PT} {k : KT} {d : DT} {m : MT} {b : BT} {o : Ob} (h : A o = (c, s, f, p, k, d, m, b)) : f_cap o = f.1 := congrArg (fun x : AT => x.2.2.1.1) h
theorem g_targets {c : CT} {s : CT} {f : FT} {p : PT} {k : KT} {d : DT} {m : MT} {b : BT} {o : Ob} (h : A o = (c, s, f, p, k, d, m, b)) : f_targets o = f.2.1 := congrArg (fun x : AT => x.2.2.1.2.1) h
theorem g_bestCost {c : CT} {s : CT} {f : FT} {p : PT} {k : KT} {d : DT} {m : MT} {b : BT} {o : Ob} (h : A o = (c, s, f, p, k, d, m, b)) : f_bestCost o = p.1 := congrArg (fun x : AT => x.2.2.2.1.1) h
theorem g_bestCut {c : CT} {s : CT} {f : FT} {p : PT} {k : KT} {d : DT} {m : MT} {b : BT} {o : Ob} (h : A o = (c, s, f, p, k, d, m, b)) : f_bestCut o = p.2 := congrArg (fun x : AT => x.2.2.2.1.2) h
theorem g_clStart {c : CT} {s : CT} {f : FT} {p : PT} {k : KT} {d : DT} {m : MT} {b : BT} {o : Ob} (h : A o = (c, s, f, p, k, d, m, b)) : f_clStart o = k.1 := congrArg (fun x : AT => x.2.2.2.2.1.1) h
theorem g_clEnd {c : CT} {s : CT} {f : FT} {p : PT} {k : KT} {d : DT} {m : MT} {b : BT} {o : Ob} (h : A o = (c, s, f, p, k, d, m, b)) : f_clEnd o = k.2.1 := congrArg (fun x : AT => x.2.2.2.2.1.2.1) h
theorem g_clCount {c : CT} {s : CT} {f : FT} {p : PT} {k : KT} {d : DT} {m : MT} {b : BT} {o : Ob} (h : A o = (c, s, f, p, k, d, m, b)) : f_clCount o = k.2.2 := congrArg (fun x : AT => x.2.2.2.2.1.2.2) h
theorem g_opc {c : CT} {s : CT} {f : FT} {p : PT} {k : KT} {d : DT} {m : MT} {b : BT} {o : Ob} (h : A o = (c, s, f, p, k, d, m, b)) : f_opc o = d.1 := congrArg (fun x : AT => x.2.2.2.2.2.1.1) h
theorem g_argA {c : CT} {s : CT} {f : FT} {p : PT} {k : KT} {d : DT} {m : MT} {b : BT} {o : Ob} (h : A o = (c, s, f, p, k, d, m, b)) : f_argA o = d.2.1 := congrArg (fun x : AT => x.2.2.2.2.2.1.2.1) h
theorem g_argB {c : CT} {s : CT} {f : FT} {p : PT} {k : KT} {d : DT} {m : MT} {b : BT} {o : Ob} (h : A o = (c, s, f, p, k, d, m, b)) : f_argB o = d.2.2.1 := congrArg (fun x : AT => x.2.2.2.2.2.1.2.2.1) h
theorem g_argC {c : CT} {s : CT} {f : FT} {p : PT} {k : KT} {d : DT} {m : MT} {b : BT} {o : Ob} (h : A o = (c, s, f, p, k, d, m, b)) : f_argC o = d.2.2.2.1 := congrArg (fun x : AT => x.2.2.2.2.2.1.2.2.2.1) h
theorem g_argD {c : CT} {s : CT} {f : FT} {p : PT} {k : KT} {d : DT} {m : MT} {b : BT} {o : Ob} (h : A o = (c, s, f, p, k, d, m, b)) : f_argD o = d.2.2.2.2.1 := congrArg (fun x : AT => x.2.2.2.2.2.1.2.2.2.2.1) h
theorem g_codeLen {c : CT} {s : CT} {f : FT} {p : PT} {k : KT} {d : DT} {m : MT} {b : BT} {o : Ob} (h : A o = (c, s, f, p, k, d, m, b)) : f_codeLen o = d.2.2.2.2.2.1 := congrArg (fun x : AT => x.2.2.2.2.2.1.2.2.2.2.2.1) h
theorem g_rootPc {c : CT} {s : CT} {f : FT} {p : PT} {k : KT} {d : DT} {m : MT} {b : BT} {o : Ob} (h : A o = (c, s, f, p, k, d, m, b)) : f_rootPc o = d.2.2.2.2.2.2 := congrArg (fun x : AT => x.2.2.2.2.2.1.2.2.2.2.2.2) h
theorem g_maskPool {c : CT} {s : CT} {f : FT} {p : PT} {k : KT} {d : DT} {m : MT} {b : BT} {o : Ob} (h : A o = (c, s, f, p, k, d, m, b)) : f_maskPool o = m.1 := congrArg (fun x : AT => x.2.2.2.2.2.2.1.1) h
theorem g_maskTarget {c : CT} {s : CT} {f : FT} {p : PT} {k : KT} {d : DT} {m : MT} {b : BT} {o : Ob} (h : A o = (c, s, f, p, k, d, m, b)) : f_maskTarget o = m.2.1 := congrArg (fun x : AT => x.2.2.2.2.2.2.1.2.1) h
theorem g_maskUsed {c : CT} {s : CT} {f : FT} {p : PT} {k : KT} {d : DT} {m : MT} {b : BT} {o : Ob} (h : A o = (c, s, f, p, k, d, m, b)) : f_maskUsed o = m.2.2 := congrArg (fun x : AT => x.2.2.2.2.2.2.1.2.2) h
theorem g_stLo {c : CT} {s : CT} {f : FT} {p : PT} {k : KT} {d : DT} {m : MT} {b : BT} {o : Ob} (h : A o = (c, s, f, p, k, d, m, b)) : f_stLo o = b.1 := congrArg (fun x : AT => x.2.2.2.2.2.2.2.1) h
theorem g_stHi {c : CT} {s : CT} {f : FT} {p : PT} {k : KT} {d : DT} {m : MT} {b : BT} {o : Ob} (h : A o = (c, s, f, p, k, d, m, b)) : f_stHi o = b.2.1 := congrArg (fun x : AT => x.2.2.2.2.2.2.2.2.1) h
theorem g_stParent {c : CT} {s : CT} {f : FT} {p : PT} {k : KT} {d : DT} {m : MT} {b : BT} {o : Ob} (h : A o = (c, s, f, p, k, d, m, b)) : f_stParent o = b.2.2.1 := congrArg (fun x : AT => x.2.2.2.2.2.2.2.2.2.1) h
theorem g_stSlot {c : CT} {s : CT} {f : FT} {p : PT} {k : KT} {d : DT} {m : MT} {b : BT} {o : Ob} (h : A o = (c, s, f, p, k, d, m, b)) : f_stSlot o = b.2.2.2.1 := congrArg (fun x : AT => x.2.2.2.2.2.2.2.2.2.2.1) h
theorem g_sp {c : CT} {s : CT} {f : FT} {p : PT} {k : KT} {d : DT} {m : MT} {b : BT} {o : Ob} (h : A o = (c, s, f, p, k, d, m, b)) : f_sp o = b.2.2.2.2 := congrArg (fun x : AT => x.2.2.2.2.2.2.2.2.2.2.2) h
theorem w_best {c : CT} {s : CT} {f : FT} {p : PT} {k : KT} {d : DT} {m : MT} {b : BT} {o : Ob} (h : A o = (c, s, f, p, k, d, m, b)) (u v : List Int32) : A (s_bestCut (s_bestCost o u) v) = (c, s, f, (u, v), k, d, m, b) := by
 have : A (s_bestCut (s_bestCost o u) v) = ((A o).1, (A o).2.1, (A o).2.2.1, (u, v), (A o).2.2.2.2) := by dsimp only [A, f_opRet, f_opLess, f_opEq, f_opTable, f_opBits, f_maxCap, f_maxTargets, f_maxSteps, f_tableSpanPerCase, f_maxTableSpan, f_maxBitSpan, f_maxBitTargets, f_unsignedMask, f_maxInt, f_curVal, f_curTgt, f_snapVal, f_snapTgt, f_bestCost, f_bestCut, f_clStart, f_clEnd, f_opc, f_argA, f_argB, f_argC, f_argD, f_tablePool, f_maskPool, f_maskTarget, f_stLo, f_stHi, f_stParent, f_stSlot, f_cap, f_targets, f_curCount, f_curDefault, f_dirty, f_snapCount, f_snapDefault, f_hasSnap, f_clCount, f_codeLen, f_rootPc, f_tableUsed, f_maskUsed, f_sp, s_opRet, s_opLess, s_opEq, s_opTable, s_opBits, s_maxCap, s_maxTargets, s_maxSteps, s_tableSpanPerCase, s_maxTableSpan, s_maxBitSpan, s_maxBitTargets, s_unsignedMask, s_maxInt, s_curVal, s_curTgt, s_snapVal, s_snapTgt, s_bestCost, s_bestCut, s_clStart, s_clEnd, s_opc, s_argA, s_argB, s_argC, s_argD, s_tablePool, s_maskPool, s_maskTarget, s_stLo, s_stHi, s_stParent, s_stSlot, s_cap, s_targets, s_curCount, s_curDefault, s_dirty, s_snapCount, s_snapDefault, s_hasSnap, s_clCount, s_codeLen, s_rootPc, s_tableUsed, s_maskUsed, s_sp]
 rw [this, h]
theorem w_cost {c : CT} {s : CT} {f : FT} {p : PT} {k : KT} {d : DT} {m : MT} {b : BT} {o : Ob} (h : A o = (c, s, f, p, k, d, m, b)) (u : List Int32) : A (s_bestCost o u) = (c, s, f, (u, p.2), k, d, m, b) := by
 have : A (s_bestCost o u) = ((A o).1, (A o).2.1, (A o).2.2.1, (u, (A o).2.2.2.1.2), (A o).2.2.2.2) := by dsimp only [A, f_opRet, f_opLess, f_opEq, f_opTable, f_opBits, f_maxCap, f_maxTargets, f_maxSteps, f_tableSpanPerCase, f_maxTableSpan, f_maxBitSpan, f_maxBitTargets, f_unsignedMask, f_maxInt, f_curVal, f_curTgt, f_snapVal, f_snapTgt, f_bestCost, f_bestCut, f_clStart, f_clEnd, f_opc, f_argA, f_argB, f_argC, f_argD, f_tablePool, f_maskPool, f_maskTarget, f_stLo, f_stHi, f_stParent, f_stSlot, f_cap, f_targets, f_curCount, f_curDefault, f_dirty, f_snapCount, f_snapDefault, f_hasSnap, f_clCount, f_codeLen, f_rootPc, f_tableUsed, f_maskUsed, f_sp, s_opRet, s_opLess, s_opEq, s_opTable, s_opBits, s_maxCap, s_maxTargets, s_maxSteps, s_tableSpanPerCase, s_maxTableSpan, s_maxBitSpan, s_maxBitTargets, s_unsignedMask, s_maxInt, s_curVal, s_curTgt, s_snapVal, s_snapTgt, s_bestCost, s_bestCut, s_clStart, s_clEnd, s_opc, s_argA, s_argB, s_argC, s_argD, s_tablePool, s_maskPool, s_maskTarget, s_stLo, s_stHi, s_stParent, s_stSlot, s_cap, s_targets, s_curCount, s_curDefault, s_dirty, s_snapCount, s_snapDefault, s_hasSnap, s_clCount, s_codeLen, s_rootPc, s_tableUsed, s_maskUsed, s_sp]
 rw [this, h]
theorem w_cl {c : CT} {s : CT} {f : FT} {p : PT} {k : KT} {d : DT} {m : MT} {b : BT} {o : Ob} (h : A o = (c, s, f, p, k, d, m, b)) (u v : List Int32) : A (s_clEnd (s_clStart o u) v) = (c, s, f, p, (u, v, k.2.2), d, m, b) := by
 have : A (s_clEnd (s_clStart o u) v) = ((A o).1, (A o).2.1, (A o).2.2.1, (A o).2.2.2.1, (u, v, (A o).2.2.2.2.1.2.2), (A o).2.2.2.2.2) := by dsimp only [A, f_opRet, f_opLess, f_opEq, f_opTable, f_opBits, f_maxCap, f_maxTargets, f_maxSteps, f_tableSpanPerCase, f_maxTableSpan, f_maxBitSpan, f_maxBitTargets, f_unsignedMask, f_maxInt, f_curVal, f_curTgt, f_snapVal, f_snapTgt, f_bestCost, f_bestCut, f_clStart, f_clEnd, f_opc, f_argA, f_argB, f_argC, f_argD, f_tablePool, f_maskPool, f_maskTarget, f_stLo, f_stHi, f_stParent, f_stSlot, f_cap, f_targets, f_curCount, f_curDefault, f_dirty, f_snapCount, f_snapDefault, f_hasSnap, f_clCount, f_codeLen, f_rootPc, f_tableUsed, f_maskUsed, f_sp, s_opRet, s_opLess, s_opEq, s_opTable, s_opBits, s_maxCap, s_maxTargets, s_maxSteps, s_tableSpanPerCase, s_maxTableSpan, s_maxBitSpan, s_maxBitTargets, s_unsignedMask, s_maxInt, s_curVal, s_curTgt, s_snapVal, s_snapTgt, s_bestCost, s_bestCut, s_clStart, s_clEnd, s_opc, s_argA, s_argB, s_argC, s_argD, s_tablePool, s_maskPool, s_maskTarget, s_stLo, s_stHi, s_stParent, s_stSlot, s_cap, s_targets, s_curCount, s_curDefault, s_dirty, s_snapCount, s_snapDefault, s_hasSnap, s_clCount, s_codeLen, s_rootPc, s_tableUsed, s_maskUsed, s_sp]
 rw [this, h]
theorem w_clc {c : CT} {s : CT} {f : FT} {p : PT} {k : KT} {d : DT} {m : MT} {b : BT} {o : Ob} (h : A o = (c, s, f, p, k, d, m, b)) (u : Int32) : A (s_clCount o u) = (c, s, f, p, (k.1, k.2.1, u), d, m, b) := by
 have : A (s_clCount o u) = ((A o).1, (A o).2.1, (A o).2.2.1, (A o).2.2.2.1, ((A o).2.2.2.2.1.1, (A o).2.2.2.2.1.2.1, u), (A o).2.2.2.2.2) := by dsimp only [A, f_opRet, f_opLess, f_opEq, f_opTable, f_opBits, f_maxCap, f_maxTargets, f_maxSteps, f_tableSpanPerCase, f_maxTableSpan, f_maxBitSpan, f_maxBitTargets, f_unsignedMask, f_maxInt, f_curVal, f_curTgt, f_snapVal, f_snapTgt, f_bestCost, f_bestCut, f_clStart, f_clEnd, f_opc, f_argA, f_argB, f_argC, f_argD, f_tablePool, f_maskPool, f_maskTarget, f_stLo, f_stHi, f_stParent, f_stSlot, f_cap, f_targets, f_curCount, f_curDefault, f_dirty, f_snapCount, f_snapDefault, f_hasSnap, f_clCount, f_codeLen, f_rootPc, f_tableUsed, f_maskUsed, f_sp, s_opRet, s_opLess, s_opEq, s_opTable, s_opBits, s_maxCap, s_maxTargets, s_maxSteps, s_tableSpanPerCase, s_maxTableSpan, s_maxBitSpan, s_maxBitTargets, s_unsignedMask, s_maxInt, s_curVal, s_curTgt, s_snapVal, s_snapTgt, s_bestCost, s_bestCut, s_clStart, s_clEnd, s_opc, s_argA, s_argB, s_argC, s_argD, s_tablePool, s_maskPool, s_maskTarget, s_stLo, s_stHi, s_stParent, s_stSlot, s_cap, s_targets, s_curCount, s_curDefault, s_dirty, s_snapCount, s_snapDefault, s_hasSnap, s_clCount, s_codeLen, s_rootPc, s_tableUsed, s_maskUsed, s_sp]
 rw [this, h]
theorem w_snap {c : CT} {s : CT} {f : FT} {p : PT} {k : KT} {d : DT} {m : MT} {b : BT} {o : Ob} (h : A o = (c, s, f, p, k, d, m, b)) (u v : List Int32) : A (s_snapTgt (s_snapVal o u) v) = (c, (u, v, s.2.2), f, p, k, d, m, b) := by
 have : A (s_snapTgt (s_snapVal o u) v) = ((A o).1, (u, v, (A o).2.1.2.2), (A o).2.2) := by dsimp only [A, f_opRet, f_opLess, f_opEq, f_opTable, f_opBits, f_maxCap, f_maxTargets, f_maxSteps, f_tableSpanPerCase, f_maxTableSpan, f_maxBitSpan, f_maxBitTargets, f_unsignedMask, f_maxInt, f_curVal, f_curTgt, f_snapVal, f_snapTgt, f_bestCost, f_bestCut, f_clStart, f_clEnd, f_opc, f_argA, f_argB, f_argC, f_argD, f_tablePool, f_maskPool, f_maskTarget, f_stLo, f_stHi, f_stParent, f_stSlot, f_cap, f_targets, f_curCount, f_curDefault, f_dirty, f_snapCount, f_snapDefault, f_hasSnap, f_clCount, f_codeLen, f_rootPc, f_tableUsed, f_maskUsed, f_sp, s_opRet, s_opLess, s_opEq, s_opTable, s_opBits, s_maxCap, s_maxTargets, s_maxSteps, s_tableSpanPerCase, s_maxTableSpan, s_maxBitSpan, s_maxBitTargets, s_unsignedMask, s_maxInt, s_curVal, s_curTgt, s_snapVal, s_snapTgt, s_bestCost, s_bestCut, s_clStart, s_clEnd, s_opc, s_argA, s_argB, s_argC, s_argD, s_tablePool, s_maskPool, s_maskTarget, s_stLo, s_stHi, s_stParent, s_stSlot, s_cap, s_targets, s_curCount, s_curDefault, s_dirty, s_snapCount, s_snapDefault, s_hasSnap, s_clCount, s_codeLen, s_rootPc, s_tableUsed, s_maskUsed, s_sp]
 rw [this, h]
theorem w_sc {c : CT} {s : CT} {f : FT} {p : PT} {k : KT} {d : DT} {m : MT} {b : BT} {o : Ob} (h : A o = (c, s, f, p, k, d, m, b)) (u v : Int32) : A (s_snapDefault (s_snapCount o u) v) = (c, (s.1, s.2.1, u, v, s.2.2.2.2), f, p, k, d, m, b) := by
 have : A (s_snapDefault (s_snapCount o u) v) = ((A o).1, ((A o).2.1.1, (A o).2.1.2.1, u, v, (A o).2.1.2.2.2.2), (A o).2.2) := by dsimp only [A, f_opRet, f_opLess, f_opEq, f_opTable, f_opBits, f_maxCap, f_maxTargets, f_maxSteps, f_tableSpanPerCase, f_maxTableSpan, f_maxBitSpan, f_maxBitTargets, f_unsignedMask, f_maxInt, f_curVal, f_curTgt, f_snapVal, f_snapTgt, f_bestCost, f_bestCut, f_clStart, f_clEnd, f_opc, f_argA, f_argB, f_argC, f_argD, f_tablePool, f_maskPool, f_maskTarget, f_stLo, f_stHi, f_stParent, f_stSlot, f_cap, f_targets, f_curCount, f_curDefault, f_dirty, f_snapCount, f_snapDefault, f_hasSnap, f_clCount, f_codeLen, f_rootPc, f_tableUsed, f_maskUsed, f_sp, s_opRet, s_opLess, s_opEq, s_opTable, s_opBits, s_maxCap, s_maxTargets, s_maxSteps, s_tableSpanPerCase, s_maxTableSpan, s_maxBitSpan, s_maxBitTargets, s_unsignedMask, s_maxInt, s_curVal, s_curTgt, s_snapVal, s_snapTgt, s_bestCost, s_bestCut, s_clStart, s_clEnd, s_opc, s_argA, s_argB, s_argC, s_argD, s_tablePool, s_maskPool, s_maskTarget, s_stLo, s_stHi, s_stParent, s_stSlot, s_cap, s_targets, s_curCount, s_curDefault, s_dirty, s_snapCount, s_snapDefault, s_hasSnap, s_clCount, s_codeLen, s_rootPc, s_tableUsed, s_maskUsed, s_sp]
 rw [this, h]
theorem w_hs {c : CT} {s : CT} {f : FT} {p : PT} {k : KT} {d : DT} {m : MT} {b : BT} {o : Ob} (h : A o = (c, s, f, p, k, d, m, b)) (u v : Int32) : A (s_dirty (s_hasSnap o u) v) = ((c.1, c.2.1, c.2.2.1, c.2.2.2.1, v), (s.1, s.2.1, s.2.2.1, s.2.2.2.1, u), f, p, k, d, m, b) := by
 have : A (s_dirty (s_hasSnap o u) v) = (((A o).1.1, (A o).1.2.1, (A o).1.2.2.1, (A o).1.2.2.2.1, v), ((A o).2.1.1, (A o).2.1.2.1, (A o).2.1.2.2.1, (A o).2.1.2.2.2.1, u), (A o).2.2) := by dsimp only [A, f_opRet, f_opLess, f_opEq, f_opTable, f_opBits, f_maxCap, f_maxTargets, f_maxSteps, f_tableSpanPerCase, f_maxTableSpan, f_maxBitSpan, f_maxBitTargets, f_unsignedMask, f_maxInt, f_curVal, f_curTgt, f_snapVal, f_snapTgt, f_bestCost, f_bestCut, f_clStart, f_clEnd, f_opc, f_argA, f_argB, f_argC, f_argD, f_tablePool, f_maskPool, f_maskTarget, f_stLo, f_stHi, f_stParent, f_stSlot, f_cap, f_targets, f_curCount, f_curDefault, f_dirty, f_snapCount, f_snapDefault, f_hasSnap, f_clCount, f_codeLen, f_rootPc, f_tableUsed, f_maskUsed, f_sp, s_opRet, s_opLess, s_opEq, s_opTable, s_opBits, s_maxCap, s_maxTargets, s_maxSteps, s_tableSpanPerCase, s_maxTableSpan, s_maxBitSpan, s_maxBitTargets, s_unsignedMask, s_maxInt, s_curVal, s_curTgt, s_snapVal, s_snapTgt, s_bestCost, s_bestCut, s_clStart, s_clEnd, s_opc, s_argA, s_argB, s_argC, s_argD, s_tablePool, s_maskPool, s_maskTarget, s_stLo, s_stHi, s_stParent, s_stSlot, s_cap, s_targets, s_curCount, s_curDefault, s_dirty, s_snapCount, s_snapDefault, s_hasSnap, s_clCount, s_codeLen, s_rootPc, s_tableUsed, s_maskUsed, s_sp]
 rw [this, h]
def vv (s : CT) (j : Nat) : Int := gd s.1 j
def tt' (s : CT) (j : Nat) : Int32 := at' s.2.1 j
def Sw (T : Int) (n : Nat) (s : CT) : Prop := s.1.length = 64 ∧ s.2.1.length = 64 ∧ n ≤ 64 ∧ s.2.2.1.toInt = (n : Nat) ∧ (∀ i j, i < j → j < n → vv s i < vv s j) ∧ (∀ j, j < n → 0 ≤ (tt' s j).toInt ∧ (tt' s j).toInt < T) ∧ 0 ≤ s.2.2.2.1.toInt ∧ s.2.2.2.1.toInt < T
theorem Sw.a_v {T : Int} {n j : Nat} {s : CT} (S : Sw T n s) (hj : j < n) {x : Int32} (hx : x.toInt = j) : aget s.1 x = some (at' s.1 j) := ag hx (by rw [S.1]; have := S.2.2.1; omega)
theorem Sw.a_t {T : Int} {n j : Nat} {s : CT} (S : Sw T n s) (hj : j < n) {x : Int32} (hx : x.toInt = j) : aget s.2.1 x = some (tt' s j) := ag hx (by rw [S.2.1]; have := S.2.2.1; omega)
theorem fits_ok {x : Int64} {n d : Int32} (n0 : 0 ≤ n.toInt) (n16 : n.toInt ≤ 16) : okP (F23 x n d) (fun r => r ≠ 0 → x.toInt ≤ 64) := by
 have z2 : (2 : Int32).toInt = 2 := rfl
 have z64 : (64 : Int64).toInt = 64 := rfl
 have z4 : (4 : Int64).toInt = 4 := rfl
 have m : ((4 : Int64) * n.toInt64).toInt = 4 * n.toInt := by
  rw [J_mul (by rw [J_e, z4]; omega) (by rw [J_e, z4]; omega), J_e, z4]
 unfold F23
 refine okP.ite (fun _ => okP.some (fun w => absurd rfl w)) (fun _ => ?_)
 by_cases a1 : (64 : Int64) < x
 ·rw [if_pos a1, if_pos rfl]
  by_cases a2 : (4 : Int64) * n.toInt64 < x
  ·rw [if_pos a2, if_pos rfl]
   exact okP.some (fun w => absurd rfl w)
  ·rw [if_neg a2, if_neg (by decide)]
   rw [J_lt, m] at a2
   exact okP.some (fun _ => by omega)
 ·have x64 : x.toInt ≤ 64 := by rw [J_lt, z64] at a1; omega
  rw [if_neg a1]
  refine okP.ite (fun _ => ?_) (fun _ => okP.some (fun _ => x64))
  refine okP.ite (fun _ => okP.some (fun _ => x64)) (fun _ => okP.some (fun _ => x64))
def Cut (s : CT) (p : PT) (j : Nat) : Prop := ∃ c : Nat, c ≤ j ∧ gd p.2 (j + 1) = (c : Nat) ∧ gd p.1 (j + 1) = gd p.1 c + 1 ∧ (c = j ∨ vv s j - vv s c + 1 ≤ 64)
def Plan (s : CT) (p : PT) (n : Nat) : Prop := p.1.length = 65 ∧ p.2.length = 65 ∧ gd p.1 0 = 0 ∧ ∀ j, j < n → Cut s p j ∧ 1 ≤ gd p.1 (j + 1) ∧ gd p.1 (j + 1) ≤ j + 1
theorem span_m (x y : Int32) : ((x.toInt64 - y.toInt64) + (1 : Int64)).toInt = x.toInt - y.toInt + 1 := by
 have a1 := i_lo x
 have a2 := i_hi x
 have a3 := i_lo y
 have a4 := i_hi y
 have z1 : (1 : Int64).toInt = 1 := rfl
 have e : (x.toInt64 - y.toInt64).toInt = x.toInt - y.toInt := by
  rw [J_sub (by rw [J_e, J_e]; omega) (by rw [J_e, J_e]; omega), J_e, J_e]
 rw [J_add (by rw [e, z1]; omega) (by rw [e, z1]; omega), e, z1]
theorem plan_in {c : CT} {s : CT} {f : FT} {p : PT} {k : KT} {d : DT} {m : MT} {b : BT} {o : Ob} (h : A o = (c, s, f, p, k, d, m, b)) {T : Int} {n j : Nat} (S : Sw T n s) (n16 : n ≤ 16) (hj : j < n) {x1 x2 : Int32} (hx : x2.toInt = j) (P : Plan s p j) (C : Cut s p j) (c1 : 1 ≤ gd p.1 (j + 1)) (c2 : gd p.1 (j + 1) ≤ j + 1) : okP (loopN (B6_52 x1 x2) qN (0, 0, x2, o)) (fun e => ∃ q p', (e = .inl q ∨ e = .inr q) ∧ A q = (c, s, f, p', k, d, m, b) ∧ Plan s p' (j + 1)) := by
 have z0 : (0 : Int32).toInt = 0 := rfl
 have z1 : (1 : Int32).toInt = 1 := rfl
 have zm : (-1 : Int32).toInt = -1 := rfl
 have ej : (x2 + 1).toInt = x2.toInt + 1 := inc1 (by omega)
 have sx := S.a_v hj hx
 refine okP.loop (fun w : Int32 × Int32 × Int32 × Ob => -1 ≤ w.2.2.1.toInt ∧ w.2.2.1.toInt ≤ j ∧ ∃ p', A w.2.2.2 = (c, s, f, p', k, d, m, b) ∧ Plan s p' (j + 1)) (fun w => (w.2.2.1.toInt + 1).toNat) ⟨by show -1 ≤ x2.toInt; omega, by show x2.toInt ≤ j; omega, p, h, P.1, P.2.1, P.2.2.1, fun i hi => by
  by_cases e : i = j
  ·subst e; exact ⟨C, c1, c2⟩
  ·exact P.2.2.2 i (by omega)⟩ (by show (x2.toInt + 1).toNat < 4000; omega) ?_
 rintro ⟨se, di, y, q⟩ ⟨y0, y1, p', hq, P'⟩
 simp only at y0 y1 hq
 unfold B6_52
 simp only
 refine okP.ite (fun _ => okP.some ⟨q, p', Or.inr rfl, hq, P'⟩) (fun cy => ?_)
 rw [i_lt, z0] at cy
 obtain ⟨i, hi⟩ : ∃ i : Nat, y.toInt = i := ⟨y.toInt.toNat, by omega⟩
 have ij : i ≤ j := by omega
 have em : (y + -1).toInt = y.toInt + -1 := by rw [i_add (by omega) (by omega), zm]
 generalize hym : y + -1 = ym at em
 generalize hxp : x2 + 1 = xp at ej ⊢
 rw [g_snapTgt hq, S.a_t (by omega) hi, Option.bind_some, g_snapVal hq, sx, Option.bind_some, S.a_v (by omega) hi, Option.bind_some]
 refine okP.ite (fun _ => okP.some ⟨q, p', Or.inl rfl, hq, P'⟩) (fun _ => ?_)
 have ec1 : 0 ≤ (x2 - y + 1).toInt ∧ (x2 - y + 1).toInt ≤ 16 := by
  clear em ej
  have ec : (x2 - y).toInt = x2.toInt - y.toInt := i_sub (by omega) (by omega)
  rw [inc1 (by omega), ec]; omega
 generalize x2 - y + 1 = cn at ec1 ⊢
 apply okP.bind
 refine okP.mono (fits_ok ec1.1 ec1.2) (fun r hr => ?_)
 have go : ∀ (q' : Ob) (p2 : PT) (u w : Int32), A q' = (c, s, f, p2, k, d, m, b) → Plan s p2 (j + 1) → okP (J6_194 q' x1 x2 u w y) (fun r' => Sum.elim (fun e => ∃ q p', (e = .inl q ∨ e = .inr q) ∧ A q = (c, s, f, p', k, d, m, b) ∧ Plan s p' (j + 1)) (fun w : Int32 × Int32 × Int32 × Ob => (-1 ≤ w.2.2.1.toInt ∧ w.2.2.1.toInt ≤ j ∧ ∃ p', A w.2.2.2 = (c, s, f, p', k, d, m, b) ∧ Plan s p' (j + 1)) ∧ (w.2.2.1.toInt + 1).toNat < (y.toInt + 1).toNat) r') := by
  intro q' p2 u w hq' P2
  unfold J6_194
  rw [hym]
  exact okP.some ⟨⟨by simp only; omega, by simp only; omega, p2, hq', P2⟩, by simp only; omega⟩
 refine okP.ite (fun _ => go q p' _ _ hq P') (fun r1 => ?_)
 have l1 := P'.1
 have l2 := P'.2.1
 have n64 := S.2.2.1
 rw [g_bestCost hq, ag hi (by omega), Option.bind_some, ag (a := j + 1) (by omega) (by omega), Option.bind_some]
 refine okP.ite (fun lt => ?_) (fun _ => go q p' _ _ hq P')
 have ci : gd p'.1 i + 1 ≤ i + 1 ∧ 0 ≤ gd p'.1 i := by
  rcases Nat.eq_zero_or_pos i with w | w
  ·subst w; have := P'.2.2.1; omega
  ·obtain ⟨i', e⟩ : ∃ i', i = i' + 1 := ⟨i - 1, by omega⟩
   subst e
   have := P'.2.2.2 i' (by omega)
   omega
 have e1 : (at' p'.1 i + 1).toInt = gd p'.1 i + 1 := inc1 (by show gd p'.1 i < _; omega)
 rw [Option.bind_some, aset_at (n := j + 1) (by omega) (by omega), Option.bind_some, g_bestCut hq, aset_at (n := j + 1) (by omega) (by omega), Option.bind_some]
 have sp : at' s.1 j = at' s.1 j := rfl
 have hspan := hr r1
 rw [span_m] at hspan
 have hs : vv s j - vv s i + 1 ≤ 64 := hspan
 refine go _ _ _ _ (w_best hq _ _) ⟨ls l1, ls l2, ?_, fun a ha => ?_⟩
 ·simp only
  rw [gd_set (by omega), if_neg (by omega)]; exact P'.2.2.1
 ·have key : ∀ a, a ≤ j → gd (p'.1.set (j + 1) (at' p'.1 i + 1)) a = gd p'.1 a := fun a ha => by rw [gd_set (by omega), if_neg (by omega)]
  by_cases e : a = j
  ·subst e
   have k1 : gd (p'.1.set (a + 1) (at' p'.1 i + 1)) (a + 1) = gd p'.1 i + 1 := by rw [gd_set (by omega), if_pos rfl]; exact e1
   refine ⟨⟨i, ij, ?_, ?_, Or.inr hs⟩, ?_, ?_⟩
   ·simp only
    rw [gd_set (by omega), if_pos rfl]; exact hi
   ·simp only
    rw [k1, key i ij]
   ·simp only; rw [k1]; omega
   ·simp only; rw [k1]; omega
  ·obtain ⟨⟨cc, q1, q2, q3, q4⟩, q5, q6⟩ := P'.2.2.2 a (by omega)
   refine ⟨⟨cc, q1, ?_, ?_, q4⟩, ?_, ?_⟩
   ·simp only
    rw [gd_set (by omega), if_neg (by omega)]; exact q2
   ·simp only
    rw [key _ (by omega), key _ (by omega)]; exact q3
   ·simp only; rw [key _ (by omega)]; exact q5
   ·simp only; rw [key _ (by omega)]; exact q6
theorem plan_ok {c : CT} {s : CT} {f : FT} {p : PT} {k : KT} {d : DT} {m : MT} {b : BT} {o : Ob} (h : A o = (c, s, f, p, k, d, m, b)) {T : Int} {n : Nat} (S : Sw T n s) (n16 : n ≤ 16) (l1 : p.1.length = 65) (l2 : p.2.length = 65) : okP (F6 o) (fun q => ∃ p', A q = (c, s, f, p', k, d, m, b) ∧ Plan s p' n) := by
 unfold F6
 rw [g_bestCost h, aset_at (n := 0) rfl (by omega), Option.bind_some, g_snapCount h]
 apply okP.bind
 refine okP.mono (P := fun q => ∃ p', A q = (c, s, f, p', k, d, m, b) ∧ Plan s p' n) ?_ (fun q hq => okP.some hq)
 refine okP.loop (fun w : Int32 × Ob => ∃ j : Nat, w.1.toInt = (j : Int) ∧ j ≤ n ∧ ∃ p', A w.2 = (c, s, f, p', k, d, m, b) ∧ Plan s p' j) (fun w => (100 - w.1.toInt).toNat) ⟨0, rfl, by omega, _, w_cost h _, ls l1, l2, by simp only; rw [gd_set (by omega), if_pos rfl]; rfl, fun j hj => absurd hj (by omega)⟩ (by show (100 - (0 : Int)).toNat < 4000; decide) ?_
 rintro ⟨x, q⟩ ⟨j, hj, jn, p', hq, P⟩
 simp only at hj hq
 unfold B6_14
 simp only
 refine okP.ite (fun cx => ?_) (fun cx => ?_)
 ·rw [i_lt, S.2.2.2.1] at cx
  have l1 := P.1
  have l2 := P.2.1
  have ej : (x + 1).toInt = x.toInt + 1 := inc1 (by omega)
  have cj : 0 ≤ gd p'.1 j ∧ gd p'.1 j ≤ j := by
   rcases Nat.eq_zero_or_pos j with w | w
   ·subst w; have := P.2.2.1; omega
   ·obtain ⟨j', e⟩ : ∃ j', j = j' + 1 := ⟨j - 1, by omega⟩
    subst e
    have := P.2.2.2 j' (by omega)
    omega
  have e1 : (at' p'.1 j + 1).toInt = gd p'.1 j + 1 := inc1 (by show gd p'.1 j < _; omega)
  rw [g_bestCost hq, ag hj (by omega), Option.bind_some, aset_at (n := j + 1) (by omega) (by omega), Option.bind_some, g_bestCut hq, aset_at (n := j + 1) (by omega) (by omega), Option.bind_some]
  have key : ∀ a, a ≤ j → gd (p'.1.set (j + 1) (at' p'.1 j + 1)) a = gd p'.1 a := fun a ha => by rw [gd_set (by omega), if_neg (by omega)]
  have k1 : gd (p'.1.set (j + 1) (at' p'.1 j + 1)) (j + 1) = gd p'.1 j + 1 := by rw [gd_set (by omega), if_pos rfl]; exact e1
  have k2 : gd (p'.2.set (j + 1) x) (j + 1) = (j : Nat) := by rw [gd_set (by omega), if_pos rfl]; exact hj
  have P2 : Plan s (p'.1.set (j + 1) (at' p'.1 j + 1), p'.2.set (j + 1) x) j := by
   refine ⟨ls l1, ls l2, ?_, fun a ha => ?_⟩
   ·simp only; rw [key 0 (by omega)]; exact P.2.2.1
   ·obtain ⟨⟨cc, q1, q2, q3, q4⟩, q5, q6⟩ := P.2.2.2 a (by omega)
    refine ⟨⟨cc, q1, ?_, ?_, q4⟩, ?_, ?_⟩
    ·simp only
     rw [gd_set (by omega), if_neg (by omega)]; exact q2
    ·simp only
     rw [key _ (by omega), key _ (by omega)]; exact q3
    ·simp only; rw [key _ (by omega)]; exact q5
    ·simp only; rw [key _ (by omega)]; exact q6
  apply okP.bind
  refine okP.mono (plan_in (w_best hq _ _) S n16 (by omega) hj P2 ⟨j, Nat.le_refl _, k2, by simp only; rw [k1, key j (Nat.le_refl _)], Or.inl rfl⟩ (by simp only; rw [k1]; omega) (by simp only; rw [k1]; omega)) ?_
  rintro e ⟨q', p2, he, hq', P3⟩
  have fin : okP (J6_200 q' s.2.2.1 x) (fun r' => Sum.elim (fun q => ∃ p', A q = (c, s, f, p', k, d, m, b) ∧ Plan s p' n) (fun w : Int32 × Ob => (∃ j : Nat, w.1.toInt = (j : Int) ∧ j ≤ n ∧ ∃ p', A w.2 = (c, s, f, p', k, d, m, b) ∧ Plan s p' j) ∧ (100 - w.1.toInt).toNat < (100 - x.toInt).toNat) r') := okP.some ⟨⟨j + 1, by simp only; omega, by omega, p2, hq', P3⟩, by simp only; omega⟩
  rcases he with he | he <;> rw [he] <;> exact fin
 ·rw [i_lt, S.2.2.2.1] at cx
  have : j = n := by omega
  subst this
  exact okP.some ⟨p', hq, P⟩
def Cls (s : CT) (n K : Nat) (β : Nat → Nat) (k : KT) : Prop := k.1.length = 64 ∧ k.2.1.length = 64 ∧ k.2.2.toInt = (K : Nat) ∧ K ≤ n ∧ β 0 = 0 ∧ β K = n ∧ ∀ a, a < K → β a < β (a + 1) ∧ β (a + 1) ≤ n ∧ gd k.1 a = (β a : Nat) ∧ gd k.2.1 a = (β (a + 1) : Int) - 1 ∧ (β (a + 1) = β a + 1 ∨ vv s (β (a + 1) - 1) - vv s (β a) + 1 ≤ 64)
theorem coll_ok {c : CT} {s : CT} {f : FT} {p : PT} {k : KT} {d : DT} {m : MT} {b : BT} {o : Ob} (h : A o = (c, s, f, p, k, d, m, b)) {n : Nat} (n64 : n ≤ 64) (hn : s.2.2.1.toInt = (n : Nat)) (P : Plan s p n) (l1 : k.1.length = 64) (l2 : k.2.1.length = 64) : okP (F7 o) (fun q => ∃ k' K β, A q = (c, s, f, p, k', d, m, b) ∧ Cls s n K β k') := by
 have z0 : (0 : Int32).toInt = 0 := rfl
 have z1 : (1 : Int32).toInt = 1 := rfl
 have z65 : (65 : Int32).toInt = 65 := rfl
 have zm : (-1 : Int32).toInt = -1 := rfl
 have p1 := P.1
 have p2 := P.2.1
 have cb : ∀ a, a ≤ n → 0 ≤ gd p.1 a ∧ gd p.1 a ≤ a ∧ (a ≠ 0 → 1 ≤ gd p.1 a) := by
  intro a ha
  rcases Nat.eq_zero_or_pos a with w | w
  ·subst w; have := P.2.2.1; omega
  ·obtain ⟨a', e⟩ : ∃ a', a = a' + 1 := ⟨a - 1, by omega⟩
   subst e
   have := P.2.2.2 a' (by omega)
   omega
 unfold F7
 rw [g_bestCost h, g_snapCount h, ag hn (by omega), Option.bind_some]
 obtain ⟨K, hK⟩ : ∃ K : Nat, gd p.1 n = (K : Nat) := ⟨(gd p.1 n).toNat, by have := cb n (Nat.le_refl _); omega⟩
 have hK' : (at' p.1 n).toInt = (K : Nat) := hK
 have Kn : K ≤ n := by have := cb n (Nat.le_refl _); omega
 generalize at' p.1 n = kv at *
 have h' := w_clc h kv
 apply okP.bind
 refine okP.mono (P := fun q => ∃ k' K β, A q = (c, s, f, p, k', d, m, b) ∧ Cls s n K β k') ?_ (fun q hq => okP.some hq)
 refine okP.loop (fun w : Int32 × Int32 × Int32 × Ob => ∃ (kk pos st : Nat) (β : Nat → Nat) (u v : List Int32), w.1.toInt = (kk : Int) ∧ w.2.1.toInt = (pos : Int) ∧ w.2.2.1.toInt = (st : Int) ∧ st + pos ≤ n ∧ kk ≤ K ∧ gd p.1 pos = (kk : Nat) ∧ A w.2.2.2 = (c, s, f, p, (u, v, kv), d, m, b) ∧ u.length = 64 ∧ v.length = 64 ∧ β K = n ∧ β kk = pos ∧ ∀ a, kk ≤ a → a < K → β a < β (a + 1) ∧ β (a + 1) ≤ n ∧ gd u a = (β a : Nat) ∧ gd v a = (β (a + 1) : Int) - 1 ∧ (β (a + 1) = β a + 1 ∨ vv s (β (a + 1) - 1) - vv s (β a) + 1 ≤ 64)) (fun w => w.2.1.toInt.toNat) ⟨K, n, 0, fun _ => n, k.1, k.2.1, hK', hn, rfl, by omega, Nat.le_refl _, hK, h', l1, l2, rfl, rfl, fun a h1 h2 => absurd h2 (by omega)⟩ (by show s.2.2.1.toInt.toNat < 4000; omega) ?_
 rintro ⟨x, y, z, q⟩ ⟨kk, pos, st, β, u, v, hx, hy, hz, sp, kK, hc, hq, lu, lv, bK, bk, hb⟩
 simp only at hx hy hz hq
 unfold B7_22
 simp only
 rw [if_pos (by rw [i_lt, z65]; omega)]
 refine okP.ite (fun cy => ?_) (fun cy => ?_)
 ·rw [i_lt, z0] at cy
  obtain ⟨j, ej⟩ : ∃ j, pos = j + 1 := ⟨pos - 1, by omega⟩
  subst ej
  obtain ⟨⟨cc, q1, q2, q3, q4⟩, q5, q6⟩ := P.2.2.2 j (by omega)
  have cbc := cb cc (by omega)
  have k1 : 1 ≤ kk := by omega
  obtain ⟨kj, ek⟩ : ∃ kj, kk = kj + 1 := ⟨kk - 1, by omega⟩
  subst ek
  have em : (x + -1).toInt = x.toInt + -1 := by rw [i_add (by omega) (by omega), zm]
  have ey : (y - 1).toInt = y.toInt - 1 := by rw [i_sub (by omega) (by omega), z1]
  have ez : (z + 1).toInt = z.toInt + 1 := inc1 (by omega)
  have hcc : (at' p.2 (j + 1)).toInt = (cc : Nat) := q2
  generalize x + -1 = xm at em ⊢
  rw [g_bestCut hq, ag hy (by omega), Option.bind_some, if_neg (by rw [i_lt, z0]; omega), if_neg (by rw [i_lt, z0]; omega), if_pos (by rw [i_lt]; omega), g_clStart hq, g_clEnd hq]
  generalize y - 1 = ym at ey ⊢
  generalize at' p.2 (j + 1) = cv at hcc ⊢
  rw [aset_at (n := kj) (by omega) (by show kj < u.length; omega), Option.bind_some, aset_at (n := kj) (by omega) (by show kj < v.length; omega), Option.bind_some]
  have hw := w_cl hq (u.set kj cv) (v.set kj ym)
  refine okP.some ⟨⟨kj, cc, st + 1, (fun a => if a = kj then cc else β a), u.set kj cv, v.set kj ym, by simp only; omega, hcc, by simp only; omega, by omega, by omega, by omega, hw, ls lu, ls lv, ?_, ?_, fun a h1 h2 => ?_⟩, by simp only; omega⟩
  ·simp only; rw [if_neg (by omega)]; exact bK
  ·simp only [if_true]
  ·simp only
   rw [gd_set (by omega), gd_set (by omega), if_neg (show ¬ a + 1 = kj by omega)]
   by_cases e : a = kj
   ·subst e
    simp only [if_true]
    rw [bk]
    refine ⟨by omega, by omega, hcc, by omega, ?_⟩
    rcases q4 with w | w
    ·left; omega
    ·right
     show vv s (j + 1 - 1) - vv s cc + 1 ≤ 64
     rw [show j + 1 - 1 = j by omega]; exact w
   ·simp only [if_neg e]
    exact hb a (by omega) h2
 ·rw [i_lt, z0] at cy
  have p0 : pos = 0 := by omega
  subst p0
  have k0 : kk = 0 := by have := P.2.2.1; omega
  subst k0
  exact okP.some ⟨_, K, β, hq, lu, lv, hK', Kn, bk, bK, fun a ha => hb a (by omega) ha⟩

theorem mskbit {w : Nat} (hw : w < 64) (i : Nat) : (BitVec.ofNat 64 (2 ^ w - 1)).getLsbD i = decide (i < w) := by
 rw [BitVec.getLsbD_ofNat, Nat.testBit_two_pow_sub_one]
 by_cases h : i < w
 ·have : i < 64 := by omega
  simp [h, this]
 ·simp [h]
theorem ofI {x : Int32} {n : Nat} (h : x.toInt = n) : x = Int32.ofInt n := by rw [← h, Int32.ofInt_toInt]
theorem shl64 (v : Int64) {y : Int32} {n : Nat} (h : y.toInt = n) (hn : n < 64) : (v <<< (y.toInt64 &&& 63)).toBitVec = v.toBitVec <<< n := by
 have : ∀ n : Fin 64, (((Int32.ofInt n.1).toInt64 &&& 63).toBitVec.smod 64) = BitVec.ofNat 64 n.1 := by decide
 rw [ofI h]
 show v.toBitVec <<< (((Int32.ofInt n).toInt64 &&& 63).toBitVec.smod 64) = _
 rw [this ⟨n, hn⟩, BitVec.shiftLeft_eq']
 congr 1
 simp; omega
theorem ushr64 (v : Int64) {y : Int32} {n : Nat} (h : y.toInt = n) (hn : n < 64) : (XT.ushrL v y).toBitVec = v.toBitVec >>> n := by
 have : ∀ n : Fin 64, (((Int32.ofInt n.1).toInt64.toUInt64 &&& Int64.toUInt64 63) % 64).toBitVec = BitVec.ofNat 64 n.1 := by decide
 rw [ofI h]
 show v.toBitVec >>> (((Int32.ofInt n).toInt64.toUInt64 &&& Int64.toUInt64 63) % 64).toBitVec = _
 rw [this ⟨n, hn⟩, BitVec.ushiftRight_eq']
 congr 1
 simp; omega
def bt6 (x : Int64) (n : Nat) : Bool := x.toBitVec.getLsbD n
theorem bt6_or (x y : Int64) (n : Nat) : bt6 (x ||| y) n = (bt6 x n || bt6 y n) := by
 show (x.toBitVec ||| y.toBitVec).getLsbD n = _
 rw [BitVec.getLsbD_or]; rfl
theorem bt6_0 (n : Nat) : bt6 0 n = false := by
 show (0#64).getLsbD n = false
 simp
theorem bt6_one {y : Int32} {k : Nat} (h : y.toInt = k) (hk : k < 64) {n : Nat} (hn : n < 64) : bt6 ((1 : Int64) <<< (y.toInt64 &&& 63)) n = decide (n = k) := by
 unfold bt6
 rw [shl64 1 h hk]
 show (1#64 <<< k).getLsbD n = _
 rw [BitVec.getLsbD_shiftLeft]
 by_cases c : n < k
 ·have : ¬ n = k := by omega
  simp [c, this]
 ·by_cases e : n = k
  ·subst e; simp [hn]
  ·have : ¬ (n - k = 0) := by omega
   simp [hn, c, e, this]
theorem bt6_ushr (x : Int64) {y : Int32} {k : Nat} (h : y.toInt = k) (hk : k < 64) : (XT.ushrL x y &&& (1 : Int64)) = 0 ↔ bt6 x k = false := by
 have e : (XT.ushrL x y &&& (1 : Int64)).toBitVec = (x.toBitVec >>> k) &&& 1#64 := by
  show (XT.ushrL x y).toBitVec &&& (1 : Int64).toBitVec = _
  rw [ushr64 x h hk]; rfl
 have e2 : (XT.ushrL x y &&& (1 : Int64)).toBitVec = if bt6 x k then 1#64 else 0#64 := by
  rw [e]
  apply BitVec.eq_of_getLsbD_eq
  intro i hi
  rw [BitVec.getLsbD_and, BitVec.getLsbD_ushiftRight]
  by_cases i0 : i = 0
  ·subst i0
   show (x.toBitVec.getLsbD (k + 0) && true) = _
   unfold bt6
   rw [Nat.add_zero, Bool.and_true]
   cases x.toBitVec.getLsbD k <;> rfl
  ·have a : (1#64).getLsbD i = false := by
    rw [BitVec.getLsbD_one]; simp [i0]
   rw [a, Bool.and_false]
   cases bt6 x k
   ·simp
   ·simp [i0]
 constructor
 ·intro z
  have := congrArg Int64.toBitVec z
  rw [e2] at this
  cases q : bt6 x k
  ·rfl
  ·rw [q] at this; exact absurd this (by decide)
 ·intro q
  apply Int64.toBitVec_inj.1
  rw [e2, q]; rfl
theorem off_m (x y : Int32) : (((x - y).toInt64) &&& (4294967295 : Int64)).toInt = (x.toInt - y.toInt) % 4294967296 := by
 have a1 := i_lo (x - y)
 have a2 := i_hi (x - y)
 have e : (((x - y).toInt64) &&& (4294967295 : Int64)).toBitVec = (x - y).toBitVec.setWidth 64 := by
  show ((x - y).toInt64).toBitVec &&& BitVec.ofNat 64 (2 ^ 32 - 1) = _
  rw [Int32.toBitVec_toInt64]
  apply BitVec.eq_of_getLsbD_eq
  intro i hi
  rw [BitVec.getLsbD_and, BitVec.getLsbD_signExtend, mskbit (by decide), BitVec.getLsbD_setWidth]
  by_cases c : i < 32
  ·simp [c, hi]
  ·have : (x - y).toBitVec.getLsbD i = false := BitVec.getLsbD_of_ge _ _ (by omega)
   rw [this, decide_eq_false c, Bool.and_false, Bool.and_false]
 have w1 : (x - y).toInt = (x - y).toBitVec.toInt := rfl
 have w2 : (((x - y).toInt64) &&& (4294967295 : Int64)).toInt = ((x - y).toBitVec.setWidth 64).toInt := by
  show (((x - y).toInt64) &&& (4294967295 : Int64)).toBitVec.toInt = _
  rw [e]
 have lt := (x - y).toBitVec.isLt
 have w3 : ((x - y).toBitVec.setWidth 64).toNat = (x - y).toBitVec.toNat := by
  rw [BitVec.toNat_setWidth, Nat.mod_eq_of_lt (by omega)]
 have w4 : ((x - y).toBitVec.setWidth 64).toInt = ((x - y).toBitVec.toNat : Int) := by
  rw [BitVec.toInt_eq_toNat_cond, w3, if_pos (by omega)]
 have w5 : (x - y).toBitVec.toInt = if 2 * (x - y).toBitVec.toNat < 2 ^ 32 then ((x - y).toBitVec.toNat : Int) else (x - y).toBitVec.toNat - (2 ^ 32 : Nat) := BitVec.toInt_eq_toNat_cond _
 have w6 : (x - y).toInt = (x.toInt - y.toInt).bmod (2 ^ 32) := Int32.toInt_sub ..
 rw [w2, w4]
 rw [← w1, w6] at w5
 have e32 : ((2 ^ 32 : Nat) : Int) = 4294967296 := rfl
 simp only [Int.bmod, e32] at w5
 split at w5 <;> split at w5 <;> omega
theorem t32_m {x : Int64} (h0 : 0 ≤ x.toInt) (h1 : x.toInt < 64) : x.toInt32.toInt = x.toInt := by
 rw [Int64.toInt_toInt32, Int.bmod_eq_of_le (by omega) (by omega)]
def am (l : List Int64) (j : Nat) : Int64 := l.getD j 0
theorem am_set {l : List Int64} {i k : Nat} {v : Int64} (hi : i < l.length) : am (l.set i v) k = if k = i then v else am l k := by
 unfold am
 rw [List.getD_eq_getElem?_getD, List.getD_eq_getElem?_getD, List.getElem?_set]
 by_cases h : i = k
 ·rw [if_pos h, if_pos h.symm, if_pos hi]; rfl
 ·rw [if_neg h, if_neg (fun w => h w.symm)]
theorem agm {l : List Int64} {x : Int32} {a : Nat} (hx : x.toInt = a) (ha : a < l.length) : aget l x = some (am l a) := by
 unfold am
 rw [aget_at hx ha, List.getD_eq_getElem?_getD, List.getElem?_eq_getElem ha]; rfl
theorem b8 {x : Int32} (h0 : 0 ≤ x.toInt) (h1 : x.toInt < 16) : (x.toInt8.toInt32).toInt8.toInt32 = x ∧ x.toInt8.toInt32 = x := small_cases (P := fun x => (x.toInt8.toInt32).toInt8.toInt32 = x ∧ x.toInt8.toInt32 = x) h0 (n := 16) h1 (by decide)
theorem pig : ∀ (n p : Nat) (f : Nat → Nat), (∀ q, q < p → f q < n) → (∀ q r, q < p → r < p → f q = f r → q = r) → p ≤ n
 | 0, p, f, h, _ => by
  rcases Nat.eq_zero_or_pos p with w | w
  ·omega
  ·exact absurd (h 0 w) (by omega)
 | n + 1, 0, f, _, _ => by omega
 | n + 1, p + 1, f, h, inj => by
  have := pig n p (fun q => if f q = n then f p else f q) (by
   intro q hq
   have a1 := h q (by omega)
   have a2 := h p (by omega)
   have a3 := inj q p (by omega) (by omega)
   show (if f q = n then f p else f q) < n
   split
   ·rename_i w
    have : f p ≠ n := fun z => absurd (a3 (by omega)) (by omega)
    omega
   ·omega) (by
   intro q r hq hr
   have a3 := inj q p (by omega) (by omega)
   have a4 := inj r p (by omega) (by omega)
   have a5 := inj q r (by omega) (by omega)
   show (if f q = n then f p else f q) = (if f r = n then f p else f r) → q = r
   intro e
   split at e <;> split at e
   ·exact a5 (by omega)
   ·have := a4 e.symm; omega
   ·have := a3 e; omega
   ·exact a5 e)
  omega
def df (s : CT) : Int32 := s.2.2.2.1
def Rv (s : CT) (a b : Nat) (x : Int) (r : Int32) : Prop := (∃ i, a ≤ i ∧ i < b ∧ vv s i = x ∧ r = tt' s i) ∨ ((∀ i, a ≤ i → i < b → vv s i ≠ x) ∧ r = df s)
theorem vv_inj {T : Int} {n : Nat} {s : CT} (S : Sw T n s) {i j : Nat} (hi : i < n) (hj : j < n) (h : vv s i = vv s j) : i = j := by
 rcases Nat.lt_trichotomy i j with w | w | w
 ·have := S.2.2.2.2.1 i j w hj; omega
 ·exact w
 ·have := S.2.2.2.2.1 j i w hi; omega
def Msk (s : CT) (m : MT) (a b base used : Nat) : Prop :=
 (∀ j, j < used → ∀ n, n < 64 → (bt6 (am m.1 (base + j)) n = true ↔ ∃ i, a ≤ i ∧ i < b ∧ tt' s i ≠ df s ∧ tt' s i = at' m.2.1 (base + j) ∧ vv s i = vv s a + n)) ∧
 (∀ i, a ≤ i → i < b → tt' s i ≠ df s → ∃ j, j < used ∧ at' m.2.1 (base + j) = tt' s i) ∧
 (∀ j, j < used → ∃ i, a ≤ i ∧ i < b ∧ at' m.2.1 (base + j) = tt' s i ∧ tt' s i ≠ df s) ∧
 ∀ j j', j < used → j' < used → at' m.2.1 (base + j) = at' m.2.1 (base + j') → j = j'
theorem Msk.congr {s : CT} {m m' : MT} {a b base used : Nat} (M : Msk s m a b base used) (h : ∀ j, j < base + used → am m'.1 j = am m.1 j ∧ at' m'.2.1 j = at' m.2.1 j) : Msk s m' a b base used := by
 obtain ⟨M1, M2, M3, M4⟩ := M
 refine ⟨fun j hj n hn => ?_, fun i h1 h2 h3 => ?_, fun j hj => ?_, fun j j' hj hj' e => ?_⟩
 ·rw [(h (base + j) (by omega)).1, (h (base + j) (by omega)).2]
  exact M1 j hj n hn
 ·obtain ⟨j, j1, j2⟩ := M2 i h1 h2 h3
  exact ⟨j, j1, by rw [(h (base + j) (by omega)).2]; exact j2⟩
 ·rw [(h (base + j) (by omega)).2]
  exact M3 j hj
 ·rw [(h (base + j) (by omega)).2, (h (base + j') (by omega)).2] at e
  exact M4 j j' hj hj' e
def Leaf (s : CT) (d : DT) (m : MT) (a b pc : Nat) : Prop :=
 (at' d.1 pc = 2 ∧ b = a + 1 ∧ gd d.2.1 pc = vv s a ∧ at' d.2.2.1 pc = tt' s a) ∨
 (at' d.1 pc = 4 ∧ gd d.2.1 pc = vv s a ∧ ∃ base used : Nat, gd d.2.2.1 pc = (base : Nat) ∧ gd d.2.2.2.1 pc = (used : Nat) ∧ used ≤ 3 ∧ base + used ≤ m.2.2.toInt.toNat ∧ gd d.2.2.2.2.1 pc = vv s (b - 1) - vv s a + 1 ∧ vv s (b - 1) - vv s a + 1 ≤ 64 ∧ Msk s m a b base used)
def LD (d : DT) : Prop := d.1.length = 160 ∧ d.2.1.length = 160 ∧ d.2.2.1.length = 160 ∧ d.2.2.2.1.length = 160 ∧ d.2.2.2.2.1.length = 160
def LM (m : MT) : Prop := m.1.length = 192 ∧ m.2.1.length = 192 ∧ 0 ≤ m.2.2.toInt ∧ m.2.2.toInt ≤ 192
theorem bits_m {c : CT} {s : CT} {f : FT} {p : PT} {k : KT} {d : DT} {m : MT} {b : BT} {o : Ob} (h : A o = (c, s, f, p, k, d, m, b)) {T : Int} {n a e pc : Nat} (S : Sw T n s) (D : LD d) (M : LM m) (ab : a < e) (bn : e ≤ n) (h4 : gd d.2.1 pc = vv s a) {base used : Nat} (hb : gd d.2.2.1 pc = (base : Nat)) (hu : gd d.2.2.2.1 pc = (used : Nat)) (u3 : used ≤ 3) (bu : base + used ≤ m.2.2.toInt.toNat) (hd : gd d.2.2.2.2.1 pc = vv s (e - 1) - vv s a + 1) (h64 : vv s (e - 1) - vv s a + 1 ≤ 64) (K : Msk s m a e base used) {y x : Int32} (hy : y.toInt = pc) (p160 : pc < 160) : okP (F31 o y x) (fun r => (0 ≤ r.toInt ∧ Rv s a e x.toInt r) ∨ (r = -1 ∧ Rv s a e x.toInt (df s))) := by
 have z0 : (0 : Int32).toInt = 0 := rfl
 have z3 : (3 : Int32).toInt = 3 := rfl
 have z64 : (64 : Int64).toInt = 64 := rfl
 obtain ⟨d1, d2, d3, d4, d5⟩ := D
 obtain ⟨m1, m2, m3, m4⟩ := M
 obtain ⟨K1, K2, K3, K4⟩ := K
 have x1 := i_lo x
 have x2 := i_hi x
 have hi := i_hi (at' s.1 (e - 1))
 have hlo := i_lo (at' s.1 a)
 have hlo2 := i_hi (at' s.1 a)
 have va : vv s a = (at' s.1 a).toInt := rfl
 have ve : vv s (e - 1) = (at' s.1 (e - 1)).toInt := rfl
 have mono : ∀ i, a ≤ i → i < e → vv s a ≤ vv s i ∧ vv s i ≤ vv s (e - 1) := by
  intro i h1 h2
  constructor
  ·rcases Nat.eq_or_lt_of_le h1 with w | w
   ·rw [w]; omega
   ·have := S.2.2.2.2.1 a i w (by omega); omega
  ·by_cases w : i = e - 1
   ·rw [w]; omega
   ·have := S.2.2.2.2.1 i (e - 1) (by omega) (by omega); omega
 unfold F31 F32
 rw [g_argA h, g_argB h, g_argC h, g_argD h, ag hy (by omega), Option.bind_some, Option.bind_some, ag hy (by omega), Option.bind_some]
 have eo := off_m x (at' d.2.1 pc)
 have h4' : (at' d.2.1 pc).toInt = vv s a := h4
 rw [h4'] at eo
 generalize ((x - at' d.2.1 pc).toInt64) &&& (4294967295 : Int64) = off at *
 have ds : (at' d.2.2.2.2.1 pc).toInt64.toInt = vv s (e - 1) - vv s a + 1 := by rw [J_e]; exact hd
 have out : ¬ (vv s a ≤ x.toInt ∧ x.toInt ≤ vv s (e - 1)) → Rv s a e x.toInt (df s) := by
  intro w
  right
  refine ⟨fun i h1 h2 z => ?_, rfl⟩
  have := mono i h1 h2
  omega
 refine okP.ite (fun c1 => ?_) (fun c1 => ?_)
 ·rw [J_lt, ds] at c1
  rw [if_pos (by rw [J_lt, z64]; omega), ag hy (by omega), Option.bind_some, ag hy (by omega), Option.bind_some]
  have xo : x.toInt = vv s a + off.toInt := by omega
  have o0 : 0 ≤ off.toInt := by omega
  obtain ⟨q, hq⟩ : ∃ q : Nat, off.toInt = q := ⟨off.toInt.toNat, by omega⟩
  have q64 : q < 64 := by omega
  have t32 : off.toInt32.toInt = q := by rw [t32_m o0 (by omega)]; exact hq
  have hb' : (at' d.2.2.1 pc).toInt = (base : Nat) := hb
  have hu' : (at' d.2.2.2.1 pc).toInt = (used : Nat) := hu
  generalize at' d.2.2.1 pc = bv at *
  generalize at' d.2.2.2.1 pc = uv at *
  generalize off.toInt32 = ov at *
  have miss : (∀ j, j < used → bt6 (am m.1 (base + j)) q = false) → Rv s a e x.toInt (df s) := by
   intro w
   by_cases z : ∃ i, a ≤ i ∧ i < e ∧ vv s i = x.toInt
   ·obtain ⟨i, i1, i2, i3⟩ := z
    left
    refine ⟨i, i1, i2, i3, ?_⟩
    rcases Classical.em (tt' s i = df s) with t | t
    ·exact t.symm
    ·obtain ⟨j, j1, j2⟩ := K2 i i1 i2 t
     have := (K1 j j1 q q64).2 ⟨i, i1, i2, t, j2.symm, by omega⟩
     rw [w j j1] at this
     exact absurd this (by decide)
   ·right
    exact ⟨fun i h1 h2 e => z ⟨i, h1, h2, e⟩, rfl⟩
  apply okP.bind
  refine okP.mono (P := fun r => (0 ≤ r.toInt ∧ Rv s a e x.toInt r) ∨ (r = -1 ∧ Rv s a e x.toInt (df s))) ?_ (fun r hr => okP.some hr)
  refine okP.loop (fun w : Int32 => ∃ j : Nat, w.toInt = (j : Int) ∧ j ≤ used ∧ ∀ j', j' < j → bt6 (am m.1 (base + j')) q = false) (fun w => (10 - w.toInt).toNat) ⟨0, rfl, by omega, fun j hj => absurd hj (by omega)⟩ (by show (10 - (0 : Int)).toNat < 4000; decide) ?_
  rintro w ⟨j, hj, ju, hm⟩
  unfold B31_57
  have ew : (w + 1).toInt = w.toInt + 1 := inc1 (by omega)
  have ebw : (bv + w).toInt = bv.toInt + w.toInt := i_add (by omega) (by omega)
  have lm : ((f_maskPool o).length.toInt32).toInt = 192 := by rw [g_maskPool h, m1]; rfl
  refine okP.ite (fun c2 => ?_) (fun c2 => ?_)
  ·rw [i_lt] at c2
   rw [if_pos (by rw [i_lt, z3]; omega), if_neg (by rw [i_lt, z0]; omega), if_pos (by rw [i_lt, lm]; omega), g_maskPool h, agm (a := base + j) (by omega) (by omega), Option.bind_some]
   refine okP.ite (fun c3 => ?_) (fun c3 => ?_)
   ·have c3' := (bt6_ushr _ t32 q64).1 c3
    refine okP.some ⟨⟨j + 1, by omega, by omega, fun j' hj' => ?_⟩, by omega⟩
    by_cases z : j' = j
    ·rw [z]; exact c3'
    ·exact hm j' (by omega)
   ·have c3' : bt6 (am m.1 (base + j)) q = true := by
     cases z : bt6 (am m.1 (base + j)) q
     ·exact absurd ((bt6_ushr _ t32 q64).2 z) c3
     ·rfl
    rw [g_maskTarget h, ag (a := base + j) (by omega) (by omega), Option.bind_some]
    obtain ⟨i, i1, i2, i3, i4, i5⟩ := (K1 j (by omega) q q64).1 c3'
    refine okP.some (Or.inl ⟨?_, Or.inl ⟨i, i1, i2, by omega, i4.symm⟩⟩)
    rw [← i4]
    exact (S.2.2.2.2.2.1 i (by omega)).1
  ·rw [i_lt] at c2
   refine okP.some (Or.inr ⟨rfl, miss (fun j' hj' => hm j' (by omega))⟩)
 ·rw [J_lt, ds] at c1
  exact okP.some (Or.inr ⟨rfl, out (by omega)⟩)
theorem leaf_m {c : CT} {s : CT} {f : FT} {p : PT} {k : KT} {d : DT} {m : MT} {b : BT} {o : Ob} (h : A o = (c, s, f, p, k, d, m, b)) {T : Int} {n a e pc : Nat} (S : Sw T n s) (D : LD d) (M : LM m) (ab : a < e) (bn : e ≤ n) (L : Leaf s d m a e pc) {y x : Int32} (hy : y.toInt = pc) (p160 : pc < 160) : okP (F30 o y x) (fun r => (0 ≤ r.toInt ∧ Rv s a e x.toInt r) ∨ (r = -1 ∧ Rv s a e x.toInt (df s))) := by
 have dl := D.1
 have d2 := D.2.1
 have d3 := D.2.2.1
 unfold F30
 rw [g_opc h, ag hy (by omega), Option.bind_some]
 rcases L with ⟨o2, eb, h4, h5⟩ | ⟨o4, h4, base, used, hb, hu, u3, bu, hd, h64, K⟩
 ·rw [if_pos o2, g_argA h, ag hy (by omega), Option.bind_some]
  subst eb
  refine okP.ite (fun xe => ?_) (fun xe => ?_)
  ·rw [g_argB h, ag hy (by omega), Option.bind_some, h5]
   refine okP.some (Or.inl ⟨(S.2.2.2.2.2.1 a (by omega)).1, Or.inl ⟨a, Nat.le_refl _, by omega, ?_, rfl⟩⟩)
   rw [xe]; exact h4.symm
  ·refine okP.some (Or.inr ⟨rfl, Or.inr ⟨fun i h1 h2 z => ?_, rfl⟩⟩)
   have : i = a := by omega
   subst this
   exact xe (i_eq.2 (by rw [← z]; exact h4.symm))
 ·rw [if_neg (by rw [o4]; decide), if_neg (by rw [o4]; decide), if_pos o4]
  exact okP.bind (okP.mono (bits_m h S D M ab bn h4 hb hu u3 bu hd h64 K hy p160) (fun r hr => okP.some hr))
def Kid (γ : Nat → Nat × Nat) (L pc : Nat) (z : Int32) (l r : Nat) : Prop := ∃ q : Nat, z.toInt = q ∧ pc < q ∧ q < L ∧ γ q = (l, r)
def Inn (s : CT) (β : Nat → Nat) (d : DT) (pc l r mid : Nat) : Prop := l < mid ∧ mid ≤ r ∧ at' d.1 pc = 1 ∧ gd d.2.1 pc = vv s (β mid)
def Tree (s : CT) (β : Nat → Nat) (K : Nat) (d : DT) (m : MT) (γ : Nat → Nat × Nat) (L : Nat) : Prop := ∀ pc, 1 ≤ pc → pc < L → (γ pc).1 ≤ (γ pc).2 ∧ (γ pc).2 < K ∧ (((γ pc).1 = (γ pc).2 ∧ Leaf s d m (β (γ pc).1) (β ((γ pc).1 + 1)) pc) ∨ ∃ mid, Inn s β d pc (γ pc).1 (γ pc).2 mid ∧ Kid γ L pc (at' d.2.2.1 pc) (γ pc).1 (mid - 1) ∧ Kid γ L pc (at' d.2.2.2.1 pc) mid (γ pc).2)
def Bd (n K : Nat) (β : Nat → Nat) : Prop := β K = n ∧ ∀ a, a < K → β a < β (a + 1)
theorem Bd.le {n K : Nat} {β : Nat → Nat} (B : Bd n K β) : ∀ (j a : Nat), a + j ≤ K → β a + j ≤ β (a + j)
 | 0, a, _ => by simp
 | j + 1, a, h => by
  have := B.le j a (by omega)
  have := B.2 (a + j) (by omega)
  rw [show a + (j + 1) = a + j + 1 from rfl]
  omega
theorem Bd.lt {n K : Nat} {β : Nat → Nat} (B : Bd n K β) {a c : Nat} (h1 : a < c) (h2 : c ≤ K) : β a < β c := by
 have := B.le (c - a) a (by omega)
 rw [show a + (c - a) = c by omega] at this
 omega
theorem Bd.top {n K : Nat} {β : Nat → Nat} (B : Bd n K β) {a : Nat} (h : a ≤ K) : β a ≤ n := by
 have := B.le (K - a) a (by omega)
 rw [show a + (K - a) = K by omega, B.1] at this
 omega
theorem Rv.left {T : Int} {n : Nat} {s : CT} (S : Sw T n s) {a c e : Nat} (ac : a ≤ c) (ce : c < e) (en : e ≤ n) {x : Int} (hx : x < vv s c) {r : Int32} (h : Rv s a c x r) : Rv s a e x r := by
 rcases h with ⟨i, i1, i2, i3, i4⟩ | ⟨h1, h2⟩
 ·exact Or.inl ⟨i, i1, by omega, i3, i4⟩
 ·right
  refine ⟨fun i i1 i2 z => ?_, h2⟩
  rcases Nat.lt_or_ge i c with w | w
  ·exact h1 i i1 w z
  ·rcases Nat.eq_or_lt_of_le w with q | q
   ·rw [q] at hx; omega
   ·have := S.2.2.2.2.1 c i q (by omega); omega
theorem Rv.right {T : Int} {n : Nat} {s : CT} (S : Sw T n s) {a c e : Nat} (ac : a ≤ c) (ce : c < e) (en : e ≤ n) {x : Int} (hx : vv s c ≤ x) {r : Int32} (h : Rv s c e x r) : Rv s a e x r := by
 rcases h with ⟨i, i1, i2, i3, i4⟩ | ⟨h1, h2⟩
 ·exact Or.inl ⟨i, by omega, i2, i3, i4⟩
 ·right
  refine ⟨fun i i1 i2 z => ?_, h2⟩
  rcases Nat.lt_or_ge i c with w | w
  ·have := S.2.2.2.2.1 i c w (by omega); omega
  ·exact h1 i w i2 z
theorem run_in {c : CT} {s : CT} {f : FT} {p : PT} {k : KT} {d : DT} {m : MT} {b : BT} {o : Ob} (h : A o = (c, s, f, p, k, d, m, b)) {T : Int} {n K : Nat} (S : Sw T n s) (D : LD d) (M : LM m) {β : Nat → Nat} (B : Bd n K β) {γ : Nat → Nat × Nat} {L : Nat} (l160 : L ≤ 60) (hL : d.2.2.2.2.2.1.toInt = (L : Nat)) (r0 : at' d.1 0 = 0) (r1 : at' d.2.1 0 = df s) (L1 : 1 ≤ L) (Tr : Tree s β K d m γ L) (x : Int32) : ∀ (f pc : Nat) (y t : Int32) (N : Nat), f = L - pc → f + 1 < N → y.toInt = pc → 1 ≤ pc → pc < L → 0 ≤ t.toInt → t.toInt + f + 1 < 64 → okP (loopN (B16_7 o x) N (y, t)) (fun r => Rv s (β (γ pc).1) (β ((γ pc).2 + 1)) x.toInt r)
 | 0, pc, y, t, N, hf, _, _, _, _, _, _ => absurd hf (by omega)
 | f + 1, pc, y, t, 0, _, h2, _, _, _, _, _ => absurd h2 (by omega)
 | f + 1, pc, y, t, N + 1, hf, hN, hy, p1, pL, t0, tf => by
  have z0 : (0 : Int32).toInt = 0 := rfl
  have z64 : (64 : Int32).toInt = 64 := rfl
  have et : (t + 1).toInt = t.toInt + 1 := inc1 (by omega)
  have dl := D.1
  have d2 := D.2.1
  have d3 := D.2.2.1
  have d4 := D.2.2.2.1
  obtain ⟨g1, g2, g3⟩ := Tr pc p1 pL
  have cl : (f_codeLen o).toInt = L := by rw [g_codeLen h]; exact hL
  have head : B16_7 o x (y, t) = (if at' d.1 pc = 0 then (aget (f_argA o) y).bind fun y82 => some (.inl y82) else (if at' d.1 pc = 1 then (aget (f_argA o) y).bind fun y84 => (if x < y84 then (aget (f_argB o) y).bind fun y86 => (J16_81 o x t y86) else (aget (f_argC o) y).bind fun y87 => (J16_81 o x t y87)) else (F30 o y x).bind fun r112 => (if r112 < (0 : Int32) then (J16_103 o x (0 : Int32) t) else some (.inl r112)))) := by
   unfold B16_7
   simp only
   rw [if_pos (by rw [i_lt, z64]; omega), if_neg (by rw [i_lt, z0]; omega), if_pos (by rw [i_lt, cl]; omega), g_opc h, ag hy (by omega), Option.bind_some]
  rcases g3 with ⟨ge, lf⟩ | ⟨mid, ⟨lm, mr, o1, ap⟩, kb, kc⟩
  ·-- a leaf
   have o12 : at' d.1 pc = 2 ∨ at' d.1 pc = 4 := lf.imp (fun z => z.1) (fun z => z.1)
   have n0 : ¬ at' d.1 pc = 0 := by rcases o12 with w | w <;> rw [w] <;> decide
   have n1 : ¬ at' d.1 pc = 1 := by rcases o12 with w | w <;> rw [w] <;> decide
   rw [if_neg n0, if_neg n1] at head
   have b1 := B.2 (γ pc).1 (by omega)
   have b2 := B.top (a := (γ pc).1 + 1) (by omega)
   obtain ⟨r, q1, q2⟩ := leaf_m h S D M b1 b2 lf hy (by omega)
   rw [q1, Option.bind_some] at head
   rw [← ge]
   rcases q2 with ⟨r0', rv⟩ | ⟨rm, rv⟩
   ·rw [if_neg (by rw [i_lt, z0]; omega)] at head
    refine ⟨r, by simp only [loopN, head], rv⟩
   ·rw [rm, if_pos (by decide)] at head
    unfold J16_103 at head
    obtain ⟨N', eN⟩ : ∃ N', N = N' + 1 := ⟨N - 1, by omega⟩
    have head2 : B16_7 o x (0, t + 1) = some (.inl (df s)) := by
     unfold B16_7
     simp only
     rw [if_pos (by rw [i_lt, z64]; omega), if_neg (by decide), if_pos (by rw [i_lt, cl, z0]; omega), g_opc h, ag (a := 0) rfl (by omega), Option.bind_some, if_pos r0, g_argA h, ag (a := 0) rfl (by omega), Option.bind_some, r1]
    refine ⟨df s, ?_, rv⟩
    rw [eN]
    simp only [loopN, head, head2]
  ·-- a comparison
   have n0 : ¬ at' d.1 pc = 0 := by rw [o1]; decide
   rw [if_neg n0, if_pos o1, g_argA h, ag hy (by omega), Option.bind_some] at head
   have lo := B.lt (a := (γ pc).1) (c := mid) (by omega) (by omega)
   have hi := B.lt (a := mid) (c := (γ pc).2 + 1) (by omega) (by omega)
   have top := B.top (a := (γ pc).2 + 1) (by omega)
   have ap' : (at' d.2.1 pc).toInt = vv s (β mid) := ap
   by_cases c : x < at' d.2.1 pc
   ·rw [if_pos c, g_argB h, ag hy (by omega), Option.bind_some] at head
    unfold J16_81 J16_103 at head
    obtain ⟨q, q1, q2, q3, q4⟩ := kb
    rw [i_lt, ap'] at c
    have ih := run_in h S D M B l160 hL r0 r1 L1 Tr x (L - q) q (at' d.2.2.1 pc) (t + 1) N rfl (by omega) q1 (by omega) q3 (by omega) (by omega)
    rw [q4] at ih
    simp only at ih
    rw [show mid - 1 + 1 = mid by omega] at ih
    obtain ⟨r, r2, r3⟩ := ih
    exact ⟨r, by simp only [loopN, head]; exact r2, Rv.left S (by omega) hi top c r3⟩
   ·rw [if_neg c, g_argC h, ag hy (by omega), Option.bind_some] at head
    unfold J16_81 J16_103 at head
    obtain ⟨q, q1, q2, q3, q4⟩ := kc
    rw [i_lt, ap'] at c
    have ih := run_in h S D M B l160 hL r0 r1 L1 Tr x (L - q) q (at' d.2.2.2.1 pc) (t + 1) N rfl (by omega) q1 (by omega) q3 (by omega) (by omega)
    rw [q4] at ih
    simp only at ih
    obtain ⟨r, r2, r3⟩ := ih
    exact ⟨r, by simp only [loopN, head]; exact r2, Rv.right S (by omega) hi top (by omega) r3⟩
 termination_by f => f
def Cde (s : CT) (n : Nat) (d : DT) (m : MT) : Prop := LD d ∧ LM m ∧ ∃ (K L : Nat) (β : Nat → Nat) (γ : Nat → Nat × Nat), Bd n K β ∧ β 0 = 0 ∧ L ≤ 60 ∧ 1 ≤ L ∧ d.2.2.2.2.2.1.toInt = (L : Nat) ∧ at' d.1 0 = 0 ∧ at' d.2.1 0 = df s ∧ Tree s β K d m γ L ∧ ((K = 0 ∧ d.2.2.2.2.2.2 = 0) ∨ (0 < K ∧ Kid γ L 0 d.2.2.2.2.2.2 0 (K - 1)))
theorem run_ok {c : CT} {s : CT} {f : FT} {p : PT} {k : KT} {d : DT} {m : MT} {b : BT} {o : Ob} (h : A o = (c, s, f, p, k, d, m, b)) {T : Int} {n : Nat} (S : Sw T n s) (C : Cde s n d m) (x : Int32) : okP (F16 o x) (fun r => Rv s 0 n x.toInt r) := by
 obtain ⟨D, M, K, L, β, γ, B, b0, l60, L1, hL, r0, r1, Tr, root⟩ := C
 have z64 : (64 : Int32).toInt = 64 := rfl
 have z0 : (0 : Int32).toInt = 0 := rfl
 have dl := D.1
 have d2 := D.2.1
 unfold F16
 rw [g_rootPc h]
 apply okP.bind
 refine okP.mono (P := fun r => Rv s 0 n x.toInt r) ?_ (fun r hr => okP.some hr)
 rcases root with ⟨K0, rp⟩ | ⟨K0, q, q1, q2, q3, q4⟩
 ·have n0 : n = 0 := by rw [← B.1, K0]; exact b0
  have cl : (f_codeLen o).toInt = L := by rw [g_codeLen h]; exact hL
  have head2 : B16_7 o x (0, 0) = some (.inl (df s)) := by
   unfold B16_7
   simp only
   rw [if_pos (by decide), if_neg (by decide), if_pos (by rw [i_lt, cl, z0]; omega), g_opc h, ag (a := 0) rfl (by omega), Option.bind_some, if_pos r0, g_argA h, ag (a := 0) rfl (by omega), Option.bind_some, r1]
  rw [rp]
  refine ⟨df s, by show loopN _ (3999 + 1) _ = _; simp only [loopN, head2], Or.inr ⟨fun i h1 h2 => absurd h2 (by omega), rfl⟩⟩
 ·have := run_in h S D M B l60 hL r0 r1 L1 Tr x (L - q) q _ 0 qN rfl (by show _ < 4000; omega) q1 (by omega) q3 (by decide) (by rw [z0]; omega)
  rw [q4] at this
  simp only at this
  rw [b0, show K - 1 + 1 = K by omega, B.1] at this
  exact this

theorem w_code {c : CT} {s : CT} {f : FT} {p : PT} {k : KT} {d : DT} {m : MT} {b : BT} {o : Ob} (h : A o = (c, s, f, p, k, d, m, b)) (u1 u2 u3 u4 u5 : List Int32) (N : Int32) : A (s_codeLen (s_argD (s_argC (s_argB (s_argA (s_opc o u1) u2) u3) u4) u5) N) = (c, s, f, p, k, (u1, u2, u3, u4, u5, N, d.2.2.2.2.2.2), m, b) := by
 have : A (s_codeLen (s_argD (s_argC (s_argB (s_argA (s_opc o u1) u2) u3) u4) u5) N) = ((A o).1, (A o).2.1, (A o).2.2.1, (A o).2.2.2.1, (A o).2.2.2.2.1, (u1, u2, u3, u4, u5, N, (A o).2.2.2.2.2.1.2.2.2.2.2.2), (A o).2.2.2.2.2.2) := by dsimp only [A, f_opRet, f_opLess, f_opEq, f_opTable, f_opBits, f_maxCap, f_maxTargets, f_maxSteps, f_tableSpanPerCase, f_maxTableSpan, f_maxBitSpan, f_maxBitTargets, f_unsignedMask, f_maxInt, f_curVal, f_curTgt, f_snapVal, f_snapTgt, f_bestCost, f_bestCut, f_clStart, f_clEnd, f_opc, f_argA, f_argB, f_argC, f_argD, f_tablePool, f_maskPool, f_maskTarget, f_stLo, f_stHi, f_stParent, f_stSlot, f_cap, f_targets, f_curCount, f_curDefault, f_dirty, f_snapCount, f_snapDefault, f_hasSnap, f_clCount, f_codeLen, f_rootPc, f_tableUsed, f_maskUsed, f_sp, s_opRet, s_opLess, s_opEq, s_opTable, s_opBits, s_maxCap, s_maxTargets, s_maxSteps, s_tableSpanPerCase, s_maxTableSpan, s_maxBitSpan, s_maxBitTargets, s_unsignedMask, s_maxInt, s_curVal, s_curTgt, s_snapVal, s_snapTgt, s_bestCost, s_bestCut, s_clStart, s_clEnd, s_opc, s_argA, s_argB, s_argC, s_argD, s_tablePool, s_maskPool, s_maskTarget, s_stLo, s_stHi, s_stParent, s_stSlot, s_cap, s_targets, s_curCount, s_curDefault, s_dirty, s_snapCount, s_snapDefault, s_hasSnap, s_clCount, s_codeLen, s_rootPc, s_tableUsed, s_maskUsed, s_sp]
 rw [this, h]
theorem w_argB {c : CT} {s : CT} {f : FT} {p : PT} {k : KT} {d : DT} {m : MT} {b : BT} {o : Ob} (h : A o = (c, s, f, p, k, d, m, b)) (u : List Int32) : A (s_argB o u) = (c, s, f, p, k, (d.1, d.2.1, u, d.2.2.2), m, b) := by
 have : A (s_argB o u) = ((A o).1, (A o).2.1, (A o).2.2.1, (A o).2.2.2.1, (A o).2.2.2.2.1, ((A o).2.2.2.2.2.1.1, (A o).2.2.2.2.2.1.2.1, u, (A o).2.2.2.2.2.1.2.2.2), (A o).2.2.2.2.2.2) := by dsimp only [A, f_opRet, f_opLess, f_opEq, f_opTable, f_opBits, f_maxCap, f_maxTargets, f_maxSteps, f_tableSpanPerCase, f_maxTableSpan, f_maxBitSpan, f_maxBitTargets, f_unsignedMask, f_maxInt, f_curVal, f_curTgt, f_snapVal, f_snapTgt, f_bestCost, f_bestCut, f_clStart, f_clEnd, f_opc, f_argA, f_argB, f_argC, f_argD, f_tablePool, f_maskPool, f_maskTarget, f_stLo, f_stHi, f_stParent, f_stSlot, f_cap, f_targets, f_curCount, f_curDefault, f_dirty, f_snapCount, f_snapDefault, f_hasSnap, f_clCount, f_codeLen, f_rootPc, f_tableUsed, f_maskUsed, f_sp, s_opRet, s_opLess, s_opEq, s_opTable, s_opBits, s_maxCap, s_maxTargets, s_maxSteps, s_tableSpanPerCase, s_maxTableSpan, s_maxBitSpan, s_maxBitTargets, s_unsignedMask, s_maxInt, s_curVal, s_curTgt, s_snapVal, s_snapTgt, s_bestCost, s_bestCut, s_clStart, s_clEnd, s_opc, s_argA, s_argB, s_argC, s_argD, s_tablePool, s_maskPool, s_maskTarget, s_stLo, s_stHi, s_stParent, s_stSlot, s_cap, s_targets, s_curCount, s_curDefault, s_dirty, s_snapCount, s_snapDefault, s_hasSnap, s_clCount, s_codeLen, s_rootPc, s_tableUsed, s_maskUsed, s_sp]
 rw [this, h]
theorem w_argC {c : CT} {s : CT} {f : FT} {p : PT} {k : KT} {d : DT} {m : MT} {b : BT} {o : Ob} (h : A o = (c, s, f, p, k, d, m, b)) (u : List Int32) : A (s_argC o u) = (c, s, f, p, k, (d.1, d.2.1, d.2.2.1, u, d.2.2.2.2), m, b) := by
 have : A (s_argC o u) = ((A o).1, (A o).2.1, (A o).2.2.1, (A o).2.2.2.1, (A o).2.2.2.2.1, ((A o).2.2.2.2.2.1.1, (A o).2.2.2.2.2.1.2.1, (A o).2.2.2.2.2.1.2.2.1, u, (A o).2.2.2.2.2.1.2.2.2.2), (A o).2.2.2.2.2.2) := by dsimp only [A, f_opRet, f_opLess, f_opEq, f_opTable, f_opBits, f_maxCap, f_maxTargets, f_maxSteps, f_tableSpanPerCase, f_maxTableSpan, f_maxBitSpan, f_maxBitTargets, f_unsignedMask, f_maxInt, f_curVal, f_curTgt, f_snapVal, f_snapTgt, f_bestCost, f_bestCut, f_clStart, f_clEnd, f_opc, f_argA, f_argB, f_argC, f_argD, f_tablePool, f_maskPool, f_maskTarget, f_stLo, f_stHi, f_stParent, f_stSlot, f_cap, f_targets, f_curCount, f_curDefault, f_dirty, f_snapCount, f_snapDefault, f_hasSnap, f_clCount, f_codeLen, f_rootPc, f_tableUsed, f_maskUsed, f_sp, s_opRet, s_opLess, s_opEq, s_opTable, s_opBits, s_maxCap, s_maxTargets, s_maxSteps, s_tableSpanPerCase, s_maxTableSpan, s_maxBitSpan, s_maxBitTargets, s_unsignedMask, s_maxInt, s_curVal, s_curTgt, s_snapVal, s_snapTgt, s_bestCost, s_bestCut, s_clStart, s_clEnd, s_opc, s_argA, s_argB, s_argC, s_argD, s_tablePool, s_maskPool, s_maskTarget, s_stLo, s_stHi, s_stParent, s_stSlot, s_cap, s_targets, s_curCount, s_curDefault, s_dirty, s_snapCount, s_snapDefault, s_hasSnap, s_clCount, s_codeLen, s_rootPc, s_tableUsed, s_maskUsed, s_sp]
 rw [this, h]
theorem w_root {c : CT} {s : CT} {f : FT} {p : PT} {k : KT} {d : DT} {m : MT} {b : BT} {o : Ob} (h : A o = (c, s, f, p, k, d, m, b)) (u : Int32) : A (s_rootPc o u) = (c, s, f, p, k, (d.1, d.2.1, d.2.2.1, d.2.2.2.1, d.2.2.2.2.1, d.2.2.2.2.2.1, u), m, b) := by
 have : A (s_rootPc o u) = ((A o).1, (A o).2.1, (A o).2.2.1, (A o).2.2.2.1, (A o).2.2.2.2.1, ((A o).2.2.2.2.2.1.1, (A o).2.2.2.2.2.1.2.1, (A o).2.2.2.2.2.1.2.2.1, (A o).2.2.2.2.2.1.2.2.2.1, (A o).2.2.2.2.2.1.2.2.2.2.1, (A o).2.2.2.2.2.1.2.2.2.2.2.1, u), (A o).2.2.2.2.2.2) := by dsimp only [A, f_opRet, f_opLess, f_opEq, f_opTable, f_opBits, f_maxCap, f_maxTargets, f_maxSteps, f_tableSpanPerCase, f_maxTableSpan, f_maxBitSpan, f_maxBitTargets, f_unsignedMask, f_maxInt, f_curVal, f_curTgt, f_snapVal, f_snapTgt, f_bestCost, f_bestCut, f_clStart, f_clEnd, f_opc, f_argA, f_argB, f_argC, f_argD, f_tablePool, f_maskPool, f_maskTarget, f_stLo, f_stHi, f_stParent, f_stSlot, f_cap, f_targets, f_curCount, f_curDefault, f_dirty, f_snapCount, f_snapDefault, f_hasSnap, f_clCount, f_codeLen, f_rootPc, f_tableUsed, f_maskUsed, f_sp, s_opRet, s_opLess, s_opEq, s_opTable, s_opBits, s_maxCap, s_maxTargets, s_maxSteps, s_tableSpanPerCase, s_maxTableSpan, s_maxBitSpan, s_maxBitTargets, s_unsignedMask, s_maxInt, s_curVal, s_curTgt, s_snapVal, s_snapTgt, s_bestCost, s_bestCut, s_clStart, s_clEnd, s_opc, s_argA, s_argB, s_argC, s_argD, s_tablePool, s_maskPool, s_maskTarget, s_stLo, s_stHi, s_stParent, s_stSlot, s_cap, s_targets, s_curCount, s_curDefault, s_dirty, s_snapCount, s_snapDefault, s_hasSnap, s_clCount, s_codeLen, s_rootPc, s_tableUsed, s_maskUsed, s_sp]
 rw [this, h]
theorem w_st {c : CT} {s : CT} {f : FT} {p : PT} {k : KT} {d : DT} {m : MT} {b : BT} {o : Ob} (h : A o = (c, s, f, p, k, d, m, b)) (u1 u2 u3 u4 : List Int32) (N : Int32) : A (s_sp (s_stSlot (s_stParent (s_stHi (s_stLo o u1) u2) u3) u4) N) = (c, s, f, p, k, d, m, (u1, u2, u3, u4, N)) := by
 have : A (s_sp (s_stSlot (s_stParent (s_stHi (s_stLo o u1) u2) u3) u4) N) = ((A o).1, (A o).2.1, (A o).2.2.1, (A o).2.2.2.1, (A o).2.2.2.2.1, (A o).2.2.2.2.2.1, (A o).2.2.2.2.2.2.1, (u1, u2, u3, u4, N)) := by dsimp only [A, f_opRet, f_opLess, f_opEq, f_opTable, f_opBits, f_maxCap, f_maxTargets, f_maxSteps, f_tableSpanPerCase, f_maxTableSpan, f_maxBitSpan, f_maxBitTargets, f_unsignedMask, f_maxInt, f_curVal, f_curTgt, f_snapVal, f_snapTgt, f_bestCost, f_bestCut, f_clStart, f_clEnd, f_opc, f_argA, f_argB, f_argC, f_argD, f_tablePool, f_maskPool, f_maskTarget, f_stLo, f_stHi, f_stParent, f_stSlot, f_cap, f_targets, f_curCount, f_curDefault, f_dirty, f_snapCount, f_snapDefault, f_hasSnap, f_clCount, f_codeLen, f_rootPc, f_tableUsed, f_maskUsed, f_sp, s_opRet, s_opLess, s_opEq, s_opTable, s_opBits, s_maxCap, s_maxTargets, s_maxSteps, s_tableSpanPerCase, s_maxTableSpan, s_maxBitSpan, s_maxBitTargets, s_unsignedMask, s_maxInt, s_curVal, s_curTgt, s_snapVal, s_snapTgt, s_bestCost, s_bestCut, s_clStart, s_clEnd, s_opc, s_argA, s_argB, s_argC, s_argD, s_tablePool, s_maskPool, s_maskTarget, s_stLo, s_stHi, s_stParent, s_stSlot, s_cap, s_targets, s_curCount, s_curDefault, s_dirty, s_snapCount, s_snapDefault, s_hasSnap, s_clCount, s_codeLen, s_rootPc, s_tableUsed, s_maskUsed, s_sp]
 rw [this, h]
theorem w_sp {c : CT} {s : CT} {f : FT} {p : PT} {k : KT} {d : DT} {m : MT} {b : BT} {o : Ob} (h : A o = (c, s, f, p, k, d, m, b)) (N : Int32) : A (s_sp o N) = (c, s, f, p, k, d, m, (b.1, b.2.1, b.2.2.1, b.2.2.2.1, N)) := by
 have : A (s_sp o N) = ((A o).1, (A o).2.1, (A o).2.2.1, (A o).2.2.2.1, (A o).2.2.2.2.1, (A o).2.2.2.2.2.1, (A o).2.2.2.2.2.2.1, ((A o).2.2.2.2.2.2.2.1, (A o).2.2.2.2.2.2.2.2.1, (A o).2.2.2.2.2.2.2.2.2.1, (A o).2.2.2.2.2.2.2.2.2.2.1, N)) := by dsimp only [A, f_opRet, f_opLess, f_opEq, f_opTable, f_opBits, f_maxCap, f_maxTargets, f_maxSteps, f_tableSpanPerCase, f_maxTableSpan, f_maxBitSpan, f_maxBitTargets, f_unsignedMask, f_maxInt, f_curVal, f_curTgt, f_snapVal, f_snapTgt, f_bestCost, f_bestCut, f_clStart, f_clEnd, f_opc, f_argA, f_argB, f_argC, f_argD, f_tablePool, f_maskPool, f_maskTarget, f_stLo, f_stHi, f_stParent, f_stSlot, f_cap, f_targets, f_curCount, f_curDefault, f_dirty, f_snapCount, f_snapDefault, f_hasSnap, f_clCount, f_codeLen, f_rootPc, f_tableUsed, f_maskUsed, f_sp, s_opRet, s_opLess, s_opEq, s_opTable, s_opBits, s_maxCap, s_maxTargets, s_maxSteps, s_tableSpanPerCase, s_maxTableSpan, s_maxBitSpan, s_maxBitTargets, s_unsignedMask, s_maxInt, s_curVal, s_curTgt, s_snapVal, s_snapTgt, s_bestCost, s_bestCut, s_clStart, s_clEnd, s_opc, s_argA, s_argB, s_argC, s_argD, s_tablePool, s_maskPool, s_maskTarget, s_stLo, s_stHi, s_stParent, s_stSlot, s_cap, s_targets, s_curCount, s_curDefault, s_dirty, s_snapCount, s_snapDefault, s_hasSnap, s_clCount, s_codeLen, s_rootPc, s_tableUsed, s_maskUsed, s_sp]
 rw [this, h]
theorem w_mask {c : CT} {s : CT} {f : FT} {p : PT} {k : KT} {d : DT} {m : MT} {b : BT} {o : Ob} (h : A o = (c, s, f, p, k, d, m, b)) (u : List Int64) : A (s_maskPool o u) = (c, s, f, p, k, d, (u, m.2), b) := by
 have : A (s_maskPool o u) = ((A o).1, (A o).2.1, (A o).2.2.1, (A o).2.2.2.1, (A o).2.2.2.2.1, (A o).2.2.2.2.2.1, (u, (A o).2.2.2.2.2.2.1.2), (A o).2.2.2.2.2.2.2) := by dsimp only [A, f_opRet, f_opLess, f_opEq, f_opTable, f_opBits, f_maxCap, f_maxTargets, f_maxSteps, f_tableSpanPerCase, f_maxTableSpan, f_maxBitSpan, f_maxBitTargets, f_unsignedMask, f_maxInt, f_curVal, f_curTgt, f_snapVal, f_snapTgt, f_bestCost, f_bestCut, f_clStart, f_clEnd, f_opc, f_argA, f_argB, f_argC, f_argD, f_tablePool, f_maskPool, f_maskTarget, f_stLo, f_stHi, f_stParent, f_stSlot, f_cap, f_targets, f_curCount, f_curDefault, f_dirty, f_snapCount, f_snapDefault, f_hasSnap, f_clCount, f_codeLen, f_rootPc, f_tableUsed, f_maskUsed, f_sp, s_opRet, s_opLess, s_opEq, s_opTable, s_opBits, s_maxCap, s_maxTargets, s_maxSteps, s_tableSpanPerCase, s_maxTableSpan, s_maxBitSpan, s_maxBitTargets, s_unsignedMask, s_maxInt, s_curVal, s_curTgt, s_snapVal, s_snapTgt, s_bestCost, s_bestCut, s_clStart, s_clEnd, s_opc, s_argA, s_argB, s_argC, s_argD, s_tablePool, s_maskPool, s_maskTarget, s_stLo, s_stHi, s_stParent, s_stSlot, s_cap, s_targets, s_curCount, s_curDefault, s_dirty, s_snapCount, s_snapDefault, s_hasSnap, s_clCount, s_codeLen, s_rootPc, s_tableUsed, s_maskUsed, s_sp]
 rw [this, h]
theorem w_mtgt {c : CT} {s : CT} {f : FT} {p : PT} {k : KT} {d : DT} {m : MT} {b : BT} {o : Ob} (h : A o = (c, s, f, p, k, d, m, b)) (u : List Int32) : A (s_maskTarget o u) = (c, s, f, p, k, d, (m.1, u, m.2.2), b) := by
 have : A (s_maskTarget o u) = ((A o).1, (A o).2.1, (A o).2.2.1, (A o).2.2.2.1, (A o).2.2.2.2.1, (A o).2.2.2.2.2.1, ((A o).2.2.2.2.2.2.1.1, u, (A o).2.2.2.2.2.2.1.2.2), (A o).2.2.2.2.2.2.2) := by dsimp only [A, f_opRet, f_opLess, f_opEq, f_opTable, f_opBits, f_maxCap, f_maxTargets, f_maxSteps, f_tableSpanPerCase, f_maxTableSpan, f_maxBitSpan, f_maxBitTargets, f_unsignedMask, f_maxInt, f_curVal, f_curTgt, f_snapVal, f_snapTgt, f_bestCost, f_bestCut, f_clStart, f_clEnd, f_opc, f_argA, f_argB, f_argC, f_argD, f_tablePool, f_maskPool, f_maskTarget, f_stLo, f_stHi, f_stParent, f_stSlot, f_cap, f_targets, f_curCount, f_curDefault, f_dirty, f_snapCount, f_snapDefault, f_hasSnap, f_clCount, f_codeLen, f_rootPc, f_tableUsed, f_maskUsed, f_sp, s_opRet, s_opLess, s_opEq, s_opTable, s_opBits, s_maxCap, s_maxTargets, s_maxSteps, s_tableSpanPerCase, s_maxTableSpan, s_maxBitSpan, s_maxBitTargets, s_unsignedMask, s_maxInt, s_curVal, s_curTgt, s_snapVal, s_snapTgt, s_bestCost, s_bestCut, s_clStart, s_clEnd, s_opc, s_argA, s_argB, s_argC, s_argD, s_tablePool, s_maskPool, s_maskTarget, s_stLo, s_stHi, s_stParent, s_stSlot, s_cap, s_targets, s_curCount, s_curDefault, s_dirty, s_snapCount, s_snapDefault, s_hasSnap, s_clCount, s_codeLen, s_rootPc, s_tableUsed, s_maskUsed, s_sp]
 rw [this, h]
theorem w_mu {c : CT} {s : CT} {f : FT} {p : PT} {k : KT} {d : DT} {m : MT} {b : BT} {o : Ob} (h : A o = (c, s, f, p, k, d, m, b)) (u : Int32) : A (s_maskUsed o u) = (c, s, f, p, k, d, (m.1, m.2.1, u), b) := by
 have : A (s_maskUsed o u) = ((A o).1, (A o).2.1, (A o).2.2.1, (A o).2.2.2.1, (A o).2.2.2.2.1, (A o).2.2.2.2.2.1, ((A o).2.2.2.2.2.2.1.1, (A o).2.2.2.2.2.2.1.2.1, u), (A o).2.2.2.2.2.2.2) := by dsimp only [A, f_opRet, f_opLess, f_opEq, f_opTable, f_opBits, f_maxCap, f_maxTargets, f_maxSteps, f_tableSpanPerCase, f_maxTableSpan, f_maxBitSpan, f_maxBitTargets, f_unsignedMask, f_maxInt, f_curVal, f_curTgt, f_snapVal, f_snapTgt, f_bestCost, f_bestCut, f_clStart, f_clEnd, f_opc, f_argA, f_argB, f_argC, f_argD, f_tablePool, f_maskPool, f_maskTarget, f_stLo, f_stHi, f_stParent, f_stSlot, f_cap, f_targets, f_curCount, f_curDefault, f_dirty, f_snapCount, f_snapDefault, f_hasSnap, f_clCount, f_codeLen, f_rootPc, f_tableUsed, f_maskUsed, f_sp, s_opRet, s_opLess, s_opEq, s_opTable, s_opBits, s_maxCap, s_maxTargets, s_maxSteps, s_tableSpanPerCase, s_maxTableSpan, s_maxBitSpan, s_maxBitTargets, s_unsignedMask, s_maxInt, s_curVal, s_curTgt, s_snapVal, s_snapTgt, s_bestCost, s_bestCut, s_clStart, s_clEnd, s_opc, s_argA, s_argB, s_argC, s_argD, s_tablePool, s_maskPool, s_maskTarget, s_stLo, s_stHi, s_stParent, s_stSlot, s_cap, s_targets, s_curCount, s_curDefault, s_dirty, s_snapCount, s_snapDefault, s_hasSnap, s_clCount, s_codeLen, s_rootPc, s_tableUsed, s_maskUsed, s_sp]
 rw [this, h]
theorem w_cln {c : CT} {s : CT} {f : FT} {p : PT} {k : KT} {d : DT} {m : MT} {b : BT} {o : Ob} (h : A o = (c, s, f, p, k, d, m, b)) : A (s_sp (s_maskUsed (s_tableUsed (s_codeLen o 0) 0) 0) 0) = (c, s, (f.1, f.2.1, f.2.2.1, 0), p, k, (d.1, d.2.1, d.2.2.1, d.2.2.2.1, d.2.2.2.2.1, 0, d.2.2.2.2.2.2), (m.1, m.2.1, 0), (b.1, b.2.1, b.2.2.1, b.2.2.2.1, 0)) := by
 have : A (s_sp (s_maskUsed (s_tableUsed (s_codeLen o 0) 0) 0) 0) = ((A o).1, (A o).2.1, ((A o).2.2.1.1, (A o).2.2.1.2.1, (A o).2.2.1.2.2.1, 0), (A o).2.2.2.1, (A o).2.2.2.2.1, ((A o).2.2.2.2.2.1.1, (A o).2.2.2.2.2.1.2.1, (A o).2.2.2.2.2.1.2.2.1, (A o).2.2.2.2.2.1.2.2.2.1, (A o).2.2.2.2.2.1.2.2.2.2.1, 0, (A o).2.2.2.2.2.1.2.2.2.2.2.2), ((A o).2.2.2.2.2.2.1.1, (A o).2.2.2.2.2.2.1.2.1, 0), ((A o).2.2.2.2.2.2.2.1, (A o).2.2.2.2.2.2.2.2.1, (A o).2.2.2.2.2.2.2.2.2.1, (A o).2.2.2.2.2.2.2.2.2.2.1, 0)) := by dsimp only [A, f_opRet, f_opLess, f_opEq, f_opTable, f_opBits, f_maxCap, f_maxTargets, f_maxSteps, f_tableSpanPerCase, f_maxTableSpan, f_maxBitSpan, f_maxBitTargets, f_unsignedMask, f_maxInt, f_curVal, f_curTgt, f_snapVal, f_snapTgt, f_bestCost, f_bestCut, f_clStart, f_clEnd, f_opc, f_argA, f_argB, f_argC, f_argD, f_tablePool, f_maskPool, f_maskTarget, f_stLo, f_stHi, f_stParent, f_stSlot, f_cap, f_targets, f_curCount, f_curDefault, f_dirty, f_snapCount, f_snapDefault, f_hasSnap, f_clCount, f_codeLen, f_rootPc, f_tableUsed, f_maskUsed, f_sp, s_opRet, s_opLess, s_opEq, s_opTable, s_opBits, s_maxCap, s_maxTargets, s_maxSteps, s_tableSpanPerCase, s_maxTableSpan, s_maxBitSpan, s_maxBitTargets, s_unsignedMask, s_maxInt, s_curVal, s_curTgt, s_snapVal, s_snapTgt, s_bestCost, s_bestCut, s_clStart, s_clEnd, s_opc, s_argA, s_argB, s_argC, s_argD, s_tablePool, s_maskPool, s_maskTarget, s_stLo, s_stHi, s_stParent, s_stSlot, s_cap, s_targets, s_curCount, s_curDefault, s_dirty, s_snapCount, s_snapDefault, s_hasSnap, s_clCount, s_codeLen, s_rootPc, s_tableUsed, s_maskUsed, s_sp]
 rw [this, h]
theorem emit_m {c : CT} {s : CT} {f : FT} {p : PT} {k : KT} {d : DT} {m : MT} {b : BT} {o : Ob} (h : A o = (c, s, f, p, k, d, m, b)) (D : LD d) {L : Nat} (hL : d.2.2.2.2.2.1.toInt = (L : Nat)) (l160 : L < 160) {op a1 a2 a3 a4 : Int32} (o8 : (op.toInt8.toInt32).toInt8.toInt32 = op) : ∃ q N, F9 o op a1 a2 a3 a4 = some (d.2.2.2.2.2.1, q) ∧ N.toInt = ((L + 1 : Nat) : Int) ∧ A q = (c, s, f, p, k, (d.1.set L op, d.2.1.set L a1, d.2.2.1.set L a2, d.2.2.2.1.set L a3, d.2.2.2.2.1.set L a4, N, d.2.2.2.2.2.2), m, b) := by
 have z0 : (0 : Int32).toInt = 0 := rfl
 obtain ⟨d1, d2, d3, d4, d5⟩ := D
 have lo : ((f_opc o).length.toInt32).toInt = 160 := by rw [g_opc h, d1]; rfl
 have e1 : (d.2.2.2.2.2.1 + 1).toInt = d.2.2.2.2.2.1.toInt + 1 := inc1 (by omega)
 unfold F9
 rw [g_codeLen h, if_neg (by rw [i_lt, z0]; omega), if_pos (by rw [i_lt, lo]; omega), g_opc h, g_argA h, g_argB h, g_argC h, g_argD h, o8, aset_at hL (by omega), Option.bind_some, aset_at hL (by omega), Option.bind_some, aset_at hL (by omega), Option.bind_some, aset_at hL (by omega), Option.bind_some, aset_at hL (by omega), Option.bind_some]
 exact ⟨_, _, rfl, by omega, w_code h _ _ _ _ _ _⟩
def LS (b : BT) : Prop := b.1.length = 130 ∧ b.2.1.length = 130 ∧ b.2.2.1.length = 130 ∧ b.2.2.2.1.length = 130
theorem push_m {c : CT} {s : CT} {f : FT} {p : PT} {k : KT} {d : DT} {m : MT} {b : BT} {o : Ob} (h : A o = (c, s, f, p, k, d, m, b)) (B : LS b) {P : Nat} (hP : b.2.2.2.2.toInt = (P : Nat)) (l130 : P < 130) (a1 a2 a3 a4 : Int32) : ∃ q N, F24 o a1 a2 a3 a4 = some q ∧ N.toInt = ((P + 1 : Nat) : Int) ∧ A q = (c, s, f, p, k, d, m, (b.1.set P a1, b.2.1.set P a2, b.2.2.1.set P a3, b.2.2.2.1.set P a4, N)) := by
 have z0 : (0 : Int32).toInt = 0 := rfl
 obtain ⟨d1, d2, d3, d4⟩ := B
 have lo : ((f_stLo o).length.toInt32).toInt = 130 := by rw [g_stLo h, d1]; rfl
 have e1 : (b.2.2.2.2 + 1).toInt = b.2.2.2.2.toInt + 1 := inc1 (by omega)
 unfold F24
 rw [g_sp h, if_neg (by rw [i_lt, z0]; omega), if_pos (by rw [i_lt, lo]; omega), g_stLo h, g_stHi h, g_stParent h, g_stSlot h, aset_at hP (by omega), Option.bind_some, aset_at hP (by omega), Option.bind_some, aset_at hP (by omega), Option.bind_some, aset_at hP (by omega), Option.bind_some]
 exact ⟨_, _, rfl, by omega, w_st h _ _ _ _ _⟩
theorem patch_m {c : CT} {s : CT} {f : FT} {p : PT} {k : KT} {d : DT} {m : MT} {b : BT} {o : Ob} (h : A o = (c, s, f, p, k, d, m, b)) (D : LD d) {L : Nat} (hL : d.2.2.2.2.2.1.toInt = (L : Nat)) (l160 : L ≤ 160) {x y z : Int32} : ∃ q, F29 o x y z = some q ∧ ((x.toInt < 0 → A q = (c, s, f, p, k, (d.1, d.2.1, d.2.2.1, d.2.2.2.1, d.2.2.2.2.1, d.2.2.2.2.2.1, z), m, b)) ∧ ∀ j : Nat, x.toInt = j → j < L → (y = 0 → A q = (c, s, f, p, k, (d.1, d.2.1, d.2.2.1.set j z, d.2.2.2), m, b)) ∧ (y ≠ 0 → A q = (c, s, f, p, k, (d.1, d.2.1, d.2.2.1, d.2.2.2.1.set j z, d.2.2.2.2), m, b))) := by
 have z0 : (0 : Int32).toInt = 0 := rfl
 obtain ⟨d1, d2, d3, d4, d5⟩ := D
 unfold F29 J29_12
 by_cases x0 : x < 0
 ·rw [if_pos x0]
  rw [i_lt, z0] at x0
  exact ⟨_, rfl, fun _ => w_root h z, fun j hj _ => by omega⟩
 rw [if_neg x0]
 rw [i_lt, z0] at x0
 rw [g_codeLen h]
 by_cases x1 : x < d.2.2.2.2.2.1
 ·rw [if_pos x1]
  rw [i_lt] at x1
  obtain ⟨j, hj⟩ : ∃ j : Nat, x.toInt = j := ⟨x.toInt.toNat, by omega⟩
  by_cases y0 : y = 0
  ·rw [if_pos y0, g_argB h, aset_at hj (by omega), Option.bind_some]
   refine ⟨_, rfl, fun w => absurd w (by omega), fun j' hj' _ => ⟨fun _ => ?_, fun w => absurd y0 w⟩⟩
   have : j' = j := by omega
   subst this
   exact w_argB h _
  ·rw [if_neg y0, g_argC h, aset_at hj (by omega), Option.bind_some]
   refine ⟨_, rfl, fun w => absurd w (by omega), fun j' hj' _ => ⟨fun w => absurd w y0, fun _ => ?_⟩⟩
   have : j' = j := by omega
   subst this
   exact w_argC h _
 ·rw [if_neg x1]
  rw [i_lt] at x1
  exact ⟨_, rfl, fun w => absurd w (by omega), fun j' hj' w => by omega⟩
def pc4 (x : Int32) : Int32 := (x &&& (1 : Int32)) + ((x >>> (1 : Int32)) &&& (1 : Int32)) + ((x >>> (2 : Int32)) &&& (1 : Int32)) + ((x >>> (3 : Int32)) &&& (1 : Int32))
theorem d4a : ∀ (d t : Fin 4) (z : Fin 16), ¬ (Int32.ofInt t.1 = Int32.ofInt d.1) → (Int32.ofInt z.1 &&& ((1 : Int32) <<< (Int32.ofInt d.1 &&& 31))) = 0 → (Int32.ofInt z.1 &&& ((1 : Int32) <<< (Int32.ofInt t.1 &&& 31))) = 0 → (0 ≤ (Int32.ofInt z.1 ||| ((1 : Int32) <<< (Int32.ofInt t.1 &&& 31))).toInt ∧ (Int32.ofInt z.1 ||| ((1 : Int32) <<< (Int32.ofInt t.1 &&& 31))).toInt < 16) ∧ ((Int32.ofInt z.1 ||| ((1 : Int32) <<< (Int32.ofInt t.1 &&& 31))) &&& ((1 : Int32) <<< (Int32.ofInt d.1 &&& 31))) = 0 ∧ pc4 (Int32.ofInt z.1 ||| ((1 : Int32) <<< (Int32.ofInt t.1 &&& 31))) = pc4 (Int32.ofInt z.1) + 1 := by decide +kernel
theorem d4b : ∀ (d : Fin 4) (z : Fin 16), (Int32.ofInt z.1 &&& ((1 : Int32) <<< (Int32.ofInt d.1 &&& 31))) = 0 → (pc4 (Int32.ofInt z.1)).toInt ≤ 3 := by decide +kernel
def Few (T : Int) (n : Nat) : Prop := (T ≤ 4 ∨ n ≤ 3) ∧ T ≤ 16
theorem dist_ok {c : CT} {s : CT} {f : FT} {p : PT} {k : KT} {d : DT} {m : MT} {b : BT} {o : Ob} (h : A o = (c, s, f, p, k, d, m, b)) {T : Int} {n a e : Nat} (S : Sw T n s) (F : Few T n) (ae : a ≤ e) (en : e < n) {x y : Int32} (hx : x.toInt = a) (hy : y.toInt = e) : okP (F26 o x y) (fun r => r.toInt ≤ 3) := by
 have n64 := S.2.2.1
 have dd0 := S.2.2.2.2.2.2.1
 have dd1 := S.2.2.2.2.2.2.2
 unfold F26
 apply okP.bind
 refine okP.mono (P := fun r : Int32 => r.toInt ≤ 3) ?_ (fun r hr => okP.some hr)
 refine okP.loop (fun w : Int32 × Int32 × Int32 => ∃ i : Nat, w.2.2.toInt = (i : Int) ∧ a ≤ i ∧ i ≤ n ∧ (T ≤ 4 → (0 ≤ w.1.toInt ∧ w.1.toInt < 16) ∧ (w.1 &&& ((1 : Int32) <<< (df s &&& 31))) = 0 ∧ w.2.1 = pc4 w.1) ∧ (n ≤ 3 → 0 ≤ w.2.1.toInt ∧ w.2.1.toInt ≤ i - a)) (fun w => (100 - w.2.2.toInt).toNat) ⟨a, hx, Nat.le_refl _, by omega, fun _ => ⟨by show (0 : Int) ≤ 0 ∧ (0 : Int) < 16; decide, Int32.zero_and, by show (0 : Int32) = pc4 0; decide⟩, fun _ => by show (0 : Int) ≤ 0 ∧ (0 : Int) ≤ _; omega⟩ (by show (100 - x.toInt).toNat < 4000; omega) ?_
 rintro ⟨se, di, z⟩ ⟨i, hi, ai, iN, H4, H3⟩
 simp only at hi H4 H3
 have fin : di.toInt ≤ 3 := by
  rcases F.1 with w | w
  ·obtain ⟨⟨s0, s1⟩, s2, s3⟩ := H4 w
   obtain ⟨dn, hd⟩ : ∃ dn : Nat, (df s).toInt = dn := ⟨(df s).toInt.toNat, by have : 0 ≤ (df s).toInt := dd0; omega⟩
   obtain ⟨sn, hs⟩ : ∃ sn : Nat, se.toInt = sn := ⟨se.toInt.toNat, by omega⟩
   have dl : (df s).toInt < T := dd1
   have := d4b ⟨dn, by omega⟩ ⟨sn, by omega⟩
   rw [ofI hd, ofI hs] at s2
   rw [s3, ofI hs]
   exact this s2
  ·have := H3 w; omega
 unfold B26_8
 simp only
 refine okP.ite (fun _ => okP.some fin) (fun c1 => ?_)
 rw [g_snapCount h]
 refine okP.ite (fun c2 => ?_) (fun _ => okP.some fin)
 rw [i_lt, S.2.2.2.1] at c2
 have ez : (z + 1).toInt = z.toInt + 1 := inc1 (by omega)
 rw [g_snapTgt h, S.a_t (by omega) hi, Option.bind_some, g_snapDefault h]
 have ti := S.2.2.2.2.2.1 i (by omega)
 refine okP.some ⟨⟨i + 1, by simp only; omega, by omega, by omega, fun w => ?_, fun w => ?_⟩, by simp only; omega⟩
 ·simp only
  obtain ⟨⟨s0, s1⟩, s2, s3⟩ := H4 w
  by_cases e1 : tt' s i = s.2.2.2.1
  ·rw [if_pos e1, if_pos e1]; exact ⟨⟨s0, s1⟩, s2, s3⟩
  ·rw [if_neg e1, if_neg e1]
   by_cases e2 : (se &&& ((1 : Int32) <<< (tt' s i &&& 31))) = 0
   ·rw [if_pos e2, if_pos e2]
    obtain ⟨dn, hd⟩ : ∃ dn : Nat, (df s).toInt = dn := ⟨(df s).toInt.toNat, by have : 0 ≤ (df s).toInt := dd0; omega⟩
    obtain ⟨sn, hs⟩ : ∃ sn : Nat, se.toInt = sn := ⟨se.toInt.toNat, by omega⟩
    obtain ⟨tn, ht⟩ : ∃ tn : Nat, (tt' s i).toInt = tn := ⟨(tt' s i).toInt.toNat, by omega⟩
    have dl : (df s).toInt < T := dd1
    have := d4a ⟨dn, by omega⟩ ⟨tn, by omega⟩ ⟨sn, by omega⟩
    have e1' : ¬ tt' s i = df s := e1
    rw [s3]
    rw [ofI hd, ofI ht] at e1'
    rw [ofI hd, ofI hs] at s2
    rw [ofI ht, ofI hs] at e2
    rw [ofI hd, ofI ht, ofI hs]
    obtain ⟨r1, r2, r3⟩ := this e1' s2 e2
    exact ⟨r1, r2, r3.symm⟩
   ·rw [if_neg e2, if_neg e2]; exact ⟨⟨s0, s1⟩, s2, s3⟩
 ·simp only
  have := H3 w
  have ed : (di + 1).toInt = di.toInt + 1 := inc1 (by omega)
  by_cases e1 : tt' s i = s.2.2.2.1
  ·rw [if_pos e1]; omega
  ·rw [if_neg e1]
   split
   ·omega
   ·omega
theorem find_ok {c : CT} {s : CT} {f : FT} {p : PT} {k : KT} {d : DT} {m : MT} {b : BT} {o : Ob} (h : A o = (c, s, f, p, k, d, m, b)) (M : LM m) {base used : Nat} (bu : base + used ≤ 190) {x y t : Int32} (hx : x.toInt = base) (hy : y.toInt = used) : okP (F28 o x y t) (fun r => (r = -1 ∧ ∀ j, j < used → at' m.2.1 (base + j) ≠ t) ∨ ∃ j, j < used ∧ at' m.2.1 (base + j) = t ∧ r.toInt = ((base + j : Nat) : Int)) := by
 have z0 : (0 : Int32).toInt = 0 := rfl
 have l2 := M.2.1
 have lo : ((f_maskTarget o).length.toInt32).toInt = 192 := by rw [g_maskTarget h, l2]; rfl
 unfold F28
 apply okP.bind
 refine okP.mono (P := fun r => (r = -1 ∧ ∀ j, j < used → at' m.2.1 (base + j) ≠ t) ∨ ∃ j, j < used ∧ at' m.2.1 (base + j) = t ∧ r.toInt = ((base + j : Nat) : Int)) ?_ (fun r hr => okP.some hr)
 refine okP.loop (fun w : Int32 => ∃ j : Nat, w.toInt = (j : Int) ∧ j ≤ used ∧ ∀ j', j' < j → at' m.2.1 (base + j') ≠ t) (fun w => (200 - w.toInt).toNat) ⟨0, rfl, by omega, fun j hj => absurd hj (by omega)⟩ (by show (200 - (0 : Int)).toNat < 4000; decide) ?_
 rintro w ⟨j, hj, ju, hm⟩
 unfold B28_3
 have ew : (w + 1).toInt = w.toInt + 1 := inc1 (by omega)
 have ebw : (x + w).toInt = x.toInt + w.toInt := i_add (by omega) (by omega)
 refine okP.ite (fun c2 => ?_) (fun c2 => ?_)
 ·rw [i_lt] at c2
  rw [if_neg (by rw [i_lt, z0]; omega), if_pos (by rw [i_lt, lo]; omega), g_maskTarget h, ag (a := base + j) (by omega) (by omega), Option.bind_some]
  refine okP.ite (fun e => ?_) (fun e => ?_)
  ·exact okP.some (Or.inr ⟨j, by omega, e, by omega⟩)
  ·unfold J28_44
   refine okP.some ⟨⟨j + 1, by omega, by omega, fun j' hj' => ?_⟩, by omega⟩
   by_cases z : j' = j
   ·rw [z]; exact e
   ·exact hm j' (by omega)
 ·rw [i_lt] at c2
  exact okP.some (Or.inl ⟨rfl, fun j' hj' => hm j' (by omega)⟩)
theorem bits_e {c : CT} {s : CT} {f : FT} {p : PT} {k : KT} {d : DT} {m : MT} {b : BT} {o : Ob} (h : A o = (c, s, f, p, k, d, m, b)) {T : Int} {n a e : Nat} (S : Sw T n s) (F : Few T n) (ae : a < e) (en : e < n) (h64 : vv s e - vv s a + 1 ≤ 64) (D : LD d) (M : LM m) {L base : Nat} (hL : d.2.2.2.2.2.1.toInt = (L : Nat)) (l160 : L < 160) (hb : m.2.2.toInt = (base : Nat)) (b150 : base ≤ 150) {x y z : Int32} (hx : x.toInt = a) (hy : y.toInt = e) (hz : z.toInt = vv s e - vv s a + 1) : okP (F27 o x y z) (fun w => w.1 = d.2.2.2.2.2.1 ∧ ∃ (m' : MT) (used : Nat) (x1 x2 x3 N : Int32), N.toInt = ((L + 1 : Nat) : Int) ∧ A w.2 = (c, s, f, p, k, (d.1.set L 4, d.2.1.set L x1, d.2.2.1.set L x2, d.2.2.2.1.set L x3, d.2.2.2.2.1.set L z, N, d.2.2.2.2.2.2), m', b) ∧ x1.toInt = vv s a ∧ x2.toInt = (base : Nat) ∧ x3.toInt = (used : Nat) ∧ used ≤ 3 ∧ LM m' ∧ m'.2.2.toInt = ((base + used : Nat) : Int) ∧ Msk s m' a (e + 1) base used ∧ ∀ j, j < base → am m'.1 j = am m.1 j ∧ at' m'.2.1 j = at' m.2.1 j) := by
 have z0 : (0 : Int32).toInt = 0 := rfl
 have z3 : (3 : Int32).toInt = 3 := rfl
 have n64 := S.2.2.1
 have dd0 : 0 ≤ (df s).toInt := S.2.2.2.2.2.2.1
 have dd1 : (df s).toInt < T := S.2.2.2.2.2.2.2
 unfold F27
 rw [g_snapVal h, S.a_v (by omega) hx, Option.bind_some, g_maskUsed h]
 apply okP.bind
 refine okP.mono (P := fun w : Int32 × Ob => ∃ (m' : MT) (used : Nat), w.1.toInt = (used : Nat) ∧ used ≤ 3 ∧ A w.2 = (c, s, f, p, k, d, m', b) ∧ LM m' ∧ Msk s m' a (e + 1) base used ∧ ∀ j, j < base → am m'.1 j = am m.1 j ∧ at' m'.2.1 j = at' m.2.1 j) ?_ ?_
 ·refine okP.loop (fun w : Int32 × Int32 × Ob => ∃ (i used : Nat) (m' : MT), w.2.1.toInt = (i : Int) ∧ a ≤ i ∧ i ≤ e + 1 ∧ w.1.toInt = (used : Nat) ∧ used ≤ 3 ∧ used ≤ i - a ∧ A w.2.2 = (c, s, f, p, k, d, m', b) ∧ LM m' ∧ m'.2.2 = m.2.2 ∧ Msk s m' a i base used ∧ ∀ j, j < base → am m'.1 j = am m.1 j ∧ at' m'.2.1 j = at' m.2.1 j) (fun w => (100 - w.2.1.toInt).toNat) ⟨a, 0, m, hx, Nat.le_refl _, by omega, rfl, by omega, by omega, h, M, rfl, ⟨fun j hj => absurd hj (by omega), fun i h1 h2 => absurd h2 (by omega), fun j hj => absurd hj (by omega), fun j j' hj => absurd hj (by omega)⟩, fun _ _ => ⟨rfl, rfl⟩⟩ (by show (100 - x.toInt).toNat < 4000; omega) ?_
  rintro ⟨uw, iw, q⟩ ⟨i, used, m', hi, ai, ie, hu, u3, ui, hq, M', mu, K, old⟩
  simp only at hi hu hq
  unfold B27_20
  simp only
  rw [g_snapCount hq]
  refine okP.ite (fun c1 => ?_) (fun c1 => ?_)
  ·rw [i_lt] at c1
   have : i = e + 1 := by omega
   subst this
   exact okP.some ⟨m', used, hu, u3, hq, M', K, old⟩
  rw [i_lt] at c1
  rw [if_pos (by rw [i_lt, S.2.2.2.1]; omega)]
  have ei : (iw + 1).toInt = iw.toInt + 1 := inc1 (by omega)
  have ti := S.2.2.2.2.2.1 i (by omega)
  rw [g_snapTgt hq, S.a_t (by omega) hi, Option.bind_some, g_snapDefault hq]
  obtain ⟨K1, K2, K3, K4⟩ := id K
  have done : ∀ (q' : Ob) (m2 : MT) (u2 : Nat) (uw2 : Int32), uw2.toInt = (u2 : Nat) → u2 ≤ 3 → u2 ≤ i + 1 - a → A q' = (c, s, f, p, k, d, m2, b) → LM m2 → m2.2.2 = m.2.2 → Msk s m2 a (i + 1) base u2 → (∀ j, j < base → am m2.1 j = am m.1 j ∧ at' m2.2.1 j = at' m.2.1 j) → okP (J27_151 q' y z (at' s.1 a) m.2.2 uw2 iw) (fun r' => Sum.elim (fun w : Int32 × Ob => ∃ (m' : MT) (used : Nat), w.1.toInt = (used : Nat) ∧ used ≤ 3 ∧ A w.2 = (c, s, f, p, k, d, m', b) ∧ LM m' ∧ Msk s m' a (e + 1) base used ∧ ∀ j, j < base → am m'.1 j = am m.1 j ∧ at' m'.2.1 j = at' m.2.1 j) (fun w : Int32 × Int32 × Ob => (∃ (i used : Nat) (m' : MT), w.2.1.toInt = (i : Int) ∧ a ≤ i ∧ i ≤ e + 1 ∧ w.1.toInt = (used : Nat) ∧ used ≤ 3 ∧ used ≤ i - a ∧ A w.2.2 = (c, s, f, p, k, d, m', b) ∧ LM m' ∧ m'.2.2 = m.2.2 ∧ Msk s m' a i base used ∧ ∀ j, j < base → am m'.1 j = am m.1 j ∧ at' m'.2.1 j = at' m.2.1 j) ∧ (100 - w.2.1.toInt).toNat < (100 - iw.toInt).toNat) r') := by
   intro q' m2 u2 uw2 k1 k2 k3 k4 k5 k6 k7 k8
   unfold J27_151
   exact okP.some ⟨⟨i + 1, u2, m2, by simp only; omega, by omega, by omega, k1, k2, k3, k4, k5, k6, k7, k8⟩, by simp only; omega⟩
  refine okP.ite (fun td => ?_) (fun td => ?_)
  ·-- the default's own: no mask
   refine done q m' used uw hu u3 (by omega) hq M' mu ⟨fun j hj n hn => ?_, fun i' h1 h2 h3 => ?_, fun j hj => ?_, K4⟩ old
   ·rw [K1 j hj n hn]
    constructor
    ·rintro ⟨i', a1, a2, a3⟩; exact ⟨i', a1, by omega, a3⟩
    ·rintro ⟨i', a1, a2, a3, a4⟩
     refine ⟨i', a1, ?_, a3, a4⟩
     by_cases w : i' = i
     ·subst w; exact absurd td a3
     ·omega
   ·by_cases w : i' = i
    ·subst w; exact absurd td h3
    ·exact K2 i' h1 (by omega) h3
   ·obtain ⟨i', a1, a2, a3⟩ := K3 j hj
    exact ⟨i', a1, by omega, a3⟩
  have td' : tt' s i ≠ df s := td
  have vmono : vv s a ≤ vv s i := by
   rcases Nat.eq_or_lt_of_le ai with w | w
   ·rw [w]; omega
   ·have := S.2.2.2.2.1 a i w (by omega); omega
  have vtop : vv s i ≤ vv s e := by
   by_cases w : i = e
   ·rw [w]; omega
   ·have := S.2.2.2.2.1 i e (by omega) (by omega); omega
  have put : ∀ (q' : Ob) (m2 : MT) (u2 j0 : Nat) (uw2 sw : Int32), uw2.toInt = (u2 : Nat) → u2 ≤ 3 → u2 ≤ i + 1 - a → A q' = (c, s, f, p, k, d, m2, b) → LM m2 → m2.2.2 = m.2.2 → j0 < u2 → sw.toInt = ((base + j0 : Nat) : Int) → at' m2.2.1 (base + j0) = tt' s i → (∀ j, j < u2 → ∀ n, n < 64 → (bt6 (am m2.1 (base + j)) n = true ↔ ∃ i', a ≤ i' ∧ i' < i ∧ tt' s i' ≠ df s ∧ tt' s i' = at' m2.2.1 (base + j) ∧ vv s i' = vv s a + n)) → (∀ i', a ≤ i' → i' < i → tt' s i' ≠ df s → ∃ j, j < u2 ∧ at' m2.2.1 (base + j) = tt' s i') → (∀ j, j < u2 → ∃ i', a ≤ i' ∧ i' < i + 1 ∧ at' m2.2.1 (base + j) = tt' s i' ∧ tt' s i' ≠ df s) → (∀ j j', j < u2 → j' < u2 → at' m2.2.1 (base + j) = at' m2.2.1 (base + j') → j = j') → (∀ j, j < base → am m2.1 j = am m.1 j ∧ at' m2.2.1 j = at' m.2.1 j) → okP (J27_120 q' y z (at' s.1 a) m.2.2 uw2 iw sw) (fun r' => Sum.elim (fun w : Int32 × Ob => ∃ (m' : MT) (used : Nat), w.1.toInt = (used : Nat) ∧ used ≤ 3 ∧ A w.2 = (c, s, f, p, k, d, m', b) ∧ LM m' ∧ Msk s m' a (e + 1) base used ∧ ∀ j, j < base → am m'.1 j = am m.1 j ∧ at' m'.2.1 j = at' m.2.1 j) (fun w : Int32 × Int32 × Ob => (∃ (i used : Nat) (m' : MT), w.2.1.toInt = (i : Int) ∧ a ≤ i ∧ i ≤ e + 1 ∧ w.1.toInt = (used : Nat) ∧ used ≤ 3 ∧ used ≤ i - a ∧ A w.2.2 = (c, s, f, p, k, d, m', b) ∧ LM m' ∧ m'.2.2 = m.2.2 ∧ Msk s m' a i base used ∧ ∀ j, j < base → am m'.1 j = am m.1 j ∧ at' m'.2.1 j = at' m.2.1 j) ∧ (100 - w.2.1.toInt).toNat < (100 - iw.toInt).toNat) r') := by
   intro q' m2 u2 j0 uw2 sw k1 k2 k3 hq' LM2 mu2 j0u hsw tg P1 P2 P3 P4 old2
   obtain ⟨lp, lt, _⟩ := id LM2
   unfold J27_120
   have ev : (at' s.1 i - at' s.1 a).toInt = vv s i - vv s a := i_sub (by show -2147483648 ≤ vv s i - vv s a; omega) (by show vv s i - vv s a < 2147483648; omega)
   obtain ⟨bn, hbn⟩ : ∃ bn : Nat, (at' s.1 i - at' s.1 a).toInt = bn := ⟨(vv s i - vv s a).toNat, by omega⟩
   have b64 : bn < 64 := by omega
   rw [if_neg (by rw [i_lt, z0]; omega), g_snapVal hq', S.a_v (by omega) hi, Option.bind_some, g_maskPool hq', agm hsw (by omega), Option.bind_some, aset_at hsw (by omega), Option.bind_some]
   have hw := w_mask hq' (m2.1.set (base + j0) (am m2.1 (base + j0) ||| ((1 : Int64) <<< ((at' s.1 i - at' s.1 a).toInt64 &&& 63))))
   refine done _ _ u2 uw2 k1 k2 k3 hw ⟨ls lp, lt, LM2.2.2⟩ mu2 ⟨fun j hj n hn => ?_, fun i' h1 h2 h3 => ?_, P3, P4⟩ (fun j hj => ?_)
   ·simp only
    rw [am_set (by omega)]
    by_cases w : j = j0
    ·subst w
     rw [if_pos rfl, bt6_or, bt6_one hbn b64 hn, Bool.or_eq_true, P1 j hj n hn, decide_eq_true_eq]
     constructor
     ·rintro (⟨i', a1, a2, a3, a4, a5⟩ | w)
      ·exact ⟨i', a1, by omega, a3, a4, a5⟩
      ·exact ⟨i, ai, by omega, td', tg.symm, by omega⟩
     ·rintro ⟨i', a1, a2, a3, a4, a5⟩
      by_cases w : i' = i
      ·subst w; right; omega
      ·exact Or.inl ⟨i', a1, by omega, a3, a4, a5⟩
    ·rw [if_neg (by omega), P1 j hj n hn]
     constructor
     ·rintro ⟨i', a1, a2, a3⟩; exact ⟨i', a1, by omega, a3⟩
     ·rintro ⟨i', a1, a2, a3, a4, a5⟩
      refine ⟨i', a1, ?_, a3, a4, a5⟩
      by_cases w' : i' = i
      ·subst w'
       exact absurd (P4 j j0 hj j0u (by rw [← a4, tg])) w
      ·omega
   ·by_cases w : i' = i
    ·subst w; exact ⟨j0, j0u, tg⟩
    ·exact P2 i' h1 (by omega) h3
   ·simp only
    rw [am_set (by omega), if_neg (by omega)]
    exact old2 j hj
  have hbase : m.2.2.toInt = (base : Nat) := hb
  apply okP.bind
  refine okP.mono (find_ok hq M' (base := base) (used := used) (by omega) hbase hu) ?_
  rintro r (⟨r1, nf⟩ | ⟨j0, j1, j2, j3⟩)
  ·-- a new target
   have u2 : used ≤ 2 := by
    rcases F.1 with w | w
    ·have := pig 4 (used + 2) (fun x => if x = used then (tt' s i).toInt.toNat else if x = used + 1 then (df s).toInt.toNat else (at' m'.2.1 (base + x)).toInt.toNat) (fun x hx => ?_) (fun x x' hx hx' e' => ?_)
     ·omega
     ·show (if x = used then (tt' s i).toInt.toNat else if x = used + 1 then (df s).toInt.toNat else (at' m'.2.1 (base + x)).toInt.toNat) < 4
      split
      ·omega
      ·split
       ·omega
       ·obtain ⟨i', a1, a2, a3, _⟩ := K3 x (by omega)
        have := S.2.2.2.2.2.1 i' (by omega)
        rw [a3]; omega
     ·have e' : (if x = used then (tt' s i).toInt.toNat else if x = used + 1 then (df s).toInt.toNat else (at' m'.2.1 (base + x)).toInt.toNat) = (if x' = used then (tt' s i).toInt.toNat else if x' = used + 1 then (df s).toInt.toNat else (at' m'.2.1 (base + x')).toInt.toNat) := e'
      have nn : ∀ x, x < used → 0 ≤ (at' m'.2.1 (base + x)).toInt ∧ (at' m'.2.1 (base + x)).toInt ≠ (df s).toInt ∧ (at' m'.2.1 (base + x)).toInt ≠ (tt' s i).toInt := by
       intro x hx
       obtain ⟨i', a1, a2, a3, a4⟩ := K3 x hx
       have := S.2.2.2.2.2.1 i' (by omega)
       refine ⟨by rw [a3]; omega, fun z => a4 (by rw [← a3]; exact i_eq.2 z), fun z => nf x hx (i_eq.2 z)⟩
      have tdn : (tt' s i).toInt ≠ (df s).toInt := fun z => td' (i_eq.2 z)
      by_cases c1 : x = used
      ·rw [if_pos c1] at e'
       by_cases c2 : x' = used
       ·omega
       ·rw [if_neg c2] at e'
        by_cases c3 : x' = used + 1
        ·rw [if_pos c3] at e'; omega
        ·rw [if_neg c3] at e'
         have := nn x' (by omega); omega
      ·rw [if_neg c1] at e'
       by_cases c1' : x = used + 1
       ·rw [if_pos c1'] at e'
        by_cases c2 : x' = used
        ·rw [if_pos c2] at e'; omega
        ·rw [if_neg c2] at e'
         by_cases c3 : x' = used + 1
         ·omega
         ·rw [if_neg c3] at e'
          have := nn x' (by omega); omega
       ·rw [if_neg c1'] at e'
        have n1 := nn x (by omega)
        by_cases c2 : x' = used
        ·rw [if_pos c2] at e'; omega
        ·rw [if_neg c2] at e'
         by_cases c3 : x' = used + 1
         ·rw [if_pos c3] at e'; omega
         ·rw [if_neg c3] at e'
          have n2 := nn x' (by omega)
          exact K4 x x' (by omega) (by omega) (i_eq.2 (by omega))
    ·omega
   have lo : ((f_maskPool q).length.toInt32).toInt = 192 := by rw [g_maskPool hq, M'.1]; rfl
   have eu : (uw + 1).toInt = uw.toInt + 1 := inc1 (by omega)
   have ebu : (m.2.2 + uw).toInt = m.2.2.toInt + uw.toInt := i_add (by omega) (by omega)
   have b8' := (b8 ti.1 (by have := F.2; omega)).1
   obtain ⟨lp, lt, lb1, lb2⟩ := id M'
   rw [r1, if_pos (by decide), if_pos (by rw [i_lt, z3]; omega), if_pos (by rw [i_lt, lo]; omega), g_maskTarget hq, g_maskPool hq, b8']
   generalize hsw : m.2.2 + uw = sw at ebu ⊢
   rw [aset_at (n := base + used) (by omega) (by omega), Option.bind_some, aset_at (n := base + used) (by omega) (by omega), Option.bind_some]
   have hw := w_mask (w_mtgt hq (m'.2.1.set (base + used) (tt' s i))) (m'.1.set (base + used) 0)
   have tE : ∀ j, at' (m'.2.1.set (base + used) (tt' s i)) (base + j) = if j = used then tt' s i else at' m'.2.1 (base + j) := by
    intro j
    rw [at_set (by omega)]
    by_cases w : j = used
    ·rw [if_pos (by omega), if_pos w]
    ·rw [if_neg (by omega), if_neg w]
   refine put _ _ (used + 1) used (uw + 1) sw (by omega) (by omega) (by omega) hw ⟨ls lp, ls lt, lb1, lb2⟩ mu (by omega) (by omega) (by simp only; rw [tE, if_pos rfl]) (fun j hj n hn => ?_) (fun i' h1 h2 h3 => ?_) (fun j hj => ?_) (fun j j' hj hj' e' => ?_) (fun j hj => ?_)
   ·simp only
    rw [tE, am_set (by omega)]
    by_cases w : j = used
    ·rw [if_pos (by omega), if_pos w, bt6_0]
     constructor
     ·intro z; exact absurd z (by decide)
     ·rintro ⟨i', a1, a2, a3, a4, a5⟩
      obtain ⟨j', j1, j2⟩ := K2 i' a1 a2 a3
      exact absurd (by rw [j2, a4]) (nf j' j1)
    ·rw [if_neg (by omega), if_neg w]
     exact K1 j (by omega) n hn
   ·obtain ⟨j, j1, j2⟩ := K2 i' h1 h2 h3
    refine ⟨j, by omega, ?_⟩
    simp only
    rw [tE, if_neg (by omega)]; exact j2
   ·simp only
    rw [tE]
    by_cases w : j = used
    ·rw [if_pos w]; exact ⟨i, ai, by omega, rfl, td'⟩
    ·rw [if_neg w]
     obtain ⟨i', a1, a2, a3⟩ := K3 j (by omega)
     exact ⟨i', a1, by omega, a3⟩
   ·simp only at e'
    rw [tE, tE] at e'
    by_cases w : j = used
    ·rw [if_pos w] at e'
     by_cases w' : j' = used
     ·omega
     ·rw [if_neg w'] at e'
      exact absurd e'.symm (nf j' (by omega))
    ·rw [if_neg w] at e'
     by_cases w' : j' = used
     ·rw [if_pos w'] at e'
      exact absurd e' (nf j (by omega))
     ·rw [if_neg w'] at e'
      exact K4 j j' (by omega) (by omega) e'
   ·simp only
    rw [at_set (by omega), if_neg (by omega), am_set (by omega), if_neg (by omega)]
    exact old j hj
  ·-- a target known
   rw [if_neg (by rw [i_lt, z0]; omega)]
   exact put q m' used j0 uw r hu u3 (by omega) hq M' mu j1 j3 j2 K1 K2 (fun j hj => by obtain ⟨i', a1, a2, a3⟩ := K3 j hj; exact ⟨i', a1, by omega, a3⟩) K4 old
 ·rintro ⟨uw, q⟩ ⟨m', used, hu, u3, hq, M', K, old⟩
  simp only at hu hq ⊢
  unfold J27_157
  have eb : (m.2.2 + uw).toInt = m.2.2.toInt + uw.toInt := i_add (by omega) (by omega)
  generalize m.2.2 + uw = sw at eb ⊢
  obtain ⟨q', N, e1, e2, e3⟩ := emit_m (w_mu hq sw) D hL l160 (op := 4) (a1 := at' s.1 a) (a2 := m.2.2) (a3 := uw) (a4 := z) (by decide)
  rw [e1, Option.bind_some]
  obtain ⟨lp, lt, lb1, lb2⟩ := M'
  refine okP.some ⟨rfl, _, used, at' s.1 a, m.2.2, uw, N, e2, e3, rfl, hb, hu, u3, ⟨lp, lt, by simp only; omega, by simp only; omega⟩, by simp only; omega, ?_, old⟩
  exact K.congr (m' := (m'.1, m'.2.1, sw)) (fun j _ => ⟨rfl, rfl⟩)

theorem Leaf.congr {s : CT} {d d' : DT} {m m' : MT} {a b pc : Nat} (L : Leaf s d m a b pc) (h1 : at' d'.1 pc = at' d.1 pc) (h2 : at' d'.2.1 pc = at' d.2.1 pc) (h3 : at' d'.2.2.1 pc = at' d.2.2.1 pc) (h4 : at' d'.2.2.2.1 pc = at' d.2.2.2.1 pc) (h5 : at' d'.2.2.2.2.1 pc = at' d.2.2.2.2.1 pc) (hm : ∀ j, j < m.2.2.toInt.toNat → am m'.1 j = am m.1 j ∧ at' m'.2.1 j = at' m.2.1 j) (hu : m.2.2.toInt.toNat ≤ m'.2.2.toInt.toNat) : Leaf s d' m' a b pc := by
 unfold Leaf gd at *
 rw [h1, h2, h3, h4, h5]
 rcases L with L | ⟨q1, q2, base, used, q3, q4, q5, q6, q7, q8, q9⟩
 ·exact Or.inl L
 ·exact Or.inr ⟨q1, q2, base, used, q3, q4, q5, by omega, q7, q8, q9.congr (fun j hj => hm j (by omega))⟩
theorem leaf_e {c : CT} {s : CT} {f : FT} {p : PT} {k : KT} {d : DT} {m : MT} {b : BT} {o : Ob} (h : A o = (c, s, f, p, k, d, m, b)) {T : Int} {n K a : Nat} {β : Nat → Nat} (S : Sw T n s) (F : Few T n) (C : Cls s n K β k) (ha : a < K) (D : LD d) (M : LM m) {L : Nat} (hL : d.2.2.2.2.2.1.toInt = (L : Nat)) (l160 : L < 160) (b150 : m.2.2.toInt ≤ 150) {x : Int32} (hx : x.toInt = a) : okP (F25 o x) (fun w => w.1 = d.2.2.2.2.2.1 ∧ ∃ (m' : MT) (op x1 x2 x3 x4 N : Int32), N.toInt = ((L + 1 : Nat) : Int) ∧ A w.2 = (c, s, f, p, k, (d.1.set L op, d.2.1.set L x1, d.2.2.1.set L x2, d.2.2.2.1.set L x3, d.2.2.2.2.1.set L x4, N, d.2.2.2.2.2.2), m', b) ∧ Leaf s (d.1.set L op, d.2.1.set L x1, d.2.2.1.set L x2, d.2.2.2.1.set L x3, d.2.2.2.2.1.set L x4, N, d.2.2.2.2.2.2) m' (β a) (β (a + 1)) L ∧ LM m' ∧ m.2.2.toInt ≤ m'.2.2.toInt ∧ m'.2.2.toInt ≤ m.2.2.toInt + 3 ∧ ∀ j, j < m.2.2.toInt.toNat → am m'.1 j = am m.1 j ∧ at' m'.2.1 j = at' m.2.1 j) := by
 have z0 : (0 : Int32).toInt = 0 := rfl
 have z3 : (3 : Int32).toInt = 3 := rfl
 have z64 : (64 : Int64).toInt = 64 := rfl
 have n64 := S.2.2.1
 obtain ⟨c1, c2, c3, Kn, b0, bK, hc⟩ := C
 obtain ⟨b1, b2, b3, b4, b5⟩ := hc a ha
 obtain ⟨d1, d2, d3, d4, d5⟩ := id D
 have hs : (at' k.1 a).toInt = (β a : Nat) := b3
 have he : (at' k.2.1 a).toInt = ((β (a + 1) - 1 : Nat) : Int) := by
  have : (at' k.2.1 a).toInt = (β (a + 1) : Int) - 1 := b4
  omega
 unfold F25
 rw [if_neg (by rw [i_lt, z0]; omega), if_pos (by rw [i_lt, g_clCount h]; omega), g_clStart h, ag hx (by omega), Option.bind_some, g_clEnd h, ag hx (by omega), Option.bind_some]
 generalize at' k.1 a = sv at hs ⊢
 generalize at' k.2.1 a = ev at he ⊢
 rw [if_neg (by rw [i_lt, z0]; omega), if_pos (by rw [i_lt, g_snapCount h, S.2.2.2.1]; omega), if_neg (by rw [i_lt]; omega)]
 refine okP.ite (fun se => ?_) (fun se => ?_)
 ·rw [i_eq] at se
  have t1 := S.2.2.2.2.2.1 (β a) (by omega)
  rw [g_snapVal h, S.a_v (j := β a) (by omega) hs, Option.bind_some, g_snapTgt h, S.a_t (j := β a) (by omega) hs, Option.bind_some]
  obtain ⟨q, N, e1, e2, e3⟩ := emit_m h D hL l160 (op := 2) (a1 := at' s.1 (β a)) (a2 := tt' s (β a)) (a3 := 0) (a4 := 0) (by decide)
  rw [e1, Option.bind_some]
  refine okP.some ⟨rfl, m, 2, at' s.1 (β a), tt' s (β a), 0, 0, N, e2, e3, Or.inl ⟨?_, by omega, ?_, ?_⟩, M, by omega, by omega, fun _ _ => ⟨rfl, rfl⟩⟩
  ·simp only; rw [at_set (by omega), if_pos rfl]
  ·simp only; rw [gd_set (by omega), if_pos rfl]; rfl
  ·simp only; rw [at_set (by omega), if_pos rfl]
 ·rw [i_eq] at se
  have ae : β a < β (a + 1) - 1 := by omega
  have h64 : vv s (β (a + 1) - 1) - vv s (β a) + 1 ≤ 64 := by
   rcases b5 with w | w
   ·omega
   ·exact w
  have vlt := S.2.2.2.2.1 (β a) (β (a + 1) - 1) ae (by omega)
  rw [g_snapVal h, S.a_v (j := β (a + 1) - 1) (by omega) he, Option.bind_some, S.a_v (j := β a) (by omega) hs, Option.bind_some]
  apply okP.bind
  refine okP.mono (dist_ok h S F (by omega) (by omega) hs he) (fun r hr => ?_)
  have sp := span_m (at' s.1 (β (a + 1) - 1)) (at' s.1 (β a))
  have sp' : ((at' s.1 (β (a + 1) - 1)).toInt64 - (at' s.1 (β a)).toInt64 + (1 : Int64)).toInt = vv s (β (a + 1) - 1) - vv s (β a) + 1 := sp
  generalize (at' s.1 (β (a + 1) - 1)).toInt64 - (at' s.1 (β a)).toInt64 + (1 : Int64) = sv64 at sp' ⊢
  rw [if_neg (by rw [J_lt, z64]; omega), if_neg (by rw [i_lt, z3]; omega)]
  have t32 : sv64.toInt32.toInt = vv s (β (a + 1) - 1) - vv s (β a) + 1 := by
   rw [Int64.toInt_toInt32, Int.bmod_eq_of_le (by omega) (by omega)]; exact sp'
  obtain ⟨base, hb⟩ : ∃ base : Nat, m.2.2.toInt = (base : Nat) := ⟨m.2.2.toInt.toNat, by have := M.2.2.1; omega⟩
  apply okP.bind
  refine okP.mono (bits_e h S F ae (by omega) h64 D M hL l160 hb (by omega) hs he t32) ?_
  rintro ⟨r1, q⟩ ⟨w1, m', used, x1, x2, x3, N, w2, w3, w4, w5, w6, w7, w8, w9, w10, w11⟩
  simp only at w1 w3 ⊢
  refine okP.some ⟨w1, m', 4, x1, x2, x3, sv64.toInt32, N, w2, w3, Or.inr ⟨?_, ?_, base, used, ?_, ?_, w7, by omega, ?_, h64, ?_⟩, w8, by omega, by omega, fun j hj => w11 j (by omega)⟩
  ·simp only; rw [at_set (by omega), if_pos rfl]
  ·simp only; rw [gd_set (by omega), if_pos rfl]; exact w4
  ·simp only; rw [gd_set (by omega), if_pos rfl]; exact w5
  ·simp only; rw [gd_set (by omega), if_pos rfl]; exact w6
  ·simp only; rw [gd_set (by omega), if_pos rfl]; exact t32
  ·rw [show β (a + 1) = β (a + 1) - 1 + 1 by omega]; exact w10
abbrev En := Nat × Nat × Int × Nat
def Pend (σ : Nat → En) (P : Nat) (e : En) : Prop := ∃ i, i < P ∧ σ i = e
def Nod (s : CT) (β : Nat → Nat) (K : Nat) (d : DT) (m : MT) (γ : Nat → Nat × Nat) (μ : Nat → Nat) (L : Nat) (σ : Nat → En) (P pc : Nat) : Prop :=
 (γ pc).1 ≤ (γ pc).2 ∧ (γ pc).2 < K ∧ (((γ pc).1 = (γ pc).2 ∧ Leaf s d m (β (γ pc).1) (β ((γ pc).1 + 1)) pc) ∨ (Inn s β d pc (γ pc).1 (γ pc).2 (μ pc) ∧ (Kid γ L pc (at' d.2.2.1 pc) (γ pc).1 (μ pc - 1) ∨ Pend σ P ((γ pc).1, μ pc - 1, (pc : Int), 0)) ∧ (Kid γ L pc (at' d.2.2.2.1 pc) (μ pc) (γ pc).2 ∨ Pend σ P (μ pc, (γ pc).2, (pc : Int), 1))))
def EnOk (K : Nat) (γ : Nat → Nat × Nat) (μ : Nat → Nat) (L : Nat) (e : En) : Prop := e.1 ≤ e.2.1 ∧ e.2.1 < K ∧ ((e.2.2.1 = -1 ∧ e.2.2.2 = 0 ∧ e.1 = 0 ∧ e.2.1 = K - 1) ∨ ∃ pc : Nat, e.2.2.1 = (pc : Int) ∧ 1 ≤ pc ∧ pc < L ∧ (γ pc).1 < (γ pc).2 ∧ ((e.2.2.2 = 0 ∧ e.1 = (γ pc).1 ∧ e.2.1 = μ pc - 1) ∨ (e.2.2.2 = 1 ∧ e.1 = μ pc ∧ e.2.1 = (γ pc).2)))
def wk (σ : Nat → En) : Nat → Nat
 | 0 => 0
 | P + 1 => wk σ P + (2 * ((σ P).2.1 - (σ P).1) + 1)
theorem wk_le (σ : Nat → En) : ∀ P, P ≤ wk σ P
 | 0 => Nat.le_refl _
 | P + 1 => by
  have := wk_le σ P
  show P + 1 ≤ wk σ P + _
  omega
theorem wk_congr {σ σ' : Nat → En} : ∀ {P : Nat}, (∀ i, i < P → σ' i = σ i) → wk σ' P = wk σ P
 | 0, _ => rfl
 | P + 1, h => by
  show wk σ' P + (2 * ((σ' P).2.1 - (σ' P).1) + 1) = wk σ P + (2 * ((σ P).2.1 - (σ P).1) + 1)
  rw [wk_congr (fun i hi => h i (by omega)), h P (by omega)]
theorem Nod.next {s : CT} {β : Nat → Nat} {K : Nat} {d d' : DT} {m m' : MT} {γ γ' : Nat → Nat × Nat} {μ μ' : Nat → Nat} {L : Nat} {σ σ' : Nat → En} {P P' pc : Nat} (N : Nod s β K d m γ μ L σ (P + 1) pc) (p1 : 1 ≤ pc) (pL : pc < L) (E : EnOk K γ μ L (σ P)) (hg : ∀ q, q < L → γ' q = γ q ∧ μ' q = μ q) (gL : γ' L = ((σ P).1, (σ P).2.1)) (hσ : ∀ i, i < P → i < P' ∧ σ' i = σ i) {lv : Int32} (hlv : lv.toInt = (L : Nat)) (h1 : at' d'.1 pc = at' d.1 pc) (h2 : at' d'.2.1 pc = at' d.2.1 pc) (h3 : at' d'.2.2.1 pc = if (σ P).2.2.1 = (pc : Int) ∧ (σ P).2.2.2 = 0 then lv else at' d.2.2.1 pc) (h4 : at' d'.2.2.2.1 pc = if (σ P).2.2.1 = (pc : Int) ∧ (σ P).2.2.2 = 1 then lv else at' d.2.2.2.1 pc) (h5 : at' d'.2.2.2.2.1 pc = at' d.2.2.2.2.1 pc) (hm : ∀ j, j < m.2.2.toInt.toNat → am m'.1 j = am m.1 j ∧ at' m'.2.1 j = at' m.2.1 j) (hu : m.2.2.toInt.toNat ≤ m'.2.2.toInt.toNat) : Nod s β K d' m' γ' μ' (L + 1) σ' P' pc := by
 obtain ⟨N1, N2, N3⟩ := N
 have g := hg pc pL
 unfold Nod
 rw [g.1, g.2]
 have kid : ∀ {z : Int32} {l r : Nat}, Kid γ L pc z l r → Kid γ' (L + 1) pc z l r := by
  rintro z l r ⟨q, q1, q2, q3, q4⟩
  exact ⟨q, q1, q2, by omega, by rw [(hg q q3).1]; exact q4⟩
 have pend : ∀ {e : En}, Pend σ (P + 1) e → e ≠ σ P → Pend σ' P' e := by
  rintro e ⟨i, i1, i2⟩ ne
  have : i < P := by
   rcases Nat.lt_or_ge i P with w | w
   ·exact w
   ·have : i = P := by omega
    subst this
    exact absurd i2.symm ne
  exact ⟨i, (hσ i this).1, by rw [(hσ i this).2]; exact i2⟩
 refine ⟨N1, N2, ?_⟩
 rcases N3 with ⟨ge, lf⟩ | ⟨⟨n1, n2, n3, n4⟩, kb, kc⟩
 ·left
  have ne : ¬ (σ P).2.2.1 = (pc : Int) := by
   intro w
   rcases E.2.2 with ⟨e1, _⟩ | ⟨q, e1, e2, e3, e4, _⟩
   ·omega
   ·have : q = pc := by omega
    subst this
    omega
  exact ⟨ge, lf.congr h1 h2 (by rw [h3, if_neg (fun w => ne w.1)]) (by rw [h4, if_neg (fun w => ne w.1)]) h5 hm hu⟩
 ·right
  refine ⟨⟨n1, n2, by rw [h1]; exact n3, ?_⟩, ?_, ?_⟩
  ·unfold gd at *; rw [h2]; exact n4
  ·by_cases w : (σ P).2.2.1 = (pc : Int) ∧ (σ P).2.2.2 = 0
   ·left
    rw [h3, if_pos w]
    refine ⟨L, hlv, pL, by omega, ?_⟩
    rw [gL]
    rcases E.2.2 with ⟨e1, _⟩ | ⟨q, e1, e2, e3, e4, e5⟩
    ·omega
    ·have : q = pc := by omega
     subst this
     rcases e5 with ⟨_, e6, e7⟩ | ⟨e6, _⟩
     ·rw [e6, e7]
     ·omega
   ·rw [h3, if_neg w]
    refine kb.imp kid (fun z => pend z (fun e => w ?_))
    rw [← e]
    exact ⟨rfl, rfl⟩
  ·by_cases w : (σ P).2.2.1 = (pc : Int) ∧ (σ P).2.2.2 = 1
   ·left
    rw [h4, if_pos w]
    refine ⟨L, hlv, pL, by omega, ?_⟩
    rw [gL]
    rcases E.2.2 with ⟨e1, _⟩ | ⟨q, e1, e2, e3, e4, e5⟩
    ·omega
    ·have : q = pc := by omega
     subst this
     rcases e5 with ⟨e6, _⟩ | ⟨_, e6, e7⟩
     ·omega
     ·rw [e6, e7]
   ·rw [h4, if_neg w]
    refine kc.imp kid (fun z => pend z (fun e => w ?_))
    rw [← e]
    exact ⟨rfl, rfl⟩
theorem EnOk.next {K : Nat} {γ γ' : Nat → Nat × Nat} {μ μ' : Nat → Nat} {L : Nat} {e : En} (E : EnOk K γ μ L e) (hg : ∀ q, q < L → γ' q = γ q ∧ μ' q = μ q) : EnOk K γ' μ' (L + 1) e := by
 refine ⟨E.1, E.2.1, E.2.2.imp id ?_⟩
 rintro ⟨pc, e1, e2, e3, e4, e5⟩
 refine ⟨pc, e1, e2, by omega, ?_⟩
 rw [(hg pc e3).1, (hg pc e3).2]
 exact ⟨e4, e5⟩
def Bu (T : Int) (n K : Nat) (β : Nat → Nat) (s : CT) (d : DT) (m : MT) (b : BT) (L P : Nat) : Prop := LD d ∧ LM m ∧ LS b ∧ d.2.2.2.2.2.1.toInt = (L : Nat) ∧ b.2.2.2.2.toInt = (P : Nat) ∧ 1 ≤ L ∧ m.2.2.toInt ≤ 3 * L ∧ at' d.1 0 = 0 ∧ at' d.2.1 0 = df s ∧ ∃ (γ : Nat → Nat × Nat) (μ : Nat → Nat) (σ : Nat → En), wk σ P + L = 2 * K ∧ (∀ i, i < P → gd b.1 i = ((σ i).1 : Nat) ∧ gd b.2.1 i = ((σ i).2.1 : Nat) ∧ gd b.2.2.1 i = (σ i).2.2.1 ∧ gd b.2.2.2.1 i = ((σ i).2.2.2 : Nat) ∧ EnOk K γ μ L (σ i)) ∧ (∀ pc, 1 ≤ pc → pc < L → Nod s β K d m γ μ L σ P pc) ∧ (Kid γ L 0 d.2.2.2.2.2.2 0 (K - 1) ∨ Pend σ P (0, K - 1, -1, 0))
theorem ushr32 (v : Int32) {y : Int32} {n : Nat} (h : y.toInt = n) (hn : n < 32) : (XT.ushr v y).toBitVec = v.toBitVec >>> n := by
 have : ∀ n : Fin 32, ((Int32.ofInt n.1 &&& 31).toUInt32 % 32).toBitVec = BitVec.ofNat 32 n.1 := by decide
 rw [ofI h]
 show v.toBitVec >>> ((Int32.ofInt n &&& 31).toUInt32 % 32).toBitVec = _
 rw [this ⟨n, hn⟩, BitVec.ushiftRight_eq']
 congr 1
 simp; omega
theorem ush1 {z : Int32} {q : Nat} (h : z.toInt = q) : (XT.ushr z (1 : Int32)).toInt = ((q / 2 : Nat) : Int) := by
 have hi := i_hi z
 have e : (XT.ushr z (1 : Int32)).toBitVec = z.toBitVec >>> 1 := ushr32 z (n := 1) rfl (by decide)
 have zn : z.toBitVec.toNat = q := by
  have w : z.toInt = z.toBitVec.toInt := rfl
  have lt := z.toBitVec.isLt
  rw [w, BitVec.toInt_eq_toNat_cond] at h
  split at h <;> omega
 show (XT.ushr z (1 : Int32)).toBitVec.toInt = _
 rw [e, BitVec.toInt_eq_toNat_cond, BitVec.toNat_ushiftRight, zn, Nat.shiftRight_eq_div_pow, if_pos (by omega)]
theorem mid_m {x y : Int32} {l r : Nat} (hx : x.toInt = l) (hy : y.toInt = r) (hr : r < 1000) (lr : l ≤ r) : (XT.ushr ((x + y) + (1 : Int32)) (1 : Int32)).toInt = ((l + r + 1) / 2 : Nat) := by
 have e1 : (x + y).toInt = x.toInt + y.toInt := i_add (by omega) (by omega)
 have e2 : (x + y + 1).toInt = x.toInt + y.toInt + 1 := by rw [inc1 (by omega), e1]
 obtain ⟨q, hq⟩ : ∃ q : Nat, (x + y + 1).toInt = q := ⟨l + r + 1, by omega⟩
 have hs : q = l + r + 1 := by omega
 generalize x + y + 1 = z at hq
 rw [← hs]
 exact ush1 hq

theorem low_m {c : CT} {s : CT} {f : FT} {p : PT} {k : KT} {d : DT} {m : MT} {b : BT} {o : Ob} (h : A o = (c, s, f, p, k, d, m, b)) {T : Int} {n K a : Nat} {β : Nat → Nat} (S : Sw T n s) (C : Cls s n K β k) (ha : a < K) {x : Int32} (hx : x.toInt = a) : F34 o x = some (at' s.1 (β a)) := by
 have z0 : (0 : Int32).toInt = 0 := rfl
 have n64 := S.2.2.1
 obtain ⟨c1, c2, c3, Kn, b0, bK, hc⟩ := C
 obtain ⟨b1, b2, b3, b4, b5⟩ := hc a ha
 have hs : (at' k.1 a).toInt = (β a : Nat) := b3
 unfold F34
 rw [if_neg (by rw [i_lt, z0]; omega), if_pos (by rw [i_lt, g_clCount h]; omega), g_clStart h, ag hx (by omega), Option.bind_some]
 generalize at' k.1 a = sv at hs ⊢
 rw [if_neg (by rw [i_lt, z0]; omega), if_pos (by rw [i_lt, g_snapCount h, S.2.2.2.1]; omega), g_snapVal h, S.a_v (j := β a) (by omega) hs, Option.bind_some]
theorem served {c s : CT} {f : FT} {p : PT} {k : KT} {d : DT} {m m1 : MT} {b b1 : BT} {o : Ob} {T : Int} {n K L P P' mid : Nat} {β : Nat → Nat} {γ : Nat → Nat × Nat} {μ : Nat → Nat} {σ σ' : Nat → En} {op x1 x2 x3 x4 N lv pv sv g : Int32}
  (h : A o = (c, s, f, p, k, (d.1.set L op, d.2.1.set L x1, d.2.2.1.set L x2, d.2.2.2.1.set L x3, d.2.2.2.2.1.set L x4, N, d.2.2.2.2.2.2), m1, b1)) (D : LD d) (hL : lv.toInt = (L : Nat)) (hN : N.toInt = ((L + 1 : Nat) : Int)) (L1 : 1 ≤ L) (L60 : L < 60) (r0 : at' d.1 0 = 0) (r1 : at' d.2.1 0 = df s)
  (wE : wk σ (P + 1) + L = 2 * K) (ent : ∀ i, i < P + 1 → gd b.1 i = ((σ i).1 : Nat) ∧ gd b.2.1 i = ((σ i).2.1 : Nat) ∧ gd b.2.2.1 i = (σ i).2.2.1 ∧ gd b.2.2.2.1 i = ((σ i).2.2.2 : Nat) ∧ EnOk K γ μ L (σ i))
  (nods : ∀ pc, 1 ≤ pc → pc < L → Nod s β K d m γ μ L σ (P + 1) pc) (root : Kid γ L 0 d.2.2.2.2.2.2 0 (K - 1) ∨ Pend σ (P + 1) (0, K - 1, -1, 0))
  (M1 : LM m1) (mu : m1.2.2.toInt ≤ 3 * ((L + 1 : Nat) : Int)) (hm : ∀ j, j < m.2.2.toInt.toNat → am m1.1 j = am m.1 j ∧ at' m1.2.1 j = at' m.2.1 j) (hu : m.2.2.toInt.toNat ≤ m1.2.2.toInt.toNat)
  (B1 : LS b1) (hP : b1.2.2.2.2.toInt = (P' : Nat)) (hσ : ∀ i, i < P → i < P' ∧ σ' i = σ i) (wE' : wk σ' P' + 1 = wk σ (P + 1))
  (old : ∀ i, i < P → gd b1.1 i = gd b.1 i ∧ gd b1.2.1 i = gd b.2.1 i ∧ gd b1.2.2.1 i = gd b.2.2.1 i ∧ gd b1.2.2.2.1 i = gd b.2.2.2.1 i)
  (new : ∀ i, P ≤ i → i < P' → gd b1.1 i = ((σ' i).1 : Nat) ∧ gd b1.2.1 i = ((σ' i).2.1 : Nat) ∧ gd b1.2.2.1 i = (σ' i).2.2.1 ∧ gd b1.2.2.2.1 i = ((σ' i).2.2.2 : Nat) ∧ EnOk K (fun q => if q = L then ((σ P).1, (σ P).2.1) else γ q) (fun q => if q = L then mid else μ q) (L + 1) (σ' i))
  (nodL : ∀ d2 : DT, at' d2.1 L = op → at' d2.2.1 L = x1 → at' d2.2.2.1 L = x2 → at' d2.2.2.2.1 L = x3 → at' d2.2.2.2.2.1 L = x4 → Nod s β K d2 m1 (fun q => if q = L then ((σ P).1, (σ P).2.1) else γ q) (fun q => if q = L then mid else μ q) (L + 1) σ' P' L)
  (hpv : pv.toInt = (σ P).2.2.1) (hsv : sv.toInt = ((σ P).2.2.2 : Nat)) (g0 : 0 ≤ g.toInt) (g1 : g.toInt < 1000) :
  okP (J8_193 o g pv sv lv) (fun r => ∃ g' q d' m' b', r = .inr (g', q) ∧ g'.toInt = g.toInt + 1 ∧ A q = (c, s, f, p, k, d', m', b') ∧ Bu T n K β s d' m' b' (L + 1) P') := by
 have z0 : (0 : Int32).toInt = 0 := rfl
 have eg : (g + 1).toInt = g.toInt + 1 := inc1 (by omega)
 obtain ⟨d1, d2, d3, d4, d5⟩ := D
 have Dn : LD (d.1.set L op, d.2.1.set L x1, d.2.2.1.set L x2, d.2.2.2.1.set L x3, d.2.2.2.2.1.set L x4, N, d.2.2.2.2.2.2) := ⟨ls d1, ls d2, ls d3, ls d4, ls d5⟩
 obtain ⟨q, q1, q2, q3⟩ := patch_m h Dn (L := L + 1) hN (by omega) (x := pv) (y := sv) (z := lv)
 unfold J8_193
 rw [q1, Option.bind_some]
 generalize hγ : (fun q => if q = L then ((σ P).1, (σ P).2.1) else γ q) = γ' at *
 generalize hμ : (fun q => if q = L then mid else μ q) = μ' at *
 have hg : ∀ q, q < L → γ' q = γ q ∧ μ' q = μ q := by
  intro q hq
  rw [← hγ, ← hμ]
  exact ⟨if_neg (by omega), if_neg (by omega)⟩
 have gL : γ' L = ((σ P).1, (σ P).2.1) := by rw [← hγ]; exact if_pos rfl
 obtain ⟨_, _, _, _, E⟩ := ent P (by omega)
 have kid0 : ∀ {z : Int32}, Kid γ L 0 z 0 (K - 1) → Kid γ' (L + 1) 0 z 0 (K - 1) := by
  rintro z ⟨w, w1, w2, w3, w4⟩
  exact ⟨w, w1, w2, by omega, by rw [(hg w w3).1]; exact w4⟩
 have ents : ∀ i, i < P' → gd b1.1 i = ((σ' i).1 : Nat) ∧ gd b1.2.1 i = ((σ' i).2.1 : Nat) ∧ gd b1.2.2.1 i = (σ' i).2.2.1 ∧ gd b1.2.2.2.1 i = ((σ' i).2.2.2 : Nat) ∧ EnOk K γ' μ' (L + 1) (σ' i) := by
  intro i hi
  rcases Nat.lt_or_ge i P with w | w
  ·obtain ⟨e1, e2, e3, e4, e5⟩ := ent i (by omega)
   obtain ⟨f1, f2, f3, f4⟩ := old i w
   rw [(hσ i w).2, f1, f2, f3, f4]
   exact ⟨e1, e2, e3, e4, e5.next hg⟩
  ·exact new i w hi
 have fin : ∀ d' : DT, A q = (c, s, f, p, k, d', m1, b1) → LD d' → d'.2.2.2.2.2.1 = N → (∀ j, at' d'.1 j = at' (d.1.set L op) j ∧ at' d'.2.1 j = at' (d.2.1.set L x1) j ∧ at' d'.2.2.2.2.1 j = at' (d.2.2.2.2.1.set L x4) j) → (∀ j, j ≤ L → at' d'.2.2.1 j = if (σ P).2.2.1 = (j : Int) ∧ (σ P).2.2.2 = 0 then lv else at' (d.2.2.1.set L x2) j) → (∀ j, j ≤ L → at' d'.2.2.2.1 j = if (σ P).2.2.1 = (j : Int) ∧ (σ P).2.2.2 = 1 then lv else at' (d.2.2.2.1.set L x3) j) → (Kid γ' (L + 1) 0 d'.2.2.2.2.2.2 0 (K - 1) ∨ Pend σ' P' (0, K - 1, -1, 0)) → okP (some (.inr (g + 1, q) : Ob ⊕ (Int32 × Ob))) (fun r => ∃ g' q d' m' b', r = .inr (g', q) ∧ g'.toInt = g.toInt + 1 ∧ A q = (c, s, f, p, k, d', m', b') ∧ Bu T n K β s d' m' b' (L + 1) P') := by
  intro d' hq D' cN same cB cC rt
  have parL : ¬ (σ P).2.2.1 = (L : Int) := by
   intro w
   rcases E.2.2 with ⟨e1, _⟩ | ⟨pc, e1, e2, e3, _⟩ <;> omega
  refine okP.some ⟨g + 1, q, d', m1, b1, rfl, eg, hq, D', M1, B1, by rw [cN]; exact hN, hP, by omega, mu, ?_, ?_, γ', μ', σ', by omega, ents, fun pc p1 pL => ?_, rt⟩
  ·rw [(same 0).1, at_set (by omega), if_neg (by omega)]; exact r0
  ·rw [(same 0).2.1, at_set (by omega), if_neg (by omega)]; exact r1
  ·by_cases w : pc = L
   ·subst w
    refine nodL d' ?_ ?_ ?_ ?_ ?_
    ·rw [(same pc).1, at_set (by omega), if_pos rfl]
    ·rw [(same pc).2.1, at_set (by omega), if_pos rfl]
    ·rw [cB pc (by omega), if_neg (fun w => parL w.1), at_set (by omega), if_pos rfl]
    ·rw [cC pc (by omega), if_neg (fun w => parL w.1), at_set (by omega), if_pos rfl]
    ·rw [(same pc).2.2, at_set (by omega), if_pos rfl]
   ·refine (nods pc p1 (by omega)).next p1 (by omega) E hg gL hσ hL ?_ ?_ ?_ ?_ ?_ hm hu
    ·rw [(same pc).1, at_set (by omega), if_neg w]
    ·rw [(same pc).2.1, at_set (by omega), if_neg w]
    ·rw [cB pc (by omega), at_set (by omega), if_neg w]
    ·rw [cC pc (by omega), at_set (by omega), if_neg w]
    ·rw [(same pc).2.2, at_set (by omega), if_neg w]
 have rootOld : (σ P).2.2.1 ≠ -1 → Kid γ' (L + 1) 0 d.2.2.2.2.2.2 0 (K - 1) ∨ Pend σ' P' (0, K - 1, -1, 0) := by
  intro ne
  refine root.imp kid0 ?_
  rintro ⟨i, i1, i2⟩
  have : i < P := by
   rcases Nat.lt_or_ge i P with w | w
   ·exact w
   ·have : i = P := by omega
    subst this
    rw [i2] at ne
    exact absurd rfl ne
  exact ⟨i, (hσ i this).1, by rw [(hσ i this).2]; exact i2⟩
 rcases E.2.2 with ⟨e1, e2, e3, e4⟩ | ⟨pc, e1, e2, e3, e4, e5⟩
 ·have hq := q2 (by omega)
  refine fin _ hq Dn rfl (fun j => ⟨rfl, rfl, rfl⟩) (fun j hj => ?_) (fun j hj => ?_) (Or.inl ⟨L, hL, by omega, by omega, ?_⟩)
  ·rw [if_neg (fun w => by omega)]
  ·rw [if_neg (fun w => by omega)]
  ·rw [gL, e3, e4]
 ·obtain ⟨qa, qb⟩ := q3 pc (by omega) (by omega)
  rcases e5 with ⟨s0, _⟩ | ⟨s1, _⟩
  ·have hq := qa (by rw [i_eq, hsv, s0]; rfl)
   refine fin _ hq ⟨ls d1, ls d2, ls (ls d3), ls d4, ls d5⟩ rfl (fun j => ⟨rfl, rfl, rfl⟩) (fun j hj => ?_) (fun j hj => ?_) (rootOld (by omega))
   ·simp only
    rw [at_set (by rw [List.length_set]; omega)]
    by_cases w : j = pc
    ·rw [if_pos w, if_pos ⟨by omega, s0⟩]
    ·rw [if_neg w, if_neg (fun z => by omega)]
   ·rw [if_neg (fun w => by omega)]
  ·have hq := qb (by rw [Ne, i_eq, hsv, s1]; decide)
   refine fin _ hq ⟨ls d1, ls d2, ls d3, ls (ls d4), ls d5⟩ rfl (fun j => ⟨rfl, rfl, rfl⟩) (fun j hj => ?_) (fun j hj => ?_) (rootOld (by omega))
   ·rw [if_neg (fun w => by omega)]
   ·simp only
    rw [at_set (by rw [List.length_set]; omega)]
    by_cases w : j = pc
    ·rw [if_pos w, if_pos ⟨by omega, s1⟩]
    ·rw [if_neg w, if_neg (fun z => by omega)]
theorem grow {c : CT} {s : CT} {f : FT} {p : PT} {k : KT} {d : DT} {m : MT} {b : BT} {o : Ob} (h : A o = (c, s, f, p, k, d, m, b)) {T : Int} {n K L P : Nat} {β : Nat → Nat} (S : Sw T n s) (F : Few T n) (C : Cls s n K β k) (K16 : K ≤ 16) (U : Bu T n K β s d m b L (P + 1)) {g : Int32} (g0 : 0 ≤ g.toInt) (g1 : g.toInt < 160) : okP (B8_59 (g, o)) (fun r => ∃ g' q d' m' b' P', r = .inr (g', q) ∧ g'.toInt = g.toInt + 1 ∧ A q = (c, s, f, p, k, d', m', b') ∧ Bu T n K β s d' m' b' (L + 1) P') := by
 have z0 : (0 : Int32).toInt = 0 := rfl
 have z1 : (1 : Int32).toInt = 1 := rfl
 obtain ⟨D, M, B, hL, hP, L1, mu, r0, r1, γ, μ, σ, wE, ent, nods, root⟩ := U
 obtain ⟨d1, d2, d3, d4, d5⟩ := id D
 obtain ⟨b1, b2, b3, b4⟩ := id B
 have wl := wk_le σ (P + 1)
 have P130 : P + 1 < 100 := by omega
 have lo : ((f_opc o).length.toInt32).toInt = 160 := by rw [g_opc h, d1]; rfl
 have es : (b.2.2.2.2 - 1).toInt = (P : Nat) := by rw [i_sub (by omega) (by omega), z1]; omega
 obtain ⟨en1, en2, en3, en4, E⟩ := ent P (by omega)
 unfold B8_59
 simp only
 rw [if_pos (by rw [i_lt, lo]; omega), if_pos (by rw [i_lt, z0, g_sp h]; omega), g_sp h]
 generalize b.2.2.2.2 - 1 = sp' at es ⊢
 rw [g_stLo h, ag es (by omega), Option.bind_some, g_stHi h, ag es (by omega), Option.bind_some, g_stParent h, ag es (by omega), Option.bind_some, g_stSlot h, ag es (by omega), Option.bind_some]
 have v1 : (at' b.1 P).toInt = ((σ P).1 : Nat) := en1
 have v2 : (at' b.2.1 P).toInt = ((σ P).2.1 : Nat) := en2
 have v3 : (at' b.2.2.1 P).toInt = (σ P).2.2.1 := en3
 have v4 : (at' b.2.2.2.1 P).toInt = ((σ P).2.2.2 : Nat) := en4
 generalize at' b.1 P = lv at v1 ⊢
 generalize at' b.2.1 P = hv at v2 ⊢
 generalize at' b.2.2.1 P = pv at v3 ⊢
 generalize at' b.2.2.2.1 P = sv at v4 ⊢
 have h1 := w_sp h sp'
 generalize s_sp o sp' = o1 at h1 ⊢
 have E1 := E.1
 have E2 := E.2.1
 have wP : wk σ (P + 1) = wk σ P + (2 * ((σ P).2.1 - (σ P).1) + 1) := rfl
 have Bd' := C.2.2.2.2
 refine okP.ite (fun lt => ?_) (fun lt => ?_)
 ·rw [i_lt] at lt
  have hmid := mid_m v1 v2 (by omega) (by omega)
  obtain ⟨mid, em⟩ : ∃ mid, mid = ((σ P).1 + (σ P).2.1 + 1) / 2 := ⟨_, rfl⟩
  rw [← em] at hmid
  have m1 : (σ P).1 < mid ∧ mid ≤ (σ P).2.1 := by omega
  generalize XT.ushr (lv + hv + (1 : Int32)) (1 : Int32) = mv at hmid ⊢
  have emv : (mv - 1).toInt = ((mid - 1 : Nat) : Int) := by rw [i_sub (by omega) (by omega), z1]; omega
  generalize mv - 1 = mw at emv ⊢
  rw [low_m h1 S C (a := mid) (by omega) hmid, Option.bind_some]
  obtain ⟨o2, N, e1, e2, e3⟩ := emit_m h1 D hL (by omega) (op := 1) (a1 := at' s.1 (β mid)) (a2 := 0) (a3 := 0) (a4 := 0) (by decide)
  rw [e1, Option.bind_some]
  obtain ⟨o3, N3, p1, p2, p3⟩ := push_m e3 ⟨b1, b2, b3, b4⟩ (P := P) es (by omega) mv hv d.2.2.2.2.2.1 1
  rw [p1, Option.bind_some]
  obtain ⟨o4, N4, q1, q2, q3⟩ := push_m p3 ⟨ls b1, ls b2, ls b3, ls b4⟩ (P := P + 1) p2 (by omega) lv mw d.2.2.2.2.2.1 0
  rw [q1, Option.bind_some]
  obtain ⟨σ', hσ'⟩ : ∃ σ' : Nat → En, σ' = fun i => if i = P then (mid, (σ P).2.1, (L : Int), 1) else if i = P + 1 then ((σ P).1, mid - 1, (L : Int), 0) else σ i := ⟨_, rfl⟩
  have sP : σ' P = (mid, (σ P).2.1, (L : Int), 1) := by rw [hσ']; simp only [if_true]
  have sQ : σ' (P + 1) = ((σ P).1, mid - 1, (L : Int), 0) := by rw [hσ']; simp only [if_true]; rw [if_neg (by omega)]
  have sO : ∀ i, i < P → σ' i = σ i := by intro i hi; rw [hσ']; simp only; rw [if_neg (by omega), if_neg (by omega)]
  have two : ∀ (l : List Int32) (hl : l.length = 130) (u v : Int32) (i : Nat), gd ((l.set P u).set (P + 1) v) i = if i = P + 1 then v.toInt else if i = P then u.toInt else gd l i := by
   intro l hl u v i
   rw [gd_set (by rw [List.length_set]; omega)]
   split
   ·rfl
   ·rw [gd_set (by omega)]
  have wk' : wk σ' (P + 2) + 1 = wk σ (P + 1) := by
   show wk σ' P + (2 * ((σ' P).2.1 - (σ' P).1) + 1) + (2 * ((σ' (P + 1)).2.1 - (σ' (P + 1)).1) + 1) + 1 = _
   rw [wk_congr sO, sP, sQ, wP]
   simp only
   omega
  refine okP.mono (served (L := L) (P := P) (P' := P + 2) (mid := mid) (γ := γ) (μ := μ) (σ := σ) (σ' := σ') (T := T) (n := n) (β := β) (m := m) (b := b) q3 D hL e2 L1 (by omega) r0 r1 wE ent nods root M (by omega) (fun _ _ => ⟨rfl, rfl⟩) (Nat.le_refl _) ⟨ls (ls b1), ls (ls b2), ls (ls b3), ls (ls b4)⟩ (by rw [q2]) (fun i hi => ⟨by omega, sO i hi⟩) wk' (fun i hi => ?_) (fun i i1 i2 => ?_) (fun dd q1 q2 q3 q4 q5 => ?_) v3 v4 g0 (by omega)) ?_
  ·simp only
   rw [two _ b1, two _ b2, two _ b3, two _ b4]
   have a1 : ¬ i = P + 1 := by omega
   have a2 : ¬ i = P := by omega
   simp only [if_neg a1, if_neg a2]
   exact ⟨trivial, trivial, trivial, trivial⟩
  ·simp only
   rw [two _ b1, two _ b2, two _ b3, two _ b4]
   have ge1 : (fun q => if q = L then ((σ P).1, (σ P).2.1) else γ q) L = ((σ P).1, (σ P).2.1) := if_pos rfl
   have ge2 : (fun q => if q = L then mid else μ q) L = mid := if_pos rfl
   by_cases w : i = P + 1
   ·subst w
    rw [sQ]
    simp only [if_true]
    refine ⟨v1, emv, hL, rfl, by simp only; omega, by simp only; omega, Or.inr ⟨L, rfl, L1, by omega, ?_, Or.inl ⟨rfl, ?_, ?_⟩⟩⟩
    ·rw [ge1]; simp only; omega
    ·rw [ge1]
    ·rw [ge2]
   ·have : i = P := by omega
    subst this
    rw [sP]
    simp only [if_true, if_neg w]
    refine ⟨hmid, v2, hL, rfl, by simp only; omega, by simp only; omega, Or.inr ⟨L, rfl, L1, by omega, ?_, Or.inr ⟨rfl, ?_, ?_⟩⟩⟩
    ·rw [ge1]; simp only; omega
    ·rw [ge2]
    ·rw [ge1]
  ·have ge1 : (fun q => if q = L then ((σ P).1, (σ P).2.1) else γ q) L = ((σ P).1, (σ P).2.1) := if_pos rfl
   have ge2 : (fun q => if q = L then mid else μ q) L = mid := if_pos rfl
   unfold Nod
   rw [ge1, ge2]
   simp only
   refine ⟨by omega, by omega, Or.inr ⟨⟨by omega, by omega, q1, ?_⟩, Or.inr ⟨P + 1, by omega, sQ⟩, Or.inr ⟨P, by omega, sP⟩⟩⟩
   unfold gd
   rw [q2]; rfl
  ·rintro r ⟨g', q, d', m', b', w⟩
   exact ⟨g', q, d', m', b', P + 2, w⟩
 ·rw [i_lt] at lt
  have lh : (σ P).1 = (σ P).2.1 := by omega
  apply okP.bind
  refine okP.mono (leaf_e h1 S F C (a := (σ P).1) (by omega) D M hL (by omega) (by omega) v1) ?_
  rintro ⟨rv, q⟩ ⟨w1, m', op, x1, x2, x3, x4, N, w2, w3, w4, w5, w6, w7, w8⟩
  simp only at w1 w3 ⊢
  subst w1
  refine okP.mono (served (L := L) (P := P) (P' := P) (mid := 0) (γ := γ) (μ := μ) (σ := σ) (σ' := σ) (T := T) (n := n) (β := β) (m := m) (b := b) w3 D hL w2 L1 (by omega) r0 r1 wE ent nods root w5 (by omega) w8 (by omega) ⟨b1, b2, b3, b4⟩ es (fun i hi => ⟨hi, rfl⟩) (by rw [wP]; omega) (fun i hi => ⟨rfl, rfl, rfl, rfl⟩) (fun i i1 i2 => absurd i1 (by omega)) (fun dd q1 q2 q3 q4 q5 => ?_) v3 v4 g0 (by omega)) ?_
  ·have ge1 : (fun q => if q = L then ((σ P).1, (σ P).2.1) else γ q) L = ((σ P).1, (σ P).2.1) := if_pos rfl
   unfold Nod
   rw [ge1]
   simp only
   refine ⟨by omega, by omega, Or.inl ⟨lh, w4.congr ?_ ?_ ?_ ?_ ?_ (fun _ _ => ⟨rfl, rfl⟩) (Nat.le_refl _)⟩⟩
   ·simp only; rw [at_set (by omega), if_pos rfl]; exact q1
   ·simp only; rw [at_set (by omega), if_pos rfl]; exact q2
   ·simp only; rw [at_set (by omega), if_pos rfl]; exact q3
   ·simp only; rw [at_set (by omega), if_pos rfl]; exact q4
   ·simp only; rw [at_set (by omega), if_pos rfl]; exact q5
  ·rintro r ⟨g', q, d', m', b', w⟩
   exact ⟨g', q, d', m', b', P, w⟩
theorem build_ok {c : CT} {s : CT} {f : FT} {p : PT} {k : KT} {d : DT} {m : MT} {b : BT} {o : Ob} (h : A o = (c, s, f, p, k, d, m, b)) {T : Int} {n K : Nat} {β : Nat → Nat} (S : Sw T n s) (F : Few T n) (C : Cls s n K β k) (K16 : K ≤ 16) (D : LD d) (M : m.1.length = 192 ∧ m.2.1.length = 192) (B : LS b) : okP (F8 o) (fun q => ∃ f' d' m' b', A q = (c, s, f', p, k, d', m', b') ∧ Cde s n d' m' ∧ LS b' ∧ f'.1 = f.1 ∧ f'.2.1 = f.2.1 ∧ f'.2.2.1 = f.2.2.1) := by
 have z0 : (0 : Int32).toInt = 0 := rfl
 have z1 : (1 : Int32).toInt = 1 := rfl
 have h0 := w_cln h
 obtain ⟨c1, c2, c3, Kn, b0, bK, hc⟩ := id C
 obtain ⟨d1, d2, d3, d4, d5⟩ := id D
 have Bd' : Bd n K β := ⟨bK, fun a ha => (hc a ha).1⟩
 unfold F8
 rw [g_snapDefault h]
 obtain ⟨o1, N, e1, e2, e3⟩ := emit_m h0 D (L := 0) rfl (by omega) (op := 0) (a1 := s.2.2.2.1) (a2 := 0) (a3 := 0) (a4 := 0) (by decide)
 rw [e1, Option.bind_some]
 simp only
 rw [g_clCount e3]
 have D1 : LD (d.1.set 0 0, d.2.1.set 0 s.2.2.2.1, d.2.2.1.set 0 0, d.2.2.2.1.set 0 0, d.2.2.2.2.1.set 0 0, N, d.2.2.2.2.2.2) := ⟨ls d1, ls d2, ls d3, ls d4, ls d5⟩
 have h2 := w_root e3 0
 simp only at h2
 have r0 : at' (d.1.set 0 0) 0 = 0 := by rw [at_set (by omega), if_pos rfl]
 have r1 : at' (d.2.1.set 0 s.2.2.2.1) 0 = df s := by rw [at_set (by omega), if_pos rfl]; rfl
 refine okP.ite (fun K0 => ?_) (fun K0 => ?_)
 ·rw [i_lt, z0, c3] at K0
  have ek : (k.2.2 - 1).toInt = ((K - 1 : Nat) : Int) := by rw [i_sub (by omega) (by omega), z1]; omega
  obtain ⟨o2, N2, p1, p2, p3⟩ := push_m h2 (P := 0) B rfl (by omega) 0 (k.2.2 - 1) (-1) 0
  rw [p1, Option.bind_some]
  apply okP.bind
  refine okP.mono (P := fun q => ∃ f' d' m' b', A q = (c, s, f', p, k, d', m', b') ∧ Cde s n d' m' ∧ LS b' ∧ f'.1 = f.1 ∧ f'.2.1 = f.2.1 ∧ f'.2.2.1 = f.2.2.1) ?_ (fun q hq => okP.some hq)
  obtain ⟨b1, b2, b3, b4⟩ := id B
  have U0 : Bu T n K β s (d.1.set 0 0, d.2.1.set 0 s.2.2.2.1, d.2.2.1.set 0 0, d.2.2.2.1.set 0 0, d.2.2.2.2.1.set 0 0, N, 0) (m.1, m.2.1, 0) (b.1.set 0 0, b.2.1.set 0 (k.2.2 - 1), b.2.2.1.set 0 (-1), b.2.2.2.1.set 0 0, N2) 1 1 := by
   refine ⟨⟨ls d1, ls d2, ls d3, ls d4, ls d5⟩, ⟨M.1, M.2, by show (0 : Int) ≤ 0; decide, by show (0 : Int) ≤ 192; decide⟩, ⟨ls b1, ls b2, ls b3, ls b4⟩, e2, p2, by omega, by show (0 : Int) ≤ 3 * 1; decide, r0, r1, fun _ => (0, 0), fun _ => 0, fun _ => (0, K - 1, -1, 0), ?_, fun i hi => ?_, fun pc q1 q2 => absurd q2 (by omega), Or.inr ⟨0, by omega, rfl⟩⟩
   ·show 0 + (2 * (K - 1 - 0) + 1) + 1 = 2 * K
    omega
   ·have : i = 0 := by omega
    subst this
    simp only
    rw [gd_set (by omega), gd_set (by omega), gd_set (by omega), gd_set (by omega), if_pos rfl, if_pos rfl, if_pos rfl, if_pos rfl]
    exact ⟨rfl, ek, rfl, rfl, by simp only; omega, by simp only; omega, Or.inl ⟨rfl, rfl, rfl, rfl⟩⟩
  refine okP.loop (fun w : Int32 × Ob => ∃ (d' : DT) (m' : MT) (b' : BT) (L P : Nat), A w.2 = (c, s, (f.1, f.2.1, f.2.2.1, 0), p, k, d', m', b') ∧ Bu T n K β s d' m' b' L P ∧ w.1.toInt = (L : Int) - 1) (fun w => (200 - w.1.toInt).toNat) ⟨_, _, _, 1, 1, p3, U0, rfl⟩ (by show (200 - (0 : Int)).toNat < 4000; decide) ?_
  rintro ⟨g, q⟩ ⟨d', m', b', L, P, hq, U, hg⟩
  simp only at hq hg
  have L1 := U.2.2.2.2.2.1
  have wl : L ≤ 2 * K := by
   obtain ⟨_, _, _, _, _, _, _, _, _, γ, μ, σ, wE, _⟩ := U
   omega
  rcases Nat.eq_zero_or_pos P with P0 | P0
  ·subst P0
   obtain ⟨D', M', B', hL, hP, L1', mu, r0', r1', γ, μ, σ, wE, ent, nods, root⟩ := U
   have lo : ((f_opc q).length.toInt32).toInt = 160 := by rw [g_opc hq, D'.1]; rfl
   unfold B8_59
   simp only
   rw [if_pos (by rw [i_lt, lo]; omega), if_neg (by rw [i_lt, z0, g_sp hq]; omega)]
   have noP : ∀ e, ¬ Pend σ 0 e := fun e ⟨i, i1, _⟩ => absurd i1 (by omega)
   refine okP.some ⟨_, d', m', b', hq, ⟨D', M', K, L, β, γ, Bd', b0, by omega, L1', hL, r0', r1', fun pc q1 q2 => ?_, Or.inr ⟨by omega, root.resolve_right (noP _)⟩⟩, B', rfl, rfl, rfl⟩
   obtain ⟨n1, n2, n3⟩ := nods pc q1 q2
   refine ⟨n1, n2, n3.imp id ?_⟩
   rintro ⟨w1, w2, w3⟩
   exact ⟨μ pc, w1, w2.resolve_right (noP _), w3.resolve_right (noP _)⟩
  ·obtain ⟨P1, eP⟩ : ∃ P1, P = P1 + 1 := ⟨P - 1, by omega⟩
   subst eP
   refine okP.mono (grow hq S F C K16 U (g := g) (by omega) (by omega)) ?_
   rintro r ⟨g', q', d2', m2, b2', P', rfl, w1, w2, w3⟩
   exact ⟨⟨d2', m2, b2', L + 1, P', w2, w3, by simp only; omega⟩, by simp only; omega⟩
 ·rw [i_lt, z0, c3] at K0
  have k0 : K = 0 := by omega
  refine okP.some ⟨_, _, _, _, h2, ⟨⟨ls d1, ls d2, ls d3, ls d4, ls d5⟩, ⟨M.1, M.2, by show (0 : Int) ≤ 0; decide, by show (0 : Int) ≤ 192; decide⟩, K, 1, β, fun _ => (0, 0), Bd', b0, by omega, by omega, e2, r0, r1, fun pc q1 q2 => absurd q2 (by omega), Or.inl ⟨k0, rfl⟩⟩, B, rfl, rfl, rfl⟩

def Same (n : Nat) (a b : CT) : Prop := (∀ j, j < n → at' b.1 j = at' a.1 j ∧ at' b.2.1 j = at' a.2.1 j) ∧ b.2.2.1 = a.2.2.1 ∧ b.2.2.2.1 = a.2.2.2.1
theorem Same.sw {T : Int} {n : Nat} {a b : CT} (S : Sw T n a) (E : Same n a b) (l1 : b.1.length = 64) (l2 : b.2.1.length = 64) : Sw T n b := by
 obtain ⟨_, _, s3, s4, s5, s6, s7⟩ := S
 obtain ⟨e1, e2, e3⟩ := E
 refine ⟨l1, l2, s3, by rw [e2]; exact s4, fun i j hi hj => ?_, fun j hj => ?_, by rw [e3]; exact s7⟩
 ·unfold vv gd at *
  rw [(e1 i (by omega)).1, (e1 j hj).1]; exact s5 i j hi hj
 ·unfold tt' at *
  rw [(e1 j hj).2]; exact s6 j hj
theorem Same.rv {n : Nat} {a b : CT} (E : Same n a b) {x : Int} {r : Int32} : Rv b 0 n x r ↔ Rv a 0 n x r := by
 obtain ⟨e1, e2, e3⟩ := E
 unfold Rv df vv gd tt'
 rw [e3]
 constructor
 ·rintro (⟨i, i1, i2, i3, i4⟩ | ⟨h1, h2⟩)
  ·rw [(e1 i i2).1] at i3
   rw [(e1 i i2).2] at i4
   exact Or.inl ⟨i, i1, i2, i3, i4⟩
  ·exact Or.inr ⟨fun i i1 i2 => by rw [← (e1 i i2).1]; exact h1 i i1 i2, h2⟩
 ·rintro (⟨i, i1, i2, i3, i4⟩ | ⟨h1, h2⟩)
  ·exact Or.inl ⟨i, i1, i2, by rw [(e1 i i2).1]; exact i3, by rw [(e1 i i2).2]; exact i4⟩
  ·exact Or.inr ⟨fun i i1 i2 => by rw [(e1 i i2).1]; exact h1 i i1 i2, h2⟩
theorem snap_ok {c : CT} {s : CT} {f : FT} {p : PT} {k : KT} {d : DT} {m : MT} {b : BT} {o : Ob} (h : A o = (c, s, f, p, k, d, m, b)) {T : Int} {n : Nat} (S : Sw T n c) (T16 : T ≤ 16) (l1 : s.1.length = 64) (l2 : s.2.1.length = 64) : okP (F5 o) (fun q => ∃ s', A q = ((c.1, c.2.1, c.2.2.1, c.2.2.2.1, 0), s', f, p, k, d, m, b) ∧ s'.1.length = 64 ∧ s'.2.1.length = 64 ∧ Same n c s' ∧ s'.2.2.2.2 = 1) := by
 have n64 := S.2.2.1
 obtain ⟨c1, c2, _⟩ := id S
 unfold F5
 rw [g_curCount h, g_curDefault h]
 have h0 := w_sc h c.2.2.1 c.2.2.2.1
 apply okP.bind
 refine okP.mono (P := fun q => ∃ s', A q = ((c.1, c.2.1, c.2.2.1, c.2.2.2.1, 0), s', f, p, k, d, m, b) ∧ s'.1.length = 64 ∧ s'.2.1.length = 64 ∧ Same n c s' ∧ s'.2.2.2.2 = 1) ?_ (fun q hq => okP.some hq)
 refine okP.loop (fun w : Int32 × Ob => ∃ (i : Nat) (u v : List Int32), w.1.toInt = (i : Int) ∧ i ≤ n ∧ A w.2 = (c, (u, v, c.2.2.1, c.2.2.2.1, s.2.2.2.2), f, p, k, d, m, b) ∧ u.length = 64 ∧ v.length = 64 ∧ ∀ j, j < i → at' u j = at' c.1 j ∧ at' v j = at' c.2.1 j) (fun w => (100 - w.1.toInt).toNat) ⟨0, s.1, s.2.1, rfl, by omega, h0, l1, l2, fun j hj => absurd hj (by omega)⟩ (by show (100 - (0 : Int)).toNat < 4000; decide) ?_
 rintro ⟨x, q⟩ ⟨i, u, v, hx, iN, hq, lu, lv, hc⟩
 simp only at hx hq
 unfold B5_18
 simp only
 refine okP.ite (fun cx => ?_) (fun cx => ?_)
 ·rw [i_lt, g_curCount hq, S.2.2.2.1] at cx
  have ex : (x + 1).toInt = x.toInt + 1 := inc1 (by omega)
  have ti := S.2.2.2.2.2.1 i (by omega)
  rw [g_curVal hq, S.a_v (by omega) hx, Option.bind_some, g_snapVal hq, aset_at hx (by show i < u.length; omega), Option.bind_some, g_curTgt hq, S.a_t (by omega) hx, Option.bind_some, g_snapTgt hq, (b8 ti.1 (by omega)).2, aset_at hx (by show i < v.length; omega), Option.bind_some]
  refine okP.some ⟨⟨i + 1, u.set i (at' c.1 i), v.set i (tt' c i), by simp only; omega, by omega, w_snap hq _ _, ls lu, ls lv, fun j hj => ?_⟩, by simp only; omega⟩
  rw [at_set (by omega), at_set (by omega)]
  by_cases e : j = i
  ·rw [if_pos e, if_pos e, e]; exact ⟨rfl, rfl⟩
  ·rw [if_neg e, if_neg e]; exact hc j (by omega)
 ·rw [i_lt, g_curCount hq, S.2.2.2.1] at cx
  have : i = n := by omega
  subst this
  exact okP.some ⟨(u, v, c.2.2.1, c.2.2.2.1, 1), w_hs hq 1 0, lu, lv, ⟨hc, rfl, rfl⟩, rfl⟩
def LA (f : FT) (p : PT) (k : KT) (d : DT) (m : MT) (b : BT) : Prop := f.2.2.1.length = 256 ∧ (p.1.length = 65 ∧ p.2.length = 65) ∧ (k.1.length = 64 ∧ k.2.1.length = 64) ∧ LD d ∧ (m.1.length = 192 ∧ m.2.1.length = 192) ∧ LS b
theorem lower_ok {c : CT} {s : CT} {f : FT} {p : PT} {k : KT} {d : DT} {m : MT} {b : BT} {o : Ob} (h : A o = (c, s, f, p, k, d, m, b)) {T : Int} {n : Nat} (S : Sw T n c) (n16 : n ≤ 16) (F : Few T n) (l1 : s.1.length = 64) (l2 : s.2.1.length = 64) (La : LA f p k d m b) : okP (F4 o) (fun w => w.1 = c.2.2.1 ∧ ∃ s' f' p' k' d' m' b', A w.2 = ((c.1, c.2.1, c.2.2.1, c.2.2.2.1, 0), s', f', p', k', d', m', b') ∧ Same n c s' ∧ Sw T n s' ∧ s'.2.2.2.2 = 1 ∧ Cde s' n d' m' ∧ LA f' p' k' d' m' b' ∧ f'.1 = f.1 ∧ f'.2.1 = f.2.1) := by
 obtain ⟨La1, La2, La3, La4, La5, La6⟩ := La
 unfold F4
 apply okP.bind
 refine okP.mono (snap_ok h S F.2 l1 l2) ?_
 rintro q1 ⟨s', h1, m1, m2, E, hs⟩
 have S' := E.sw S m1 m2
 apply okP.bind
 refine okP.mono (plan_ok h1 S' n16 La2.1 La2.2) ?_
 rintro q2 ⟨p', h2, P⟩
 apply okP.bind
 refine okP.mono (coll_ok h2 (by omega) S'.2.2.2.1 P La3.1 La3.2) ?_
 rintro q3 ⟨k', K, β, h3, C⟩
 apply okP.bind
 refine okP.mono (build_ok h3 S' F C (by have := C.2.2.2.1; omega) La4 La5 La6) ?_
 rintro q4 ⟨f', d', m', b', h4, Cd, B', f1, f2, f3⟩
 refine okP.some ⟨?_, s', f', p', k', d', m', b', h4, E, S', hs, Cd, ⟨by rw [f3]; exact La1, ⟨P.1, P.2.1⟩, ⟨C.1, C.2.1⟩, Cd.1, ⟨Cd.2.1.1, Cd.2.1.2.1⟩, B'⟩, f1, f2⟩
 rw [g_snapCount h4, E.2.1]
theorem lb_ok {c : CT} {s : CT} {f : FT} {p : PT} {k : KT} {d : DT} {m : MT} {b : BT} {o : Ob} (h : A o = (c, s, f, p, k, d, m, b)) {T : Int} {n : Nat} (S : Sw T n c) (n15 : n ≤ 15) (x : Int32) : okP (F19 o x) (fun r => ∃ j : Nat, r.toInt = (j : Int) ∧ j ≤ n ∧ (∀ i, i < j → vv c i < x.toInt) ∧ ∀ i, j ≤ i → i < n → x.toInt ≤ vv c i) := by
 have z16 : (16 : Int32).toInt = 16 := rfl
 have cc := S.2.2.2.1
 unfold F19
 rw [g_curCount h]
 apply okP.bind
 refine okP.mono (P := fun r => ∃ j : Nat, r.toInt = (j : Int) ∧ j ≤ n ∧ (∀ i, i < j → vv c i < x.toInt) ∧ ∀ i, j ≤ i → i < n → x.toInt ≤ vv c i) ?_ (fun r hr => okP.some hr)
 refine okP.loop (fun w : Int32 × Int32 × Int32 => ∃ lo hi st : Nat, w.1.toInt = (lo : Int) ∧ w.2.1.toInt = (hi : Int) ∧ w.2.2.toInt = (st : Int) ∧ lo ≤ hi ∧ hi ≤ n ∧ hi - lo + st ≤ n ∧ (∀ i, i < lo → vv c i < x.toInt) ∧ ∀ i, hi ≤ i → i < n → x.toInt ≤ vv c i) (fun w => (100 - w.2.2.toInt).toNat) ⟨0, n, 0, rfl, cc, rfl, by omega, by omega, by omega, fun i hi => absurd hi (by omega), fun i h1 h2 => absurd h2 (by omega)⟩ (by show (100 - (0 : Int)).toNat < 4000; decide) ?_
 rintro ⟨a, e, z⟩ ⟨lo, hi, st, ha, he, hz, lh, hn, ms, H1, H2⟩
 simp only at ha he hz
 unfold B19_10
 simp only
 rw [if_pos (by rw [i_lt, z16]; omega)]
 refine okP.ite (fun c1 => ?_) (fun c1 => ?_)
 ·rw [i_lt] at c1
  have es : (a + e).toInt = ((lo + hi : Nat) : Int) := by rw [i_add (by omega) (by omega)]; omega
  have em := ush1 es
  generalize XT.ushr (a + e) (1 : Int32) = mv at em ⊢
  obtain ⟨mid, emid⟩ : ∃ mid, mid = (lo + hi) / 2 := ⟨_, rfl⟩
  rw [← emid] at em
  have ez : (z + 1).toInt = z.toInt + 1 := inc1 (by omega)
  have em1 : (mv + 1).toInt = mv.toInt + 1 := inc1 (by omega)
  rw [g_curVal h, S.a_v (j := mid) (by omega) em, Option.bind_some]
  have vm : vv c mid = (at' c.1 mid).toInt := rfl
  by_cases c2 : at' c.1 mid < x
  ·rw [if_pos c2, if_pos c2]
   rw [i_lt] at c2
   refine okP.some ⟨⟨mid + 1, hi, st + 1, by simp only; omega, he, by simp only; omega, by omega, hn, by omega, fun i hi' => ?_, H2⟩, by simp only; omega⟩
   rcases Nat.lt_or_ge i mid with w | w
   ·have := S.2.2.2.2.1 i mid w (by omega); omega
   ·have : i = mid := by omega
    subst this; omega
  ·rw [if_neg c2, if_neg c2]
   rw [i_lt] at c2
   refine okP.some ⟨⟨lo, mid, st + 1, ha, em, by simp only; omega, by omega, by omega, by omega, H1, fun i i1 i2 => ?_⟩, by simp only; omega⟩
   rcases Nat.lt_or_ge mid i with w | w
   ·have := S.2.2.2.2.1 mid i w i2; omega
   ·have : i = mid := by omega
    subst this; omega
 ·rw [i_lt] at c1
  have : lo = hi := by omega
  subst this
  exact okP.some ⟨lo, ha, hn, H1, H2⟩
theorem io_ok {c : CT} {s : CT} {f : FT} {p : PT} {k : KT} {d : DT} {m : MT} {b : BT} {o : Ob} (h : A o = (c, s, f, p, k, d, m, b)) {T : Int} {n : Nat} (S : Sw T n c) (n15 : n ≤ 15) (x : Int32) : okP (F18 o x) (fun r => (r = -1 ∧ ∀ i, i < n → vv c i ≠ x.toInt) ∨ ∃ j : Nat, r.toInt = (j : Int) ∧ j < n ∧ vv c j = x.toInt) := by
 unfold F18
 apply okP.bind
 refine okP.mono (lb_ok h S n15 x) ?_
 rintro r ⟨j, hj, jn, H1, H2⟩
 have no : (∀ w : j < n, vv c j ≠ x.toInt) → ∀ i, i < n → vv c i ≠ x.toInt := by
  intro w i hi e
  rcases Nat.lt_trichotomy i j with q | q | q
  ·have := H1 i q; omega
  ·subst q; exact w hi e
  ·have a1 := S.2.2.2.2.1 j i q hi
   have a2 := H2 j (Nat.le_refl _) (by omega)
   omega
 refine okP.ite (fun c1 => ?_) (fun c1 => ?_)
 ·rw [i_lt, g_curCount h, S.2.2.2.1] at c1
  rw [g_curVal h, S.a_v (by omega) hj, Option.bind_some]
  refine okP.ite (fun e => okP.some (Or.inr ⟨j, hj, by omega, ?_⟩)) (fun e => okP.some (Or.inl ⟨rfl, no (fun _ w => e (i_eq.2 w))⟩))
  rw [← e]; rfl
 ·rw [i_lt, g_curCount h, S.2.2.2.1] at c1
  exact okP.some (Or.inl ⟨rfl, no (fun w => absurd w (by omega))⟩)
theorem look_ok {c : CT} {s : CT} {f : FT} {p : PT} {k : KT} {d : DT} {m : MT} {b : BT} {o : Ob} (h : A o = (c, s, f, p, k, d, m, b)) {T : Int} {n : Nat} (S : Sw T n c) (n15 : n ≤ 15) (x : Int32) : okP (F17 o x) (fun r => Rv c 0 n x.toInt r) := by
 have z0 : (0 : Int32).toInt = 0 := rfl
 unfold F17
 apply okP.bind
 refine okP.mono (io_ok h S n15 x) ?_
 rintro r (⟨r1, no⟩ | ⟨j, hj, jn, e⟩)
 ·rw [r1, if_pos (by decide), g_curDefault h]
  exact okP.some (Or.inr ⟨fun i _ hi => no i hi, rfl⟩)
 ·rw [if_neg (by rw [i_lt, z0]; omega), g_curTgt h, S.a_t jn hj, Option.bind_some]
  exact okP.some (Or.inl ⟨j, by omega, jn, e, rfl⟩)
theorem w_cur {c : CT} {s : CT} {f : FT} {p : PT} {k : KT} {d : DT} {m : MT} {b : BT} {o : Ob} (h : A o = (c, s, f, p, k, d, m, b)) (u v : List Int32) : A (s_curTgt (s_curVal o u) v) = ((u, v, c.2.2), s, f, p, k, d, m, b) := by
 have : A (s_curTgt (s_curVal o u) v) = ((u, v, (A o).1.2.2), (A o).2) := by dsimp only [A, f_opRet, f_opLess, f_opEq, f_opTable, f_opBits, f_maxCap, f_maxTargets, f_maxSteps, f_tableSpanPerCase, f_maxTableSpan, f_maxBitSpan, f_maxBitTargets, f_unsignedMask, f_maxInt, f_curVal, f_curTgt, f_snapVal, f_snapTgt, f_bestCost, f_bestCut, f_clStart, f_clEnd, f_opc, f_argA, f_argB, f_argC, f_argD, f_tablePool, f_maskPool, f_maskTarget, f_stLo, f_stHi, f_stParent, f_stSlot, f_cap, f_targets, f_curCount, f_curDefault, f_dirty, f_snapCount, f_snapDefault, f_hasSnap, f_clCount, f_codeLen, f_rootPc, f_tableUsed, f_maskUsed, f_sp, s_opRet, s_opLess, s_opEq, s_opTable, s_opBits, s_maxCap, s_maxTargets, s_maxSteps, s_tableSpanPerCase, s_maxTableSpan, s_maxBitSpan, s_maxBitTargets, s_unsignedMask, s_maxInt, s_curVal, s_curTgt, s_snapVal, s_snapTgt, s_bestCost, s_bestCut, s_clStart, s_clEnd, s_opc, s_argA, s_argB, s_argC, s_argD, s_tablePool, s_maskPool, s_maskTarget, s_stLo, s_stHi, s_stParent, s_stSlot, s_cap, s_targets, s_curCount, s_curDefault, s_dirty, s_snapCount, s_snapDefault, s_hasSnap, s_clCount, s_codeLen, s_rootPc, s_tableUsed, s_maskUsed, s_sp]
 rw [this, h]
theorem w_cnt {c : CT} {s : CT} {f : FT} {p : PT} {k : KT} {d : DT} {m : MT} {b : BT} {o : Ob} (h : A o = (c, s, f, p, k, d, m, b)) (u v : Int32) : A (s_dirty (s_curCount o u) v) = ((c.1, c.2.1, u, c.2.2.2.1, v), s, f, p, k, d, m, b) := by
 have : A (s_dirty (s_curCount o u) v) = (((A o).1.1, (A o).1.2.1, u, (A o).1.2.2.2.1, v), (A o).2) := by dsimp only [A, f_opRet, f_opLess, f_opEq, f_opTable, f_opBits, f_maxCap, f_maxTargets, f_maxSteps, f_tableSpanPerCase, f_maxTableSpan, f_maxBitSpan, f_maxBitTargets, f_unsignedMask, f_maxInt, f_curVal, f_curTgt, f_snapVal, f_snapTgt, f_bestCost, f_bestCut, f_clStart, f_clEnd, f_opc, f_argA, f_argB, f_argC, f_argD, f_tablePool, f_maskPool, f_maskTarget, f_stLo, f_stHi, f_stParent, f_stSlot, f_cap, f_targets, f_curCount, f_curDefault, f_dirty, f_snapCount, f_snapDefault, f_hasSnap, f_clCount, f_codeLen, f_rootPc, f_tableUsed, f_maskUsed, f_sp, s_opRet, s_opLess, s_opEq, s_opTable, s_opBits, s_maxCap, s_maxTargets, s_maxSteps, s_tableSpanPerCase, s_maxTableSpan, s_maxBitSpan, s_maxBitTargets, s_unsignedMask, s_maxInt, s_curVal, s_curTgt, s_snapVal, s_snapTgt, s_bestCost, s_bestCut, s_clStart, s_clEnd, s_opc, s_argA, s_argB, s_argC, s_argD, s_tablePool, s_maskPool, s_maskTarget, s_stLo, s_stHi, s_stParent, s_stSlot, s_cap, s_targets, s_curCount, s_curDefault, s_dirty, s_snapCount, s_snapDefault, s_hasSnap, s_clCount, s_codeLen, s_rootPc, s_tableUsed, s_maskUsed, s_sp]
 rw [this, h]
theorem w_def {c : CT} {s : CT} {f : FT} {p : PT} {k : KT} {d : DT} {m : MT} {b : BT} {o : Ob} (h : A o = (c, s, f, p, k, d, m, b)) (u v : Int32) : A (s_dirty (s_curDefault o u) v) = ((c.1, c.2.1, c.2.2.1, u, v), s, f, p, k, d, m, b) := by
 have : A (s_dirty (s_curDefault o u) v) = (((A o).1.1, (A o).1.2.1, (A o).1.2.2.1, u, v), (A o).2) := by dsimp only [A, f_opRet, f_opLess, f_opEq, f_opTable, f_opBits, f_maxCap, f_maxTargets, f_maxSteps, f_tableSpanPerCase, f_maxTableSpan, f_maxBitSpan, f_maxBitTargets, f_unsignedMask, f_maxInt, f_curVal, f_curTgt, f_snapVal, f_snapTgt, f_bestCost, f_bestCut, f_clStart, f_clEnd, f_opc, f_argA, f_argB, f_argC, f_argD, f_tablePool, f_maskPool, f_maskTarget, f_stLo, f_stHi, f_stParent, f_stSlot, f_cap, f_targets, f_curCount, f_curDefault, f_dirty, f_snapCount, f_snapDefault, f_hasSnap, f_clCount, f_codeLen, f_rootPc, f_tableUsed, f_maskUsed, f_sp, s_opRet, s_opLess, s_opEq, s_opTable, s_opBits, s_maxCap, s_maxTargets, s_maxSteps, s_tableSpanPerCase, s_maxTableSpan, s_maxBitSpan, s_maxBitTargets, s_unsignedMask, s_maxInt, s_curVal, s_curTgt, s_snapVal, s_snapTgt, s_bestCost, s_bestCut, s_clStart, s_clEnd, s_opc, s_argA, s_argB, s_argC, s_argD, s_tablePool, s_maskPool, s_maskTarget, s_stLo, s_stHi, s_stParent, s_stSlot, s_cap, s_targets, s_curCount, s_curDefault, s_dirty, s_snapCount, s_snapDefault, s_hasSnap, s_clCount, s_codeLen, s_rootPc, s_tableUsed, s_maskUsed, s_sp]
 rw [this, h]
def Ins (c c' : CT) (n j : Nat) (x t : Int32) : Prop := (∀ i, i < j → at' c'.1 i = at' c.1 i ∧ at' c'.2.1 i = at' c.2.1 i) ∧ (at' c'.1 j = x ∧ at' c'.2.1 j = t) ∧ ∀ i, j < i → i ≤ n → at' c'.1 i = at' c.1 (i - 1) ∧ at' c'.2.1 i = at' c.2.1 (i - 1)
theorem Ins.sw {T : Int} {n j : Nat} {c c' : CT} {x t : Int32} (S : Sw T n c) (I : Ins c c' n j x t) (jn : j ≤ n) (n63 : n < 64) (H1 : ∀ i, i < j → vv c i < x.toInt) (H2 : ∀ i, j ≤ i → i < n → x.toInt < vv c i) (t0 : 0 ≤ t.toInt) (t1 : t.toInt < T) (l1 : c'.1.length = 64) (l2 : c'.2.1.length = 64) (hc : c'.2.2.1.toInt = ((n + 1 : Nat) : Int)) (hd : c'.2.2.2.1 = c.2.2.2.1) : Sw T (n + 1) c' := by
 obtain ⟨I1, I2, I3⟩ := I
 have vE : ∀ i, i ≤ n → vv c' i = if i < j then vv c i else if i = j then x.toInt else vv c (i - 1) := by
  intro i hi
  unfold vv gd
  by_cases w : i < j
  ·rw [if_pos w, (I1 i w).1]
  ·rw [if_neg w]
   by_cases w2 : i = j
   ·rw [if_pos w2, w2, I2.1]
   ·rw [if_neg w2, (I3 i (by omega) hi).1]
 refine ⟨l1, l2, by omega, hc, fun i i' hi hi' => ?_, fun i hi => ?_, by rw [hd]; exact S.2.2.2.2.2.2⟩
 ·have so := S.2.2.2.2.1
  rw [vE i (by omega), vE i' (by omega)]
  by_cases a1 : i < j
  ·rw [if_pos a1]
   by_cases a2 : i' < j
   ·rw [if_pos a2]; exact so i i' hi (by omega)
   ·rw [if_neg a2]
    by_cases a3 : i' = j
    ·rw [if_pos a3]; exact H1 i a1
    ·rw [if_neg a3]; exact so i (i' - 1) (by omega) (by omega)
  ·rw [if_neg a1, if_neg (show ¬ i' < j by omega), if_neg (show ¬ i' = j by omega)]
   by_cases a3 : i = j
   ·rw [if_pos a3]; exact H2 (i' - 1) (by omega) (by omega)
   ·rw [if_neg a3]; exact so (i - 1) (i' - 1) (by omega) (by omega)
 ·have ta := S.2.2.2.2.2.1
  unfold tt' at *
  rcases Nat.lt_trichotomy i j with w | w | w
  ·rw [(I1 i w).2]; exact ta i (by omega)
  ·rw [w, I2.2]; exact ⟨t0, t1⟩
  ·rw [(I3 i w (by omega)).2]; exact ta (i - 1) (by omega)
theorem Ins.rv {n j : Nat} {c c' : CT} {x t : Int32} (I : Ins c c' n j x t) (jn : j ≤ n) (hd : c'.2.2.2.1 = c.2.2.2.1) (nx : ∀ i, i < n → vv c i ≠ x.toInt) {y : Int} {r : Int32} : Rv c' 0 (n + 1) y r ↔ if y = x.toInt then r = t else Rv c 0 n y r := by
 obtain ⟨I1, I2, I3⟩ := I
 have key : (∃ i, 0 ≤ i ∧ i < n + 1 ∧ vv c' i = y ∧ r = tt' c' i) ↔ (y = x.toInt ∧ r = t) ∨ ∃ i, 0 ≤ i ∧ i < n ∧ vv c i = y ∧ r = tt' c i := by
  unfold vv gd tt'
  constructor
  ·rintro ⟨i, i1, i2, i3, i4⟩
   rcases Nat.lt_trichotomy i j with w | w | w
   ·rw [(I1 i w).1] at i3
    rw [(I1 i w).2] at i4
    exact Or.inr ⟨i, i1, by omega, i3, i4⟩
   ·rw [w, I2.1] at i3
    rw [w, I2.2] at i4
    exact Or.inl ⟨i3.symm, i4⟩
   ·rw [(I3 i w (by omega)).1] at i3
    rw [(I3 i w (by omega)).2] at i4
    exact Or.inr ⟨i - 1, by omega, by omega, i3, i4⟩
  ·rintro (⟨e1, e2⟩ | ⟨i, i1, i2, i3, i4⟩)
   ·exact ⟨j, by omega, by omega, by rw [I2.1]; exact e1.symm, by rw [I2.2]; exact e2⟩
   ·rcases Nat.lt_or_ge i j with w | w
    ·exact ⟨i, i1, by omega, by rw [(I1 i w).1]; exact i3, by rw [(I1 i w).2]; exact i4⟩
    ·exact ⟨i + 1, by omega, by omega, by rw [(I3 (i + 1) (by omega) (by omega)).1]; exact i3, by rw [(I3 (i + 1) (by omega) (by omega)).2]; exact i4⟩
 have no : (∀ i, 0 ≤ i → i < n + 1 → vv c' i ≠ y) ↔ y ≠ x.toInt ∧ ∀ i, 0 ≤ i → i < n → vv c i ≠ y := by
  unfold vv gd
  constructor
  ·intro w
   refine ⟨fun e => w j (by omega) (by omega) (by rw [I2.1]; exact e.symm), fun i i1 i2 i3 => ?_⟩
   rcases Nat.lt_or_ge i j with q | q
   ·exact w i i1 (by omega) (by rw [(I1 i q).1]; exact i3)
   ·exact w (i + 1) (by omega) (by omega) (by rw [(I3 (i + 1) (by omega) (by omega)).1]; exact i3)
  ·rintro ⟨w1, w2⟩ i i1 i2 i3
   rcases Nat.lt_trichotomy i j with w | w | w
   ·rw [(I1 i w).1] at i3; exact w2 i i1 (by omega) i3
   ·rw [w, I2.1] at i3; exact w1 i3.symm
   ·rw [(I3 i w (by omega)).1] at i3; exact w2 (i - 1) (by omega) (by omega) i3
 have dd' : df c' = df c := hd
 unfold Rv
 rw [key, no, dd']
 by_cases e : y = x.toInt
 ·rw [if_pos e]
  constructor
  ·rintro ((⟨_, z⟩ | ⟨i, _, i2, i3, _⟩) | ⟨⟨z, _⟩, _⟩)
   ·exact z
   ·exact absurd (i3.trans e) (nx i i2)
   ·exact absurd e z
  ·intro z; exact Or.inl (Or.inl ⟨e, z⟩)
 ·rw [if_neg e]
  constructor
  ·rintro ((⟨z, _⟩ | z) | ⟨⟨_, z⟩, z2⟩)
   ·exact absurd z e
   ·exact Or.inl z
   ·exact Or.inr ⟨z, z2⟩
  ·rintro (z | ⟨z, z2⟩)
   ·exact Or.inl (Or.inr z)
   ·exact Or.inr ⟨⟨e, z⟩, z2⟩
theorem add_ok {c : CT} {s : CT} {f : FT} {p : PT} {k : KT} {d : DT} {m : MT} {b : BT} {o : Ob} (h : A o = (c, s, f, p, k, d, m, b)) {T : Int} {n : Nat} (S : Sw T n c) (T16 : T ≤ 16) (n15 : n ≤ 14) (hT : f.2.1.toInt = T) (x t : Int32) : okP (F20 o x t) (fun w => (w = (3, o) ∧ ¬ (0 ≤ t.toInt ∧ t.toInt < T)) ∨ ((0 ≤ t.toInt ∧ t.toInt < T) ∧ ((w = (2, o) ∧ ∃ i, i < n ∧ vv c i = x.toInt) ∨ ((∀ i, i < n → vv c i ≠ x.toInt) ∧ ((w = (1, o) ∧ f.1.toInt ≤ n) ∨ ((n : Int) < f.1.toInt ∧ w.1 = 0 ∧ ∃ c' j, A w.2 = (c', s, f, p, k, d, m, b) ∧ j ≤ n ∧ Ins c c' n j x t ∧ Sw T (n + 1) c' ∧ c'.2.2.2.1 = c.2.2.2.1 ∧ c'.2.2.2.2 = 1)))))) := by
 have z0 : (0 : Int32).toInt = 0 := rfl
 have z1 : (1 : Int32).toInt = 1 := rfl
 have zm : (-1 : Int32).toInt = -1 := rfl
 obtain ⟨l1, l2, n64, cc, so, ta, de⟩ := id S
 unfold F20
 refine okP.ite (fun c1 => okP.some (Or.inl ⟨rfl, by rw [i_lt, z0] at c1; omega⟩)) (fun c1 => ?_)
 rw [g_targets h]
 refine okP.ite (fun c2 => ?_) (fun c2 => okP.some (Or.inl ⟨rfl, by rw [i_lt] at c2; omega⟩))
 rw [i_lt, z0] at c1
 rw [i_lt, hT] at c2
 have tt0 : 0 ≤ t.toInt ∧ t.toInt < T := ⟨by omega, c2⟩
 refine okP.mono (P := fun w => ((w = (2, o) ∧ ∃ i, i < n ∧ vv c i = x.toInt) ∨ ((∀ i, i < n → vv c i ≠ x.toInt) ∧ ((w = (1, o) ∧ f.1.toInt ≤ n) ∨ ((n : Int) < f.1.toInt ∧ w.1 = 0 ∧ ∃ c' j, A w.2 = (c', s, f, p, k, d, m, b) ∧ j ≤ n ∧ Ins c c' n j x t ∧ Sw T (n + 1) c' ∧ c'.2.2.2.1 = c.2.2.2.1 ∧ c'.2.2.2.2 = 1))))) ?_ (fun w hw => Or.inr ⟨tt0, hw⟩)
 apply okP.bind
 refine okP.mono (lb_ok h S (by omega) x) ?_
 rintro r ⟨j, hj, jn, H1, H2⟩
 have no : (∀ w : j < n, vv c j ≠ x.toInt) → ∀ i, i < n → vv c i ≠ x.toInt := by
  intro w i hi e
  rcases Nat.lt_trichotomy i j with q | q | q
  ·have := H1 i q; omega
  ·subst q; exact w hi e
  ·have a1 := so j i q hi
   have a2 := H2 j (Nat.le_refl _) (by omega)
   omega
 have go : (∀ w : j < n, vv c j ≠ x.toInt) → okP (J20_40 o x t r) (fun w => ((w = (2, o) ∧ ∃ i, i < n ∧ vv c i = x.toInt) ∨ ((∀ i, i < n → vv c i ≠ x.toInt) ∧ ((w = (1, o) ∧ f.1.toInt ≤ n) ∨ ((n : Int) < f.1.toInt ∧ w.1 = 0 ∧ ∃ c' j, A w.2 = (c', s, f, p, k, d, m, b) ∧ j ≤ n ∧ Ins c c' n j x t ∧ Sw T (n + 1) c' ∧ c'.2.2.2.1 = c.2.2.2.1 ∧ c'.2.2.2.2 = 1))))) := by
  intro nj
  have nx := no nj
  have H2' : ∀ i, j ≤ i → i < n → x.toInt < vv c i := by
   intro i i1 i2
   have a1 := H2 i i1 i2
   have a2 := nx i i2
   omega
  unfold J20_40
  rw [g_curCount h, g_cap h]
  refine okP.ite (fun c3 => ?_) (fun c3 => okP.some (Or.inr ⟨nx, Or.inl ⟨rfl, by rw [i_lt, cc] at c3; omega⟩⟩))
  rw [i_lt, cc] at c3
  apply okP.bind
  refine okP.mono (P := fun q => ∃ u v, A q = ((u, v, c.2.2), s, f, p, k, d, m, b) ∧ u.length = 64 ∧ v.length = 64 ∧ (∀ i, i < j → at' u i = at' c.1 i ∧ at' v i = at' c.2.1 i) ∧ ∀ i, j < i → i ≤ n → at' u i = at' c.1 (i - 1) ∧ at' v i = at' c.2.1 (i - 1)) ?_ ?_
  ·refine okP.loop (fun w : Int32 × Ob => ∃ (i : Nat) (u v : List Int32), w.1.toInt = (i : Int) ∧ j ≤ i ∧ i ≤ n ∧ A w.2 = ((u, v, c.2.2), s, f, p, k, d, m, b) ∧ u.length = 64 ∧ v.length = 64 ∧ (∀ a, a ≤ i → a < n → at' u a = at' c.1 a ∧ at' v a = at' c.2.1 a) ∧ ∀ a, i < a → a ≤ n → at' u a = at' c.1 (a - 1) ∧ at' v a = at' c.2.1 (a - 1)) (fun w => w.1.toInt.toNat) ⟨n, c.1, c.2.1, cc, jn, Nat.le_refl _, h, l1, l2, fun a _ _ => ⟨rfl, rfl⟩, fun a a1 a2 => absurd a2 (by omega)⟩ (by show c.2.2.1.toInt.toNat < 4000; omega) ?_
   rintro ⟨y, q⟩ ⟨i, u, v, hy, ji, iN, hq, lu, lv, U1, U2⟩
   simp only at hy hq
   unfold B20_59
   simp only
   refine okP.ite (fun c4 => ?_) (fun c4 => ?_)
   ·rw [i_lt] at c4
    have e1 : (y - 1).toInt = ((i - 1 : Nat) : Int) := by rw [i_sub (by omega) (by omega), z1]; omega
    have e2 : (y + -1).toInt = ((i - 1 : Nat) : Int) := by rw [i_add (by omega) (by omega), zm]; omega
    generalize y - 1 = y1 at e1 ⊢
    generalize y + -1 = y2 at e2 ⊢
    have ti := ta (i - 1) (by omega)
    have ut := (U1 (i - 1) (by omega) (by omega)).2
    have ut' : at' v (i - 1) = tt' c (i - 1) := ut
    rw [g_curVal hq, ag e1 (by show i - 1 < u.length; omega), Option.bind_some, aset_at hy (by show i < u.length; omega), Option.bind_some, g_curTgt hq, ag e1 (by show i - 1 < v.length; omega), Option.bind_some]
    simp only
    rw [ut', (b8 ti.1 (by omega)).2, aset_at hy (by omega), Option.bind_some]
    refine okP.some ⟨⟨i - 1, u.set i (at' u (i - 1)), v.set i (tt' c (i - 1)), e2, by omega, by omega, w_cur hq _ _, ls lu, ls lv, fun a a1 a2 => ?_, fun a a1 a2 => ?_⟩, by simp only; omega⟩
    ·rw [at_set (by omega), at_set (by omega), if_neg (by omega), if_neg (by omega)]
     exact U1 a (by omega) a2
    ·rw [at_set (by omega), at_set (by omega)]
     by_cases e : a = i
     ·rw [if_pos e, if_pos e, e]
      exact ⟨(U1 (i - 1) (by omega) (by omega)).1, rfl⟩
     ·rw [if_neg e, if_neg e]
      exact U2 a (by omega) a2
   ·rw [i_lt] at c4
    have : i = j := by omega
    subst this
    exact okP.some ⟨u, v, hq, lu, lv, fun a ha => U1 a (by omega) (by omega), U2⟩
  ·rintro q ⟨u, v, hq, lu, lv, U1, U2⟩
   have ec : (c.2.2.1 + 1).toInt = c.2.2.1.toInt + 1 := inc1 (by omega)
   rw [g_curVal hq, aset_at hj (by show j < u.length; omega), Option.bind_some, g_curTgt hq, (b8 tt0.1 (by omega)).1, aset_at hj (by show j < v.length; omega), Option.bind_some, g_curCount hq]
   simp only
   generalize hN : c.2.2.1 + 1 = N at ec ⊢
   have hw := w_cnt (w_cur hq (u.set j x) (v.set j t)) N 1
   simp only at hw
   have I : Ins c (u.set j x, v.set j t, N, c.2.2.2.1, 1) n j x t := by
    refine ⟨fun i hi => ?_, ⟨?_, ?_⟩, fun i i1 i2 => ?_⟩
    ·simp only
     rw [at_set (by omega), at_set (by omega), if_neg (by omega), if_neg (by omega)]
     exact U1 i hi
    ·simp only; rw [at_set (by omega), if_pos rfl]
    ·simp only; rw [at_set (by omega), if_pos rfl]
    ·simp only
     rw [at_set (by omega), at_set (by omega), if_neg (by omega), if_neg (by omega)]
     exact U2 i i1 i2
   exact okP.some (Or.inr ⟨nx, Or.inr ⟨by omega, rfl, _, j, hw, jn, I, I.sw S jn (by omega) H1 H2' tt0.1 tt0.2 (ls lu) (ls lv) (by simp only; omega) rfl, rfl, rfl⟩⟩)
 refine okP.ite (fun c3 => ?_) (fun c3 => ?_)
 ·rw [i_lt, g_curCount h, cc] at c3
  rw [g_curVal h, S.a_v (by omega) hj, Option.bind_some]
  refine okP.ite (fun e => okP.some (Or.inl ⟨rfl, j, by omega, by rw [← e]; rfl⟩)) (fun e => go (fun _ w => e (i_eq.2 w)))
 ·rw [i_lt, g_curCount h, cc] at c3
  exact go (fun w => absurd w (by omega))

theorem Rv.det {T : Int} {n : Nat} {s : CT} (S : Sw T n s) {x : Int} {r r' : Int32} (h : Rv s 0 n x r) (h' : Rv s 0 n x r') : r = r' := by
 rcases h with ⟨i, i1, i2, i3, i4⟩ | ⟨h1, h2⟩
 ·rcases h' with ⟨j, j1, j2, j3, j4⟩ | ⟨h1', h2'⟩
  ·have := vv_inj S i2 j2 (i3.trans j3.symm)
   rw [i4, j4, this]
  ·exact absurd i3 (h1' i i1 i2)
 ·rcases h' with ⟨j, j1, j2, j3, j4⟩ | ⟨h1', h2'⟩
  ·exact absurd j3 (h1 j j1 j2)
  ·rw [h2, h2']
theorem Rv.rng {T : Int} {n : Nat} {s : CT} (S : Sw T n s) {x : Int} {r : Int32} (h : Rv s 0 n x r) : 0 ≤ r.toInt ∧ r.toInt < T := by
 rcases h with ⟨i, i1, i2, i3, i4⟩ | ⟨h1, h2⟩
 ·rw [i4]; exact S.2.2.2.2.2.1 i i2
 ·rw [h2]; exact S.2.2.2.2.2.2
def Rem (c c' : CT) (n j : Nat) : Prop := (∀ i, i < j → at' c'.1 i = at' c.1 i ∧ at' c'.2.1 i = at' c.2.1 i) ∧ ∀ i, j ≤ i → i + 1 < n → at' c'.1 i = at' c.1 (i + 1) ∧ at' c'.2.1 i = at' c.2.1 (i + 1)
theorem Rem.sw {T : Int} {n j : Nat} {c c' : CT} (S : Sw T (n + 1) c) (I : Rem c c' (n + 1) j) (l1 : c'.1.length = 64) (l2 : c'.2.1.length = 64) (hc : c'.2.2.1.toInt = (n : Nat)) (hd : c'.2.2.2.1 = c.2.2.2.1) : Sw T n c' := by
 obtain ⟨I1, I2⟩ := I
 have so := S.2.2.2.2.1
 have vE : ∀ i, i < n → vv c' i = if i < j then vv c i else vv c (i + 1) := by
  intro i hi
  unfold vv gd
  by_cases w : i < j
  ·rw [if_pos w, (I1 i w).1]
  ·rw [if_neg w, (I2 i (by omega) (by omega)).1]
 refine ⟨l1, l2, by have := S.2.2.1; omega, hc, fun i i' hi hi' => ?_, fun i hi => ?_, by rw [hd]; exact S.2.2.2.2.2.2⟩
 ·rw [vE i (by omega), vE i' hi']
  by_cases a1 : i < j
  ·rw [if_pos a1]
   split
   ·exact so i i' hi (by omega)
   ·exact so i (i' + 1) (by omega) (by omega)
  ·rw [if_neg a1, if_neg (by omega)]
   exact so (i + 1) (i' + 1) (by omega) (by omega)
 ·have ta := S.2.2.2.2.2.1
  unfold tt' at *
  by_cases w : i < j
  ·rw [(I1 i w).2]; exact ta i (by omega)
  ·rw [(I2 i (by omega) (by omega)).2]; exact ta (i + 1) (by omega)
theorem Rem.rv {T : Int} {n j : Nat} {c c' : CT} (S : Sw T (n + 1) c) (I : Rem c c' (n + 1) j) (jn : j < n + 1) (hd : c'.2.2.2.1 = c.2.2.2.1) {y : Int} {r : Int32} : Rv c' 0 n y r ↔ if y = vv c j then r = df c else Rv c 0 (n + 1) y r := by
 obtain ⟨I1, I2⟩ := I
 have key : ∀ (Q : Int → Int32 → Prop), (∃ i, i < n ∧ Q (vv c' i) (tt' c' i)) ↔ ∃ i, i < n + 1 ∧ i ≠ j ∧ Q (vv c i) (tt' c i) := by
  intro Q
  unfold vv gd tt'
  constructor
  ·rintro ⟨i, i1, i2⟩
   by_cases w : i < j
   ·rw [(I1 i w).1, (I1 i w).2] at i2
    exact ⟨i, by omega, by omega, i2⟩
   ·rw [(I2 i (by omega) (by omega)).1, (I2 i (by omega) (by omega)).2] at i2
    exact ⟨i + 1, by omega, by omega, i2⟩
  ·rintro ⟨i, i1, i2, i3⟩
   by_cases w : i < j
   ·exact ⟨i, by omega, by rw [(I1 i w).1, (I1 i w).2]; exact i3⟩
   ·obtain ⟨i', e⟩ : ∃ i', i = i' + 1 := ⟨i - 1, by omega⟩
    subst e
    exact ⟨i', by omega, by rw [(I2 i' (by omega) (by omega)).1, (I2 i' (by omega) (by omega)).2]; exact i3⟩
 have k1 : (∃ i, 0 ≤ i ∧ i < n ∧ vv c' i = y ∧ r = tt' c' i) ↔ ∃ i, i < n + 1 ∧ i ≠ j ∧ vv c i = y ∧ r = tt' c i := by
  have := key (fun v t => v = y ∧ r = t)
  constructor
  ·rintro ⟨i, _, i2⟩; exact this.1 ⟨i, i2⟩
  ·intro w
   obtain ⟨i, i2⟩ := this.2 w
   exact ⟨i, by omega, i2⟩
 have k2 : (∀ i, 0 ≤ i → i < n → vv c' i ≠ y) ↔ ∀ i, i < n + 1 → i ≠ j → vv c i ≠ y := by
  have := key (fun v _ => v = y)
  constructor
  ·intro w i i1 i2 i3
   obtain ⟨i', a1, a2⟩ := this.2 ⟨i, i1, i2, i3⟩
   exact w i' (by omega) a1 a2
  ·intro w i _ i2 i3
   obtain ⟨i', a1, a2, a3⟩ := this.1 ⟨i, i2, i3⟩
   exact w i' a1 a2 a3
 have dd' : df c' = df c := hd
 unfold Rv
 rw [k1, k2, dd']
 by_cases e : y = vv c j
 ·rw [if_pos e]
  have un : ∀ i, i < n + 1 → i ≠ j → vv c i ≠ y := fun i i1 i2 i3 => i2 (vv_inj S i1 jn (i3.trans e))
  constructor
  ·rintro (⟨i, i1, i2, i3, _⟩ | ⟨_, z⟩)
   ·exact absurd i3 (un i i1 i2)
   ·exact z
  ·intro z; exact Or.inr ⟨un, z⟩
 ·rw [if_neg e]
  constructor
  ·rintro (⟨i, i1, i2, i3, i4⟩ | ⟨z1, z2⟩)
   ·exact Or.inl ⟨i, by omega, i1, i3, i4⟩
   ·refine Or.inr ⟨fun i _ i2 i3 => ?_, z2⟩
    by_cases w : i = j
    ·subst w; exact e i3.symm
    ·exact z1 i i2 w i3
  ·rintro (⟨i, i1, i2, i3, i4⟩ | ⟨z1, z2⟩)
   ·exact Or.inl ⟨i, i2, fun w => by subst w; exact e i3.symm, i3, i4⟩
   ·exact Or.inr ⟨fun i i1 _ => z1 i (by omega) i1, z2⟩
theorem rem_ok {c : CT} {s : CT} {f : FT} {p : PT} {k : KT} {d : DT} {m : MT} {b : BT} {o : Ob} (h : A o = (c, s, f, p, k, d, m, b)) {T : Int} {n : Nat} (S : Sw T n c) (T16 : T ≤ 16) (n15 : n ≤ 15) (x : Int32) : okP (F33 o x) (fun w => (w = (4, o) ∧ ∀ i, i < n → vv c i ≠ x.toInt) ∨ (w.1 = 0 ∧ ∃ c' j n', n = n' + 1 ∧ A w.2 = (c', s, f, p, k, d, m, b) ∧ j < n ∧ vv c j = x.toInt ∧ Rem c c' n j ∧ Sw T n' c' ∧ c'.2.2.2.1 = c.2.2.2.1 ∧ c'.2.2.2.2 = 1)) := by
 have z0 : (0 : Int32).toInt = 0 := rfl
 have z1 : (1 : Int32).toInt = 1 := rfl
 obtain ⟨l1, l2, n64, cc, so, ta, de⟩ := id S
 unfold F33
 apply okP.bind
 refine okP.mono (io_ok h S n15 x) ?_
 rintro r (⟨r1, no⟩ | ⟨j, hj, jn, e⟩)
 ·rw [r1, if_pos (by decide)]
  exact okP.some (Or.inl ⟨rfl, no⟩)
 ·rw [if_neg (by rw [i_lt, z0]; omega)]
  apply okP.bind
  refine okP.mono (P := fun q => ∃ u v, A q = ((u, v, c.2.2), s, f, p, k, d, m, b) ∧ u.length = 64 ∧ v.length = 64 ∧ (∀ i, i < j → at' u i = at' c.1 i ∧ at' v i = at' c.2.1 i) ∧ ∀ i, j ≤ i → i + 1 < n → at' u i = at' c.1 (i + 1) ∧ at' v i = at' c.2.1 (i + 1)) ?_ ?_
  ·refine okP.loop (fun w : Int32 × Ob => ∃ (i : Nat) (u v : List Int32), w.1.toInt = (i : Int) ∧ j ≤ i ∧ i < n ∧ A w.2 = ((u, v, c.2.2), s, f, p, k, d, m, b) ∧ u.length = 64 ∧ v.length = 64 ∧ (∀ a, a < j → at' u a = at' c.1 a ∧ at' v a = at' c.2.1 a) ∧ (∀ a, j ≤ a → a < i → at' u a = at' c.1 (a + 1) ∧ at' v a = at' c.2.1 (a + 1)) ∧ ∀ a, i ≤ a → a < n → at' u a = at' c.1 a ∧ at' v a = at' c.2.1 a) (fun w => (100 - w.1.toInt).toNat) ⟨j, c.1, c.2.1, hj, Nat.le_refl _, jn, h, l1, l2, fun a _ => ⟨rfl, rfl⟩, fun a a1 a2 => absurd a2 (by omega), fun a _ _ => ⟨rfl, rfl⟩⟩ (by show (100 - r.toInt).toNat < 4000; omega) ?_
   rintro ⟨y, q⟩ ⟨i, u, v, hy, ji, iN, hq, lu, lv, U0, U1, U2⟩
   simp only at hy hq
   unfold B33_14
   simp only
   have e1 : (y + 1).toInt = ((i + 1 : Nat) : Int) := by rw [inc1 (by omega)]; omega
   generalize y + 1 = y1 at e1 ⊢
   refine okP.ite (fun c4 => ?_) (fun c4 => ?_)
   ·rw [i_lt, g_curCount hq] at c4
    have c4' : y1.toInt < c.2.2.1.toInt := c4
    have ti := ta (i + 1) (by omega)
    have ut' : at' v (i + 1) = tt' c (i + 1) := (U2 (i + 1) (by omega) (by omega)).2
    rw [g_curVal hq, ag e1 (by show i + 1 < u.length; omega), Option.bind_some, aset_at hy (by show i < u.length; omega), Option.bind_some, g_curTgt hq, ag e1 (by show i + 1 < v.length; omega), Option.bind_some]
    simp only
    rw [ut', (b8 ti.1 (by omega)).2, aset_at hy (by omega), Option.bind_some]
    refine okP.some ⟨⟨i + 1, u.set i (at' u (i + 1)), v.set i (tt' c (i + 1)), e1, by omega, by omega, w_cur hq _ _, ls lu, ls lv, fun a a1 => ?_, fun a a1 a2 => ?_, fun a a1 a2 => ?_⟩, by simp only; omega⟩
    ·rw [at_set (by omega), at_set (by omega), if_neg (by omega), if_neg (by omega)]
     exact U0 a a1
    ·rw [at_set (by omega), at_set (by omega)]
     by_cases e : a = i
     ·rw [if_pos e, if_pos e, e]
      exact ⟨(U2 (i + 1) (by omega) (by omega)).1, rfl⟩
     ·rw [if_neg e, if_neg e]
      exact U1 a a1 (by omega)
    ·rw [at_set (by omega), at_set (by omega), if_neg (by omega), if_neg (by omega)]
     exact U2 a (by omega) a2
   ·rw [i_lt, g_curCount hq] at c4
    have c4' : ¬ y1.toInt < c.2.2.1.toInt := c4
    exact okP.some ⟨u, v, hq, lu, lv, U0, fun a a1 a2 => U1 a a1 (by omega)⟩
  ·rintro q ⟨u, v, hq, lu, lv, U1, U2⟩
   obtain ⟨n', en⟩ : ∃ n', n = n' + 1 := ⟨n - 1, by omega⟩
   subst en
   have ec : (c.2.2.1 - 1).toInt = (n' : Nat) := by rw [i_sub (by omega) (by omega), z1]; omega
   rw [g_curCount hq]
   simp only
   generalize c.2.2.1 - 1 = N at ec ⊢
   have hw := w_cnt hq N 1
   simp only at hw
   have I : Rem c (u, v, N, c.2.2.2.1, 1) (n' + 1) j := ⟨U1, U2⟩
   exact okP.some (Or.inr ⟨rfl, _, j, n', rfl, hw, jn, e, I, I.sw S lu lv ec rfl, rfl, rfl⟩)
def Ok (T cp : Int) (n : Nat) (c s : CT) (o : Ob) : Prop := ∃ f p k d m b, A o = (c, s, f, p, k, d, m, b) ∧ Sw T n c ∧ LA f p k d m b ∧ f.1.toInt = cp ∧ f.2.1.toInt = T ∧ (n : Int) ≤ cp ∧ (c.2.2.2.2 = 0 ∨ c.2.2.2.2 = 1) ∧ (s.1.length = 64 ∧ s.2.1.length = 64) ∧ (s.2.2.2.2 = 0 ∨ (s.2.2.2.2 = 1 ∧ (∃ ns : Nat, (ns : Int) ≤ cp ∧ Sw T ns s ∧ Cde s ns d m) ∧ (c.2.2.2.2 = 0 → Same n c s)))
def Rst (T cp : Int) (s : CT) (f : FT) (p : PT) (k : KT) (d : DT) (m : MT) (b : BT) : Prop := LA f p k d m b ∧ f.1.toInt = cp ∧ f.2.1.toInt = T ∧ (s.1.length = 64 ∧ s.2.1.length = 64) ∧ (s.2.2.2.2 = 0 ∨ (s.2.2.2.2 = 1 ∧ ∃ ns : Nat, (ns : Int) ≤ cp ∧ Sw T ns s ∧ Cde s ns d m))
theorem Ok.rst {T cp : Int} {n : Nat} {c s : CT} {o : Ob} (O : Ok T cp n c s o) : ∃ f p k d m b, A o = (c, s, f, p, k, d, m, b) ∧ Sw T n c ∧ (n : Int) ≤ cp ∧ Rst T cp s f p k d m b := by
 obtain ⟨f, p, k, d, m, b, h, S, La, f1, f2, nc, _, sl, hs⟩ := O
 exact ⟨f, p, k, d, m, b, h, S, nc, La, f1, f2, sl, hs.imp id (fun w => ⟨w.1, w.2.1⟩)⟩
theorem Rst.ok {T cp : Int} {n : Nat} {c s : CT} {o : Ob} {f : FT} {p : PT} {k : KT} {d : DT} {m : MT} {b : BT} (R : Rst T cp s f p k d m b) (h : A o = (c, s, f, p, k, d, m, b)) (S : Sw T n c) (nc : (n : Int) ≤ cp) (h1 : c.2.2.2.2 = 1) : Ok T cp n c s o := by
 obtain ⟨La, f1, f2, sl, hs⟩ := R
 refine ⟨f, p, k, d, m, b, h, S, La, f1, f2, nc, Or.inr h1, sl, hs.imp id (fun w => ⟨w.1, w.2, fun z => ?_⟩)⟩
 rw [h1] at z
 exact absurd z (by decide)
theorem Ok.add {T cp : Int} {n : Nat} {c s : CT} {o : Ob} (O : Ok T cp n c s o) (T16 : T ≤ 16) (n14 : n ≤ 14) (x t : Int32) : okP (F20 o x t) (fun w => (w = (3, o) ∧ ¬ (0 ≤ t.toInt ∧ t.toInt < T)) ∨ ((0 ≤ t.toInt ∧ t.toInt < T) ∧ ((w = (2, o) ∧ ∃ i, i < n ∧ vv c i = x.toInt) ∨ ((∀ i, i < n → vv c i ≠ x.toInt) ∧ ((w = (1, o) ∧ cp ≤ n) ∨ ((n : Int) < cp ∧ w.1 = 0 ∧ ∃ c' j, Ok T cp (n + 1) c' s w.2 ∧ j ≤ n ∧ Ins c c' n j x t ∧ c'.2.2.2.1 = c.2.2.2.1 ∧ c'.2.2.2.2 = 1)))))) := by
 obtain ⟨f, p, k, d, m, b, h, S, nc, R⟩ := O.rst
 have f1 := R.2.1
 refine okP.mono (add_ok h S T16 n14 R.2.2.1 x t) ?_
 rintro w (w1 | ⟨w1, w2 | ⟨w2, ⟨w3, w4⟩ | ⟨w3, w4, c', j, w5, w6, w7, w8, w9, w10⟩⟩⟩)
 ·exact Or.inl w1
 ·exact Or.inr ⟨w1, Or.inl w2⟩
 ·exact Or.inr ⟨w1, Or.inr ⟨w2, Or.inl ⟨w3, by omega⟩⟩⟩
 ·exact Or.inr ⟨w1, Or.inr ⟨w2, Or.inr ⟨by omega, w4, c', j, R.ok w5 w8 (by omega) w10, w6, w7, w9, w10⟩⟩⟩
theorem Ok.rem {T cp : Int} {n : Nat} {c s : CT} {o : Ob} (O : Ok T cp n c s o) (T16 : T ≤ 16) (n15 : n ≤ 15) (x : Int32) : okP (F33 o x) (fun w => (w = (4, o) ∧ ∀ i, i < n → vv c i ≠ x.toInt) ∨ (w.1 = 0 ∧ ∃ c' j n', n = n' + 1 ∧ Ok T cp n' c' s w.2 ∧ j < n ∧ vv c j = x.toInt ∧ Rem c c' n j ∧ c'.2.2.2.1 = c.2.2.2.1 ∧ c'.2.2.2.2 = 1)) := by
 obtain ⟨f, p, k, d, m, b, h, S, nc, R⟩ := O.rst
 refine okP.mono (rem_ok h S T16 n15 x) ?_
 rintro w (w1 | ⟨w1, c', j, n', w2, w3, w4, w5, w6, w7, w8, w9⟩)
 ·exact Or.inl w1
 ·exact Or.inr ⟨w1, c', j, n', w2, R.ok w3 w7 (by omega) w9, w4, w5, w6, w8, w9⟩
theorem Ok.fit0 {T cp : Int} {n : Nat} {c s : CT} {o : Ob} (O : Ok T cp n c s o) : ((f_curVal o).length = 64 ∧ (f_curTgt o).length = 64 ∧ (f_snapVal o).length = 64 ∧ (f_snapTgt o).length = 64) ∧ ((f_bestCost o).length = 65 ∧ (f_bestCut o).length = 65 ∧ (f_clStart o).length = 64 ∧ (f_clEnd o).length = 64 ∧ (f_tablePool o).length = 256) ∧ ((f_opc o).length = 160 ∧ (f_argA o).length = 160 ∧ (f_argB o).length = 160 ∧ (f_argC o).length = 160 ∧ (f_argD o).length = 160) ∧ ((f_maskPool o).length = 192 ∧ (f_maskTarget o).length = 192) ∧ (f_stLo o).length = 130 ∧ (f_stHi o).length = 130 ∧ (f_stParent o).length = 130 ∧ (f_stSlot o).length = 130 := by
 obtain ⟨f, p, k, d, m, b, h, S, ⟨La1, La2, La3, La4, La5, La6⟩, f1, f2, nc, _, sl, hs⟩ := O
 rw [g_curVal h, g_curTgt h, g_snapVal h, g_snapTgt h, g_bestCost h, g_bestCut h, g_clStart h, g_clEnd h, show f_tablePool o = f.2.2.1 from congrArg (fun x : AT => x.2.2.1.2.2.1) h, g_opc h, g_argA h, g_argB h, g_argC h, g_argD h, g_maskPool h, g_maskTarget h, g_stLo h, g_stHi h, g_stParent h, g_stSlot h]
 exact ⟨⟨S.1, S.2.1, sl.1, sl.2⟩, ⟨La2.1, La2.2, La3.1, La3.2, La1⟩, La4, La5, La6⟩
theorem Ok.deflt {T cp : Int} {n : Nat} {c s : CT} {o : Ob} (O : Ok T cp n c s o) (x : Int32) : okP (F22 o x) (fun w => (w = (3, o) ∧ ¬ (0 ≤ x.toInt ∧ x.toInt < T)) ∨ ((0 ≤ x.toInt ∧ x.toInt < T) ∧ w.1 = 0 ∧ Ok T cp n (c.1, c.2.1, c.2.2.1, x, 1) s w.2)) := by
 have z0 : (0 : Int32).toInt = 0 := rfl
 obtain ⟨f, p, k, d, m, b, h, S, nc, R⟩ := O.rst
 have f2 := R.2.2.1
 unfold F22
 refine okP.ite (fun c1 => okP.some (Or.inl ⟨rfl, by rw [i_lt, z0] at c1; omega⟩)) (fun c1 => ?_)
 rw [g_targets h]
 refine okP.ite (fun c2 => ?_) (fun c2 => okP.some (Or.inl ⟨rfl, by rw [i_lt] at c2; omega⟩))
 rw [i_lt, z0] at c1
 rw [i_lt, f2] at c2
 refine okP.some (Or.inr ⟨⟨by omega, c2⟩, rfl, R.ok (w_def h x 1) ?_ nc rfl⟩)
 obtain ⟨s1, s2, s3, s4, s5, s6, s7⟩ := S
 exact ⟨s1, s2, s3, s4, s5, s6, by show 0 ≤ x.toInt; omega, c2⟩
theorem Ok.reset {T cp : Int} {n : Nat} {c s : CT} {o : Ob} (O : Ok T cp n c s o) (T0 : 0 < T) : okP (F3 o) (fun q => ∃ c' s', Ok T cp 0 c' s' q ∧ c'.2.2.1 = 0 ∧ c'.2.2.2.1 = 0 ∧ c'.2.2.2.2 = 0 ∧ s'.2.2.2.2 = 0) := by
 obtain ⟨f, p, k, d, m, b, h, S, La, f1, f2, nc, cd, sl, hs⟩ := id O
 unfold F3
 obtain ⟨La1, La2, La3, La4, La5, La6⟩ := La
 obtain ⟨q, hq⟩ : ∃ q, F3 o = some q := ⟨_, rfl⟩
 have e : A q = ((c.1, c.2.1, 0, 0, 0), (s.1, s.2.1, 0, 0, 0), (f.1, f.2.1, f.2.2.1, 0), p, (k.1, k.2.1, 0), (d.1, d.2.1, d.2.2.1, d.2.2.2.1, d.2.2.2.2.1, 0, 0), (m.1, m.2.1, 0), (b.1, b.2.1, b.2.2.1, b.2.2.2.1, 0)) := by
  unfold F3 at hq
  have := Option.some.inj hq
  rw [← this]
  have t : ∀ o, A o = ((f_curVal o, f_curTgt o, f_curCount o, f_curDefault o, f_dirty o), (f_snapVal o, f_snapTgt o, f_snapCount o, f_snapDefault o, f_hasSnap o), (f_cap o, f_targets o, f_tablePool o, f_tableUsed o), (f_bestCost o, f_bestCut o), (f_clStart o, f_clEnd o, f_clCount o), (f_opc o, f_argA o, f_argB o, f_argC o, f_argD o, f_codeLen o, f_rootPc o), (f_maskPool o, f_maskTarget o, f_maskUsed o), (f_stLo o, f_stHi o, f_stParent o, f_stSlot o, f_sp o)) := fun _ => rfl
  rw [← g_curVal h, ← g_curTgt h, ← g_snapVal h, ← g_snapTgt h, ← g_cap h, ← g_targets h, ← (show f_tablePool o = f.2.2.1 from congrArg (fun x : AT => x.2.2.1.2.2.1) h), ← (show (f_bestCost o, f_bestCut o) = p from congrArg (fun x : AT => x.2.2.2.1) h), ← g_clStart h, ← g_clEnd h, ← g_opc h, ← g_argA h, ← g_argB h, ← g_argC h, ← g_argD h, ← g_maskPool h, ← g_maskTarget h, ← g_stLo h, ← g_stHi h, ← g_stParent h, ← g_stSlot h]
  dsimp only [A, f_opRet, f_opLess, f_opEq, f_opTable, f_opBits, f_maxCap, f_maxTargets, f_maxSteps, f_tableSpanPerCase, f_maxTableSpan, f_maxBitSpan, f_maxBitTargets, f_unsignedMask, f_maxInt, f_curVal, f_curTgt, f_snapVal, f_snapTgt, f_bestCost, f_bestCut, f_clStart, f_clEnd, f_opc, f_argA, f_argB, f_argC, f_argD, f_tablePool, f_maskPool, f_maskTarget, f_stLo, f_stHi, f_stParent, f_stSlot, f_cap, f_targets, f_curCount, f_curDefault, f_dirty, f_snapCount, f_snapDefault, f_hasSnap, f_clCount, f_codeLen, f_rootPc, f_tableUsed, f_maskUsed, f_sp, s_opRet, s_opLess, s_opEq, s_opTable, s_opBits, s_maxCap, s_maxTargets, s_maxSteps, s_tableSpanPerCase, s_maxTableSpan, s_maxBitSpan, s_maxBitTargets, s_unsignedMask, s_maxInt, s_curVal, s_curTgt, s_snapVal, s_snapTgt, s_bestCost, s_bestCut, s_clStart, s_clEnd, s_opc, s_argA, s_argB, s_argC, s_argD, s_tablePool, s_maskPool, s_maskTarget, s_stLo, s_stHi, s_stParent, s_stSlot, s_cap, s_targets, s_curCount, s_curDefault, s_dirty, s_snapCount, s_snapDefault, s_hasSnap, s_clCount, s_codeLen, s_rootPc, s_tableUsed, s_maskUsed, s_sp]
 unfold F3 at hq
 rw [hq]
 refine okP.some ⟨_, _, ⟨_, _, _, _, _, _, e, ⟨S.1, S.2.1, by omega, rfl, fun i j _ hj => absurd hj (by omega), fun j hj => absurd hj (by omega), by show (0 : Int) ≤ 0; decide, T0⟩, ⟨La1, La2, La3, La4, La5, La6⟩, f1, f2, by show (0 : Int) ≤ cp; omega, Or.inl rfl, sl, Or.inl rfl⟩, rfl, rfl, rfl, rfl⟩
theorem Ok.lower {T cp : Int} {n : Nat} {c s : CT} {o : Ob} (O : Ok T cp n c s o) (n16 : n ≤ 16) (F : Few T n) : okP (F4 o) (fun w => w.1 = c.2.2.1 ∧ ∃ s', Ok T cp n (c.1, c.2.1, c.2.2.1, c.2.2.2.1, 0) s' w.2 ∧ Same n c s' ∧ s'.2.2.2.2 = 1) := by
 obtain ⟨f, p, k, d, m, b, h, S, La, f1, f2, nc, cd, sl, hs⟩ := id O
 refine okP.mono (lower_ok h S n16 F sl.1 sl.2 La) ?_
 rintro w ⟨w1, s', f', p', k', d', m', b', w2, E, S', hs', Cd, La', g1, g2⟩
 refine ⟨w1, s', ⟨f', p', k', d', m', b', w2, S, La', by rw [g1]; exact f1, by rw [g2]; exact f2, nc, Or.inl rfl, ⟨S'.1, S'.2.1⟩, Or.inr ⟨hs', ⟨n, nc, S', Cd⟩, fun _ => E⟩⟩, E, hs'⟩
theorem Ok.route {T cp : Int} {n : Nat} {c s : CT} {o : Ob} (O : Ok T cp n c s o) (x : Int32) : okP (F15 o x) (fun r => (s.2.2.2.2 = 0 ∧ r = -1) ∨ (s.2.2.2.2 = 1 ∧ ∃ ns : Nat, Sw T ns s ∧ Rv s 0 ns x.toInt r)) := by
 obtain ⟨f, p, k, d, m, b, h, S, La, f1, f2, nc, cd, sl, hs⟩ := O
 unfold F15
 rw [g_hasSnap h]
 rcases hs with hs | ⟨hs, ⟨ns, n1, n2, n3⟩, _⟩
 ·rw [hs, if_pos rfl]
  exact okP.some (Or.inl ⟨rfl, rfl⟩)
 ·rw [hs, if_neg (by decide)]
  apply okP.bind
  exact okP.mono (run_ok h n2 n3 x) (fun r hr => okP.some (Or.inr ⟨rfl, ns, n2, hr⟩))
theorem Ok.look {T cp : Int} {n : Nat} {c s : CT} {o : Ob} (O : Ok T cp n c s o) (n15 : n ≤ 15) (x : Int32) : okP (F17 o x) (fun r => Rv c 0 n x.toInt r) := by
 obtain ⟨f, p, k, d, m, b, h, S, _⟩ := O
 exact look_ok h S n15 x
theorem isc_m {T cp : Int} {n : Nat} {c s : CT} {o : Ob} (O : Ok T cp n c s o) : (F13 o = some 0 ∧ (s.2.2.2.2 = 0 ∨ c.2.2.2.2 = 1)) ∨ (F13 o = some 1 ∧ s.2.2.2.2 = 1 ∧ Same n c s) := by
 obtain ⟨f, p, k, d, m, b, h, S, La, f1, f2, nc, cd, sl, hs⟩ := O
 unfold F13
 rw [g_hasSnap h, g_dirty h]
 rcases hs with hs | ⟨hs, _, E⟩
 ·rw [hs, if_pos rfl]; exact Or.inl ⟨rfl, Or.inl rfl⟩
 ·rw [hs, if_neg (by decide)]
  rcases cd with w | w
  ·rw [w, if_pos rfl]; exact Or.inr ⟨rfl, rfl, E w⟩
  ·rw [w, if_neg (by decide)]; exact Or.inl ⟨rfl, Or.inr rfl⟩
theorem Same.rt {T : Int} {n ns : Nat} {c s : CT} (S : Sw T n c) (S' : Sw T ns s) (E : Same n c s) {x : Int} {r : Int32} (h : Rv s 0 ns x r) : Rv c 0 n x r := by
 have : ns = n := by
  have a1 := S.2.2.2.1
  have a2 := S'.2.2.2.1
  rw [E.2.1] at a2
  omega
 subst this
 exact E.rv.1 h

theorem holds_ok {n : Nat} {c s : CT} {o : Ob} (O : Ok 4 8 n c s o) (x : Int32) : F10 o s.2.2.2.2 x = some 1 := by
 have z0 : (0 : Int32).toInt = 0 := rfl
 have z3 : (3 : Int32).toInt = 3 := rfl
 have z8 : (8 : Int32).toInt = 8 := rfl
 obtain ⟨f, p, k, d, m, b, h, S, La, f1, f2, nc, cd, sl, hs⟩ := id O
 have n8 : n ≤ 8 := by omega
 have hn := S.2.2.2.1
 have de := S.2.2.2.2.2.2
 have ct : ∀ {i : Nat} {y : Int32}, y.toInt = i → i < n → F21 o y = some (at' c.1 i) ∧ F14 o y = some (tt' c i) := by
  intro i y hy hi
  have y0 : ¬ y < 0 := by rw [i_lt, z0]; omega
  have y1 : y < c.2.2.1 := by rw [i_lt]; omega
  unfold F21 F14
  rw [g_curCount h, g_curVal h, g_curTgt h, S.a_v hi hy, S.a_t hi hy]
  simp only [if_neg y0, if_pos y1, Option.bind_some]
  exact ⟨trivial, trivial⟩
 have lk : ∀ {i : Nat}, i < n → ∃ r, F17 o (at' c.1 i) = some r ∧ r = tt' c i := by
  intro i hi
  obtain ⟨r, r1, r2⟩ := O.look (by omega) (at' c.1 i)
  exact ⟨r, r1, Rv.det S r2 (Or.inl ⟨i, by omega, hi, rfl, rfl⟩)⟩
 obtain ⟨iv, iE, iH⟩ : ∃ iv, F13 o = some iv ∧ ((iv = 0) ∨ (iv = 1 ∧ s.2.2.2.2 = 1 ∧ Same n c s)) := by
  rcases isc_m O with ⟨w, _⟩ | ⟨w, w1, w2⟩
  ·exact ⟨0, w, Or.inl rfl⟩
  ·exact ⟨1, w, Or.inr ⟨rfl, w1, w2⟩⟩
 have rt : iv ≠ 0 → ∀ y : Int32, ∃ r, F15 o y = some r ∧ Rv c 0 n y.toInt r := by
  intro i0 y
  rcases iH with w | ⟨_, w1, w2⟩
  ·exact absurd w i0
  obtain ⟨r, r1, r2⟩ := O.route y
  rcases r2 with ⟨w, _⟩ | ⟨_, ns, S', rv⟩
  ·rw [w1] at w; exact absurd w (by decide)
  ·exact ⟨r, r1, w2.rt S S' rv⟩
 have tail : J10_167 o s.2.2.2.2 x c.2.2.1 iv = some 1 := by
  unfold J10_167
  have cn : F14 o c.2.2.1 = some (-1) := by
   unfold F14
   rw [g_curCount h, if_neg (by rw [i_lt, z0]; omega), if_neg (by rw [i_lt]; omega)]
  rw [cn, Option.bind_some, if_pos rfl]
  obtain ⟨r, r1, r2⟩ := O.route x
  rw [r1, Option.bind_some]
  rcases r2 with ⟨w, rm⟩ | ⟨w, ns, S', rv⟩
  ·rw [w, if_pos rfl, if_pos rm]
  ·have rg := Rv.rng S' rv
   rw [w, if_neg (by decide), if_neg (by rw [i_lt, z0]; omega), if_neg (by rw [i_lt, z3]; omega)]
   by_cases i0 : iv = 0
   ·rw [if_pos i0]
   ·rw [if_neg i0]
    obtain ⟨q, q1, q2⟩ := O.look (by omega) x
    obtain ⟨r', e1, e2⟩ := rt i0 x
    have : r' = r := by rw [r1] at e1; exact (Option.some.inj e1).symm
    subst this
    rw [q1, Option.bind_some, if_pos (Rv.det S e2 q2)]
 have loop : okP (J10_53 o s.2.2.2.2 x c.2.2.1 iv) (fun r => r = 1) := by
  unfold J10_53
  apply okP.bind
  refine okP.mono (P := fun e => e = .inl () ∨ e = .inr (.inl ())) ?_ ?_
  ·refine okP.loop (fun w : Int32 × Int32 => ∃ i : Nat, w.2.toInt = (i : Int) ∧ i ≤ n ∧ (0 < i → w.1.toInt = vv c (i - 1))) (fun w => (20 - w.2.toInt).toNat) ⟨0, rfl, by omega, fun w => absurd w (by omega)⟩ (by show (20 - (0 : Int)).toNat < 4000; decide) ?_
   rintro ⟨pv, y⟩ ⟨i, hy, iN, hp⟩
   simp only at hy hp
   unfold B10_59
   simp only
   refine okP.ite (fun c1 => ?_) (fun _ => okP.some (Or.inr rfl))
   refine okP.ite (fun c2 => ?_) (fun _ => okP.some (Or.inl rfl))
   rw [i_lt] at c2
   have hi : i < n := by omega
   obtain ⟨v1, v2⟩ := ct hy hi
   have ti := S.2.2.2.2.2.1 i hi
   have ey : (y + 1).toInt = y.toInt + 1 := inc1 (by omega)
   rw [v1, Option.bind_some, v2, Option.bind_some, if_neg (by rw [i_lt, z0]; omega), if_neg (by rw [i_lt, z3]; omega)]
   have nx : okP (J10_157 o s.2.2.2.2 x c.2.2.1 iv y (at' c.1 i)) (fun r => Sum.elim (fun e => e = .inl () ∨ e = .inr (.inl ())) (fun w : Int32 × Int32 => (∃ i : Nat, w.2.toInt = (i : Int) ∧ i ≤ n ∧ (0 < i → w.1.toInt = vv c (i - 1))) ∧ (20 - w.2.toInt).toNat < (20 - y.toInt).toNat) r) := okP.some ⟨⟨i + 1, by simp only; omega, by omega, fun _ => rfl⟩, by simp only; omega⟩
   have j : okP (J10_118 o s.2.2.2.2 x c.2.2.1 iv y (at' c.1 i) (tt' c i)) (fun r => Sum.elim (fun e => e = .inl () ∨ e = .inr (.inl ())) (fun w : Int32 × Int32 => (∃ i : Nat, w.2.toInt = (i : Int) ∧ i ≤ n ∧ (0 < i → w.1.toInt = vv c (i - 1))) ∧ (20 - w.2.toInt).toNat < (20 - y.toInt).toNat) r) := by
    unfold J10_118
    obtain ⟨r, r1, r2⟩ := lk hi
    rw [r1, Option.bind_some, if_pos r2]
    by_cases i0 : iv = 0
    ·rw [if_pos i0]; exact nx
    ·rw [if_neg i0]
     obtain ⟨r', e1, e2⟩ := rt i0 (at' c.1 i)
     rw [e1, Option.bind_some, if_pos (Rv.det S e2 (Or.inl ⟨i, by omega, hi, rfl, rfl⟩))]
     exact nx
   refine okP.ite (fun c3 => ?_) (fun _ => j)
   rw [i_lt, z0] at c3
   rw [if_pos]
   ·exact j
   ·rw [i_lt, hp (by omega)]
    exact S.2.2.2.2.1 (i - 1) i (by omega) hi
  ·rintro e (rfl | rfl)
   ·exact okP.of tail rfl
   ·exact okP.of tail rfl
 unfold F10 F11 F12
 rw [Option.bind_some, g_curCount h, if_neg (by rw [i_lt, z0]; omega), if_neg (by rw [i_lt, z8]; omega), Option.bind_some, g_curDefault h, if_neg (by rw [i_lt, z0]; omega), if_neg (by rw [i_lt, z3]; omega), iE, Option.bind_some]
 obtain ⟨r, r1, r2⟩ := loop
 rw [r2] at r1
 by_cases i0 : iv = 0
 ·rw [if_pos i0]; exact r1
 ·rw [if_neg i0, if_neg]
  ·exact r1
  ·rcases iH with w | ⟨_, w, _⟩
   ·exact absurd w i0
   ·rw [w]; decide
theorem Ok.fit {T cp : Int} {n : Nat} {c s' : CT} {o : Ob} (O : Ok T cp n c s' o) (s : List Int32) : sFit s (H0 s o) := by
 obtain ⟨⟨a1, a2, a3, a4⟩, ⟨a5, a6, a7, a8, a9⟩, ⟨b1, b2, b3, b4, b5⟩, ⟨b6, b7⟩, b8, b9, b10, b11⟩ := O.fit0
 refine ⟨by show 22 - 1 ≤ _; decide, ?_⟩
 simp only [H0, H0v, qhs, qsz, a1, a2, a3, a4, a5, a6, a7, a8, a9, b1, b2, b3, b4, b5, b6, b7, b8, b9, b10, b11]
 simp only [cN, room_1]
 omega
theorem law_ok (s : List Int32) (hs : s.length ≤ 260) : ∃ τ, F0 s = some (1, τ) ∧ τ.length - List.length ([Sum.inr (Sum.inl (FieldType.int, s))] : QHeap) ≤ room_1.cells ∧ qhs τ - qhs [Sum.inr (Sum.inl (FieldType.int, s))] ≤ room_1.slots := by
 have hl := len_i (n := s.length) (by omega)
 have z2 : (2 : Int32).toInt = 2 := rfl
 have z3 : (3 : Int32).toInt = 3 := rfl
 have : okP (F0 s) (fun e => e.1 = 1 ∧ sFit s e.2) := by
  unfold F0
  have i0 : okP (F1 8 4) (fun o => ∃ c s', Ok 4 8 0 c s' o ∧ s'.2.2.2.2 = 0) := by
   have L : ∀ {α : Type} (n : Nat) (a : α), (List.replicate n a).length = n := fun n a => List.length_replicate
   have e1 : F2 8 1 64 = some 8 := rfl
   have e2 : F2 4 1 16 = some 4 := rfl
   unfold F1 F3
   rw [e1, Option.bind_some, e2, Option.bind_some, Option.bind_some]
   refine okP.some ⟨(List.replicate 64 0, List.replicate 64 0, 0, 0, 0), (List.replicate 64 0, List.replicate 64 0, 0, 0, 0), ⟨(8, 4, List.replicate 256 0, 0), (List.replicate 65 0, List.replicate 65 0), (List.replicate 64 0, List.replicate 64 0, 0), (List.replicate 160 0, List.replicate 160 0, List.replicate 160 0, List.replicate 160 0, List.replicate 160 0, 0, 0), (List.replicate 192 0, List.replicate 192 0, 0), (List.replicate 130 0, List.replicate 130 0, List.replicate 130 0, List.replicate 130 0, 0), ?_, ⟨L _ _, L _ _, by omega, rfl, fun i j _ hj => absurd hj (by omega), fun j hj => absurd hj (by omega), by decide, by decide⟩, ⟨L _ _, ⟨L _ _, L _ _⟩, ⟨L _ _, L _ _⟩, ⟨L _ _, L _ _, L _ _, L _ _, L _ _⟩, ⟨L _ _, L _ _⟩, L _ _, L _ _, L _ _, L _ _⟩, rfl, rfl, by decide, Or.inl rfl, ⟨L _ _, L _ _⟩, Or.inl rfl⟩, rfl⟩
   dsimp only [A, f_opRet, f_opLess, f_opEq, f_opTable, f_opBits, f_maxCap, f_maxTargets, f_maxSteps, f_tableSpanPerCase, f_maxTableSpan, f_maxBitSpan, f_maxBitTargets, f_unsignedMask, f_maxInt, f_curVal, f_curTgt, f_snapVal, f_snapTgt, f_bestCost, f_bestCut, f_clStart, f_clEnd, f_opc, f_argA, f_argB, f_argC, f_argD, f_tablePool, f_maskPool, f_maskTarget, f_stLo, f_stHi, f_stParent, f_stSlot, f_cap, f_targets, f_curCount, f_curDefault, f_dirty, f_snapCount, f_snapDefault, f_hasSnap, f_clCount, f_codeLen, f_rootPc, f_tableUsed, f_maskUsed, f_sp, s_opRet, s_opLess, s_opEq, s_opTable, s_opBits, s_maxCap, s_maxTargets, s_maxSteps, s_tableSpanPerCase, s_maxTableSpan, s_maxBitSpan, s_maxBitTargets, s_unsignedMask, s_maxInt, s_curVal, s_curTgt, s_snapVal, s_snapTgt, s_bestCost, s_bestCut, s_clStart, s_clEnd, s_opc, s_argA, s_argB, s_argC, s_argD, s_tablePool, s_maskPool, s_maskTarget, s_stLo, s_stHi, s_stParent, s_stSlot, s_cap, s_targets, s_curCount, s_curDefault, s_dirty, s_snapCount, s_snapDefault, s_hasSnap, s_clCount, s_codeLen, s_rootPc, s_tableUsed, s_maskUsed, s_sp]
  apply okP.bind
  refine okP.mono i0 ?_
  rintro o ⟨c, s0, O, hs0⟩
  apply okP.bind
  refine okP.mono (P := fun e : Int32 × QHeap => e.1 = 1 ∧ sFit s e.2) ?_ (fun e he => okP.some he)
  refine okP.loop (fun w : Int32 × Int32 × Ob => (∃ n c s', Ok 4 8 n c s' w.2.2 ∧ w.1 = s'.2.2.2.2) ∧ 0 ≤ w.2.1.toInt ∧ w.2.1.toInt ≤ 1000) (fun w => (1000 - w.2.1.toInt).toNat) ⟨⟨0, c, s0, O, hs0.symm⟩, by show (0 : Int) ≤ 0; decide, by show (0 : Int) ≤ 1000; decide⟩ (by show (1000 - (0 : Int)).toNat < 4000; decide) ?_
  rintro ⟨sn, x, q⟩ ⟨⟨n, c, s', O, hsn⟩, x0, xL⟩
  simp only at O hsn x0 xL
  unfold B0_15
  simp only
  have a2 : (x + 2).toInt = x.toInt + 2 := by rw [i_add (by omega) (by omega), z2]
  refine okP.ite (fun cc => ?_) (fun _ => okP.some ⟨rfl, O.fit s⟩)
  rw [i_lt, a2, hl] at cc
  have a1 : (x + 1).toInt = x.toInt + 1 := inc1 (by omega)
  have a3 : (x + 3).toInt = x.toInt + 3 := by rw [i_add (by omega) (by omega), z3]
  have n8 : n ≤ 8 := by
   obtain ⟨f, p, k, d, m, b, h, S, La, f1, f2, nc, _⟩ := O
   omega
  have nx : ∀ {q' : Ob} {n' : Nat} {c' t' : CT} (sn' y : Int32), Ok 4 8 n' c' t' q' → sn' = t'.2.2.2.2 → okP (J0_136 s q' sn' x y) (fun r => Sum.elim (fun e : Int32 × QHeap => e.1 = 1 ∧ sFit s e.2) (fun w : Int32 × Int32 × Ob => ((∃ n c s', Ok 4 8 n c s' w.2.2 ∧ w.1 = s'.2.2.2.2) ∧ 0 ≤ w.2.1.toInt ∧ w.2.1.toInt ≤ 1000) ∧ (1000 - w.2.1.toInt).toNat < (1000 - x.toInt).toNat) r) := by
   intro q' n' c' t' sn' y O' e
   unfold J0_136
   rw [e, holds_ok O' y, Option.bind_some, if_neg (by decide)]
   exact okP.some ⟨⟨⟨n', c', t', O', rfl⟩, by simp only; omega, by simp only; omega⟩, by simp only; omega⟩
  apply okP.bind; refine okP.aget (by omega) (by omega) (fun y0 _ => ?_)
  apply okP.bind; refine okP.aget (by omega) (by omega) (fun y1 _ => ?_)
  apply okP.bind; refine okP.aget (by omega) (by omega) (fun y2 _ => ?_)
  have jadd : okP (J0_56 s q sn x y1 y2) (fun r => Sum.elim (fun e : Int32 × QHeap => e.1 = 1 ∧ sFit s e.2) (fun w : Int32 × Int32 × Ob => ((∃ n c s', Ok 4 8 n c s' w.2.2 ∧ w.1 = s'.2.2.2.2) ∧ 0 ≤ w.2.1.toInt ∧ w.2.1.toInt ≤ 1000) ∧ (1000 - w.2.1.toInt).toNat < (1000 - x.toInt).toNat) r) := by
   unfold J0_56
   apply okP.bind
   refine okP.mono (O.add (by decide) (by omega) y1 y2) ?_
   rintro w (⟨e, _⟩ | ⟨_, ⟨e, _⟩ | ⟨_, ⟨e, _⟩ | ⟨lt, w1, c', j, O', _⟩⟩⟩)
   ·rw [e]; exact nx _ _ O hsn
   ·rw [e]; exact nx _ _ O hsn
   ·rw [e]; exact nx _ _ O hsn
   ·exact nx _ _ O' hsn
  have jrem : okP (J0_81 s q sn x y1) (fun r => Sum.elim (fun e : Int32 × QHeap => e.1 = 1 ∧ sFit s e.2) (fun w : Int32 × Int32 × Ob => ((∃ n c s', Ok 4 8 n c s' w.2.2 ∧ w.1 = s'.2.2.2.2) ∧ 0 ≤ w.2.1.toInt ∧ w.2.1.toInt ≤ 1000) ∧ (1000 - w.2.1.toInt).toNat < (1000 - x.toInt).toNat) r) := by
   unfold J0_81
   apply okP.bind
   refine okP.mono (O.rem (by decide) (by omega) y1) ?_
   rintro w (⟨e, _⟩ | ⟨_, c', j, n', _, O', _⟩)
   ·rw [e]; exact nx _ _ O hsn
   ·exact nx _ _ O' hsn
  have jdef : okP (J0_104 s q sn x y1) (fun r => Sum.elim (fun e : Int32 × QHeap => e.1 = 1 ∧ sFit s e.2) (fun w : Int32 × Int32 × Ob => ((∃ n c s', Ok 4 8 n c s' w.2.2 ∧ w.1 = s'.2.2.2.2) ∧ 0 ≤ w.2.1.toInt ∧ w.2.1.toInt ≤ 1000) ∧ (1000 - w.2.1.toInt).toNat < (1000 - x.toInt).toNat) r) := by
   unfold J0_104
   apply okP.bind
   refine okP.mono (O.deflt y1) ?_
   rintro w (⟨e, _⟩ | ⟨_, _, O'⟩)
   ·rw [e]; exact nx _ _ O hsn
   ·exact nx _ _ O' hsn
  refine okP.ite (fun _ => jadd) (fun _ => ?_)
  refine okP.ite (fun _ => jadd) (fun _ => ?_)
  refine okP.ite (fun _ => jrem) (fun _ => ?_)
  refine okP.ite (fun _ => jrem) (fun _ => ?_)
  refine okP.ite (fun _ => jdef) (fun _ => ?_)
  refine okP.ite (fun _ => jdef) (fun _ => ?_)
  refine okP.ite (fun _ => ?_) (fun _ => ?_)
  ·apply okP.bind
   refine okP.mono (O.lower (by omega) ⟨Or.inl (by decide), by decide⟩) ?_
   rintro w ⟨_, t', O', _, ht⟩
   exact nx _ _ O' ht.symm
  ·apply okP.bind
   refine okP.mono (O.reset (by decide)) ?_
   rintro w ⟨c', t', O', _, _, _, ht⟩
   exact nx _ _ O' ht.symm
 obtain ⟨⟨r, τ⟩, q1, q2, q3⟩ := this
 simp only at q2
 subst q2
 exact ⟨τ, q1, q3⟩
set_option maxRecDepth 65536 in
theorem comes_1 {Post : Tables → Env → Array Value → State → Outcome → State → Prop} (hpost : ∀ tb e args s v u, (limb_1_1.after args s (.returned v) u = true ∧ limb_1_2.after args s (.returned v) u = true ∧ True) → FrameEnd s (.returned v) u (Jvm.fieldLocs frame_1_writes args s ++ Jvm.arrayLocs frame_1_arrays args s ++ Jvm.staticLocs frame_1_statics s) 56 5120 → Post tb e args s (.returned v) u) :
    ArmFor flags0 classFile x code maxLocals ret World_1 tables_1 room_1 Calls_1 rest_1 Pre_1 Post := by
  intro l hfl _ _ p e ha hc hk s m args below hf hA hF happ hP
  obtain ⟨hcalls, hrest, hpre⟩ := hP
  obtain ⟨-, -, -, hnamed, -, -, -, hat⟩ := (Spec.applies_iff hf).mp happ
  obtain ⟨hg, hn⟩ := and_e (Cond.before_iff.mp (show (Jvm.Cond.and given_1 narrow_1).before args s = true from hpre))
  obtain ⟨g0, g1⟩ := and_e hg
  obtain ⟨w0, rfl⟩ : ∃ w0 : Value, args = #[w0] := by
    have hs : args.size = 1 := by simpa [Cond.value, given_1] using g0
    obtain ⟨L⟩ := args
    match L, hs with
    | [w0], _ => exact ⟨w0, rfl⟩
  have hw := fun d (hd : d ∈ tables_1) => atoms_spec (ws := Jvm.Cond.code x code maxLocals ret :: tables_1) hat d (List.mem_cons_of_mem _ hd)
  have hfit : Fit s := fun {y c} hc i hi => by
    obtain ⟨ha, rfl⟩ := Array.getElem?_eq_some_iff.mp hc
    have q := List.all_eq_true.mp ((Array.all_eq_true_iff_forall_mem.mp hF) _ (Array.getElem_mem ha)) i (List.mem_range.mpr hi)
    simpa [Array.getElem?_eq_getElem hi] using q
  obtain ⟨n1, n2⟩ := and_e hn
  obtain ⟨a, cl, xs, rfl, hA1, hA2, hlen⟩ := script_ok hfit n1 n2
  obtain ⟨τ, hF0, hc1, hs1⟩ := law_ok xs hlen
  have hlt := hA1.lt
  have Ad : QAd s.heap.size (fun k => match k with | 0 => a | k + 1 => s.heap.size + k) := ⟨fun k hk => by cases k with | zero => exact absurd hk (by decide) | succ k => rfl, fun i j h => by
    cases i with
    | zero => cases j with
      | zero => rfl
      | succ j => have h' : a = s.heap.size + j := h; exact absurd hA1.lt (by rw [h']; exact Nat.not_lt.mpr (Nat.le_add_right _ _))
    | succ i => cases j with
      | zero => have h' : s.heap.size + i = a := h; exact absurd hA1.lt (by rw [← h']; exact Nat.not_lt.mpr (Nat.le_add_right _ _))
      | succ j => have h' : s.heap.size + i = s.heap.size + j := h; omega⟩
  have hR : QRep s s.heap.size (fun k => match k with | 0 => a | k + 1 => s.heap.size + k) s.heap [.inr (.inl (.int, xs))] := ⟨Nat.le_refl _, rfl, fun k c h => by
    cases k with
    | zero => cases h; exact ⟨cl, hA1, hA2⟩
    | succ k => cases h⟩
  have T := tF0 (l := l) (Z := s) Ad (QW_ok hw) xs hF0
  have M := QTri.met (k := 0) (as := [.ref 0]) (by decide) T hR (Nat.le_of_ble_eq_true rfl) (fun q => by cases q) tables_1 (rm := room_1) (by decide) (by decide) hc1 hs1
  obtain ⟨n, o, h1, h2, h3, _, L, rfl, ⟨rfl, R', N⟩, hq⟩ := M p e ha hc hk s m _ below hf ((Spec.applies_iff_loose hf).mp happ).1 ⟨rfl, State.Warmed39.refl s, rfl⟩ trivial
  refine ⟨n, _, h1, h2, h3, hpost _ _ _ _ _ _ ⟨Cond.after_iff.mpr rfl, Cond.after_iff.mpr (eq_i res_at (Term.int_eval (1)) rfl), trivial⟩ ⟨hq.1, hq.2.1, (hq.2.2.sift fun y hy => Or.inr (N y hy)).mono hc1 hs1⟩⟩
theorem main_1_1 : Claimed_1_1 := comes_1 fun _ _ _ _ _ _ h hF => ⟨h.1, hF⟩
theorem main_1_2 : Claimed_1_2 := comes_1 fun _ _ _ _ _ _ h hF => ⟨h.2.1, hF⟩
end Jvm.Pilot.@@N@@
namespace Jvm.Pilot.@@N@@
open Jvm Jvm.ClassFile Sem Op Lib Jvm.Free Jvm.Stand Jvm.Pilot.@@N@@.Jvm.D
/-! MADE BY PROGRAM (witnessworld.py) out of the Statement's table words and the real class files: 11 classes; the members and pool entries that the words name. The judged class is class 1, her method 1. -/
namespace start1
open Jvm.ClassFile
def u (s : String) : CpInfo := .utf8 (stringToUtf16 s)
/-- a pool by its gaps: so many unusable entries, then the entry; so many at the end -/
def gap : Nat → List CpInfo → List CpInfo
  | 0, r => r
  | n + 1, r => .unusable :: gap n r
def poolList (es : List (Nat × CpInfo)) (last : Nat) : List CpInfo := es.foldr (fun e r => gap e.1 (e.2 :: r)) (gap last [])
def pool (es : List (Nat × CpInfo)) (last : Nat) : Array CpInfo := ⟨poolList es last⟩
def fileOf (pool : Array CpInfo) (this : Nat) (attrs : Array Attribute := #[]) (ms : Array MethodInfo := #[]) (fl : Nat := 33) (sup : Nat := 0) (ifs : Array Nat := #[]) (fds : Array FieldInfo := #[]) : ClassFile where
  minorVersion := 0
  majorVersion := 65
  constantPool := pool
  accessFlags := fl
  thisClass := this
  superClass := sup
  interfaces := ifs
  fields := fds
  methods := ms
  attributes := attrs
def plain (name : String) (sup : Option ClassId) : Class where
  name := name
  kind := .ordinary
  loader := none
  accessFlags := 33
  super := sup
  interfaces := #[]
  cf := none
  fields := #[]
  methods := #[]
  instanceTypes := #[]
  staticTypes := #[]
  resolved := #[]
  callSites := []
  init := .initialized
  statics := none
  mirror := none

def pool0 : Array CpInfo := pool [(5, u "<init>"), (0, u "()V"), (1, .class_ 10), (1, u "java/lang/Object")] 113

def k0c0 : Code := { maxStack := 0, maxLocals := 1, code := object_method_1_code, exceptionTable := #[], attributes := #[] }
def k0m0 : Method := { name := "<init>", desc := "()V", sig := { parameters := [], returnType := none }, accessFlags := 1, code := some k0c0 }
/-- java/lang/Object -/
def k0 : Class := { plain "java/lang/Object" none with
  accessFlags := 33
  interfaces := #[]
  cf := some (fileOf pool0 8 #[] #[{ accessFlags := 1, nameIndex := 5, descriptorIndex := 6, attributes := #[] }] 33 0 #[] #[])
  fields := #[]
  methods := #[k0m0]
  instanceTypes := #[]
  staticTypes := #[]
  resolved := Array.replicate 124 none
  statics := none }

def pool1 : Array CpInfo := pool [(2, .class_ 4), (1, u "java/lang/Object"), (0, u "<init>"), (0, u "()V"), (0, .class_ 8), (0, u "SwitchLowererX"), (0, .methodref 7 10), (0, .nameAndType 5 11), (0, u "(II)V"), (0, .methodref 7 13), (0, .nameAndType 14 15), (0, u "addCase"), (0, u "(II)I"), (0, .methodref 7 17), (0, .nameAndType 18 19), (0, u "removeCase"), (0, u "(I)I"), (0, .methodref 7 21), (0, .nameAndType 22 19), (0, u "setDefault"), (0, .methodref 7 24), (0, .nameAndType 25 26), (0, u "lower"), (0, u "()I"), (0, .methodref 7 28), (0, .nameAndType 29 6), (0, u "reset"), (0, .methodref 31 32), (0, .class_ 33), (0, .nameAndType 34 35), (0, u "SwitchLowererXL4"), (0, u "holds"), (0, u "(LSwitchLowererX;ZI)Z"), (0, .methodref 7 37), (0, .nameAndType 38 26), (0, u "caseCount"), (0, .methodref 7 40), (0, .nameAndType 41 26), (0, u "defaultTarget"), (0, .methodref 7 43), (0, .nameAndType 44 45), (0, u "isCurrent"), (0, u "()Z"), (0, .methodref 7 47), (0, .nameAndType 48 19), (0, u "caseValueAt"), (0, .methodref 7 50), (0, .nameAndType 51 19), (0, u "caseTargetAt"), (0, .methodref 7 53), (0, .nameAndType 54 19), (0, u "lookup"), (0, .methodref 7 56), (0, .nameAndType 57 19), (0, u "route"), (2, u "law"), (0, u "([I)Z")] 3

def k1m0 : Method := { name := "<init>", desc := "()V", sig := { parameters := [], returnType := none }, accessFlags := 1, code := none }
def k1c1 : Code := { maxStack := 4, maxLocals := 7, code := code, exceptionTable := #[], attributes := #[] }
def k1m1 : Method := { name := "law", desc := "([I)Z", sig := { parameters := [(.array .int)], returnType := some .boolean }, accessFlags := 9, code := some k1c1 }
def k1c2 : Code := { maxStack := 2, maxLocals := 12, code := method_3_code, exceptionTable := #[], attributes := #[] }
def k1m2 : Method := { name := "holds", desc := "(LSwitchLowererX;ZI)Z", sig := { parameters := [(.object "SwitchLowererX"), .boolean, .int], returnType := some .boolean }, accessFlags := 10, code := some k1c2 }
/-- SwitchLowererXL4 -/
def k1 : Class := { plain "SwitchLowererXL4" (some 0) with
  accessFlags := 49
  interfaces := #[]
  cf := some (fileOf pool1 31 #[] #[{ accessFlags := 1, nameIndex := 5, descriptorIndex := 6, attributes := #[] }, { accessFlags := 9, nameIndex := 60, descriptorIndex := 61, attributes := #[] }, { accessFlags := 10, nameIndex := 34, descriptorIndex := 35, attributes := #[] }] 49 2 #[] #[])
  fields := #[]
  methods := #[k1m0, k1m1, k1m2]
  instanceTypes := #[]
  staticTypes := #[]
  resolved := Array.replicate 65 none
  statics := none }

def pool2 : Array CpInfo := pool [(1, .methodref 2 3), (0, .class_ 4), (0, .nameAndType 5 6), (0, u "java/lang/Object"), (0, u "<init>"), (0, u "()V"), (0, .fieldref 8 9), (0, .class_ 10), (0, .nameAndType 11 12), (0, u "SwitchLowererX"), (0, u "opRet"), (0, u "I"), (0, .fieldref 8 14), (0, .nameAndType 15 12), (0, u "opLess"), (0, .fieldref 8 17), (0, .nameAndType 18 12), (0, u "opEq"), (0, .fieldref 8 20), (0, .nameAndType 21 12), (0, u "opTable"), (0, .fieldref 8 23), (0, .nameAndType 24 12), (0, u "opBits"), (0, .fieldref 8 26), (0, .nameAndType 27 12), (0, u "maxCap"), (0, .fieldref 8 29), (0, .nameAndType 30 12), (0, u "maxTargets"), (0, .fieldref 8 32), (0, .nameAndType 33 12), (0, u "maxSteps"), (0, .fieldref 8 35), (0, .nameAndType 36 12), (0, u "tableSpanPerCase"), (0, .fieldref 8 38), (0, .nameAndType 39 12), (0, u "maxTableSpan"), (0, .fieldref 8 41), (0, .nameAndType 42 12), (0, u "maxBitSpan"), (0, .fieldref 8 44), (0, .nameAndType 45 12), (0, u "maxBitTargets"), (0, .long 4294967295), (1, .fieldref 8 49), (0, .nameAndType 50 51), (0, u "unsignedMask"), (0, u "J"), (0, .integer 2147483647), (0, .fieldref 8 54), (0, .nameAndType 55 12), (0, u "maxInt"), (0, .fieldref 8 57), (0, .nameAndType 58 59), (0, u "curVal"), (0, u "[I"), (0, .fieldref 8 61), (0, .nameAndType 62 63), (0, u "curTgt"), (0, u "[B"), (0, .fieldref 8 65), (0, .nameAndType 66 59), (0, u "snapVal"), (0, .fieldref 8 68), (0, .nameAndType 69 63), (0, u "snapTgt"), (0, .fieldref 8 71), (0, .nameAndType 72 59), (0, u "bestCost"), (0, .fieldref 8 74), (0, .nameAndType 75 59), (0, u "bestCut"), (0, .fieldref 8 77), (0, .nameAndType 78 59), (0, u "clStart"), (0, .fieldref 8 80), (0, .nameAndType 81 59), (0, u "clEnd"), (0, .fieldref 8 83), (0, .nameAndType 84 63), (0, u "opc"), (0, .fieldref 8 86), (0, .nameAndType 87 59), (0, u "argA"), (0, .fieldref 8 89), (0, .nameAndType 90 59), (0, u "argB"), (0, .fieldref 8 92), (0, .nameAndType 93 59), (0, u "argC"), (0, .fieldref 8 95), (0, .nameAndType 96 59), (0, u "argD"), (0, .fieldref 8 98), (0, .nameAndType 99 63), (0, u "tablePool"), (0, .fieldref 8 101), (0, .nameAndType 102 103), (0, u "maskPool"), (0, u "[J"), (0, .fieldref 8 105), (0, .nameAndType 106 63), (0, u "maskTarget"), (0, .fieldref 8 108), (0, .nameAndType 109 59), (0, u "stLo"), (0, .fieldref 8 111), (0, .nameAndType 112 59), (0, u "stHi"), (0, .fieldref 8 114), (0, .nameAndType 115 59), (0, u "stParent"), (0, .fieldref 8 117), (0, .nameAndType 118 59), (0, u "stSlot"), (0, .methodref 8 120), (0, .nameAndType 121 122), (0, u "clamp"), (0, u "(III)I"), (0, .fieldref 8 124), (0, .nameAndType 125 12), (0, u "cap"), (0, .fieldref 8 127), (0, .nameAndType 128 12), (0, u "targets"), (0, .methodref 8 130), (0, .nameAndType 131 6), (0, u "reset"), (0, .fieldref 8 133), (0, .nameAndType 134 12), (0, u "curCount"), (0, .fieldref 8 136), (0, .nameAndType 137 12), (0, u "curDefault"), (0, .fieldref 8 139), (0, .nameAndType 140 141), (0, u "dirty"), (0, u "Z"), (0, .fieldref 8 143), (0, .nameAndType 144 12), (0, u "snapCount"), (0, .fieldref 8 146), (0, .nameAndType 147 12), (0, u "snapDefault"), (0, .fieldref 8 149), (0, .nameAndType 150 141), (0, u "hasSnap"), (0, .fieldref 8 152), (0, .nameAndType 153 12), (0, u "clCount"), (0, .fieldref 8 155), (0, .nameAndType 156 12), (0, u "codeLen"), (0, .fieldref 8 158), (0, .nameAndType 159 12), (0, u "rootPc"), (0, .fieldref 8 161), (0, .nameAndType 162 12), (0, u "tableUsed"), (0, .fieldref 8 164), (0, .nameAndType 165 12), (0, u "maskUsed"), (0, .fieldref 8 167), (0, .nameAndType 168 12), (0, u "sp"), (0, .methodref 8 170), (0, .nameAndType 171 172), (0, u "curLowerBound"), (0, u "(I)I"), (0, .methodref 8 174), (0, .nameAndType 175 172), (0, u "curIndexOf"), (0, .methodref 8 177), (0, .nameAndType 178 6), (0, u "takeSnapshot"), (0, .methodref 8 180), (0, .nameAndType 181 6), (0, u "planClusters"), (0, .methodref 8 183), (0, .nameAndType 184 6), (0, u "collectClusters"), (0, .methodref 8 186), (0, .nameAndType 187 6), (0, u "buildTree"), (0, .methodref 8 189), (0, .nameAndType 190 172), (0, u "run"), (9, u "(II)J"), (4, .long 256), (1, .methodref 8 208), (0, .nameAndType 209 210), (0, u "clusterFits"), (0, u "(JII)Z"), (0, .long 64), (1, .long 4), (1, .methodref 8 216), (0, .nameAndType 217 218), (0, u "emit"), (0, u "(IIIII)I"), (0, .methodref 8 220), (0, .nameAndType 221 222), (0, u "push"), (0, u "(IIII)V"), (0, .methodref 8 224), (0, .nameAndType 225 172), (0, u "emitLeaf"), (0, .methodref 8 227), (0, .nameAndType 228 172), (0, u "clusterLow"), (0, .methodref 8 230), (0, .nameAndType 231 232), (0, u "patch"), (0, u "(III)V"), (0, .methodref 8 234), (0, .nameAndType 235 236), (0, u "distinctTargets"), (0, u "(II)I"), (0, .methodref 8 238), (0, .nameAndType 239 122), (0, u "emitBits"), (3, .methodref 8 244), (0, .nameAndType 245 122), (0, u "findMaskSlot"), (0, .methodref 8 247), (0, .nameAndType 248 236), (0, u "runLeaf"), (3, .methodref 8 253), (0, .nameAndType 254 236), (0, u "runBits"), (0, .methodref 8 256), (0, .nameAndType 257 200), (0, u "unsignedOffset"), (3, u "OK"), (2, u "FULL"), (1, u "DUPLICATE"), (1, u "BAD_TARGET"), (1, u "ABSENT"), (1, u "NOT_LOWERED"), (1, u "NO_CASE"), (0, u "NONE"), (3, u "(II)V"), (3, u "()I"), (1, u "addCase"), (1, u "removeCase"), (0, u "setDefault"), (0, u "caseCount"), (0, u "caseValueAt"), (0, u "caseTargetAt"), (0, u "defaultTarget"), (0, u "lookup"), (0, u "lower"), (0, u "isCurrent"), (0, u "()Z"), (0, u "route")] 5

def k2c0 : Code := { maxStack := 5, maxLocals := 3, code := prog_1_method_1_code, exceptionTable := #[], attributes := #[] }
def k2m0 : Method := { name := "<init>", desc := "(II)V", sig := { parameters := [.int, .int], returnType := none }, accessFlags := 1, code := some k2c0 }
def k2c1 : Code := { maxStack := 2, maxLocals := 1, code := prog_1_method_4_code, exceptionTable := #[], attributes := #[] }
def k2m1 : Method := { name := "reset", desc := "()V", sig := { parameters := [], returnType := none }, accessFlags := 1, code := some k2c1 }
def k2c2 : Code := { maxStack := 5, maxLocals := 5, code := prog_1_method_5_code, exceptionTable := #[], attributes := #[] }
def k2m2 : Method := { name := "addCase", desc := "(II)I", sig := { parameters := [.int, .int], returnType := some .int }, accessFlags := 1, code := some k2c2 }
def k2c3 : Code := { maxStack := 5, maxLocals := 4, code := prog_1_method_6_code, exceptionTable := #[], attributes := #[] }
def k2m3 : Method := { name := "removeCase", desc := "(I)I", sig := { parameters := [.int], returnType := some .int }, accessFlags := 1, code := some k2c3 }
def k2c4 : Code := { maxStack := 2, maxLocals := 2, code := prog_1_method_7_code, exceptionTable := #[], attributes := #[] }
def k2m4 : Method := { name := "setDefault", desc := "(I)I", sig := { parameters := [.int], returnType := some .int }, accessFlags := 1, code := some k2c4 }
def k2c5 : Code := { maxStack := 1, maxLocals := 1, code := prog_1_method_8_code, exceptionTable := #[], attributes := #[] }
def k2m5 : Method := { name := "caseCount", desc := "()I", sig := { parameters := [], returnType := some .int }, accessFlags := 1, code := some k2c5 }
def k2c6 : Code := { maxStack := 2, maxLocals := 2, code := prog_1_method_9_code, exceptionTable := #[], attributes := #[] }
def k2m6 : Method := { name := "caseValueAt", desc := "(I)I", sig := { parameters := [.int], returnType := some .int }, accessFlags := 1, code := some k2c6 }
def k2c7 : Code := { maxStack := 2, maxLocals := 2, code := prog_1_method_10_code, exceptionTable := #[], attributes := #[] }
def k2m7 : Method := { name := "caseTargetAt", desc := "(I)I", sig := { parameters := [.int], returnType := some .int }, accessFlags := 1, code := some k2c7 }
def k2c8 : Code := { maxStack := 1, maxLocals := 1, code := prog_1_method_11_code, exceptionTable := #[], attributes := #[] }
def k2m8 : Method := { name := "defaultTarget", desc := "()I", sig := { parameters := [], returnType := some .int }, accessFlags := 1, code := some k2c8 }
def k2c9 : Code := { maxStack := 2, maxLocals := 3, code := prog_1_method_12_code, exceptionTable := #[], attributes := #[] }
def k2m9 : Method := { name := "lookup", desc := "(I)I", sig := { parameters := [.int], returnType := some .int }, accessFlags := 1, code := some k2c9 }
def k2c10 : Code := { maxStack := 1, maxLocals := 1, code := prog_1_method_13_code, exceptionTable := #[], attributes := #[] }
def k2m10 : Method := { name := "lower", desc := "()I", sig := { parameters := [], returnType := some .int }, accessFlags := 1, code := some k2c10 }
def k2c11 : Code := { maxStack := 1, maxLocals := 1, code := prog_1_method_14_code, exceptionTable := #[], attributes := #[] }
def k2m11 : Method := { name := "isCurrent", desc := "()Z", sig := { parameters := [], returnType := some .boolean }, accessFlags := 1, code := some k2c11 }
def k2c12 : Code := { maxStack := 2, maxLocals := 2, code := prog_1_method_15_code, exceptionTable := #[], attributes := #[] }
def k2m12 : Method := { name := "route", desc := "(I)I", sig := { parameters := [.int], returnType := some .int }, accessFlags := 1, code := some k2c12 }
def k2c13 : Code := { maxStack := 2, maxLocals := 4, code := prog_1_method_18_code, exceptionTable := #[], attributes := #[] }
def k2m13 : Method := { name := "clamp", desc := "(III)I", sig := { parameters := [.int, .int, .int], returnType := some .int }, accessFlags := 2, code := some k2c13 }
def k2c14 : Code := { maxStack := 2, maxLocals := 6, code := prog_1_method_19_code, exceptionTable := #[], attributes := #[] }
def k2m14 : Method := { name := "curLowerBound", desc := "(I)I", sig := { parameters := [.int], returnType := some .int }, accessFlags := 2, code := some k2c14 }
def k2c15 : Code := { maxStack := 2, maxLocals := 3, code := prog_1_method_20_code, exceptionTable := #[], attributes := #[] }
def k2m15 : Method := { name := "curIndexOf", desc := "(I)I", sig := { parameters := [.int], returnType := some .int }, accessFlags := 2, code := some k2c15 }
def k2c16 : Code := { maxStack := 4, maxLocals := 2, code := prog_1_method_22_code, exceptionTable := #[], attributes := #[] }
def k2m16 : Method := { name := "takeSnapshot", desc := "()V", sig := { parameters := [], returnType := none }, accessFlags := 2, code := some k2c16 }
def k2c17 : Code := { maxStack := 5, maxLocals := 10, code := prog_1_method_23_code, exceptionTable := #[], attributes := #[] }
def k2m17 : Method := { name := "planClusters", desc := "()V", sig := { parameters := [], returnType := none }, accessFlags := 2, code := some k2c17 }
def k2c18 : Code := { maxStack := 6, maxLocals := 7, code := prog_1_method_24_code, exceptionTable := #[], attributes := #[] }
def k2m18 : Method := { name := "clusterFits", desc := "(JII)Z", sig := { parameters := [.long, .int, .int], returnType := some .boolean }, accessFlags := 2, code := some k2c18 }
def k2c19 : Code := { maxStack := 4, maxLocals := 6, code := prog_1_method_25_code, exceptionTable := #[], attributes := #[] }
def k2m19 : Method := { name := "collectClusters", desc := "()V", sig := { parameters := [], returnType := none }, accessFlags := 2, code := some k2c19 }
def k2c20 : Code := { maxStack := 7, maxLocals := 9, code := prog_1_method_26_code, exceptionTable := #[], attributes := #[] }
def k2m20 : Method := { name := "buildTree", desc := "()V", sig := { parameters := [], returnType := none }, accessFlags := 2, code := some k2c20 }
def k2c21 : Code := { maxStack := 3, maxLocals := 5, code := prog_1_method_27_code, exceptionTable := #[], attributes := #[] }
def k2m21 : Method := { name := "push", desc := "(IIII)V", sig := { parameters := [.int, .int, .int, .int], returnType := none }, accessFlags := 2, code := some k2c21 }
def k2c22 : Code := { maxStack := 3, maxLocals := 4, code := prog_1_method_28_code, exceptionTable := #[], attributes := #[] }
def k2m22 : Method := { name := "patch", desc := "(III)V", sig := { parameters := [.int, .int, .int], returnType := none }, accessFlags := 2, code := some k2c22 }
def k2c23 : Code := { maxStack := 3, maxLocals := 7, code := prog_1_method_29_code, exceptionTable := #[], attributes := #[] }
def k2m23 : Method := { name := "emit", desc := "(IIIII)I", sig := { parameters := [.int, .int, .int, .int, .int], returnType := some .int }, accessFlags := 2, code := some k2c23 }
def k2c24 : Code := { maxStack := 2, maxLocals := 3, code := prog_1_method_30_code, exceptionTable := #[], attributes := #[] }
def k2m24 : Method := { name := "clusterLow", desc := "(I)I", sig := { parameters := [.int], returnType := some .int }, accessFlags := 2, code := some k2c24 }
def k2c25 : Code := { maxStack := 6, maxLocals := 7, code := prog_1_method_31_code, exceptionTable := #[], attributes := #[] }
def k2m25 : Method := { name := "emitLeaf", desc := "(I)I", sig := { parameters := [.int], returnType := some .int }, accessFlags := 2, code := some k2c25 }
def k2c26 : Code := { maxStack := 3, maxLocals := 7, code := prog_1_method_32_code, exceptionTable := #[], attributes := #[] }
def k2m26 : Method := { name := "distinctTargets", desc := "(II)I", sig := { parameters := [.int, .int], returnType := some .int }, accessFlags := 2, code := some k2c26 }
def k2c27 : Code := { maxStack := 7, maxLocals := 11, code := prog_1_method_33_code, exceptionTable := #[], attributes := #[] }
def k2m27 : Method := { name := "emitBits", desc := "(III)I", sig := { parameters := [.int, .int, .int], returnType := some .int }, accessFlags := 2, code := some k2c27 }
def k2c28 : Code := { maxStack := 2, maxLocals := 6, code := prog_1_method_34_code, exceptionTable := #[], attributes := #[] }
def k2m28 : Method := { name := "findMaskSlot", desc := "(III)I", sig := { parameters := [.int, .int, .int], returnType := some .int }, accessFlags := 2, code := some k2c28 }
def k2c29 : Code := { maxStack := 3, maxLocals := 6, code := prog_1_method_36_code, exceptionTable := #[], attributes := #[] }
def k2m29 : Method := { name := "run", desc := "(I)I", sig := { parameters := [.int], returnType := some .int }, accessFlags := 2, code := some k2c29 }
def k2c30 : Code := { maxStack := 3, maxLocals := 4, code := prog_1_method_37_code, exceptionTable := #[], attributes := #[] }
def k2m30 : Method := { name := "runLeaf", desc := "(II)I", sig := { parameters := [.int, .int], returnType := some .int }, accessFlags := 2, code := some k2c30 }
def k2c31 : Code := { maxStack := 4, maxLocals := 3, code := prog_1_method_38_code, exceptionTable := #[], attributes := #[] }
def k2m31 : Method := { name := "unsignedOffset", desc := "(II)J", sig := { parameters := [.int, .int], returnType := some .long }, accessFlags := 2, code := some k2c31 }
def k2c32 : Code := { maxStack := 4, maxLocals := 10, code := prog_1_method_40_code, exceptionTable := #[], attributes := #[] }
def k2m32 : Method := { name := "runBits", desc := "(II)I", sig := { parameters := [.int, .int], returnType := some .int }, accessFlags := 2, code := some k2c32 }
/-- SwitchLowererX -/
def k2 : Class := { plain "SwitchLowererX" (some 0) with
  accessFlags := 49
  interfaces := #[]
  cf := some (fileOf pool2 8 #[] #[{ accessFlags := 1, nameIndex := 5, descriptorIndex := 279, attributes := #[] }, { accessFlags := 1, nameIndex := 131, descriptorIndex := 6, attributes := #[] }, { accessFlags := 1, nameIndex := 285, descriptorIndex := 236, attributes := #[] }, { accessFlags := 1, nameIndex := 287, descriptorIndex := 172, attributes := #[] }, { accessFlags := 1, nameIndex := 288, descriptorIndex := 172, attributes := #[] }, { accessFlags := 1, nameIndex := 289, descriptorIndex := 283, attributes := #[] }, { accessFlags := 1, nameIndex := 290, descriptorIndex := 172, attributes := #[] }, { accessFlags := 1, nameIndex := 291, descriptorIndex := 172, attributes := #[] }, { accessFlags := 1, nameIndex := 292, descriptorIndex := 283, attributes := #[] }, { accessFlags := 1, nameIndex := 293, descriptorIndex := 172, attributes := #[] }, { accessFlags := 1, nameIndex := 294, descriptorIndex := 283, attributes := #[] }, { accessFlags := 1, nameIndex := 295, descriptorIndex := 296, attributes := #[] }, { accessFlags := 1, nameIndex := 297, descriptorIndex := 172, attributes := #[] }, { accessFlags := 2, nameIndex := 121, descriptorIndex := 122, attributes := #[] }, { accessFlags := 2, nameIndex := 171, descriptorIndex := 172, attributes := #[] }, { accessFlags := 2, nameIndex := 175, descriptorIndex := 172, attributes := #[] }, { accessFlags := 2, nameIndex := 178, descriptorIndex := 6, attributes := #[] }, { accessFlags := 2, nameIndex := 181, descriptorIndex := 6, attributes := #[] }, { accessFlags := 2, nameIndex := 209, descriptorIndex := 210, attributes := #[] }, { accessFlags := 2, nameIndex := 184, descriptorIndex := 6, attributes := #[] }, { accessFlags := 2, nameIndex := 187, descriptorIndex := 6, attributes := #[] }, { accessFlags := 2, nameIndex := 221, descriptorIndex := 222, attributes := #[] }, { accessFlags := 2, nameIndex := 231, descriptorIndex := 232, attributes := #[] }, { accessFlags := 2, nameIndex := 217, descriptorIndex := 218, attributes := #[] }, { accessFlags := 2, nameIndex := 228, descriptorIndex := 172, attributes := #[] }, { accessFlags := 2, nameIndex := 225, descriptorIndex := 172, attributes := #[] }, { accessFlags := 2, nameIndex := 235, descriptorIndex := 236, attributes := #[] }, { accessFlags := 2, nameIndex := 239, descriptorIndex := 122, attributes := #[] }, { accessFlags := 2, nameIndex := 245, descriptorIndex := 122, attributes := #[] }, { accessFlags := 2, nameIndex := 190, descriptorIndex := 172, attributes := #[] }, { accessFlags := 2, nameIndex := 248, descriptorIndex := 236, attributes := #[] }, { accessFlags := 2, nameIndex := 257, descriptorIndex := 200, attributes := #[] }, { accessFlags := 2, nameIndex := 254, descriptorIndex := 236, attributes := #[] }] 49 2 #[] #[{ accessFlags := 25, nameIndex := 261, descriptorIndex := 12, attributes := #[] }, { accessFlags := 25, nameIndex := 264, descriptorIndex := 12, attributes := #[] }, { accessFlags := 25, nameIndex := 266, descriptorIndex := 12, attributes := #[] }, { accessFlags := 25, nameIndex := 268, descriptorIndex := 12, attributes := #[] }, { accessFlags := 25, nameIndex := 270, descriptorIndex := 12, attributes := #[] }, { accessFlags := 25, nameIndex := 272, descriptorIndex := 12, attributes := #[] }, { accessFlags := 25, nameIndex := 274, descriptorIndex := 12, attributes := #[] }, { accessFlags := 25, nameIndex := 275, descriptorIndex := 51, attributes := #[] }, { accessFlags := 18, nameIndex := 11, descriptorIndex := 12, attributes := #[] }, { accessFlags := 18, nameIndex := 15, descriptorIndex := 12, attributes := #[] }, { accessFlags := 18, nameIndex := 18, descriptorIndex := 12, attributes := #[] }, { accessFlags := 18, nameIndex := 21, descriptorIndex := 12, attributes := #[] }, { accessFlags := 18, nameIndex := 24, descriptorIndex := 12, attributes := #[] }, { accessFlags := 18, nameIndex := 27, descriptorIndex := 12, attributes := #[] }, { accessFlags := 18, nameIndex := 30, descriptorIndex := 12, attributes := #[] }, { accessFlags := 18, nameIndex := 33, descriptorIndex := 12, attributes := #[] }, { accessFlags := 18, nameIndex := 36, descriptorIndex := 12, attributes := #[] }, { accessFlags := 18, nameIndex := 39, descriptorIndex := 12, attributes := #[] }, { accessFlags := 18, nameIndex := 42, descriptorIndex := 12, attributes := #[] }, { accessFlags := 18, nameIndex := 45, descriptorIndex := 12, attributes := #[] }, { accessFlags := 18, nameIndex := 50, descriptorIndex := 51, attributes := #[] }, { accessFlags := 18, nameIndex := 55, descriptorIndex := 12, attributes := #[] }, { accessFlags := 2, nameIndex := 125, descriptorIndex := 12, attributes := #[] }, { accessFlags := 2, nameIndex := 128, descriptorIndex := 12, attributes := #[] }, { accessFlags := 18, nameIndex := 58, descriptorIndex := 59, attributes := #[] }, { accessFlags := 18, nameIndex := 62, descriptorIndex := 63, attributes := #[] }, { accessFlags := 2, nameIndex := 134, descriptorIndex := 12, attributes := #[] }, { accessFlags := 2, nameIndex := 137, descriptorIndex := 12, attributes := #[] }, { accessFlags := 2, nameIndex := 140, descriptorIndex := 141, attributes := #[] }, { accessFlags := 18, nameIndex := 66, descriptorIndex := 59, attributes := #[] }, { accessFlags := 18, nameIndex := 69, descriptorIndex := 63, attributes := #[] }, { accessFlags := 2, nameIndex := 144, descriptorIndex := 12, attributes := #[] }, { accessFlags := 2, nameIndex := 147, descriptorIndex := 12, attributes := #[] }, { accessFlags := 2, nameIndex := 150, descriptorIndex := 141, attributes := #[] }, { accessFlags := 18, nameIndex := 72, descriptorIndex := 59, attributes := #[] }, { accessFlags := 18, nameIndex := 75, descriptorIndex := 59, attributes := #[] }, { accessFlags := 18, nameIndex := 78, descriptorIndex := 59, attributes := #[] }, { accessFlags := 18, nameIndex := 81, descriptorIndex := 59, attributes := #[] }, { accessFlags := 2, nameIndex := 153, descriptorIndex := 12, attributes := #[] }, { accessFlags := 18, nameIndex := 84, descriptorIndex := 63, attributes := #[] }, { accessFlags := 18, nameIndex := 87, descriptorIndex := 59, attributes := #[] }, { accessFlags := 18, nameIndex := 90, descriptorIndex := 59, attributes := #[] }, { accessFlags := 18, nameIndex := 93, descriptorIndex := 59, attributes := #[] }, { accessFlags := 18, nameIndex := 96, descriptorIndex := 59, attributes := #[] }, { accessFlags := 2, nameIndex := 156, descriptorIndex := 12, attributes := #[] }, { accessFlags := 2, nameIndex := 159, descriptorIndex := 12, attributes := #[] }, { accessFlags := 18, nameIndex := 99, descriptorIndex := 63, attributes := #[] }, { accessFlags := 2, nameIndex := 162, descriptorIndex := 12, attributes := #[] }, { accessFlags := 18, nameIndex := 102, descriptorIndex := 103, attributes := #[] }, { accessFlags := 18, nameIndex := 106, descriptorIndex := 63, attributes := #[] }, { accessFlags := 2, nameIndex := 165, descriptorIndex := 12, attributes := #[] }, { accessFlags := 18, nameIndex := 109, descriptorIndex := 59, attributes := #[] }, { accessFlags := 18, nameIndex := 112, descriptorIndex := 59, attributes := #[] }, { accessFlags := 18, nameIndex := 115, descriptorIndex := 59, attributes := #[] }, { accessFlags := 18, nameIndex := 118, descriptorIndex := 59, attributes := #[] }, { accessFlags := 2, nameIndex := 168, descriptorIndex := 12, attributes := #[] }])
  fields := #[{ name := "OK", type := .int, accessFlags := 25, slot := 0, constantValue := 0 }, { name := "FULL", type := .int, accessFlags := 25, slot := 1, constantValue := 0 }, { name := "DUPLICATE", type := .int, accessFlags := 25, slot := 2, constantValue := 0 }, { name := "BAD_TARGET", type := .int, accessFlags := 25, slot := 3, constantValue := 0 }, { name := "ABSENT", type := .int, accessFlags := 25, slot := 4, constantValue := 0 }, { name := "NOT_LOWERED", type := .int, accessFlags := 25, slot := 5, constantValue := 0 }, { name := "NO_CASE", type := .int, accessFlags := 25, slot := 6, constantValue := 0 }, { name := "NONE", type := .long, accessFlags := 25, slot := 7, constantValue := 0 }, { name := "opRet", type := .int, accessFlags := 18, slot := 0, constantValue := 0 }, { name := "opLess", type := .int, accessFlags := 18, slot := 1, constantValue := 0 }, { name := "opEq", type := .int, accessFlags := 18, slot := 2, constantValue := 0 }, { name := "opTable", type := .int, accessFlags := 18, slot := 3, constantValue := 0 }, { name := "opBits", type := .int, accessFlags := 18, slot := 4, constantValue := 0 }, { name := "maxCap", type := .int, accessFlags := 18, slot := 5, constantValue := 0 }, { name := "maxTargets", type := .int, accessFlags := 18, slot := 6, constantValue := 0 }, { name := "maxSteps", type := .int, accessFlags := 18, slot := 7, constantValue := 0 }, { name := "tableSpanPerCase", type := .int, accessFlags := 18, slot := 8, constantValue := 0 }, { name := "maxTableSpan", type := .int, accessFlags := 18, slot := 9, constantValue := 0 }, { name := "maxBitSpan", type := .int, accessFlags := 18, slot := 10, constantValue := 0 }, { name := "maxBitTargets", type := .int, accessFlags := 18, slot := 11, constantValue := 0 }, { name := "unsignedMask", type := .long, accessFlags := 18, slot := 12, constantValue := 0 }, { name := "maxInt", type := .int, accessFlags := 18, slot := 13, constantValue := 0 }, { name := "cap", type := .int, accessFlags := 2, slot := 14, constantValue := 0 }, { name := "targets", type := .int, accessFlags := 2, slot := 15, constantValue := 0 }, { name := "curVal", type := (.array .int), accessFlags := 18, slot := 16, constantValue := 0 }, { name := "curTgt", type := (.array .byte), accessFlags := 18, slot := 17, constantValue := 0 }, { name := "curCount", type := .int, accessFlags := 2, slot := 18, constantValue := 0 }, { name := "curDefault", type := .int, accessFlags := 2, slot := 19, constantValue := 0 }, { name := "dirty", type := .boolean, accessFlags := 2, slot := 20, constantValue := 0 }, { name := "snapVal", type := (.array .int), accessFlags := 18, slot := 21, constantValue := 0 }, { name := "snapTgt", type := (.array .byte), accessFlags := 18, slot := 22, constantValue := 0 }, { name := "snapCount", type := .int, accessFlags := 2, slot := 23, constantValue := 0 }, { name := "snapDefault", type := .int, accessFlags := 2, slot := 24, constantValue := 0 }, { name := "hasSnap", type := .boolean, accessFlags := 2, slot := 25, constantValue := 0 }, { name := "bestCost", type := (.array .int), accessFlags := 18, slot := 26, constantValue := 0 }, { name := "bestCut", type := (.array .int), accessFlags := 18, slot := 27, constantValue := 0 }, { name := "clStart", type := (.array .int), accessFlags := 18, slot := 28, constantValue := 0 }, { name := "clEnd", type := (.array .int), accessFlags := 18, slot := 29, constantValue := 0 }, { name := "clCount", type := .int, accessFlags := 2, slot := 30, constantValue := 0 }, { name := "opc", type := (.array .byte), accessFlags := 18, slot := 31, constantValue := 0 }, { name := "argA", type := (.array .int), accessFlags := 18, slot := 32, constantValue := 0 }, { name := "argB", type := (.array .int), accessFlags := 18, slot := 33, constantValue := 0 }, { name := "argC", type := (.array .int), accessFlags := 18, slot := 34, constantValue := 0 }, { name := "argD", type := (.array .int), accessFlags := 18, slot := 35, constantValue := 0 }, { name := "codeLen", type := .int, accessFlags := 2, slot := 36, constantValue := 0 }, { name := "rootPc", type := .int, accessFlags := 2, slot := 37, constantValue := 0 }, { name := "tablePool", type := (.array .byte), accessFlags := 18, slot := 38, constantValue := 0 }, { name := "tableUsed", type := .int, accessFlags := 2, slot := 39, constantValue := 0 }, { name := "maskPool", type := (.array .long), accessFlags := 18, slot := 40, constantValue := 0 }, { name := "maskTarget", type := (.array .byte), accessFlags := 18, slot := 41, constantValue := 0 }, { name := "maskUsed", type := .int, accessFlags := 2, slot := 42, constantValue := 0 }, { name := "stLo", type := (.array .int), accessFlags := 18, slot := 43, constantValue := 0 }, { name := "stHi", type := (.array .int), accessFlags := 18, slot := 44, constantValue := 0 }, { name := "stParent", type := (.array .int), accessFlags := 18, slot := 45, constantValue := 0 }, { name := "stSlot", type := (.array .int), accessFlags := 18, slot := 46, constantValue := 0 }, { name := "sp", type := .int, accessFlags := 2, slot := 47, constantValue := 0 }]
  methods := #[k2m0, k2m1, k2m2, k2m3, k2m4, k2m5, k2m6, k2m7, k2m8, k2m9, k2m10, k2m11, k2m12, k2m13, k2m14, k2m15, k2m16, k2m17, k2m18, k2m19, k2m20, k2m21, k2m22, k2m23, k2m24, k2m25, k2m26, k2m27, k2m28, k2m29, k2m30, k2m31, k2m32]
  instanceTypes := #[.int, .int, .int, .int, .int, .int, .int, .int, .int, .int, .int, .int, .long, .int, .int, .int, (.array .int), (.array .byte), .int, .int, .boolean, (.array .int), (.array .byte), .int, .int, .boolean, (.array .int), (.array .int), (.array .int), (.array .int), .int, (.array .byte), (.array .int), (.array .int), (.array .int), (.array .int), .int, .int, (.array .byte), .int, (.array .long), (.array .byte), .int, (.array .int), (.array .int), (.array .int), (.array .int), .int]
  staticTypes := #[.int, .int, .int, .int, .int, .int, .int, .long]
  resolved := Array.replicate 303 none
  statics := none }

def pool3 : Array CpInfo := pool [(1, u "java/lang/Cloneable"), (0, .class_ 1), (0, u "java/lang/Object"), (0, .class_ 3)] 3

/-- java/lang/Cloneable -/
def k3 : Class := { plain "java/lang/Cloneable" (some 0) with
  accessFlags := 1537
  interfaces := #[]
  cf := some (fileOf pool3 2 #[] #[] 1537 4 #[] #[])
  fields := #[]
  methods := #[]
  instanceTypes := #[]
  staticTypes := #[]
  resolved := Array.replicate 8 none
  statics := none }

def pool4 : Array CpInfo := pool [(1, u "java/io/Serializable"), (0, .class_ 1), (0, u "java/lang/Object"), (0, .class_ 3)] 3

/-- java/io/Serializable -/
def k4 : Class := { plain "java/io/Serializable" (some 0) with
  accessFlags := 1537
  interfaces := #[]
  cf := some (fileOf pool4 2 #[] #[] 1537 4 #[] #[])
  fields := #[]
  methods := #[]
  instanceTypes := #[]
  staticTypes := #[]
  resolved := Array.replicate 8 none
  statics := none }

/-- the primitive byte -/
def k5 : Class := { plain "byte" none with kind := .primitive 'B', accessFlags := 0x411 }
/-- [B -/
def k6 : Class := { plain "[B" (some 0) with kind := .array 5 .byte, interfaces := #[3, 4], accessFlags := 1041 }

/-- the primitive int -/
def k7 : Class := { plain "int" none with kind := .primitive 'I', accessFlags := 0x411 }
/-- [I -/
def k8 : Class := { plain "[I" (some 0) with kind := .array 7 .int, interfaces := #[3, 4], accessFlags := 1041 }

/-- the primitive long -/
def k9 : Class := { plain "long" none with kind := .primitive 'J', accessFlags := 0x411 }
/-- [J -/
def k10 : Class := { plain "[J" (some 0) with kind := .array 9 .long, interfaces := #[3, 4], accessFlags := 1041 }

def heap : Heap := #[{ cls := 8, slots := #[.int 1, .int 2, .int 3], vm := .none }]
def classes : Array Class := #[k0, k1, k2, k3, k4, k5, k6, k7, k8, k9, k10]
def interned : List (Array UInt16 × Addr) := []
def slotsUsed : Nat := 3
def theMethod : MethodId := ⟨1, 1⟩
def args0 : Array Value := #[.ref 0]
def aboutOver (below : List Frame) : State where
  vm := { classes := classes, interned := interned.toArray }
  heap := heap
  slotsUsed := slotsUsed
  threads := #[{ frames := .invoking theMethod args0 :: below }]
def below0 : List Frame := [.native { method := ⟨0, 0⟩, args := #[] }]
def about1 : State := aboutOver below0
def p0 : Program := .bare "" "" ""
def e0 : Env := launch0.env 0 0 0
theorem w_frames : about1.frames = Frame.invoking theMethod args0 :: below0 := rfl
set_option maxRecDepth 65536 in
theorem w_args : argsFit about1.vm theMethod args0 = true := by decide +kernel
set_option maxRecDepth 65536 in
theorem w_heap : heapFits about1 = true := by decide +kernel
set_option maxRecDepth 65536 in
theorem w_runnable : about1.curStatus? = some .runnable := by decide +kernel
set_option maxRecDepth 65536 in
theorem w_alone : about1.alone = true := by decide +kernel
set_option maxRecDepth 65536 in
theorem w_named : about1.methodNamed? x = some theMethod := by decide +kernel
set_option maxRecDepth 65536 in
theorem w_hears : about1.hears theMethod below0 = true := by decide +kernel
set_option maxRecDepth 65536 in
theorem w_ripe : about1.ripe theMethod args0 below0 = true := by decide +kernel
theorem w_running : about1.status = .running := rfl
set_option maxRecDepth 65536 in
theorem w_room : about1.hasRoom e0.platform room_1 = true :=
  launch0.hasRoom_least _ room_1 (by decide +kernel) (by decide +kernel) (by decide +kernel) (by decide +kernel) (by decide +kernel) (by decide +kernel)
theorem allAtoms_all (ts : List Jvm.Cond) (a : Array Jvm.Value) (st : Jvm.State) : (allAtoms ts).before a st = ts.all (fun c => c.before a st) := by
  induction ts with
  | nil => rfl
  | cons c t ih =>
    show (Jvm.Cond.and c (allAtoms t)).before a st = _
    rw [Jvm.Cond.before_and, ih, List.all_cons]
def words1 : List Jvm.Cond := Jvm.Cond.code x code maxLocals ret :: tables_1
/-- a 'code' word, met by the world's own term for the bytes: nothing is compared byte by byte -/
theorem code_word {y : MethodName} {bytes : ByteArray} {mx : Nat} {rt : Option FieldType} {a : Array Value} {s : State} {m : MethodId} {meth : Method} {c : Code} (h1 : s.methodNamed? y = some m) (h2 : s.vm.method? m = some meth) (h3 : meth.code = some c) (h4 : c.code = bytes)
    (h5 : (c.maxLocals == mx && c.exceptionTable.isEmpty && decide (c.maxStack ≤ mostOperands) && decide (meth.sig.returnType = rt) && !meth.locks && decide (parseMethodDescriptor y.desc = some meth.sig)) = true) : (Jvm.Cond.code y bytes mx rt).before a s = true := by
  simp only [Bool.and_eq_true, beq_iff_eq, Bool.not_eq_true', decide_eq_true_eq] at h5
  obtain ⟨⟨⟨⟨⟨g1, g2⟩, g3⟩, g4⟩, g5⟩, g6⟩ := h5
  simp [Cond.before, Cond.holds, Cond.value, h1, h2, h3, h4, g1, g2, g3, g4, g5, g6]
def isCode : Jvm.Cond → Bool
  | .code _ _ _ _ => true
  | _ => false
theorem all_split {L : List Jvm.Cond} {P : Jvm.Cond → Bool} (h1 : L.all (fun c => isCode c || P c) = true) (h2 : ∀ c ∈ L.filter isCode, P c = true) : L.all P = true := by
  refine List.all_eq_true.mpr fun c hc => ?_
  have h := List.all_eq_true.mp h1 c hc
  rcases Bool.eq_false_or_eq_true (isCode c) with hi | hi
  · exact h2 c (List.mem_filter.mpr ⟨hc, hi⟩)
  · simpa [hi] using h
set_option maxRecDepth 65536 in
theorem w_c0 : (Jvm.Cond.code x code maxLocals ret).before args0 about1 = true := code_word (m := ⟨1, 1⟩) (meth := k1m1) (c := k1c1) (by decide +kernel) rfl rfl rfl (by decide +kernel)
set_option maxRecDepth 65536 in
theorem w_c1 : (Jvm.Cond.code ({ cls := "SwitchLowererX", name := "<init>", desc := "(II)V" } : Jvm.MethodName) prog_1_method_1_code (3 : Nat) (Option.none : Option Jvm.ClassFile.FieldType)).before args0 about1 = true := code_word (m := ⟨2, 0⟩) (meth := k2m0) (c := k2c0) (by decide +kernel) rfl rfl rfl (by decide +kernel)
set_option maxRecDepth 65536 in
theorem w_c2 : (Jvm.Cond.code ({ cls := "java/lang/Object", name := "<init>", desc := "()V" } : Jvm.MethodName) object_method_1_code (1 : Nat) (Option.none : Option Jvm.ClassFile.FieldType)).before args0 about1 = true := code_word (m := ⟨0, 0⟩) (meth := k0m0) (c := k0c0) (by decide +kernel) rfl rfl rfl (by decide +kernel)
set_option maxRecDepth 65536 in
theorem w_c3 : (Jvm.Cond.code ({ cls := "SwitchLowererX", name := "clamp", desc := "(III)I" } : Jvm.MethodName) prog_1_method_18_code (4 : Nat) (Option.some Jvm.ClassFile.FieldType.int)).before args0 about1 = true := code_word (m := ⟨2, 13⟩) (meth := k2m13) (c := k2c13) (by decide +kernel) rfl rfl rfl (by decide +kernel)
set_option maxRecDepth 65536 in
theorem w_c4 : (Jvm.Cond.code ({ cls := "SwitchLowererX", name := "reset", desc := "()V" } : Jvm.MethodName) prog_1_method_4_code (1 : Nat) (Option.none : Option Jvm.ClassFile.FieldType)).before args0 about1 = true := code_word (m := ⟨2, 1⟩) (meth := k2m1) (c := k2c1) (by decide +kernel) rfl rfl rfl (by decide +kernel)
set_option maxRecDepth 65536 in
theorem w_c5 : (Jvm.Cond.code ({ cls := "SwitchLowererX", name := "lower", desc := "()I" } : Jvm.MethodName) prog_1_method_13_code (1 : Nat) (Option.some Jvm.ClassFile.FieldType.int)).before args0 about1 = true := code_word (m := ⟨2, 10⟩) (meth := k2m10) (c := k2c10) (by decide +kernel) rfl rfl rfl (by decide +kernel)
set_option maxRecDepth 65536 in
theorem w_c6 : (Jvm.Cond.code ({ cls := "SwitchLowererX", name := "takeSnapshot", desc := "()V" } : Jvm.MethodName) prog_1_method_22_code (2 : Nat) (Option.none : Option Jvm.ClassFile.FieldType)).before args0 about1 = true := code_word (m := ⟨2, 16⟩) (meth := k2m16) (c := k2c16) (by decide +kernel) rfl rfl rfl (by decide +kernel)
set_option maxRecDepth 65536 in
theorem w_c7 : (Jvm.Cond.code ({ cls := "SwitchLowererX", name := "planClusters", desc := "()V" } : Jvm.MethodName) prog_1_method_23_code (10 : Nat) (Option.none : Option Jvm.ClassFile.FieldType)).before args0 about1 = true := code_word (m := ⟨2, 17⟩) (meth := k2m17) (c := k2c17) (by decide +kernel) rfl rfl rfl (by decide +kernel)
set_option maxRecDepth 65536 in
theorem w_c8 : (Jvm.Cond.code ({ cls := "SwitchLowererX", name := "collectClusters", desc := "()V" } : Jvm.MethodName) prog_1_method_25_code (6 : Nat) (Option.none : Option Jvm.ClassFile.FieldType)).before args0 about1 = true := code_word (m := ⟨2, 19⟩) (meth := k2m19) (c := k2c19) (by decide +kernel) rfl rfl rfl (by decide +kernel)
set_option maxRecDepth 65536 in
theorem w_c9 : (Jvm.Cond.code ({ cls := "SwitchLowererX", name := "buildTree", desc := "()V" } : Jvm.MethodName) prog_1_method_26_code (9 : Nat) (Option.none : Option Jvm.ClassFile.FieldType)).before args0 about1 = true := code_word (m := ⟨2, 20⟩) (meth := k2m20) (c := k2c20) (by decide +kernel) rfl rfl rfl (by decide +kernel)
set_option maxRecDepth 65536 in
theorem w_c10 : (Jvm.Cond.code ({ cls := "SwitchLowererX", name := "emit", desc := "(IIIII)I" } : Jvm.MethodName) prog_1_method_29_code (7 : Nat) (Option.some Jvm.ClassFile.FieldType.int)).before args0 about1 = true := code_word (m := ⟨2, 23⟩) (meth := k2m23) (c := k2c23) (by decide +kernel) rfl rfl rfl (by decide +kernel)
set_option maxRecDepth 65536 in
theorem w_c11 : (Jvm.Cond.code ({ cls := "SwitchLowererXL4", name := "holds", desc := "(LSwitchLowererX;ZI)Z" } : Jvm.MethodName) method_3_code (12 : Nat) (Option.some Jvm.ClassFile.FieldType.boolean)).before args0 about1 = true := code_word (m := ⟨1, 2⟩) (meth := k1m2) (c := k1c2) (by decide +kernel) rfl rfl rfl (by decide +kernel)
set_option maxRecDepth 65536 in
theorem w_c12 : (Jvm.Cond.code ({ cls := "SwitchLowererX", name := "caseCount", desc := "()I" } : Jvm.MethodName) prog_1_method_8_code (1 : Nat) (Option.some Jvm.ClassFile.FieldType.int)).before args0 about1 = true := code_word (m := ⟨2, 5⟩) (meth := k2m5) (c := k2c5) (by decide +kernel) rfl rfl rfl (by decide +kernel)
set_option maxRecDepth 65536 in
theorem w_c13 : (Jvm.Cond.code ({ cls := "SwitchLowererX", name := "defaultTarget", desc := "()I" } : Jvm.MethodName) prog_1_method_11_code (1 : Nat) (Option.some Jvm.ClassFile.FieldType.int)).before args0 about1 = true := code_word (m := ⟨2, 8⟩) (meth := k2m8) (c := k2c8) (by decide +kernel) rfl rfl rfl (by decide +kernel)
set_option maxRecDepth 65536 in
theorem w_c14 : (Jvm.Cond.code ({ cls := "SwitchLowererX", name := "isCurrent", desc := "()Z" } : Jvm.MethodName) prog_1_method_14_code (1 : Nat) (Option.some Jvm.ClassFile.FieldType.boolean)).before args0 about1 = true := code_word (m := ⟨2, 11⟩) (meth := k2m11) (c := k2c11) (by decide +kernel) rfl rfl rfl (by decide +kernel)
set_option maxRecDepth 65536 in
theorem w_c15 : (Jvm.Cond.code ({ cls := "SwitchLowererX", name := "caseTargetAt", desc := "(I)I" } : Jvm.MethodName) prog_1_method_10_code (2 : Nat) (Option.some Jvm.ClassFile.FieldType.int)).before args0 about1 = true := code_word (m := ⟨2, 7⟩) (meth := k2m7) (c := k2c7) (by decide +kernel) rfl rfl rfl (by decide +kernel)
set_option maxRecDepth 65536 in
theorem w_c16 : (Jvm.Cond.code ({ cls := "SwitchLowererX", name := "route", desc := "(I)I" } : Jvm.MethodName) prog_1_method_15_code (2 : Nat) (Option.some Jvm.ClassFile.FieldType.int)).before args0 about1 = true := code_word (m := ⟨2, 12⟩) (meth := k2m12) (c := k2c12) (by decide +kernel) rfl rfl rfl (by decide +kernel)
set_option maxRecDepth 65536 in
theorem w_c17 : (Jvm.Cond.code ({ cls := "SwitchLowererX", name := "run", desc := "(I)I" } : Jvm.MethodName) prog_1_method_36_code (6 : Nat) (Option.some Jvm.ClassFile.FieldType.int)).before args0 about1 = true := code_word (m := ⟨2, 29⟩) (meth := k2m29) (c := k2c29) (by decide +kernel) rfl rfl rfl (by decide +kernel)
set_option maxRecDepth 65536 in
theorem w_c18 : (Jvm.Cond.code ({ cls := "SwitchLowererX", name := "lookup", desc := "(I)I" } : Jvm.MethodName) prog_1_method_12_code (3 : Nat) (Option.some Jvm.ClassFile.FieldType.int)).before args0 about1 = true := code_word (m := ⟨2, 9⟩) (meth := k2m9) (c := k2c9) (by decide +kernel) rfl rfl rfl (by decide +kernel)
set_option maxRecDepth 65536 in
theorem w_c19 : (Jvm.Cond.code ({ cls := "SwitchLowererX", name := "curIndexOf", desc := "(I)I" } : Jvm.MethodName) prog_1_method_20_code (3 : Nat) (Option.some Jvm.ClassFile.FieldType.int)).before args0 about1 = true := code_word (m := ⟨2, 15⟩) (meth := k2m15) (c := k2c15) (by decide +kernel) rfl rfl rfl (by decide +kernel)
set_option maxRecDepth 65536 in
theorem w_c20 : (Jvm.Cond.code ({ cls := "SwitchLowererX", name := "curLowerBound", desc := "(I)I" } : Jvm.MethodName) prog_1_method_19_code (6 : Nat) (Option.some Jvm.ClassFile.FieldType.int)).before args0 about1 = true := code_word (m := ⟨2, 14⟩) (meth := k2m14) (c := k2c14) (by decide +kernel) rfl rfl rfl (by decide +kernel)
set_option maxRecDepth 65536 in
theorem w_c21 : (Jvm.Cond.code ({ cls := "SwitchLowererX", name := "addCase", desc := "(II)I" } : Jvm.MethodName) prog_1_method_5_code (5 : Nat) (Option.some Jvm.ClassFile.FieldType.int)).before args0 about1 = true := code_word (m := ⟨2, 2⟩) (meth := k2m2) (c := k2c2) (by decide +kernel) rfl rfl rfl (by decide +kernel)
set_option maxRecDepth 65536 in
theorem w_c22 : (Jvm.Cond.code ({ cls := "SwitchLowererX", name := "caseValueAt", desc := "(I)I" } : Jvm.MethodName) prog_1_method_9_code (2 : Nat) (Option.some Jvm.ClassFile.FieldType.int)).before args0 about1 = true := code_word (m := ⟨2, 6⟩) (meth := k2m6) (c := k2c6) (by decide +kernel) rfl rfl rfl (by decide +kernel)
set_option maxRecDepth 65536 in
theorem w_c23 : (Jvm.Cond.code ({ cls := "SwitchLowererX", name := "setDefault", desc := "(I)I" } : Jvm.MethodName) prog_1_method_7_code (2 : Nat) (Option.some Jvm.ClassFile.FieldType.int)).before args0 about1 = true := code_word (m := ⟨2, 4⟩) (meth := k2m4) (c := k2c4) (by decide +kernel) rfl rfl rfl (by decide +kernel)
set_option maxRecDepth 65536 in
theorem w_c24 : (Jvm.Cond.code ({ cls := "SwitchLowererX", name := "clusterFits", desc := "(JII)Z" } : Jvm.MethodName) prog_1_method_24_code (7 : Nat) (Option.some Jvm.ClassFile.FieldType.boolean)).before args0 about1 = true := code_word (m := ⟨2, 18⟩) (meth := k2m18) (c := k2c18) (by decide +kernel) rfl rfl rfl (by decide +kernel)
set_option maxRecDepth 65536 in
theorem w_c25 : (Jvm.Cond.code ({ cls := "SwitchLowererX", name := "push", desc := "(IIII)V" } : Jvm.MethodName) prog_1_method_27_code (5 : Nat) (Option.none : Option Jvm.ClassFile.FieldType)).before args0 about1 = true := code_word (m := ⟨2, 21⟩) (meth := k2m21) (c := k2c21) (by decide +kernel) rfl rfl rfl (by decide +kernel)
set_option maxRecDepth 65536 in
theorem w_c26 : (Jvm.Cond.code ({ cls := "SwitchLowererX", name := "emitLeaf", desc := "(I)I" } : Jvm.MethodName) prog_1_method_31_code (7 : Nat) (Option.some Jvm.ClassFile.FieldType.int)).before args0 about1 = true := code_word (m := ⟨2, 25⟩) (meth := k2m25) (c := k2c25) (by decide +kernel) rfl rfl rfl (by decide +kernel)
set_option maxRecDepth 65536 in
theorem w_c27 : (Jvm.Cond.code ({ cls := "SwitchLowererX", name := "distinctTargets", desc := "(II)I" } : Jvm.MethodName) prog_1_method_32_code (7 : Nat) (Option.some Jvm.ClassFile.FieldType.int)).before args0 about1 = true := code_word (m := ⟨2, 26⟩) (meth := k2m26) (c := k2c26) (by decide +kernel) rfl rfl rfl (by decide +kernel)
set_option maxRecDepth 65536 in
theorem w_c28 : (Jvm.Cond.code ({ cls := "SwitchLowererX", name := "emitBits", desc := "(III)I" } : Jvm.MethodName) prog_1_method_33_code (11 : Nat) (Option.some Jvm.ClassFile.FieldType.int)).before args0 about1 = true := code_word (m := ⟨2, 27⟩) (meth := k2m27) (c := k2c27) (by decide +kernel) rfl rfl rfl (by decide +kernel)
set_option maxRecDepth 65536 in
theorem w_c29 : (Jvm.Cond.code ({ cls := "SwitchLowererX", name := "findMaskSlot", desc := "(III)I" } : Jvm.MethodName) prog_1_method_34_code (6 : Nat) (Option.some Jvm.ClassFile.FieldType.int)).before args0 about1 = true := code_word (m := ⟨2, 28⟩) (meth := k2m28) (c := k2c28) (by decide +kernel) rfl rfl rfl (by decide +kernel)
set_option maxRecDepth 65536 in
theorem w_c30 : (Jvm.Cond.code ({ cls := "SwitchLowererX", name := "patch", desc := "(III)V" } : Jvm.MethodName) prog_1_method_28_code (4 : Nat) (Option.none : Option Jvm.ClassFile.FieldType)).before args0 about1 = true := code_word (m := ⟨2, 22⟩) (meth := k2m22) (c := k2c22) (by decide +kernel) rfl rfl rfl (by decide +kernel)
set_option maxRecDepth 65536 in
theorem w_c31 : (Jvm.Cond.code ({ cls := "SwitchLowererX", name := "runLeaf", desc := "(II)I" } : Jvm.MethodName) prog_1_method_37_code (4 : Nat) (Option.some Jvm.ClassFile.FieldType.int)).before args0 about1 = true := code_word (m := ⟨2, 30⟩) (meth := k2m30) (c := k2c30) (by decide +kernel) rfl rfl rfl (by decide +kernel)
set_option maxRecDepth 65536 in
theorem w_c32 : (Jvm.Cond.code ({ cls := "SwitchLowererX", name := "runBits", desc := "(II)I" } : Jvm.MethodName) prog_1_method_40_code (10 : Nat) (Option.some Jvm.ClassFile.FieldType.int)).before args0 about1 = true := code_word (m := ⟨2, 32⟩) (meth := k2m32) (c := k2c32) (by decide +kernel) rfl rfl rfl (by decide +kernel)
set_option maxRecDepth 65536 in
theorem w_c33 : (Jvm.Cond.code ({ cls := "SwitchLowererX", name := "unsignedOffset", desc := "(II)J" } : Jvm.MethodName) prog_1_method_38_code (3 : Nat) (Option.some Jvm.ClassFile.FieldType.long)).before args0 about1 = true := code_word (m := ⟨2, 31⟩) (meth := k2m31) (c := k2c31) (by decide +kernel) rfl rfl rfl (by decide +kernel)
set_option maxRecDepth 65536 in
theorem w_c34 : (Jvm.Cond.code ({ cls := "SwitchLowererX", name := "removeCase", desc := "(I)I" } : Jvm.MethodName) prog_1_method_6_code (4 : Nat) (Option.some Jvm.ClassFile.FieldType.int)).before args0 about1 = true := code_word (m := ⟨2, 3⟩) (meth := k2m3) (c := k2c3) (by decide +kernel) rfl rfl rfl (by decide +kernel)
set_option maxRecDepth 65536 in
theorem w_c35 : (Jvm.Cond.code ({ cls := "SwitchLowererX", name := "clusterLow", desc := "(I)I" } : Jvm.MethodName) prog_1_method_30_code (3 : Nat) (Option.some Jvm.ClassFile.FieldType.int)).before args0 about1 = true := code_word (m := ⟨2, 24⟩) (meth := k2m24) (c := k2c24) (by decide +kernel) rfl rfl rfl (by decide +kernel)
def codes1 : List Jvm.Cond := [Jvm.Cond.code x code maxLocals ret, Jvm.Cond.code ({ cls := "SwitchLowererX", name := "<init>", desc := "(II)V" } : Jvm.MethodName) prog_1_method_1_code (3 : Nat) (Option.none : Option Jvm.ClassFile.FieldType), Jvm.Cond.code ({ cls := "java/lang/Object", name := "<init>", desc := "()V" } : Jvm.MethodName) object_method_1_code (1 : Nat) (Option.none : Option Jvm.ClassFile.FieldType), Jvm.Cond.code ({ cls := "SwitchLowererX", name := "clamp", desc := "(III)I" } : Jvm.MethodName) prog_1_method_18_code (4 : Nat) (Option.some Jvm.ClassFile.FieldType.int), Jvm.Cond.code ({ cls := "SwitchLowererX", name := "reset", desc := "()V" } : Jvm.MethodName) prog_1_method_4_code (1 : Nat) (Option.none : Option Jvm.ClassFile.FieldType), Jvm.Cond.code ({ cls := "SwitchLowererX", name := "lower", desc := "()I" } : Jvm.MethodName) prog_1_method_13_code (1 : Nat) (Option.some Jvm.ClassFile.FieldType.int), Jvm.Cond.code ({ cls := "SwitchLowererX", name := "takeSnapshot", desc := "()V" } : Jvm.MethodName) prog_1_method_22_code (2 : Nat) (Option.none : Option Jvm.ClassFile.FieldType), Jvm.Cond.code ({ cls := "SwitchLowererX", name := "planClusters", desc := "()V" } : Jvm.MethodName) prog_1_method_23_code (10 : Nat) (Option.none : Option Jvm.ClassFile.FieldType), Jvm.Cond.code ({ cls := "SwitchLowererX", name := "collectClusters", desc := "()V" } : Jvm.MethodName) prog_1_method_25_code (6 : Nat) (Option.none : Option Jvm.ClassFile.FieldType), Jvm.Cond.code ({ cls := "SwitchLowererX", name := "buildTree", desc := "()V" } : Jvm.MethodName) prog_1_method_26_code (9 : Nat) (Option.none : Option Jvm.ClassFile.FieldType), Jvm.Cond.code ({ cls := "SwitchLowererX", name := "emit", desc := "(IIIII)I" } : Jvm.MethodName) prog_1_method_29_code (7 : Nat) (Option.some Jvm.ClassFile.FieldType.int), Jvm.Cond.code ({ cls := "SwitchLowererXL4", name := "holds", desc := "(LSwitchLowererX;ZI)Z" } : Jvm.MethodName) method_3_code (12 : Nat) (Option.some Jvm.ClassFile.FieldType.boolean), Jvm.Cond.code ({ cls := "SwitchLowererX", name := "caseCount", desc := "()I" } : Jvm.MethodName) prog_1_method_8_code (1 : Nat) (Option.some Jvm.ClassFile.FieldType.int), Jvm.Cond.code ({ cls := "SwitchLowererX", name := "defaultTarget", desc := "()I" } : Jvm.MethodName) prog_1_method_11_code (1 : Nat) (Option.some Jvm.ClassFile.FieldType.int), Jvm.Cond.code ({ cls := "SwitchLowererX", name := "isCurrent", desc := "()Z" } : Jvm.MethodName) prog_1_method_14_code (1 : Nat) (Option.some Jvm.ClassFile.FieldType.boolean), Jvm.Cond.code ({ cls := "SwitchLowererX", name := "caseTargetAt", desc := "(I)I" } : Jvm.MethodName) prog_1_method_10_code (2 : Nat) (Option.some Jvm.ClassFile.FieldType.int), Jvm.Cond.code ({ cls := "SwitchLowererX", name := "route", desc := "(I)I" } : Jvm.MethodName) prog_1_method_15_code (2 : Nat) (Option.some Jvm.ClassFile.FieldType.int), Jvm.Cond.code ({ cls := "SwitchLowererX", name := "run", desc := "(I)I" } : Jvm.MethodName) prog_1_method_36_code (6 : Nat) (Option.some Jvm.ClassFile.FieldType.int), Jvm.Cond.code ({ cls := "SwitchLowererX", name := "lookup", desc := "(I)I" } : Jvm.MethodName) prog_1_method_12_code (3 : Nat) (Option.some Jvm.ClassFile.FieldType.int), Jvm.Cond.code ({ cls := "SwitchLowererX", name := "curIndexOf", desc := "(I)I" } : Jvm.MethodName) prog_1_method_20_code (3 : Nat) (Option.some Jvm.ClassFile.FieldType.int), Jvm.Cond.code ({ cls := "SwitchLowererX", name := "curLowerBound", desc := "(I)I" } : Jvm.MethodName) prog_1_method_19_code (6 : Nat) (Option.some Jvm.ClassFile.FieldType.int), Jvm.Cond.code ({ cls := "SwitchLowererX", name := "addCase", desc := "(II)I" } : Jvm.MethodName) prog_1_method_5_code (5 : Nat) (Option.some Jvm.ClassFile.FieldType.int), Jvm.Cond.code ({ cls := "SwitchLowererX", name := "caseValueAt", desc := "(I)I" } : Jvm.MethodName) prog_1_method_9_code (2 : Nat) (Option.some Jvm.ClassFile.FieldType.int), Jvm.Cond.code ({ cls := "SwitchLowererX", name := "setDefault", desc := "(I)I" } : Jvm.MethodName) prog_1_method_7_code (2 : Nat) (Option.some Jvm.ClassFile.FieldType.int), Jvm.Cond.code ({ cls := "SwitchLowererX", name := "clusterFits", desc := "(JII)Z" } : Jvm.MethodName) prog_1_method_24_code (7 : Nat) (Option.some Jvm.ClassFile.FieldType.boolean), Jvm.Cond.code ({ cls := "SwitchLowererX", name := "push", desc := "(IIII)V" } : Jvm.MethodName) prog_1_method_27_code (5 : Nat) (Option.none : Option Jvm.ClassFile.FieldType), Jvm.Cond.code ({ cls := "SwitchLowererX", name := "emitLeaf", desc := "(I)I" } : Jvm.MethodName) prog_1_method_31_code (7 : Nat) (Option.some Jvm.ClassFile.FieldType.int), Jvm.Cond.code ({ cls := "SwitchLowererX", name := "distinctTargets", desc := "(II)I" } : Jvm.MethodName) prog_1_method_32_code (7 : Nat) (Option.some Jvm.ClassFile.FieldType.int), Jvm.Cond.code ({ cls := "SwitchLowererX", name := "emitBits", desc := "(III)I" } : Jvm.MethodName) prog_1_method_33_code (11 : Nat) (Option.some Jvm.ClassFile.FieldType.int), Jvm.Cond.code ({ cls := "SwitchLowererX", name := "findMaskSlot", desc := "(III)I" } : Jvm.MethodName) prog_1_method_34_code (6 : Nat) (Option.some Jvm.ClassFile.FieldType.int), Jvm.Cond.code ({ cls := "SwitchLowererX", name := "patch", desc := "(III)V" } : Jvm.MethodName) prog_1_method_28_code (4 : Nat) (Option.none : Option Jvm.ClassFile.FieldType), Jvm.Cond.code ({ cls := "SwitchLowererX", name := "runLeaf", desc := "(II)I" } : Jvm.MethodName) prog_1_method_37_code (4 : Nat) (Option.some Jvm.ClassFile.FieldType.int), Jvm.Cond.code ({ cls := "SwitchLowererX", name := "runBits", desc := "(II)I" } : Jvm.MethodName) prog_1_method_40_code (10 : Nat) (Option.some Jvm.ClassFile.FieldType.int), Jvm.Cond.code ({ cls := "SwitchLowererX", name := "unsignedOffset", desc := "(II)J" } : Jvm.MethodName) prog_1_method_38_code (3 : Nat) (Option.some Jvm.ClassFile.FieldType.long), Jvm.Cond.code ({ cls := "SwitchLowererX", name := "removeCase", desc := "(I)I" } : Jvm.MethodName) prog_1_method_6_code (4 : Nat) (Option.some Jvm.ClassFile.FieldType.int), Jvm.Cond.code ({ cls := "SwitchLowererX", name := "clusterLow", desc := "(I)I" } : Jvm.MethodName) prog_1_method_30_code (3 : Nat) (Option.some Jvm.ClassFile.FieldType.int)]
set_option maxRecDepth 65536 in
theorem codes_eq : words1.filter isCode = codes1 := rfl
theorem w_codes : ∀ c ∈ words1.filter isCode, c.before args0 about1 = true := by
  rw [codes_eq]
  intro c hc
  simp only [codes1, List.mem_cons, List.not_mem_nil, or_false] at hc
  rcases hc with rfl | rfl | rfl | rfl | rfl | rfl | rfl | rfl | rfl | rfl | rfl | rfl | rfl | rfl | rfl | rfl | rfl | rfl | rfl | rfl | rfl | rfl | rfl | rfl | rfl | rfl | rfl | rfl | rfl | rfl | rfl | rfl | rfl | rfl | rfl | rfl
  · exact w_c0
  · exact w_c1
  · exact w_c2
  · exact w_c3
  · exact w_c4
  · exact w_c5
  · exact w_c6
  · exact w_c7
  · exact w_c8
  · exact w_c9
  · exact w_c10
  · exact w_c11
  · exact w_c12
  · exact w_c13
  · exact w_c14
  · exact w_c15
  · exact w_c16
  · exact w_c17
  · exact w_c18
  · exact w_c19
  · exact w_c20
  · exact w_c21
  · exact w_c22
  · exact w_c23
  · exact w_c24
  · exact w_c25
  · exact w_c26
  · exact w_c27
  · exact w_c28
  · exact w_c29
  · exact w_c30
  · exact w_c31
  · exact w_c32
  · exact w_c33
  · exact w_c34
  · exact w_c35
set_option maxRecDepth 65536 in
theorem w_t1 : (words1.take 24).all (fun c => isCode c || c.before args0 about1) = true := by decide +kernel
set_option maxRecDepth 65536 in
theorem w_t2 : ((words1.drop 24).take 24).all (fun c => isCode c || c.before args0 about1) = true := by decide +kernel
set_option maxRecDepth 65536 in
theorem w_t3 : (((words1.drop 24).drop 24).take 24).all (fun c => isCode c || c.before args0 about1) = true := by decide +kernel
set_option maxRecDepth 65536 in
theorem w_t4 : ((((words1.drop 24).drop 24).drop 24).take 24).all (fun c => isCode c || c.before args0 about1) = true := by decide +kernel
set_option maxRecDepth 65536 in
theorem w_t5 : (((((words1.drop 24).drop 24).drop 24).drop 24).take 24).all (fun c => isCode c || c.before args0 about1) = true := by decide +kernel
set_option maxRecDepth 65536 in
theorem w_t6 : ((((((words1.drop 24).drop 24).drop 24).drop 24).drop 24).take 24).all (fun c => isCode c || c.before args0 about1) = true := by decide +kernel
set_option maxRecDepth 65536 in
theorem w_t7 : (((((((words1.drop 24).drop 24).drop 24).drop 24).drop 24).drop 24).take 24).all (fun c => isCode c || c.before args0 about1) = true := by decide +kernel
set_option maxRecDepth 65536 in
theorem w_t8 : ((((((((words1.drop 24).drop 24).drop 24).drop 24).drop 24).drop 24).drop 24).take 24).all (fun c => isCode c || c.before args0 about1) = true := by decide +kernel
set_option maxRecDepth 65536 in
theorem w_t9 : (((((((((words1.drop 24).drop 24).drop 24).drop 24).drop 24).drop 24).drop 24).drop 24).take 24).all (fun c => isCode c || c.before args0 about1) = true := by decide +kernel
set_option maxRecDepth 65536 in
theorem w_t10 : ((((((((((words1.drop 24).drop 24).drop 24).drop 24).drop 24).drop 24).drop 24).drop 24).drop 24).take 24).all (fun c => isCode c || c.before args0 about1) = true := by decide +kernel
set_option maxRecDepth 65536 in
theorem w_t11 : ((((((((((words1.drop 24).drop 24).drop 24).drop 24).drop 24).drop 24).drop 24).drop 24).drop 24).drop 24).all (fun c => isCode c || c.before args0 about1) = true := by decide +kernel
theorem w_tables : (allAtoms (Jvm.Cond.code x code maxLocals ret :: tables_1)).before args0 about1 = true := by
  rw [allAtoms_all]
  show words1.all (fun c => c.before args0 about1) = true
  refine all_split ?_ w_codes
  rw [← List.take_append_drop 24 words1, List.all_append, w_t1, ← List.take_append_drop 24 (words1.drop 24), List.all_append, w_t2, ← List.take_append_drop 24 ((words1.drop 24).drop 24), List.all_append, w_t3, ← List.take_append_drop 24 (((words1.drop 24).drop 24).drop 24), List.all_append, w_t4, ← List.take_append_drop 24 ((((words1.drop 24).drop 24).drop 24).drop 24), List.all_append, w_t5, ← List.take_append_drop 24 (((((words1.drop 24).drop 24).drop 24).drop 24).drop 24), List.all_append, w_t6, ← List.take_append_drop 24 ((((((words1.drop 24).drop 24).drop 24).drop 24).drop 24).drop 24), List.all_append, w_t7, ← List.take_append_drop 24 (((((((words1.drop 24).drop 24).drop 24).drop 24).drop 24).drop 24).drop 24), List.all_append, w_t8, ← List.take_append_drop 24 ((((((((words1.drop 24).drop 24).drop 24).drop 24).drop 24).drop 24).drop 24).drop 24), List.all_append, w_t9, ← List.take_append_drop 24 (((((((((words1.drop 24).drop 24).drop 24).drop 24).drop 24).drop 24).drop 24).drop 24).drop 24), List.all_append, w_t10, w_t11]
  rfl
set_option maxRecDepth 65536 in
theorem w_rest : rest_1_c.before args0 about1 = true := by decide +kernel
set_option maxRecDepth 65536 in
theorem w_case : (Jvm.Cond.and given_1 narrow_1).before args0 about1 = true := by decide +kernel
theorem w_applies : (headSpec (Jvm.Cond.code x code maxLocals ret :: tables_1) room_1).applies x e0.platform about1 = true :=
  (Spec.applies_iff w_frames).mpr ⟨w_running, w_runnable, w_alone, w_named, w_hears, w_ripe, w_room, w_tables⟩
theorem atStart : AtStart classFile x code maxLocals ret World_1 tables_1 room_1 Calls_1 rest_1 Pre_1 launch0 p0 e0 about1 theMethod args0 below0 :=
  ⟨lists_1, trivial, launch0.admits_env _ _ _, launch0.least_env, fairChoices_fair.cas, fairChoices_fair.clock, w_frames, w_args, w_heap, w_applies, trivial, w_rest, w_case⟩
end start1
theorem witness_1 : WitnessClaimed_1 := ⟨start1.p0, start1.e0, start1.about1, start1.theMethod, start1.args0, start1.below0, start1.atStart⟩
end Jvm.Pilot.@@N@@
